/- Own work of this seat: PA, PB, PMk, PMade17, PRight, PNew, PInv, PNewOk, PSmall, PSame, PGo, PDq, PWork, PMut, PEng, PLowEq, PMutEq, PWorkEq, PFrame, PCopy, PLaw17. -/
import Derived.Test.YthmdgkhilfpgfaaGreatDoorDOGb
set_option linter.unusedVariables false
set_option linter.unusedSimpArgs false
set_option linter.unnecessarySimpa false
set_option linter.unusedSectionVars false
set_option linter.deprecated false
set_option maxRecDepth 20000
namespace Go.Pe.G
open Go.Pe
noncomputable section
theorem um {A B D : Type} {f : A → Option (y0 A B D)} (Inv : A → Prop) (ms : A → Nat) (Q : y0 Unit B D → Prop)
    (h : ∀ a, Inv a → ∃ o, f a = some o ∧ match o with
      | .again a' => Inv a' ∧ ms a' < ms a
      | .brk b => Q (.brk b)
      | .ret c => Q (.ret c)) : ∀ a, Inv a → ms a < Wz → ∃ o, yo f a = some o ∧ Q o := by
  have key : ∀ (n : Nat) a, Inv a → ms a < n → ∃ o, uR f n a = some o ∧ Q o := by
    intro n
    induction n with
    | zero => intro a _ h; omega
    | succ n ih =>
      intro a ha hm
      obtain ⟨o, ho, hq⟩ := h a ha
      simp only [uR, ho, Option.bind_some]
      cases o with
      | again a' => exact ih a' hq.1 (by have := hq.2; omega)
      | brk b => exact ⟨_, rfl, hq⟩
      | ret c => exact ⟨_, rfl, hq⟩
  intro a ha hm
  rw [Uv]
  exact key Wz a ha hm
theorem wq {n : Nat} (h : n < 18446744073709551616) : n < Wz := h
theorem z9 {a : Int} (h : -9223372036854775808 ≤ a) (h2 : a < 9223372036854775808) : w64 a = a := by
  rw [zjO]; omega
def wc (n : Int) : Int := (n + 9223372036854775808) % 18446744073709551616 - 9223372036854775808
theorem yS : w64 = wc := funext zjO
theorem ZW {a : Int} (h : -9223372036854775808 ≤ a) (h2 : a < 9223372036854775808) : wc a = a := by unfold wc; omega
theorem zym (a : Int) (h : -9223372036854775808 ≤ a) (h2 : a < 9223372036854775808) : w64 (w64 (a + 1) - 1) = a := by
  simp only [zjO]; omega
theorem zn {α : Type} (p : Prop) [Decidable p] (a b : α) : (bif decide p then a else b) = if p then a else b := by
  by_cases h : p <;> simp [h]
theorem yf {α : Type} (p : Prop) [Decidable p] (a b : α) : (bif !(decide p) then a else b) = if p then b else a := by
  by_cases h : p <;> simp [h]
theorem we {α : Type} {l : List α} (h : l.length < 4294967296) : xV l = some l := by
  rw [zsd]; simp [h]
theorem wR {α : Type} {l : List α} {i : Int} (h : 0 ≤ i) : idx l i = l[i.toNat]? := by
  unfold idx; simp [h]
theorem vG {α : Type} {l : List α} {i : Int} (h : 0 ≤ i) (h2 : i < l.length) : yV l i = some i.toNat := by
  unfold yV; simp [h, h2]
def bit (o : Int) : BitVec 64 := if 1 ≤ o ∧ o ≤ 64 then 1#64 <<< (o - 1).toNat else 0#64
theorem zt0 (a : Int) : zh2 a = some (bit a, ()) := by
  rw [zso]
  simp only [zn]
  unfold bit
  by_cases h1 : a < 1
  · rw [if_pos h1, if_neg (by omega)]
  · rw [if_neg h1]
    by_cases h2 : 64 < a
    · rw [if_pos h2, if_neg (by omega)]
    · rw [if_neg h2, z9 (a := a - 1) (by omega) (by omega), if_neg (show ¬ a - 1 < 0 by omega), if_pos (show 1 ≤ a ∧ a ≤ 64 by omega), Nat.min_eq_left (by omega)]
theorem zqH (s : BitVec 64) (o : Int) : zeo s o = some (!(decide (s &&& bit o = 0#64)), ()) := by
  rw [zrU, zt0]; rfl
theorem zmq (s : BitVec 64) (o : Int) : zbb s o = some (s ||| bit o, ()) := by
  rw [zsF, zt0]; rfl
def zfQ (t : zq) (o : Int) : zq × Bool :=
  if t.Marks ||| bit o = t.Marks then (t, false) else if t.Black &&& bit o = 0#64 then ({ t with Marks := t.Marks ||| bit o }, true) else (t, false)
theorem zoL (t : zq) (o : Int) : zbX t o = some ((zfQ t o).1, (zfQ t o).2, ()) := by
  rw [zpe, zmq, Option.bind_some, zn]
  unfold zfQ
  by_cases h1 : t.Marks ||| bit o = t.Marks
  · rw [if_pos h1, if_pos h1]
  · rw [if_neg h1, if_neg h1, zqH, Option.bind_some, yf]
    by_cases h2 : t.Black &&& bit o = 0#64
    · rw [if_pos h2, if_pos h2]
    · rw [if_neg h2, if_neg h2]
theorem zlR {m : List (BitVec 64)} (h : m.length < 4294967296) : yL m = some (m, ()) := by
  rw [zaY, List.nil_append, we h, Option.bind_some]
  cases m with
  | nil => simp [zbt]
  | cons a l => simp
theorem zfo {m : List (List Int)} (h : m.length < 4294967296) : wa m = some (m, ()) := by
  rw [zds, List.nil_append, we h, Option.bind_some]
  cases m with
  | nil => simp [zbt]
  | cons a l => simp
def ld (m : List (BitVec 64)) (a : Int) : BitVec 64 := if 0 ≤ a then m.getD a.toNat 0#64 else 0#64
def st (m : List (BitVec 64)) (a : Int) (v : BitVec 64) : List (BitVec 64) := if 0 ≤ a then m.set a.toNat v else m
def sw (m : List (BitVec 64)) (at_ : Int) (a b : BitVec 64) : List (BitVec 64) × Bool :=
  if 0 ≤ at_ ∧ at_ < m.length ∧ ld m at_ = a then (st m at_ b, true) else (m, false)
theorem zsm {m : List (BitVec 64)} {a : Int} (h : 0 ≤ a) (h2 : a < m.length) : m[a.toNat]? = some (ld m a) := by
  unfold ld
  rw [if_pos h, List.getD_eq_getElem?_getD, List.getElem?_eq_getElem (by omega)]; rfl
theorem ztX {m : List (BitVec 64)} {a : Int} : st m a (ld m a) = m := by
  unfold st ld
  by_cases h : 0 ≤ a
  · rw [if_pos h, if_pos h]
    by_cases h2 : a.toNat < m.length
    · rw [List.getD_eq_getElem?_getD, List.getElem?_eq_getElem h2]; simp
    · rw [List.set_eq_of_length_le (by omega)]
  · rw [if_neg h]
theorem zvO {m : List (BitVec 64)} {a : Int} (h : a < 0 ∨ m.length ≤ a) : ld m a = 0#64 := by
  unfold ld
  rcases h with h | h
  · rw [if_neg (by omega)]
  · split
    · rw [List.getD_eq_getElem?_getD, List.getElem?_eq_none (by omega)]; rfl
    · rfl
theorem zvy {m : List (BitVec 64)} {a : Int} {v : BitVec 64} (h : a < 0 ∨ m.length ≤ a) : st m a v = m := by
  unfold st
  rcases h with h | h
  · rw [if_neg (by omega)]
  · split
    · rw [List.set_eq_of_length_le (by omega)]
    · rfl
theorem ztU (m : List (BitVec 64)) (a : Int) (x y : BitVec 64) : ∃ b, Y2 m ⟨1, a, x, y⟩ = some (m, ld m a, b, ()) := by
  rw [ziR]
  simp only [zn, if_true]
  by_cases h1 : a < 0
  · rw [if_pos h1, zvO (.inl h1)]; exact ⟨_, rfl⟩
  · rw [if_neg h1]
    by_cases h2 : (m.length : Int) ≤ a
    · rw [if_pos h2, zvO (.inr h2)]; exact ⟨_, rfl⟩
    · rw [if_neg h2, wR (by omega), zsm (by omega) (by omega), Option.bind_some, zro, Option.bind_some]
      simp
theorem zsl {m : List (BitVec 64)} (hm : m.length < 4294967296) (a : Int) (x y : BitVec 64) : ∃ v b, Y2 m ⟨2, a, x, y⟩ = some (st m a x, v, b, ()) := by
  rw [ziR]
  simp only [zn, if_true, if_neg (show ¬ (2 : Int) = 1 by omega)]
  by_cases h1 : a < 0
  · rw [if_pos h1, zvy (.inl h1)]; exact ⟨_, _, rfl⟩
  · rw [if_neg h1]
    by_cases h2 : (m.length : Int) ≤ a
    · rw [if_pos h2, zvy (.inr h2)]; exact ⟨_, _, rfl⟩
    · rw [if_neg h2, wR (by omega), zsm (by omega) (by omega), Option.bind_some, zri, Option.bind_some, cond_true, yf]
      by_cases h3 : ld m a = x
      · rw [if_pos h3]
        subst h3
        rw [ztX]; exact ⟨_, _, rfl⟩
      · rw [if_neg h3, zlR hm, Option.bind_some, vG (l := m) (by omega) (by omega), Option.bind_some]
        unfold st
        rw [if_pos (by omega)]
        exact ⟨_, _, rfl⟩
theorem zpQ {m : List (BitVec 64)} (hm : m.length < 4294967296) (a : Int) (x y : BitVec 64) : ∃ v, Y2 m ⟨3, a, x, y⟩ = some ((sw m a x y).1, v, (sw m a x y).2, ()) := by
  rw [ziR]
  simp only [zn, if_true, if_neg (show ¬ (3 : Int) = 1 by omega), if_neg (show ¬ (3 : Int) = 2 by omega)]
  by_cases h1 : a < 0
  · rw [if_pos h1]
    have : sw m a x y = (m, false) := by unfold sw; rw [if_neg (by omega)]
    rw [this]; exact ⟨_, rfl⟩
  · rw [if_neg h1]
    by_cases h2 : (m.length : Int) ≤ a
    · rw [if_pos h2]
      have : sw m a x y = (m, false) := by unfold sw; rw [if_neg (by omega)]
      rw [this]; exact ⟨_, rfl⟩
    · rw [if_neg h2, wR (by omega), zsm (by omega) (by omega), Option.bind_some, zrH, Option.bind_some]
      simp only [zn]
      by_cases h3 : ld m a = x
      · have : sw m a x y = (st m a y, true) := by unfold sw; rw [if_pos ⟨by omega, by omega, h3⟩]
        rw [if_pos h3, this, yf]
        by_cases h4 : ld m a = y
        · rw [if_pos h4]
          have : st m a y = m := by rw [← h4, ztX]
          rw [this]
          simp [h3]
        · rw [if_neg h4, zlR hm, Option.bind_some, vG (l := m) (by omega) (by omega), Option.bind_some]
          unfold st
          rw [if_pos (by omega)]
          simp [h3]
      · have : sw m a x y = (m, false) := by unfold sw; rw [if_neg (by rintro ⟨_, _, h⟩; exact h3 h)]
        rw [if_neg h3, this]
        simp [h3]
theorem zov (m : List (BitVec 64)) (a : Int) : zcs m a = some (ld m a, ()) := by
  obtain ⟨b, h⟩ := ztU m a 0#64 0#64
  rw [zoN, h]; rfl
theorem zaD {m : List (BitVec 64)} (hm : m.length < 4294967296) (a : Int) (x : BitVec 64) : Z0 m a x = some (st m a x, ()) := by
  obtain ⟨v, b, h⟩ := zsl hm a x 0#64
  rw [znw, h]; rfl
theorem XS (m : List (BitVec 64)) (a : Int) : uU m a = some (ld m a, ()) := by
  obtain ⟨b, h⟩ := ztU m a 0#64 0#64
  rw [zpi, h]; rfl
theorem zap {m : List (BitVec 64)} (hm : m.length < 4294967296) (a : Int) (x : BitVec 64) : Ya m a x = some (st m a x, ()) := by
  obtain ⟨v, b, h⟩ := zsl hm a x 0#64
  rw [zno, h]; rfl
def yY (h : BitVec 64) : Int := (h &&& 4294967295#64).toInt
def WN (v : BitVec 64) (n : Int) : BitVec 64 := (v <<< 32) ||| (BitVec.ofInt 64 n &&& 4294967295#64)
theorem zfE (h : BitVec 64) : YZ h = some (yY h, ()) := zou h
theorem zfr (v : BitVec 64) (n : Int) : WJ v n = some (WN v n, ()) := zo1 v n
def zJ (m : List (BitVec 64)) (c : zu) : List (BitVec 64) × zu :=
  if c.Out ≠ 0 ∨ (c.Kind ≠ 1 ∧ c.Kind ≠ 2) ∨ c.PC < 0 ∨ 3 ≤ c.PC then (m, c)
  else if c.PC = 0 then
    (m, if c.Kind = 2 ∧ yY (ld m c.Head) = 0 then { c with H := ld m c.Head, Out := 2, PC := 1 } else { c with H := ld m c.Head, PC := 1 })
  else if c.PC = 1 then
    if c.Kind = 2 then (m, { c with Y := (ld m (wc (c.Next + yY c.H))).toInt, PC := 2 })
    else (st m (wc (c.Next + c.X)) (BitVec.ofInt 64 (yY c.H)), { c with PC := 2 })
  else
    let r := sw m c.Head c.H (WN ((c.H >>> 32) + 1#64) (if c.Kind = 2 then c.Y else c.X))
    (r.1, if r.2 then (if c.Kind = 2 then { c with X := yY c.H, Out := 1, PC := 3 } else { c with Out := 1, PC := 3 }) else { c with PC := 0 })
theorem zcn {m : List (BitVec 64)} (hm : m.length < 4294967296) (c : zu) : Xd m c = some ((zJ m c).1, (zJ m c).2, ()) := by
  have hsee : wY m c = some (m, (if c.Kind = 2 ∧ yY (ld m c.Head) = 0 then { c with H := ld m c.Head, Out := 2 } else { c with H := ld m c.Head }), ()) := by
    rw [zfC, zov, Option.bind_some, zfE, Option.bind_some, zn, zn]
    by_cases h1 : c.Kind = 2
    · by_cases h2 : yY (ld m c.Head) = 0
      · rw [if_pos h1, if_pos h2, if_pos ⟨h1, h2⟩]
      · rw [if_pos h1, if_neg h2, if_neg (fun h => h2 h.2)]
    · rw [if_neg h1, if_neg (fun h => h1 h.1)]
  have hlink : Yq m c = some (st m (wc (c.Next + c.X)) (BitVec.ofInt 64 (yY c.H)), ()) := by
    rw [zhN, yS, zfE, Option.bind_some, zaD hm]; rfl
  have hbeh : uC m c = some (m, { c with Y := (ld m (wc (c.Next + yY c.H))).toInt }, ()) := by
    rw [zdq, yS, zfE, Option.bind_some, zov]; rfl
  have hswap : wH m c = some ((sw m c.Head c.H (WN ((c.H >>> 32) + 1#64) (if c.Kind = 2 then c.Y else c.X))).1,
      (if (sw m c.Head c.H (WN ((c.H >>> 32) + 1#64) (if c.Kind = 2 then c.Y else c.X))).2 then (if c.Kind = 2 then { c with X := yY c.H, Out := 1 } else { c with Out := 1 }) else { c with PC := -1 }), ()) := by
    rw [ze1, zn]
    by_cases h1 : c.Kind = 2
    · rw [if_pos h1, zfr, Option.bind_some]
      obtain ⟨v, hv⟩ := zpQ hm c.Head c.H (WN ((c.H >>> 32) + 1#64) c.Y)
      simp only [if_pos h1]
      rw [hv, Option.bind_some]
      cases hs : (sw m c.Head c.H (WN ((c.H >>> 32) + 1#64) c.Y)).2 with
      | true => simp [hs, h1, zfE]
      | false => simp [hs]
    · rw [if_neg h1, zfr, Option.bind_some]
      obtain ⟨v, hv⟩ := zpQ hm c.Head c.H (WN ((c.H >>> 32) + 1#64) c.X)
      simp only [if_neg h1]
      rw [hv, Option.bind_some]
      cases hs : (sw m c.Head c.H (WN ((c.H >>> 32) + 1#64) c.X)).2 with
      | true => simp [hs, h1]
      | false => simp [hs]
  rw [zoB, hsee, hlink, hbeh, hswap]
  simp only [zn, yf, Option.bind_some]
  unfold zJ
  by_cases h0 : c.Out = 0
  · by_cases hp0 : c.PC < 0
    · have : (c.Out ≠ 0 ∨ (c.Kind ≠ 1 ∧ c.Kind ≠ 2) ∨ c.PC < 0 ∨ 3 ≤ c.PC) := .inr (.inr (.inl hp0))
      rw [if_pos this]
      simp [h0, hp0]
    · by_cases hp3 : 3 ≤ c.PC
      · have : (c.Out ≠ 0 ∨ (c.Kind ≠ 1 ∧ c.Kind ≠ 2) ∨ c.PC < 0 ∨ 3 ≤ c.PC) := .inr (.inr (.inr hp3))
        rw [if_pos this]
        simp [h0, hp3]
      · by_cases hk : c.Kind = 1 ∨ c.Kind = 2
        · have : ¬ (c.Out ≠ 0 ∨ (c.Kind ≠ 1 ∧ c.Kind ≠ 2) ∨ c.PC < 0 ∨ 3 ≤ c.PC) := by
            rintro (h | h | h | h)
            · exact h h0
            · omega
            · exact hp0 h
            · exact hp3 h
          rw [if_neg this]
          have hpc : c.PC = 0 ∨ c.PC = 1 ∨ c.PC = 2 := by omega
          have w1 : w64 1 = 1 := z9 (by omega) (by omega)
          have w2 : w64 2 = 2 := z9 (by omega) (by omega)
          have w3 : w64 3 = 3 := z9 (by omega) (by omega)
          have w4 : w64 0 = 0 := z9 (by omega) (by omega)
          rcases hk with hk | hk <;> rcases hpc with hpc | hpc | hpc <;> simp [h0, hk, hpc, w1, w2, w3, w4] <;> (try split) <;> simp [hpc, w1, w3, w4]
        · have : (c.Out ≠ 0 ∨ (c.Kind ≠ 1 ∧ c.Kind ≠ 2) ∨ c.PC < 0 ∨ 3 ≤ c.PC) := .inr (.inl (by omega))
          rw [if_pos this]
          have k1 : ¬ c.Kind = 1 := by omega
          have k2 : ¬ c.Kind = 2 := by omega
          simp [h0, k1, k2]
  · have : (c.Out ≠ 0 ∨ (c.Kind ≠ 1 ∧ c.Kind ≠ 2) ∨ c.PC < 0 ∨ 3 ≤ c.PC) := .inl h0
    rw [if_pos this]
    simp [h0]
end
end Go.Pe.G
namespace Go.Pe.G
open Go.Pe
noncomputable section
def UU (d : zh) : BitVec 64 := BitVec.ofInt 64 (if d.Cap < 1 then 1 else d.Cap)
def zbL (d : zh) (i : BitVec 64) : Int := wc (wc (d.Base + 2) + (i % UU d).toInt)
def Zo (m : List (BitVec 64)) (d : zh) : List (BitVec 64) × zh :=
  if d.Out ≠ 0 ∨ d.PC < 0 ∨ 4 ≤ d.PC then (m, d)
  else if d.PC = 0 then (m, { d with B := ld m (wc (d.Base + 1)), PC := 1 })
  else if d.PC = 1 then (m, if UU d ≤ d.B - ld m d.Base then { d with T := ld m d.Base, Out := 3, PC := 2 } else { d with T := ld m d.Base, PC := 2 })
  else if d.PC = 2 then (st m (zbL d d.B) (BitVec.ofInt 64 d.X), { d with PC := 3 })
  else (st m (wc (d.Base + 1)) (d.B + 1#64), { d with Out := 1, PC := 4 })
theorem zsp : w64 0 = 0 ∧ w64 1 = 1 ∧ w64 2 = 2 ∧ w64 3 = 3 ∧ w64 4 = 4 := by
  refine ⟨?_, ?_, ?_, ?_, ?_⟩ <;> exact z9 (by omega) (by omega)
theorem zvH {d : zh} (h : d.Cap < 1000) : UU d ≠ 0#64 := by
  unfold UU
  intro e
  have := congrArg BitVec.toNat e
  rw [BitVec.toNat_ofInt] at this
  split at this <;> simp at this <;> omega
theorem zpI (d : zh) : YF d = some (UU d, ()) := by
  rw [zhR]; unfold UU; rw [zn]
theorem zi8 {d : zh} (h : d.Cap < 1000) (i : BitVec 64) : uv i d = some (zbL d i, ()) := by
  rw [zgo, yS, zpI, Option.bind_some, zn, if_neg (zvH h)]; rfl
theorem zia {m : List (BitVec 64)} (hm : m.length < 4294967296) {d : zh} (hk : d.Kind = 1) (hc : d.Cap < 1000) : Uu m d = some ((Zo m d).1, (Zo m d).2, ()) := by
  obtain ⟨w0, w1, w2, w3, w4⟩ := zsp
  have h0 : wv m d = some (m, { d with B := ld m (wc (d.Base + 1)) }, ()) := by
    rw [Xr, xm, yS, Option.bind_some, XS]; rfl
  have h1 : XC m d = some (m, (if UU d ≤ d.B - ld m d.Base then { d with T := ld m d.Base, Out := 3 } else { d with T := ld m d.Base }), ()) := by
    rw [ze9, Zv, Option.bind_some, XS, Option.bind_some, zpI, Option.bind_some, zn]
    have e : UU { d with T := ld m d.Base } = UU d := rfl
    simp only [e]
    by_cases h : UU d ≤ d.B - ld m d.Base
    · rw [if_pos h, if_pos h, x8]
      simp [hk]
    · rw [if_neg h, if_neg h]
  have h2 : VY m d = some (st m (zbL d d.B) (BitVec.ofInt 64 d.X), ()) := by
    rw [ziC, zi8 hc, Option.bind_some, zap hm]; rfl
  have h3 : ZZ m d = some (st m (wc (d.Base + 1)) (d.B + 1#64), { d with Out := 1 }, ()) := by
    rw [zcz, x8]
    simp only [decide_true, Bool.not_true, cond_false, Option.bind_some, xm, yS]
    rw [zap hm]; rfl
  rw [zij, h0, h1, h2, h3, zfe]
  simp only [hk, decide_true, cond_true, Option.bind_some, yf, zn]
  have key : ∀ (x : Option (List (BitVec 64) × zh × Unit)) (v : List (BitVec 64) × zh × Unit) (y : Option (List (BitVec 64) × zh × Unit)), x = some v → Option.or x y = some v := by
    rintro _ v y rfl; rfl
  apply key
  unfold Zo
  by_cases g0 : d.Out = 0
  · by_cases g1 : d.PC < 0
    · simp [g0, g1]
    · by_cases g2 : 4 ≤ d.PC
      · simp [g0, g2]
      · have hpc : d.PC = 0 ∨ d.PC = 1 ∨ d.PC = 2 ∨ d.PC = 3 := by omega
        rcases hpc with h | h | h | h <;> simp [g0, h, hk, w1, w2, w3, w4] <;> (try split) <;> simp [h, hk, w2]
  · simp [g0]
def vE (p : zd) : Int := wc (p.Workers * wc (p.Cap + 2))
def yT (p : zd) : Int := wc (vE p + 1)
def Yd (p : zd) (w : Int) : Int := wc (wc (w - 1) * wc (p.Cap + 2))
theorem zca (p : zd) : Y1 p = some (vE p, ()) := by rw [zoQ, yS]; rfl
theorem zax (p : zd) : Z4 p = some (yT p, ()) := by rw [zn8, yS, zca]; rfl
theorem UG (p : zd) : ZA p = some (yT p, ()) := by rw [zpp, zax]; rfl
theorem zdW (p : zd) (w : Int) : Vv p w = some (Yd p w, ()) := by rw [znW, yS]; rfl
def zqb (p : zd) (g : zB) : zB := { g with PC := 5, C := ⟨2, 0, yT p, yT p, 0#64, 0, 0, 0⟩ }
theorem zjY (a : zx) : vg a = some (⟨zqb a.s.P a.Grey, a.s⟩, ()) := by
  rw [zgn, zax, Option.bind_some, UG, Option.bind_some, Y0]; rfl
def zoh (s : za) (g : zB) : za × zB :=
  let t := zfQ s.T g.Obj
  ({ s with T := t.1 },
    if t.2 = false then { g with PC := 2 }
    else if g.Mode = 1 then { g with PC := 3, D := ⟨1, 0, Yd s.P g.Who, s.P.Cap, 0#64, 0#64, g.Obj, 0⟩ }
    else if g.Mode = 2 then { g with PC := 4 }
    else zqb s.P g)
def zmv (s : za) (g : zB) : za × zB :=
  let r := Zo s.M g.D
  ({ s with M := r.1 }, if r.2.Out = 1 then { g with D := r.2, Out := 1 } else if r.2.Out = 3 then zqb s.P { g with D := r.2 } else { g with D := r.2 })
def zml (s : za) (g : zB) : za × zB :=
  let r := zJ s.M g.C
  ({ s with M := r.1 }, if r.2.Out = 1 then { g with PC := 6, C := r.2, Bin := r.2.X } else if r.2.Out = 2 then zqb s.P { g with C := r.2 } else { g with C := r.2 })
def zxb (s : za) (g : zB) : za × zB :=
  ({ s with Bins := s.Bins.set g.Bin.toNat [g.Obj] }, { g with PC := 7, C := ⟨1, 0, vE s.P, yT s.P, 0#64, g.Bin, 0, 0⟩ })
def zgJ (s : za) (g : zB) : za × zB :=
  let r := zJ s.M g.C
  ({ s with M := r.1 }, if r.2.Out = 1 then { g with C := r.2, Out := 1 } else { g with C := r.2 })
def zH (s : za) (g : zB) : za × zB :=
  if g.Out ≠ 0 ∨ g.Mode < 1 ∨ 3 < g.Mode ∨ g.PC < 0 ∨ 8 ≤ g.PC then (s, g)
  else if g.PC = 7 then zgJ s g
  else if g.PC = 6 then zxb s g
  else if g.PC = 5 then zml s g
  else if g.PC = 4 then ({ s with Flag := true }, zqb s.P g)
  else if g.PC = 3 then zmv s g
  else if g.PC = 2 then ({ s with Work := wc (s.Work - 1) }, { g with Out := 1 })
  else if g.PC = 1 then zoh s g
  else ({ s with Work := wc (s.Work + 1) }, { g with PC := 1 })
structure GOk (s : za) (g : zB) : Prop where
  mem : s.M.length < 4294967296
  bins : s.Bins.length < 4294967296
  bin : g.PC = 6 → 0 ≤ g.Bin ∧ g.Bin < s.Bins.length
  deq : g.PC = 3 → g.D.Kind = 1 ∧ g.D.Cap < 1000
theorem zqX {s : za} {g : zB} (ok : GOk s g) : zaq s g = some ((zH s g).1, (zH s g).2, ()) := by
  rw [zpN]
  simp only [zn, yf]
  unfold zH
  by_cases h0 : g.Out = 0
  rotate_left
  · rw [if_neg h0, if_pos (.inl h0)]
  rw [if_pos h0]
  by_cases h1 : g.Mode < 1
  · rw [if_pos h1, if_pos (.inr (.inl h1))]
  rw [if_neg h1]
  by_cases h2 : 3 < g.Mode
  · rw [if_pos h2, if_pos (.inr (.inr (.inl h2)))]
  rw [if_neg h2]
  by_cases h3 : g.PC < 0
  · rw [if_pos h3, if_pos (.inr (.inr (.inr (.inl h3))))]
  rw [if_neg h3]
  by_cases h4 : 8 ≤ g.PC
  · rw [if_pos h4, if_pos (.inr (.inr (.inr (.inr h4))))]
  rw [if_neg h4, if_neg (show ¬ (g.Out ≠ 0 ∨ g.Mode < 1 ∨ 3 < g.Mode ∨ g.PC < 0 ∨ 8 ≤ g.PC) by omega)]
  by_cases p7 : g.PC = 7
  · rw [if_pos p7, if_pos p7, zc7]
    simp only [zcn ok.mem, Option.bind_some, zn]
    by_cases e : (zJ s.M g.C).2.Out = 1 <;> simp [zgJ, e]
  rw [if_neg p7, if_neg p7]
  by_cases p6 : g.PC = 6
  · rw [if_pos p6, if_pos p6, zfi]
    obtain ⟨b1, b2⟩ := ok.bin p6
    simp only [zfo ok.bins, Option.bind_some, vG (l := s.Bins) b1 b2, zca, UG, Y0]
    rfl
  rw [if_neg p6, if_neg p6]
  by_cases p5 : g.PC = 5
  · rw [if_pos p5, if_pos p5, zfv]
    simp only [zcn ok.mem, Option.bind_some, zn, zjY]
    by_cases e : (zJ s.M g.C).2.Out = 1
    · simp [zml, e]
    · by_cases e2 : (zJ s.M g.C).2.Out = 2 <;> simp [zml, e, e2]
  rw [if_neg p5, if_neg p5]
  by_cases p4 : g.PC = 4
  · rw [if_pos p4, if_pos p4, zfj, zjY]; rfl
  rw [if_neg p4, if_neg p4]
  by_cases p3 : g.PC = 3
  · rw [if_pos p3, if_pos p3, zft]
    obtain ⟨b1, b2⟩ := ok.deq p3
    simp only [zia ok.mem b1 b2, Option.bind_some, zn, zjY]
    by_cases e : (Zo s.M g.D).2.Out = 1
    · simp [zmv, e]
    · by_cases e2 : (Zo s.M g.D).2.Out = 3 <;> simp [zmv, e, e2]
  rw [if_neg p3, if_neg p3]
  by_cases p2 : g.PC = 2
  · rw [if_pos p2, if_pos p2, zfz, yS]; rfl
  rw [if_neg p2, if_neg p2]
  by_cases p1 : g.PC = 1
  · rw [if_pos p1, if_pos p1, zfw]
    simp only [zoL, Option.bind_some, zn, zjY, zdW, Vb]
    unfold zoh
    cases hs : (zfQ s.T g.Obj).2 with
    | false => simp [hs]
    | true =>
      by_cases m1 : g.Mode = 1
      · simp [hs, m1]
      · by_cases m2 : g.Mode = 2 <;> simp [hs, m1, m2]
  rw [if_neg p1, if_neg p1, if_pos (show g.PC = 0 by omega), zdd, yS]; rfl
end
end Go.Pe.G
namespace Go.Pe.G
open Go.Pe
noncomputable section
theorem wX {b k : Int} (h : 0 ≤ b) (hk : 0 < k) : 0 ≤ b.tmod k ∧ b.tmod k < k := by
  rw [Int.tmod_eq_emod_of_nonneg h]; exact ⟨Int.emod_nonneg _ (by omega), Int.emod_lt_of_pos _ hk⟩
def zgU (o : zi) (regs slots : Int) : Prop := (0 ≤ o.R ∧ o.R < regs) ∧
  ((o.Kind = 1 ∨ o.Kind = 2) ∧ (0 ≤ o.A ∧ o.A < regs) ∧ (0 ≤ o.S ∧ o.S < slots) ∨ o.Kind = 4 ∧ (0 ≤ o.A ∧ o.A < regs) ∧ o.S = 0 ∨ (o.Kind = 3 ∨ o.Kind = 5) ∧ o.A = 0 ∧ o.S = 0)
structure zP (p : zd) : Prop where
  wk : 1 ≤ p.Workers ∧ p.Workers ≤ 3
  mt : 0 ≤ p.Mutators ∧ p.Mutators ≤ 2
  cap : 1 ≤ p.Cap ∧ p.Cap ≤ 3
  buf : 1 ≤ p.Buf ∧ p.Buf ≤ 2
  bin : 1 ≤ p.Bin ∧ p.Bin ≤ 3
  price : 0 ≤ p.Price ∧ p.Price ≤ 3
  limit : 0 ≤ p.Limit ∧ p.Limit ≤ 3
  slots : 1 ≤ p.H.Slots ∧ p.H.Slots ≤ 2
  n : 1 ≤ (p.H.Objs.length : Int) ∧ (p.H.Objs.length : Int) ≤ 6
  objs : ∀ o ∈ p.H.Objs, (o.length : Int) = p.H.Slots ∧ ∀ v ∈ o, 0 ≤ v ∧ v ≤ (p.H.Objs.length : Int)
  most : (p.H.Objs.length : Int) ≤ p.Most ∧ p.Most ≤ (p.H.Objs.length : Int) + 3
  roots : ∃ r, 0 ≤ r ∧ r ≤ (p.H.Objs.length : Int) ∧ p.Roots = bit r
  regs : (p.Regs.length : Int) = p.Mutators
  progs : (p.Progs.length : Int) = p.Mutators
  reg : ∀ r ∈ p.Regs, (1 ≤ (r.length : Int) ∧ (r.length : Int) ≤ 3) ∧ ∀ v ∈ r, 0 ≤ v ∧ v ≤ (p.H.Objs.length : Int)
  prog : ∀ (k : Nat) r ops, p.Regs[k]? = some r → p.Progs[k]? = some ops → (ops.length : Int) ≤ 7 ∧ ∀ o ∈ ops, zgU o (r.length : Int) p.H.Slots
  picks : p.Picks = []
end
end Go.Pe.G
namespace Go.Pe.G
open Go.Pe
noncomputable section
namespace B17
def XA (m : zy) : Prop := 0 ≤ m.At ∧ m.At ≤ m.L.length ∧ m.L.length ≤ 90
theorem vJ {m : zy} (h : XA m) : ∃ b m', zt m = some (b, m', ()) ∧ (0 ≤ b ∧ b < 256) ∧ XA m' := by
  obtain ⟨h1, h2, h3⟩ := h
  rw [zcH, zn]
  by_cases h : (m.L.length : Int) ≤ m.At
  · rw [if_pos h]; exact ⟨_, _, rfl, by omega, h1, h2, h3⟩
  · rw [if_neg h, z9 (a := m.At + 1) (by omega) (by omega), z9 (by omega) (by omega), wR (by omega), List.getElem?_eq_getElem (by omega), Option.bind_some]
    exact ⟨_, _, rfl, by have := (m.L[(m.At + 1 - 1).toNat]'(by omega)).isLt; omega, show 0 ≤ m.At + 1 by omega, show m.At + 1 ≤ m.L.length by omega, h3⟩
theorem zyE {m : zy} (h : XA m) {regs slots : Int} (hr : 1 ≤ regs) (hs : 1 ≤ slots) : ∃ o m', YY regs slots m = some (o, m', ()) ∧ zgU o regs slots ∧ XA m' := by
  obtain ⟨b1, m1, e1, r1, k1⟩ := vJ h
  obtain ⟨b2, m2, e2, r2, k2⟩ := vJ k1
  obtain ⟨b3, m3, e3, r3, k3⟩ := vJ k2
  obtain ⟨b4, m4, e4, r4, k4⟩ := vJ k3
  have t1 := wX r1.1 (show (0 : Int) < 8 by omega)
  have t2 := wX r2.1 (show (0 : Int) < regs by omega)
  have t3 := wX r3.1 (show (0 : Int) < regs by omega)
  have t4 := wX r4.1 (show (0 : Int) < slots by omega)
  have t5 := wX r3.1 (show (0 : Int) < slots by omega)
  have hn : ¬ regs = 0 := by omega
  have hn2 : ¬ slots = 0 := by omega
  rw [zd5, e1, Option.bind_some, vG t1.1 (by simpa using t1.2), Option.bind_some]
  have hx : b1.tmod 8 = 0 ∨ b1.tmod 8 = 1 ∨ b1.tmod 8 = 2 ∨ b1.tmod 8 = 3 ∨ b1.tmod 8 = 4 ∨ b1.tmod 8 = 5 ∨ b1.tmod 8 = 6 ∨ b1.tmod 8 = 7 := by omega
  rcases hx with hx | hx | hx | hx | hx | hx | hx | hx <;> simp [hx, e2, e3, e4, hn, hn2] <;> refine ⟨_, _, ⟨rfl, rfl⟩, ?_, by assumption⟩ <;> (unfold zgU; dsimp only; omega)
theorem zwE {s1 : Int} {s2 : Int} {s4 : Int} {s5 : Int} {s6 : Int} {s7 : Int} {s8 : Int} {s9 : Int} {s10 : Int} {s11 : Int} {s12 : Int} {s13 : BitVec 64} {s15 : Int} {s16 : Int} {s17 : Int} {s18 : Int} {s19 : Int} {s20 : Int} {s21 : Int} {s22 : Int} {s23 : Int} {s24 : BitVec 64} {s26 : List (List Int)} {s27 : List (List Int)} {s28 : List (List zi)} {s29 : List zj} {s30 : List (List Int)} {s31 : List (List Int)} {s32 : List (List zi)} {s33 : List zj} (hn : 1 ≤ s1 ∧ s1 ≤ 6) (hs : 1 ≤ s23 ∧ s23 ≤ 2) {mk : zy} (hm : XA mk) :
    ∃ mk' l, yo ZS (s1, s2, 0, s4, s5, s6, s7, s8, s9, s10, s11, s12, s13, mk, s15, s16, s17, s18, s19, s20, s21, s22, s23, s24, [], s26, s27, s28, s29, s30, s31, s32, s33, ()) = some (.brk (s1, s2, s4, s5, s6, s7, s8, s9, s10, s11, s12, s13, mk', s15, s16, s17, s18, s19, s20, s21, s22, s23, s24, l, s26, s27, s28, s29, s30, s31, s32, s33, ())) ∧ XA mk' ∧ (l.length : Int) = s23 ∧ ∀ v ∈ l, 0 ≤ v ∧ v ≤ s1 := by
  refine (um (f := ZS)
    (fun a => ∃ i mk l, a = (s1, s2, i, s4, s5, s6, s7, s8, s9, s10, s11, s12, s13, mk, s15, s16, s17, s18, s19, s20, s21, s22, s23, s24, l, s26, s27, s28, s29, s30, s31, s32, s33, ()) ∧ XA mk ∧ (0 ≤ i ∧ i ≤ s23 ∧ (l.length : Int) = i) ∧ ∀ v ∈ l, 0 ≤ v ∧ v ≤ s1)
    (fun a => (s23 - a.2.2.1).toNat)
    (fun o => match o with | .brk b => ∃ mk l, b = (s1, s2, s4, s5, s6, s7, s8, s9, s10, s11, s12, s13, mk, s15, s16, s17, s18, s19, s20, s21, s22, s23, s24, l, s26, s27, s28, s29, s30, s31, s32, s33, ()) ∧ XA mk ∧ (l.length : Int) = s23 ∧ ∀ v ∈ l, 0 ≤ v ∧ v ≤ s1 | _ => False) ?_
    (s1, s2, 0, s4, s5, s6, s7, s8, s9, s10, s11, s12, s13, mk, s15, s16, s17, s18, s19, s20, s21, s22, s23, s24, [], s26, s27, s28, s29, s30, s31, s32, s33, ()) ⟨0, mk, [], rfl, hm, by simp; omega, by simp⟩ (wq (by simp; omega))).elim fun o h => ?_
  rotate_left
  · obtain ⟨ho, hq⟩ := h
    cases o with
    | again a => exact hq.elim
    | ret a => exact hq.elim
    | brk b =>
      obtain ⟨mk', l, rfl, h1, h2, h3⟩ := hq
      exact ⟨mk', l, ho, h1, h2, h3⟩
  · rintro _ ⟨i, mk, l, rfl, h1, h2, h3⟩
    rw [zgN, zn]
    by_cases hi : i < s23
    · rw [if_pos hi]
      obtain ⟨b, mk', e, r, k⟩ := vJ h1
      have w1 : w64 (s1 + 1) = s1 + 1 := z9 (by omega) (by omega)
      have t := wX r.1 (show 0 < s1 + 1 by omega)
      rw [e, Option.bind_some, w1, zn, if_neg (by omega), we (by simp; omega), Option.bind_some, z9 (a := i + 1) (by omega) (by omega)]
      refine ⟨_, rfl, ⟨i + 1, mk', l ++ [b.tmod (s1 + 1)], rfl, k, by simp; omega, fun v hv => ?_⟩, ?_⟩
      · rcases List.mem_append.1 hv with hv | hv
        · exact h3 v hv
        · simp at hv; omega
      · show (s23 - (i + 1)).toNat < (s23 - i).toNat
        omega
    · rw [if_neg hi]
      exact ⟨_, rfl, mk, l, rfl, h1, by omega, h3⟩
theorem zxe {s1 : Int} {s3 : Int} {s4 : Int} {s5 : Int} {s6 : Int} {s7 : Int} {s8 : Int} {s9 : Int} {s10 : Int} {s11 : Int} {s12 : BitVec 64} {s14 : Int} {s15 : Int} {s16 : Int} {s17 : Int} {s18 : Int} {s19 : Int} {s20 : Int} {s21 : Int} {s22 : Int} {s23 : BitVec 64} {s24 : List (List Int)} {s25 : List (List Int)} {s26 : List (List zi)} {s27 : List zj} {s29 : List (List Int)} {s30 : List (List zi)} {s31 : List zj} (hn : 1 ≤ s1 ∧ s1 ≤ 6) (hs : 1 ≤ s22 ∧ s22 ≤ 2) {mk : zy} (hm : XA mk) :
    ∃ mk' l, yo YG (s1, 0, s3, s4, s5, s6, s7, s8, s9, s10, s11, s12, mk, s14, s15, s16, s17, s18, s19, s20, s21, s22, s23, s24, s25, s26, s27, [], s29, s30, s31, ()) = some (.brk (s1, s3, s4, s5, s6, s7, s8, s9, s10, s11, s12, mk', s14, s15, s16, s17, s18, s19, s20, s21, s22, s23, s24, s25, s26, s27, l, s29, s30, s31, ())) ∧ XA mk' ∧ (l.length : Int) = s1 ∧ ∀ o ∈ l, (o.length : Int) = s22 ∧ ∀ v ∈ o, 0 ≤ v ∧ v ≤ s1 := by
  refine (um (f := YG)
    (fun a => ∃ i mk l, a = (s1, i, s3, s4, s5, s6, s7, s8, s9, s10, s11, s12, mk, s14, s15, s16, s17, s18, s19, s20, s21, s22, s23, s24, s25, s26, s27, l, s29, s30, s31, ()) ∧ XA mk ∧ (0 ≤ i ∧ i ≤ s1 ∧ (l.length : Int) = i) ∧ ∀ o ∈ l, (o.length : Int) = s22 ∧ ∀ v ∈ o, 0 ≤ v ∧ v ≤ s1)
    (fun a => (s1 - a.2.1).toNat)
    (fun o => match o with | .brk b => ∃ mk l, b = (s1, s3, s4, s5, s6, s7, s8, s9, s10, s11, s12, mk, s14, s15, s16, s17, s18, s19, s20, s21, s22, s23, s24, s25, s26, s27, l, s29, s30, s31, ()) ∧ XA mk ∧ (l.length : Int) = s1 ∧ ∀ o ∈ l, (o.length : Int) = s22 ∧ ∀ v ∈ o, 0 ≤ v ∧ v ≤ s1 | _ => False) ?_
    (s1, 0, s3, s4, s5, s6, s7, s8, s9, s10, s11, s12, mk, s14, s15, s16, s17, s18, s19, s20, s21, s22, s23, s24, s25, s26, s27, [], s29, s30, s31, ()) ⟨0, mk, [], rfl, hm, by simp; omega, by simp⟩ (wq (by simp; omega))).elim fun o h => ?_
  rotate_left
  · obtain ⟨ho, hq⟩ := h
    cases o with
    | again a => exact hq.elim
    | ret a => exact hq.elim
    | brk b =>
      obtain ⟨mk', l, rfl, h1, h2, h3⟩ := hq
      exact ⟨mk', l, ho, h1, h2, h3⟩
  · rintro _ ⟨i, mk, l, rfl, h1, h2, h3⟩
    rw [zhH, zn]
    by_cases hi : i < s1
    · rw [if_pos hi]
      obtain ⟨mk', o, e, g1, g2, g3⟩ := zwE hn hs h1
      rw [e]
      simp only [Option.bind_some]
      rw [we (by simp; omega), Option.bind_some, z9 (a := i + 1) (by omega) (by omega)]
      refine ⟨_, rfl, ⟨i + 1, mk', l ++ [o], rfl, g1, by simp; omega, fun v hv => ?_⟩, ?_⟩
      · rcases List.mem_append.1 hv with hv | hv
        · exact h3 v hv
        · simp at hv; subst hv; exact ⟨g2, g3⟩
      · show (s1 - (i + 1)).toNat < (s1 - i).toNat
        omega
    · rw [if_neg hi]
      exact ⟨_, rfl, mk, l, rfl, h1, by omega, h3⟩
theorem zwr {s1 : Int} {s2 : Int} {s4 : Int} {s5 : Int} {s6 : Int} {s7 : Int} {s8 : Int} {s9 : Int} {s10 : Int} {s11 : Int} {s12 : Int} {s13 : BitVec 64} {s15 : Int} {s16 : Int} {s17 : Int} {s18 : Int} {s19 : Int} {s20 : Int} {s21 : Int} {s22 : Int} {s23 : Int} {s24 : BitVec 64} {s26 : List (List Int)} {s27 : List (List Int)} {s28 : List (List zi)} {s29 : List zj} {s30 : List (List Int)} {s31 : List (List Int)} {s32 : List (List zi)} {s33 : List zj} (hn : 1 ≤ s1 ∧ s1 ≤ 6) {mk : zy} (hm : XA mk) :
    ∃ mk' l, yo ZV (s1, s2, 0, s4, s5, s6, s7, s8, s9, s10, s11, s12, s13, mk, s15, s16, s17, s18, s19, s20, s21, s22, s23, s24, [], s26, s27, s28, s29, s30, s31, s32, s33, ()) = some (.brk (s1, s2, s4, s5, s6, s7, s8, s9, s10, s11, s12, s13, mk', s15, s16, s17, s18, s19, s20, s21, s22, s23, s24, l, s26, s27, s28, s29, s30, s31, s32, s33, ())) ∧ XA mk' ∧ (1 ≤ (l.length : Int) ∧ (l.length : Int) ≤ 3) ∧ ∀ v ∈ l, 0 ≤ v ∧ v ≤ s1 := by
  refine (um (f := ZV)
    (fun a => ∃ i mk l, a = (s1, s2, i, s4, s5, s6, s7, s8, s9, s10, s11, s12, s13, mk, s15, s16, s17, s18, s19, s20, s21, s22, s23, s24, l, s26, s27, s28, s29, s30, s31, s32, s33, ()) ∧ XA mk ∧ (0 ≤ i ∧ i ≤ 3 ∧ (l.length : Int) = i) ∧ ∀ v ∈ l, 0 ≤ v ∧ v ≤ s1)
    (fun a => (3 - a.2.2.1).toNat)
    (fun o => match o with | .brk b => ∃ mk l, b = (s1, s2, s4, s5, s6, s7, s8, s9, s10, s11, s12, s13, mk, s15, s16, s17, s18, s19, s20, s21, s22, s23, s24, l, s26, s27, s28, s29, s30, s31, s32, s33, ()) ∧ XA mk ∧ (1 ≤ (l.length : Int) ∧ (l.length : Int) ≤ 3) ∧ ∀ v ∈ l, 0 ≤ v ∧ v ≤ s1 | _ => False) ?_
    (s1, s2, 0, s4, s5, s6, s7, s8, s9, s10, s11, s12, s13, mk, s15, s16, s17, s18, s19, s20, s21, s22, s23, s24, [], s26, s27, s28, s29, s30, s31, s32, s33, ()) ⟨0, mk, [], rfl, hm, by simp, by simp⟩ (wq (by simp))).elim fun o h => ?_
  rotate_left
  · obtain ⟨ho, hq⟩ := h
    cases o with
    | again a => exact hq.elim
    | ret a => exact hq.elim
    | brk b =>
      obtain ⟨mk', l, rfl, h1, h2, h3⟩ := hq
      exact ⟨mk', l, ho, h1, h2, h3⟩
  · rintro _ ⟨i, mk, l, rfl, h1, h2, h3⟩
    obtain ⟨b0, mk0, e0, r0, k0⟩ := vJ h1
    have t0 := wX r0.1 (show (0 : Int) < 3 by omega)
    rw [zgL, e0, Option.bind_some, zn, z9 (a := 1 + b0.tmod 3) (by omega) (by omega)]
    by_cases hi : i < 1 + b0.tmod 3
    · rw [if_pos hi]
      obtain ⟨b, mk', e, r, k⟩ := vJ k0
      have w1 : w64 (s1 + 1) = s1 + 1 := z9 (by omega) (by omega)
      have t := wX r.1 (show 0 < s1 + 1 by omega)
      rw [e, Option.bind_some, w1, zn, if_neg (by omega), we (by simp; omega), Option.bind_some, z9 (a := i + 1) (by omega) (by omega)]
      refine ⟨_, rfl, ⟨i + 1, mk', l ++ [b.tmod (s1 + 1)], rfl, k, by simp; omega, fun v hv => ?_⟩, ?_⟩
      · rcases List.mem_append.1 hv with hv | hv
        · exact h3 v hv
        · simp at hv; omega
      · show (3 - (i + 1)).toNat < (3 - i).toNat
        omega
    · rw [if_neg hi]
      exact ⟨_, rfl, mk0, l, rfl, k0, by omega, h3⟩
theorem zwB {s1 : Int} {s2 : Int} {s4 : Int} {s5 : Int} {s6 : Int} {s7 : Int} {s8 : Int} {s9 : Int} {s10 : Int} {s11 : Int} {s12 : Int} {s13 : BitVec 64} {s15 : Int} {s16 : Int} {s17 : Int} {s18 : Int} {s19 : Int} {s20 : Int} {s21 : Int} {s22 : Int} {s23 : Int} {s24 : BitVec 64} {s25 : List Int} {s27 : List (List Int)} {s28 : List (List Int)} {s29 : List (List zi)} {s30 : List zj} {s31 : List (List Int)} {s32 : List (List Int)} {s33 : List (List zi)} {s34 : List zj} (hr : 1 ≤ (s25.length : Int)) (hs : 1 ≤ s23 ∧ s23 ≤ 2) {k0 : Int} (hk : 0 ≤ k0 ∧ k0 < 8) {mk : zy} (hm : XA mk) :
    ∃ mk' l, yo uz (s1, s2, k0, s4, s5, s6, s7, s8, s9, s10, s11, s12, s13, mk, s15, s16, s17, s18, s19, s20, s21, s22, s23, s24, s25, [], s27, s28, s29, s30, s31, s32, s33, s34, ()) = some (.brk (s1, s2, s4, s5, s6, s7, s8, s9, s10, s11, s12, s13, mk', s15, s16, s17, s18, s19, s20, s21, s22, s23, s24, s25, l, s27, s28, s29, s30, s31, s32, s33, s34, ())) ∧ XA mk' ∧ (l.length : Int) ≤ 7 ∧ ∀ o ∈ l, zgU o (s25.length : Int) s23 := by
  refine (um (f := uz)
    (fun a => ∃ i mk l, a = (s1, s2, i, s4, s5, s6, s7, s8, s9, s10, s11, s12, s13, mk, s15, s16, s17, s18, s19, s20, s21, s22, s23, s24, s25, l, s27, s28, s29, s30, s31, s32, s33, s34, ()) ∧ XA mk ∧ (0 ≤ i ∧ (l.length : Int) + i ≤ 7) ∧ ∀ o ∈ l, zgU o (s25.length : Int) s23)
    (fun a => (a.2.2.1).toNat)
    (fun o => match o with | .brk b => ∃ mk l, b = (s1, s2, s4, s5, s6, s7, s8, s9, s10, s11, s12, s13, mk, s15, s16, s17, s18, s19, s20, s21, s22, s23, s24, s25, l, s27, s28, s29, s30, s31, s32, s33, s34, ()) ∧ XA mk ∧ (l.length : Int) ≤ 7 ∧ ∀ o ∈ l, zgU o (s25.length : Int) s23 | _ => False) ?_
    (s1, s2, k0, s4, s5, s6, s7, s8, s9, s10, s11, s12, s13, mk, s15, s16, s17, s18, s19, s20, s21, s22, s23, s24, s25, [], s27, s28, s29, s30, s31, s32, s33, s34, ()) ⟨k0, mk, [], rfl, hm, by simp; omega, by simp⟩ (wq (by simp; omega))).elim fun o h => ?_
  rotate_left
  · obtain ⟨ho, hq⟩ := h
    cases o with
    | again a => exact hq.elim
    | ret a => exact hq.elim
    | brk b =>
      obtain ⟨mk', l, rfl, h1, h2, h3⟩ := hq
      exact ⟨mk', l, ho, h1, h2, h3⟩
  · rintro _ ⟨i, mk, l, rfl, h1, h2, h3⟩
    rw [zgS, zn]
    by_cases hi : 0 < i
    · rw [if_pos hi]
      obtain ⟨o, mk', e, r, k⟩ := zyE h1 hr hs.1
      rw [e, Option.bind_some, we (by simp; omega), Option.bind_some, z9 (a := i - 1) (by omega) (by omega)]
      refine ⟨_, rfl, ⟨i - 1, mk', l ++ [o], rfl, k, by simp; omega, fun v hv => ?_⟩, ?_⟩
      · rcases List.mem_append.1 hv with hv | hv
        · exact h3 v hv
        · simp at hv; subst hv; exact r
      · show (i - 1).toNat < i.toNat
        omega
    · rw [if_neg hi]
      exact ⟨_, rfl, mk, l, rfl, h1, by omega, h3⟩
theorem zwK {s1 : Int} {s3 : Int} {s4 : Int} {s5 : Int} {s6 : Int} {s7 : Int} {s8 : Int} {s9 : Int} {s10 : Int} {s11 : Int} {s12 : BitVec 64} {s14 : Int} {s15 : Int} {s16 : Int} {s17 : Int} {s18 : Int} {s19 : Int} {s20 : Int} {s21 : Int} {s22 : Int} {s23 : BitVec 64} {s24 : List (List Int)} {s25 : List (List Int)} {s26 : List (List zi)} {s27 : List zj} {s28 : List (List Int)} {s31 : List zj} (hn : 1 ≤ s1 ∧ s1 ≤ 6) (hm0 : 0 ≤ s15 ∧ s15 ≤ 2) (hs : 1 ≤ s22 ∧ s22 ≤ 2) {mk : zy} (hm : XA mk) :
    ∃ regs progs, yo ZU (s1, 0, s3, s4, s5, s6, s7, s8, s9, s10, s11, s12, mk, s14, s15, s16, s17, s18, s19, s20, s21, s22, s23, s24, s25, s26, s27, s28, [], [], s31, ()) = some (.brk (s3, s4, s5, s6, s7, s8, s9, s10, s11, s12, s14, s15, s16, s17, s18, s19, s20, s21, s22, s23, s24, s25, s26, s27, s28, regs, progs, s31, ())) ∧ (regs.length : Int) = s15 ∧ (regs.length = progs.length) ∧ (∀ r ∈ regs, (1 ≤ (r.length : Int) ∧ (r.length : Int) ≤ 3) ∧ ∀ v ∈ r, 0 ≤ v ∧ v ≤ s1) ∧ ∀ (k : Nat) r ops, regs[k]? = some r → progs[k]? = some ops → (ops.length : Int) ≤ 7 ∧ ∀ o ∈ ops, zgU o (r.length : Int) s22 := by
  refine (um (f := ZU)
    (fun a => ∃ i mk regs progs, a = (s1, i, s3, s4, s5, s6, s7, s8, s9, s10, s11, s12, mk, s14, s15, s16, s17, s18, s19, s20, s21, s22, s23, s24, s25, s26, s27, s28, regs, progs, s31, ()) ∧ XA mk ∧ (0 ≤ i ∧ i ≤ s15 ∧ (regs.length : Int) = i) ∧ (regs.length = progs.length) ∧ (∀ r ∈ regs, (1 ≤ (r.length : Int) ∧ (r.length : Int) ≤ 3) ∧ ∀ v ∈ r, 0 ≤ v ∧ v ≤ s1) ∧ ∀ (k : Nat) r ops, regs[k]? = some r → progs[k]? = some ops → (ops.length : Int) ≤ 7 ∧ ∀ o ∈ ops, zgU o (r.length : Int) s22)
    (fun a => (s15 - a.2.1).toNat)
    (fun o => match o with | .brk b => ∃ regs progs, b = (s3, s4, s5, s6, s7, s8, s9, s10, s11, s12, s14, s15, s16, s17, s18, s19, s20, s21, s22, s23, s24, s25, s26, s27, s28, regs, progs, s31, ()) ∧ (regs.length : Int) = s15 ∧ (regs.length = progs.length) ∧ (∀ r ∈ regs, (1 ≤ (r.length : Int) ∧ (r.length : Int) ≤ 3) ∧ ∀ v ∈ r, 0 ≤ v ∧ v ≤ s1) ∧ ∀ (k : Nat) r ops, regs[k]? = some r → progs[k]? = some ops → (ops.length : Int) ≤ 7 ∧ ∀ o ∈ ops, zgU o (r.length : Int) s22 | _ => False) ?_
    (s1, 0, s3, s4, s5, s6, s7, s8, s9, s10, s11, s12, mk, s14, s15, s16, s17, s18, s19, s20, s21, s22, s23, s24, s25, s26, s27, s28, [], [], s31, ()) ⟨0, mk, [], [], rfl, hm, by simp; omega, rfl, by simp, by simp⟩ (wq (by simp; omega))).elim fun o h => ?_
  rotate_left
  · obtain ⟨ho, hq⟩ := h
    cases o with
    | again a => exact hq.elim
    | ret a => exact hq.elim
    | brk b =>
      obtain ⟨regs, progs, rfl, h⟩ := hq
      exact ⟨regs, progs, ho, h⟩
  · rintro _ ⟨i, mk, regs, progs, rfl, h1, h2, h3, h4, h5⟩
    rw [zgI, zn]
    by_cases hi : i < s15
    · rw [if_pos hi]
      obtain ⟨mk1, r, e, g1, g2, g3⟩ := zwr hn h1
      rw [e]
      simp only [Option.bind_some]
      rw [zn, if_neg (by omega)]
      obtain ⟨b, mk2, e2, r2, k2⟩ := vJ g1
      rw [e2, Option.bind_some]
      obtain ⟨mk3, ops, e3, f1, f2, f3⟩ := zwB (s25 := r) g2.1 hs (wX r2.1 (show (0 : Int) < 8 by omega)) k2
      rw [e3]
      simp only [Option.bind_some]
      rw [we (by simp; omega), Option.bind_some, we (by simp; omega), Option.bind_some, z9 (a := i + 1) (by omega) (by omega)]
      refine ⟨_, rfl, ⟨i + 1, mk3, regs ++ [r], progs ++ [ops], rfl, f1, by simp; omega, by simp [h3], fun v hv => ?_, fun k r' ops' hk1 hk2 => ?_⟩, ?_⟩
      · rcases List.mem_append.1 hv with hv | hv
        · exact h4 v hv
        · simp at hv; subst hv; exact ⟨g2, g3⟩
      · rcases Nat.lt_or_ge k regs.length with hlt | hge
        · rw [List.getElem?_append_left hlt] at hk1
          rw [List.getElem?_append_left (by omega)] at hk2
          exact h5 k r' ops' hk1 hk2
        · rw [List.getElem?_append_right hge] at hk1
          rw [List.getElem?_append_right (by omega), ← h3] at hk2
          have hk0 : k - regs.length = 0 := by
            have := (List.getElem?_eq_some_iff.1 hk1).1
            simpa using this
          rw [hk0] at hk1 hk2
          simp at hk1 hk2
          subst hk1; subst hk2
          exact ⟨f2, f3⟩
      · show (s15 - (i + 1)).toNat < (s15 - i).toNat
        omega
    · rw [if_neg hi]
      exact ⟨_, rfl, regs, progs, rfl, by omega, h3, h4, h5⟩
theorem zxx (l : List (BitVec 8)) : ∃ p, U9 l = some (p, ()) ∧ zP p := by
  rw [zkI, zn]
  obtain ⟨m, em, hl⟩ : ∃ m, cut l 0 (if 90 < (l.length : Int) then 90 else (l.length : Int)) = some m ∧ m.length ≤ 90 := by
    unfold cut
    by_cases h : 90 < (l.length : Int)
    · have h2 : (90 : Int) ≤ l.length := by omega
      rw [if_pos h]; exact ⟨l.take 90, by simp [h2], List.length_take_le _ _⟩
    · rw [if_neg h]; exact ⟨l, by simp, by omega⟩
  rw [em, Option.bind_some]
  obtain ⟨b1, m1, e1, r1, k1⟩ := vJ (m := ⟨m, 0⟩) ⟨by simp, by simp, hl⟩
  obtain ⟨b2, m2, e2, r2, k2⟩ := vJ k1
  obtain ⟨b3, m3, e3, r3, k3⟩ := vJ k2
  obtain ⟨b4, m4, e4, r4, k4⟩ := vJ k3
  obtain ⟨b5, m5, e5, r5, k5⟩ := vJ k4
  obtain ⟨b6, m6, e6, r6, k6⟩ := vJ k5
  obtain ⟨b7, m7, e7, r7, k7⟩ := vJ k6
  obtain ⟨b8, m8, e8, r8, k8⟩ := vJ k7
  obtain ⟨b9, m9, e9, r9, k9⟩ := vJ k8
  obtain ⟨b10, m10, e10, r10, k10⟩ := vJ k9
  simp only [e1, e2, e3, e4, e5, e6, e7, e8, e9, e10, Option.bind_some]
  have t1 := wX r1.1 (show (0 : Int) < 3 by omega)
  have t2 := wX r2.1 (show (0 : Int) < 3 by omega)
  have t3 := wX r3.1 (show (0 : Int) < 3 by omega)
  have t4 := wX r4.1 (show (0 : Int) < 2 by omega)
  have t5 := wX r5.1 (show (0 : Int) < 3 by omega)
  have t6 := wX r6.1 (show (0 : Int) < 4 by omega)
  have t7 := wX r7.1 (show (0 : Int) < 4 by omega)
  have t8 := wX r8.1 (show (0 : Int) < 2 by omega)
  have t9 := wX r9.1 (show (0 : Int) < 6 by omega)
  have t10 := wX r10.1 (show (0 : Int) < 4 by omega)
  rw [z9 (a := 1 + b9.tmod 6) (by omega) (by omega), z9 (a := 1 + b1.tmod 3) (by omega) (by omega), z9 (a := 1 + b3.tmod 3) (by omega) (by omega), z9 (a := 1 + b4.tmod 2) (by omega) (by omega), z9 (a := 1 + b5.tmod 3) (by omega) (by omega),
    z9 (a := 1 + b9.tmod 6 + b10.tmod 4) (by omega) (by omega), z9 (a := 1 + b8.tmod 2) (by omega) (by omega)]
  obtain ⟨m11, objs, e11, g1, g2, g3⟩ := zxe (s1 := 1 + b9.tmod 6) (s22 := 1 + b8.tmod 2) (by omega) (by omega) k10
  rw [e11]
  simp only [Option.bind_some]
  obtain ⟨b12, m12, e12, r12, k12⟩ := vJ g1
  rw [e12, Option.bind_some, z9 (a := 1 + b9.tmod 6 + 1) (by omega) (by omega), zn, if_neg (by omega)]
  have t12 := wX r12.1 (show (0 : Int) < 1 + b9.tmod 6 + 1 by omega)
  rw [zmq, Option.bind_some]
  obtain ⟨regs, progs, e13, f1, f2, f3, f4⟩ := zwK (s1 := 1 + b9.tmod 6) (s15 := b2.tmod 3) (s22 := 1 + b8.tmod 2) (by omega) (by omega) (by omega) k12
  rw [e13]
  simp only [Option.bind_some]
  refine ⟨_, rfl, ?_⟩
  constructor <;> dsimp only
  case objs => intro o ho; rw [g2]; exact g3 o ho
  case roots => exact ⟨b12.tmod (1 + b9.tmod 6 + 1), by omega, by omega, by simp⟩
  case reg => rw [g2]; exact f3
  case prog => exact f4
  all_goals first | omega | rfl
end B17
end
end Go.Pe.G
namespace Go.Pe.G
open Go.Pe
noncomputable section
theorem UW {α β B C : Type} {f : List α × Int × Int × β → Option (y0 (List α × Int × Int × β) B C)} {l : List α} {e : β} {b : B} (hl : l.length < 1000000)
    (h1 : ∀ (i : Nat) (x : α), l[i]? = some x → f (l, (l.length : Int), (i : Int), e) = some (.again (l, (l.length : Int), ((i + 1 : Nat) : Int), e)))
    (h2 : f (l, (l.length : Int), (l.length : Int), e) = some (.brk b)) : yo f (l, (l.length : Int), 0, e) = some (.brk b) := by
  refine (um (f := f) (fun a => ∃ i : Nat, a = (l, (l.length : Int), (i : Int), e) ∧ i ≤ l.length) (fun a => l.length - a.2.2.1.toNat) (fun o => o = .brk b) ?_ (l, (l.length : Int), 0, e) ⟨0, rfl, by omega⟩ (wq (by simp; omega))).elim fun o h => ?_
  rotate_left
  · rw [h.1, h.2]
  · rintro _ ⟨i, rfl, hi⟩
    rcases Nat.lt_or_ge i l.length with hlt | hge
    · refine ⟨_, h1 i _ (List.getElem?_eq_getElem hlt), ⟨i + 1, rfl, hlt⟩, ?_⟩
      show l.length - ((i + 1 : Nat) : Int).toNat < l.length - (i : Int).toNat
      omega
    · have : i = l.length := by omega
      subst this
      exact ⟨_, h2, rfl⟩
theorem wI {α : Type} {l : List α} {i : Nat} {x : α} (h : l[i]? = some x) : idx l (i : Int) = some x := by
  rw [wR (by omega)]; simpa using h
theorem va {α : Type} {l : List α} {i : Nat} {x : α} (h : l[i]? = some x) : (i : Int) < (l.length : Int) := by
  have := (List.getElem?_eq_some_iff.1 h).1; omega
theorem xq {i : Nat} (h : i < 1000000) : w64 ((i : Int) + 1) = ((i + 1 : Nat) : Int) := by
  rw [z9 (by omega) (by omega)]; omega
theorem zdV (a b c : Int) : vA a b c = some (decide (b ≤ a ∧ a ≤ c), ()) := by
  rw [zns, zn]
  by_cases h : b ≤ a
  · rw [if_pos h]; simp [h]
  · rw [if_neg h]; simp [h]
theorem zuo {l : List Int} {h : zw} (hl : l.length < 1000000) (hv : ∀ v ∈ l, 0 ≤ v ∧ v ≤ (h.Objs.length : Int)) : xI l h = some (false, ()) := by
  rw [Yi, Xa, UW (b := ()) hl (fun i x hx => ?_) (by rw [w8]; simp)]
  · rfl
  · have hm := hv x (List.mem_of_getElem? hx)
    have hlt := va hx
    rw [w8, zn, if_pos hlt, wI hx, Option.bind_some, zk0, zn, if_neg (show ¬ x < 0 by omega), Option.bind_some, xq (by omega)]
    simp [show ¬ (h.Objs.length : Int) < x by omega]
theorem zvS {l : List Int} {n : Int} (hl : l.length < 1000000) (hv : ∀ v ∈ l, 0 ≤ v ∧ v ≤ n) : xQ l n = some (false, ()) := by
  rw [YO, Xu, UW (b := ()) hl (fun i x hx => ?_) (by rw [vj]; simp)]
  · rfl
  · have hm := hv x (List.mem_of_getElem? hx)
    have hlt := va hx
    rw [vj, wI hx, Option.bind_some, zmD, zdV, Option.bind_some, Option.bind_some, xq (by omega), zn, if_pos hlt]
    simp [hm]
theorem zq5 {l : List (List Int)} {h : zw} (hl : l.length < 1000000) (hs : h.Slots < 1000000) (hv : ∀ o ∈ l, (o.length : Int) = h.Slots ∧ ∀ v ∈ o, 0 ≤ v ∧ v ≤ (h.Objs.length : Int)) : xH l h = some (false, ()) := by
  rw [Yf, YQ, UW (b := ()) hl (fun i x hx => ?_) (by rw [w9]; simp)]
  · rfl
  · have hm := hv x (List.mem_of_getElem? hx)
    have hlt := va hx
    rw [w9, wI hx, Option.bind_some, zmA, yf, if_pos hm.1, zuo (by omega) hm.2, Option.bind_some, Option.bind_some, xq (by omega), zn, if_pos hlt]
    rfl
theorem zop {r n : Int} (h : 0 ≤ r ∧ r < n) (h2 : n ≤ 4) : zQ r n = some (true, ()) := by
  rw [zmQ, zn, if_pos h.1, zn]
  rw [if_neg (by omega)]
  simp [h.2]
theorem zwY {o : zi} {regs slots : Int} (h : zgU o regs slots) (h2 : regs ≤ 4) (h3 : slots ≤ 4) : zgO o regs slots = some (true, ()) := by
  obtain ⟨hr, h⟩ := h
  have e1 := zop hr h2
  have h4 : ¬ 4 < slots := by omega
  rw [zoV]
  rcases h with ⟨hk | hk, ha, hs⟩ | ⟨hk, ha, hs⟩ | ⟨hk | hk, ha, hs⟩
  · have e2 := zop ha h2
    simp [hk, e1, e2, hs.1, hs.2, h4]
  · have e2 := zop ha h2
    simp [hk, e1, e2, hs.1, hs.2, h4]
  · have e2 := zop ha h2
    simp [hk, e1, e2, hs]
  · simp [hk, e1, ha, hs]
  · simp [hk, e1, ha, hs]
theorem zxl {l : List zi} {regs slots : Int} (hl : (l.length : Int) ≤ 64) (h : ∀ o ∈ l, zgU o regs slots) (h2 : regs ≤ 4) (h3 : slots ≤ 4) : ziv l regs slots = some (true, ()) := by
  rw [zqG, zn, if_pos hl, Zr, ZO, UW (b := ()) (by omega) (fun i x hx => ?_) (by rw [wt]; simp)]
  · rfl
  · have hlt := va hx
    rw [wt, wI hx, Option.bind_some, znM, zwY (h x (List.mem_of_getElem? hx)) h2 h3, Option.bind_some, Option.bind_some, xq (by omega), zn, if_pos hlt]
    rfl
theorem zvk (a b : Int) : zgC [] a b = some (true, ()) := by
  rw [zoX, uK, Za, UW (b := ()) (by simp) (fun i x hx => by simp at hx) (by rw [uJ]; simp)]
  rfl
def zao (n : Int) : BitVec 64 := if n < 1 then 0#64 else 18446744073709551615#64 >>> (64 - min n 64).toNat
theorem zvz (n : Int) (h : 0 ≤ n) : zi5 n = some (zao n, ()) := by
  rw [zqF, zn]
  unfold zao
  by_cases h1 : n < 1
  · rw [if_pos h1, if_pos h1]
  · rw [if_neg h1, if_neg h1]
    simp only [zn]
    have e : (if 64 < n then (64 : Int) else n) = min n 64 := by
      by_cases h2 : 64 < n
      · rw [if_pos h2]; omega
      · rw [if_neg h2]; omega
    rw [e, z9 (by omega) (by omega), if_neg (by omega), Nat.min_eq_left (by omega)]
theorem zq9 : ∀ (r n : Fin 7), r.1 ≤ n.1 → bit (r.1 : Int) &&& ~~~zao (n.1 : Int) = 0#64 := by decide
theorem zm1 {p : zd} (h : zP p) : p.Roots &&& ~~~zao (p.H.Objs.length : Int) = 0#64 := by
  obtain ⟨r, h1, h2, h3⟩ := h.roots
  have hn := h.n
  have := zq9 ⟨r.toNat, by omega⟩ ⟨p.H.Objs.length, by omega⟩ (by show r.toNat ≤ p.H.Objs.length; omega)
  rw [h3]
  simpa [Int.toNat_of_nonneg h1] using this
theorem zul {p : zd} (h : zP p) : zah p = some (true, ()) := by
  obtain ⟨h1, h2, h3, h4, h5, h6, h7, _⟩ := h
  rw [zkr]
  simp only [zdV, Option.bind_some, zn]
  rw [if_pos (by omega), if_pos (by omega), if_pos (by omega), if_pos (by omega), if_pos (by omega), if_pos (by split <;> omega)]
  have : (if p.Price < p.Limit then p.Limit else p.Price) ≤ 1000000 := by split <;> omega
  simp [this]
theorem zuE {p : zd} (h : zP p) : Ur p.H = some (true, ()) := by
  have := h.slots
  have := h.n
  rw [zhV, zn, if_pos (by omega), zn, if_pos (by omega), zn, if_pos (by omega), zq5 (by omega) (by omega) h.objs]
  rfl
theorem zun {p : zd} (h : zP p) : zgP p = some (true, ()) := by
  have hn := h.n
  have hm := h.most
  have hsl := h.slots
  have hmt := h.mt
  have hrl := h.regs
  have hpl := h.progs
  rw [zoK, zul h]
  simp only [Option.bind_some, Bool.not_true, cond_false, zuE h, zdV]
  rw [show decide ((p.H.Objs.length : Int) ≤ p.Most ∧ p.Most ≤ 64) = true by simp; omega]
  simp only [Bool.not_true, cond_false, zvz _ (show (0 : Int) ≤ (p.H.Objs.length : Int) by omega), Option.bind_some, zqr, zm1 h, decide_true, yf, if_pos h.regs, if_pos h.progs]
  rw [UW (b := (p, ())) (by omega) (fun i x hx => ?_) (by rw [zd9]; simp)]
  · simp [h.picks, zvk]
  · have hlt := va hx
    have hr := h.reg x (List.mem_of_getElem? hx)
    obtain ⟨ops, hops⟩ : ∃ ops, p.Progs[i]? = some ops := ⟨_, List.getElem?_eq_getElem (by omega)⟩
    obtain ⟨o1, o2⟩ := h.prog i x ops hx hops
    rw [zd9, zn, if_pos hlt, wI hx]
    simp only [Option.bind_some, zdV]
    rw [show decide (1 ≤ (x.length : Int) ∧ (x.length : Int) ≤ 4) = true by simp; omega]
    simp only [Bool.not_true, cond_false, zvS (show x.length < 1000000 by omega) hr.2, Option.bind_some, wI hops, zxl (show (ops.length : Int) ≤ 64 by omega) o2 (show (x.length : Int) ≤ 4 by omega) (show p.H.Slots ≤ 4 by omega), xq (show i < 1000000 by omega)]
end
end Go.Pe.G
namespace Go.Pe.G
open Go.Pe
noncomputable section
theorem zaW {n : Int} (h : 0 ≤ n) (h2 : n < 4294967296) : Zh n = some n.toNat := by rw [zim]; simp [h, h2]
theorem zqS {n : Int} (h : 0 < n) (h2 : n < 4294967296) : zep n = some n.toNat := by rw [zo4]; simp [h, h2]
def zo8 (l : List Int) : BitVec 64 := l.foldl (fun s o => s ||| bit o) 0#64
def WH (p : zd) : BitVec 64 := p.Regs.foldl (fun s l => s ||| zo8 l) p.Roots
def zyr (a1 : BitVec 64) : BitVec 64 :=
  let a := ((a1 >>> 1) &&& 6148914691236517205#64) + (a1 &&& 6148914691236517205#64)
  let b := ((a >>> 2) &&& 3689348814741910323#64) + (a &&& 3689348814741910323#64)
  let c := ((b >>> 4) + b) &&& 1085102592571150095#64
  let d := c + (c >>> 8)
  let e := d + (d >>> 16)
  e + (e >>> 32)
def cnt (s : BitVec 64) : Int := (BitVec.ofInt 64 (zyr s).toInt &&& BitVec.ofInt 64 127).toInt
theorem zvf (s : BitVec 64) : zis s = some (cnt s, ()) := by
  rw [zqk, zjG, zr6]; rfl
theorem ui {m : List Int} (h : m.length < 4294967296) : z5 m = some (m, ()) := by
  rw [zeP, List.nil_append, we h, Option.bind_some]
  cases m with
  | nil => simp [zbt]
  | cons a l => simp
theorem zxS {l : List Int} (hl : l.length < 1000000) : zob l = some (zo8 l, ()) := by
  rw [ztN]
  refine (um (f := zi6) (fun a => ∃ i : Nat, a = ((l.take i).foldl (fun s o => s ||| bit o) 0#64, l, (l.length : Int), (i : Int), ()) ∧ i ≤ l.length) (fun a => l.length - a.2.2.2.1.toNat) (fun o => o = .brk (zo8 l, ())) ?_ (0#64, l, (l.length : Int), 0, ()) ⟨0, rfl, by omega⟩ (wq (by simp; omega))).elim fun o h => ?_
  rotate_left
  · rw [h.1, h.2]; rfl
  · rintro _ ⟨i, rfl, hi⟩
    rw [zqK, zn]
    rcases Nat.lt_or_ge i l.length with hlt | hge
    · have hx := List.getElem?_eq_getElem hlt
      rw [if_pos (by omega), wI hx, Option.bind_some, zmq, Option.bind_some, xq (by omega)]
      refine ⟨_, rfl, ⟨i + 1, ?_, hlt⟩, ?_⟩
      · rw [List.take_add_one, hx]; simp only [Option.toList_some, List.foldl_append, List.foldl_cons, List.foldl_nil]
      · show l.length - ((i + 1 : Nat) : Int).toNat < l.length - (i : Int).toNat
        omega
    · rw [if_neg (by omega)]
      have : i = l.length := by omega
      subst this
      exact ⟨_, rfl, by rw [List.take_length]; rfl⟩
theorem zus {p : zd} (hl : p.Regs.length < 1000000) (hr : ∀ r ∈ p.Regs, r.length < 1000000) : zgQ p = some (WH p, ()) := by
  rw [zpu]
  refine (um (f := zcg) (fun a => ∃ i : Nat, a = ((p.Regs.take i).foldl (fun s l => s ||| zo8 l) p.Roots, p.Regs, (p.Regs.length : Int), (i : Int), ()) ∧ i ≤ p.Regs.length) (fun a => p.Regs.length - a.2.2.2.1.toNat) (fun o => o = .brk (WH p, ())) ?_ (p.Roots, p.Regs, (p.Regs.length : Int), 0, ()) ⟨0, rfl, by omega⟩ (wq (by simp; omega))).elim fun o h => ?_
  rotate_left
  · rw [h.1, h.2]; rfl
  · rintro _ ⟨i, rfl, hi⟩
    rw [zmg, zn]
    rcases Nat.lt_or_ge i p.Regs.length with hlt | hge
    · have hx := List.getElem?_eq_getElem hlt
      rw [if_pos (by omega), wI hx, Option.bind_some, zxS (hr _ (List.getElem_mem hlt)), Option.bind_some, xq (by omega)]
      refine ⟨_, rfl, ⟨i + 1, ?_, hlt⟩, ?_⟩
      · rw [List.take_add_one, hx]; simp only [Option.toList_some, List.foldl_append, List.foldl_cons, List.foldl_nil]
      · show p.Regs.length - ((i + 1 : Nat) : Int).toNat < p.Regs.length - (i : Int).toNat
        omega
    · rw [if_neg (by omega)]
      have : i = p.Regs.length := by omega
      subst this
      exact ⟨_, rfl, by rw [List.take_length]; rfl⟩
theorem zll {l : List (List Int)} (hl : l.length < 1000000) (h : ∀ r ∈ l, r.length < 1000000) : yJ l = some (l, ()) := by
  have key : ∀ n : Int, n = (l.length : Int) → yo yE (n, 0, l, ()) = some (.brk (l, ())) := by
    rintro _ rfl
    refine (um (f := yE) (fun a => ∃ i : Nat, a = ((l.length : Int), (i : Int), l, ()) ∧ i ≤ l.length) (fun a => l.length - a.2.1.toNat) (fun o => o = .brk (l, ())) ?_ ((l.length : Int), 0, l, ()) ⟨0, rfl, by omega⟩ (wq (by simp; omega))).elim fun o h => ?_
    rotate_left
    · rw [h.1, h.2]
    · rintro _ ⟨i, rfl, hi⟩
      rw [YU, zn]
      rcases Nat.lt_or_ge i l.length with hlt | hge
      · have hx := List.getElem?_eq_getElem hlt
        have hr := h _ (List.getElem_mem hlt)
        have e : yV l (i : Int) = some i := by rw [vG (by omega) (by omega)]; simp
        rw [if_pos (by omega), e]
        simp only [Option.bind_some]
        rw [hx, Option.bind_some, ui (by omega), Option.bind_some, xq (by omega)]
        refine ⟨_, rfl, ⟨i + 1, by simp, hlt⟩, ?_⟩
        show l.length - ((i + 1 : Nat) : Int).toNat < l.length - (i : Int).toNat
        omega
      · rw [if_neg (by omega)]
        have : i = l.length := by omega
        subst this
        exact ⟨_, rfl, rfl⟩
  have hc : Zh (l.length : Int) = some l.length := by rw [zaW (by omega) (by omega)]; simp
  rw [XJ]
  simp only [decide_true, cond_true, hc, Option.bind_some, List.length_replicate]
  cases l with
  | nil => simp; rw [key 0 rfl]; rfl
  | cons a r => simp only [List.isEmpty_cons, cond_false]; rw [key _ rfl]; rfl
def zjJ (cap : Int) : List (BitVec 64) := [1#64, 1#64] ++ List.replicate cap.toNat 0#64
theorem ztK {c : Int} (h : 1 ≤ c) (h2 : c ≤ 64) : zeG c = some (zjJ c, ()) := by
  have e : (if 64 < (if c < 1 then (1 : Int) else c) then (64 : Int) else (if c < 1 then (1 : Int) else c)) = c := by
    rw [if_neg (show ¬ c < 1 by omega), if_neg (by omega)]
  have w : w64 (2 + c) = 2 + c := z9 (by omega) (by omega)
  have hc : Zh (2 + c) = some (2 + c.toNat) := by rw [zaW (by omega) (by omega)]; congr 1; omega
  rw [znx]
  simp only [zn, e, w, if_true, hc, Option.bind_some]
  rw [vG (by omega) (by simp; omega), Option.bind_some, vG (by omega) (by simp; omega), Option.bind_some]
  have e2 : List.replicate (2 + c.toNat) 0#64 = 0#64 :: 0#64 :: List.replicate c.toNat 0#64 := by rw [Nat.add_comm 2]; rfl
  rw [e2]; rfl
theorem zu3 {m : Int} (h : 0 ≤ m) (h2 : m ≤ 16) : zgM m = some (⟨0, 0, 0, List.replicate m.toNat 0⟩, ()) := by
  have e : (if (if 16 < m then (16 : Int) else m) < 0 then (0 : Int) else (if 16 < m then (16 : Int) else m)) = m := by
    rw [if_neg (show ¬ 16 < m by omega), if_neg (by omega)]
  have hc : Zh m = some m.toNat := zaW (by omega) (by omega)
  rw [zoy]
  simp only [zn, e, if_true, hc, Option.bind_some]
def links (m : List (BitVec 64)) (next : Int) : List Int → List (BitVec 64)
  | [] => m
  | [a] => st m (wc (next + a)) 0#64
  | a :: b :: l => links (st m (wc (next + a)) (BitVec.ofInt 64 b)) next (b :: l)
def zke (m : List (BitVec 64)) (head next : Int) (l : List Int) : List (BitVec 64) := st (links m next l) head (WN 0#64 (l.headD 0))
theorem Vz (m : List (BitVec 64)) (a : Int) (v : BitVec 64) : (st m a v).length = m.length := by unfold st; split <;> simp
theorem zie : ∀ (l : List Int) (m : List (BitVec 64)) (n : Int), (links m n l).length = m.length
  | [], _, _ => rfl
  | [a], m, n => Vz _ _ _
  | a :: b :: l, m, n => by simp only [links]; rw [zie (b :: l), Vz]
theorem zn9 (m : List (BitVec 64)) (h n : Int) (l : List Int) : (zke m h n l).length = m.length := by unfold zke; rw [Vz, zie]
theorem zoc {head next : Int} {l : List Int} (hl : l.length < 1000000) : ∀ (k : Nat) (m : List (BitVec 64)) (i : Nat), l.length - i = k → i ≤ l.length → m.length < 4294967296 →
    ∀ n, k < n → uR zc2 n (m, head, next, l, (l.length : Int), (i : Int), ()) = some (.brk (links m next (l.drop i), head, l, ()))
  | 0, m, i, hk, hi, hm, n + 1, hn => by
    have : i = l.length := by omega
    subst this
    simp only [uR]
    rw [zfb, zn, if_neg (by omega), Option.bind_some, List.drop_length]; rfl
  | k + 1, m, i, hk, hi, hm, n + 1, hn => by
    have hlt : i < l.length := by omega
    have hx := List.getElem?_eq_getElem hlt
    simp only [uR]
    rw [zfb, zn, if_pos (by omega), xq (by omega), zn, yS]
    by_cases h2 : i + 1 < l.length
    · have hy := List.getElem?_eq_getElem h2
      have ed : l.drop i = l[i] :: l[i + 1] :: l.drop (i + 2) := by
        rw [List.drop_eq_getElem_cons hlt, List.drop_eq_getElem_cons h2]
      rw [if_pos (by omega), wI hy, Option.bind_some, wI hx, Option.bind_some, zaD hm, Option.bind_some, Option.bind_some]
      dsimp only
      rw [zoc hl k _ (i + 1) (by omega) (by omega) (by rw [Vz]; exact hm) n (by omega), ed]
      rw [List.drop_eq_getElem_cons h2]; rfl
    · have ed : l.drop i = [l[i]] := by
        rw [List.drop_eq_getElem_cons hlt, List.drop_eq_nil_of_le (by omega)]
      rw [if_neg (by omega), wI hx, Option.bind_some, zaD hm, Option.bind_some, Option.bind_some]
      dsimp only
      rw [zoc hl k _ (i + 1) (by omega) (by omega) (by rw [Vz]; exact hm) n (by omega), ed, List.drop_eq_nil_of_le (by omega)]
      rfl
theorem zq6 {m : List (BitVec 64)} (hm : m.length < 4294967296) {head next : Int} {l : List Int} (hl : l.length < 1000000) : zdL m head next l = some (zke m head next l, ()) := by
  have e := zoc (head := head) (next := next) hl l.length m 0 (by omega) (by omega) hm Wz (wq (by omega))
  rw [show ((0 : Nat) : Int) = 0 from rfl] at e
  rw [zp4, Uv, e]
  simp only [Option.bind_some, List.drop_zero, zn]
  unfold zke
  cases l with
  | nil =>
    rw [if_neg (by simp), zfr, Option.bind_some, zaD (by rw [zie]; exact hm)]; rfl
  | cons a r =>
    have : idx (a :: r) 0 = some a := by rw [wR (by omega)]; rfl
    rw [if_pos (by simp), this, Option.bind_some, zfr, Option.bind_some, zaD (by rw [zie]; exact hm)]; rfl
def zrO : Nat → BitVec 64 → Option (List Int)
  | 0, _ => none
  | f + 1, s => bif decide (s = 0#64) then some [] else (zrO f (s &&& (s - 1#64))).map fun l => (((Go.Lib.ctz 64 s.toNat : Nat) : Int) + 1) :: l
theorem ztM : ∀ t : Fin 64, zrO 66 (BitVec.ofNat 64 t.1) = some (((List.range 6).filter fun i => (BitVec.ofNat 64 t.1).getLsbD i).map fun i : Nat => (i : Int) + 1) := by decide +kernel
def zdC (s : BitVec 64) : List Int := ((List.range 6).filter fun i => s.getLsbD i).map fun i : Nat => (i : Int) + 1
theorem zr0 {s : BitVec 64} (h : s &&& ~~~63#64 = 0#64) : ∃ t : Fin 64, s = BitVec.ofNat 64 t.1 := by
  have h2 : s = s &&& 63#64 := by
    apply BitVec.eq_of_getLsbD_eq
    intro i hi
    have := congrArg (fun x => x.getLsbD i) h
    simp only [BitVec.getLsbD_and, BitVec.getLsbD_not, hi, decide_true, Bool.true_and, BitVec.getLsbD_zero] at this ⊢
    cases h1 : s.getLsbD i <;> cases h3 : (63#64 : BitVec 64).getLsbD i <;> simp_all
  have h3 : s.toNat < 64 := by
    rw [h2, BitVec.toNat_and]
    exact Nat.lt_of_le_of_lt Nat.and_le_right (by decide)
  exact ⟨⟨s.toNat, h3⟩, by simp⟩
theorem zyH : ∀ t : Fin 64, Go.Lib.ctz 64 t.1 ≤ 64 := by decide +kernel
theorem zq7 : ∀ (f : Nat) (s : BitVec 64), s.toNat < 64 → zbm f s = zrO f s
  | 0, _, _ => rfl
  | f + 1, s, h => by
    simp only [zbm, zrO]
    rw [zq7 f _ (by rw [BitVec.toNat_and]; exact Nat.lt_of_le_of_lt Nat.and_le_left h)]
    have : Go.Lib.ctz 64 s.toNat ≤ 64 := zyH ⟨s.toNat, h⟩
    have e : w64 (tz s + 1) = ((Go.Lib.ctz 64 s.toNat : Nat) : Int) + 1 := by
      unfold tz
      exact z9 (by omega) (by omega)
    rw [e]
theorem zps : ∀ (l acc : List Int), (acc.length + l.length) < 4294967296 → ZQ zeV l (acc, ()) = some (acc ++ l, ())
  | [], acc, _ => by simp [ZQ]
  | a :: l, acc, h => by
    simp only [List.length_cons] at h
    rw [ZQ, zn7, we (by simp; omega), Option.bind_some, Option.bind_some, zps l _ (by simp; omega)]
    simp
theorem zvn (s : BitVec 64) : (zdC s).length ≤ 6 := by
  unfold zdC
  rw [List.length_map]
  exact Nat.le_trans (List.length_filter_le _ _) (by simp)
theorem zwQ {s : BitVec 64} (h : s &&& ~~~63#64 = 0#64) : zkq s = some (zdC s, ()) := by
  obtain ⟨t, rfl⟩ := zr0 h
  have e : zlT (BitVec.ofNat 64 t.1) = some (zdC (BitVec.ofNat 64 t.1)) := by
    show zbm 66 _ = _
    rw [zq7 66 _ (by simp; omega), ztM t]; rfl
  have := zvn (BitVec.ofNat 64 t.1)
  rw [zrv, zrl, Option.bind_some, e, Option.bind_some, zps _ _ (by simp; omega)]
  rfl
theorem zpG (n : Nat) (hn : 1 ≤ n) : ∀ (f : Nat) (l : List Int), (ZC n f l).length ≤ l.length
  | 0, l => by simp [ZC]
  | f + 1, [] => by simp [ZC]
  | f + 1, x :: l => by
    have := zpG n hn f ((x :: l).drop n)
    simp only [ZC, List.length_cons, List.length_drop] at this ⊢
    omega
theorem ziY (n : Nat) : ∀ (f : Nat) (l c : List Int), c ∈ ZC n f l → c.length ≤ l.length
  | 0, l, c, h => by simp [ZC] at h
  | f + 1, [], c, h => by simp [ZC] at h
  | f + 1, x :: l, c, h => by
    simp only [ZC, List.mem_cons] at h
    rcases h with rfl | h
    · rw [List.length_take]; exact Nat.min_le_right _ _
    · have := ziY n f _ c h
      simp only [List.length_drop] at this
      omega
def UM (p : zd) (w : Nat) : ze := ⟨0, 0, 0, (w : Int) + 1, 0, [], ⟨2, 0, Yd p ((w : Int) + 1), p.Cap, 0#64, 0#64, 0, 0⟩, ⟨0, 0, 0, 0, 0#64, 0, 0, 0⟩, ⟨0, 0, 0, 0, ⟨0, 0, 0, 0, 0#64, 0#64, 0, 0⟩, ⟨0, 0, 0, 0, 0#64, 0, 0, 0⟩, 0, 0⟩⟩
def WG (p : zd) (k : Nat) : List (BitVec 64) := (List.range k).flatMap fun _ => zjJ p.Cap
theorem zom (c : Int) : (zjJ c).length = c.toNat + 2 := by unfold zjJ; rw [List.length_append, List.length_replicate]; exact Nat.add_comm _ _
theorem zm8 (p : zd) (k : Nat) : WG p (k + 1) = WG p k ++ zjJ p.Cap := by unfold WG; rw [List.range_succ, List.flatMap_append]; simp
theorem zfs (p : zd) : ∀ k, (WG p k).length = k * (p.Cap.toNat + 2)
  | 0 => by simp [WG]
  | k + 1 => by rw [zm8, List.length_append, zfs p k, zom, Nat.succ_mul]
theorem zx3 {p : zd} {s1 : BitVec 64} {s5 : Int} {s6 : Int} {s7 : Int} {s8 : Int} {s9 : Int} {s10 : Int} {s11 : Int} {s12 : Int} {s13 : Int} {s14 : BitVec 64} {s15 : Int} {s16 : zq} {s17 : Int} {s18 : Int} {s19 : Bool} {s20 : Bool} {s21 : Int} {s22 : Int} {s23 : Int} {s24 : Int} {s25 : zp} {s26 : zd} {s27 : Int} {s28 : zq} {s29 : Int} {s30 : Int} {s31 : Bool} {s32 : Bool} {s33 : Int} {s34 : zk} {s35 : zp} {s36 : List (List Int)} {s37 : List (List Int)} {s38 : List (List zi)} {s39 : List zj} {s40 : List (List Int)} {s41 : List (BitVec 64)} {s42 : List (List Int)} {s43 : List Int} {s44 : List Int} {s45 : List ze} {s46 : List zb} {s47 : List (List Int)} {s49 : List (List Int)} {s50 : List Int} {s52 : List zb} (hp : zP p) :
    yo UO (s1, p.Workers, 0, p, s5, s6, s7, s8, s9, s10, s11, s12, s13, s14, s15, s16, s17, s18, s19, s20, s21, s22, s23, s24, s25, s26, s27, s28, s29, s30, s31, s32, s33, s34, s35, s36, s37, s38, s39, s40, s41, s42, s43, s44, s45, s46, s47, [], s49, s50, [], s52, ()) = some (.brk (s1, p, s5, s6, s7, s8, s9, s10, s11, s12, s13, s14, s15, s16, s17, s18, s19, s20, s21, s22, s23, s24, s25, s26, s27, s28, s29, s30, s31, s32, s33, s34, s35, s36, s37, s38, s39, s40, s41, s42, s43, s44, s45, s46, s47, (WG p p.Workers.toNat), s49, s50, ((List.range p.Workers.toNat).map (UM p)), s52, ())) := by
  have hw := hp.wk
  have hc := hp.cap
  refine (um (f := UO) (fun a => ∃ i : Nat, a = (s1, p.Workers, (i : Int), p, s5, s6, s7, s8, s9, s10, s11, s12, s13, s14, s15, s16, s17, s18, s19, s20, s21, s22, s23, s24, s25, s26, s27, s28, s29, s30, s31, s32, s33, s34, s35, s36, s37, s38, s39, s40, s41, s42, s43, s44, s45, s46, s47, (WG p i), s49, s50, ((List.range i).map (UM p)), s52, ()) ∧ (i : Int) ≤ p.Workers) (fun a => (p.Workers - a.2.2.1).toNat) (fun o => o = .brk (s1, p, s5, s6, s7, s8, s9, s10, s11, s12, s13, s14, s15, s16, s17, s18, s19, s20, s21, s22, s23, s24, s25, s26, s27, s28, s29, s30, s31, s32, s33, s34, s35, s36, s37, s38, s39, s40, s41, s42, s43, s44, s45, s46, s47, (WG p p.Workers.toNat), s49, s50, ((List.range p.Workers.toNat).map (UM p)), s52, ())) ?_ (s1, p.Workers, 0, p, s5, s6, s7, s8, s9, s10, s11, s12, s13, s14, s15, s16, s17, s18, s19, s20, s21, s22, s23, s24, s25, s26, s27, s28, s29, s30, s31, s32, s33, s34, s35, s36, s37, s38, s39, s40, s41, s42, s43, s44, s45, s46, s47, [], s49, s50, [], s52, ()) ⟨0, rfl, by omega⟩ (wq (by dsimp only; omega))).elim fun o h => ?_
  rotate_left
  · rw [h.1, h.2]
  · rintro _ ⟨i, rfl, hi⟩
    rw [zmY, zn]
    by_cases hlt : (i : Int) < p.Workers
    · have hl := zfs p i
      have hl2 := zom p.Cap
      have hb : i * (p.Cap.toNat + 2) ≤ 3 * 5 := Nat.mul_le_mul (by omega) (by omega)
      rw [if_pos hlt, ztK hc.1 (by omega), Option.bind_some, we (l := WG p i ++ zjJ p.Cap) (by rw [List.length_append]; omega), Option.bind_some, zdW, Option.bind_some, Vb, Option.bind_some, we (by simp <;> omega), Option.bind_some, xq (by omega)]
      refine ⟨_, rfl, ⟨i + 1, ?_, by omega⟩, ?_⟩
      · rw [zm8, List.range_succ, List.map_append]; rfl
      · show (p.Workers - ((i + 1 : Nat) : Int)).toNat < (p.Workers - (i : Int)).toNat
        omega
    · rw [if_neg hlt]
      have : i = p.Workers.toNat := by omega
      subst this
      exact ⟨_, rfl, rfl⟩
def Y5 (k : Nat) : List Int := (List.range k).map fun i : Nat => (i : Int) + 1
theorem zr3 (k : Nat) : (Y5 k).length = k := by simp [Y5]
theorem zxc {b : Int} {s1 : BitVec 64} {s4 : zd} {s5 : Int} {s6 : Int} {s7 : Int} {s8 : Int} {s9 : Int} {s10 : Int} {s11 : Int} {s12 : Int} {s13 : Int} {s14 : BitVec 64} {s15 : Int} {s16 : zq} {s17 : Int} {s18 : Int} {s19 : Bool} {s20 : Bool} {s21 : Int} {s22 : Int} {s23 : Int} {s24 : Int} {s25 : zp} {s26 : zd} {s27 : Int} {s28 : zq} {s29 : Int} {s30 : Int} {s31 : Bool} {s32 : Bool} {s33 : Int} {s34 : zk} {s35 : zp} {s37 : List (List Int)} {s38 : List (List Int)} {s39 : List (List zi)} {s40 : List zj} {s41 : List (List Int)} {s42 : List (BitVec 64)} {s43 : List (List Int)} {s44 : List Int} {s45 : List Int} {s46 : List ze} {s47 : List zb} {s48 : List (List Int)} {s49 : List (BitVec 64)} {s50 : List (List Int)} {s51 : List Int} {s52 : List ze} {s53 : List zb} (hb : 0 ≤ b ∧ b < 1000) :
    yo Uh (s1, b, 0, s4, s5, s6, s7, s8, s9, s10, s11, s12, s13, s14, s15, s16, s17, s18, s19, s20, s21, s22, s23, s24, s25, s26, s27, s28, s29, s30, s31, s32, s33, s34, s35, [], s37, s38, s39, s40, s41, s42, s43, s44, s45, s46, s47, s48, s49, s50, s51, s52, s53, ()) = some (.brk (s1, s4, s5, s6, s7, s8, s9, s10, s11, s12, s13, s14, s15, s16, s17, s18, s19, s20, s21, s22, s23, s24, s25, s26, s27, s28, s29, s30, s31, s32, s33, s34, s35, (Y5 b.toNat), s37, s38, s39, s40, s41, s42, s43, s44, s45, s46, s47, s48, s49, s50, s51, s52, s53, ())) := by
  refine (um (f := Uh) (fun a => ∃ i : Nat, a = (s1, b, (i : Int), s4, s5, s6, s7, s8, s9, s10, s11, s12, s13, s14, s15, s16, s17, s18, s19, s20, s21, s22, s23, s24, s25, s26, s27, s28, s29, s30, s31, s32, s33, s34, s35, (Y5 i), s37, s38, s39, s40, s41, s42, s43, s44, s45, s46, s47, s48, s49, s50, s51, s52, s53, ()) ∧ (i : Int) ≤ b) (fun a => (b - a.2.2.1).toNat) (fun o => o = .brk (s1, s4, s5, s6, s7, s8, s9, s10, s11, s12, s13, s14, s15, s16, s17, s18, s19, s20, s21, s22, s23, s24, s25, s26, s27, s28, s29, s30, s31, s32, s33, s34, s35, (Y5 b.toNat), s37, s38, s39, s40, s41, s42, s43, s44, s45, s46, s47, s48, s49, s50, s51, s52, s53, ())) ?_ (s1, b, 0, s4, s5, s6, s7, s8, s9, s10, s11, s12, s13, s14, s15, s16, s17, s18, s19, s20, s21, s22, s23, s24, s25, s26, s27, s28, s29, s30, s31, s32, s33, s34, s35, [], s37, s38, s39, s40, s41, s42, s43, s44, s45, s46, s47, s48, s49, s50, s51, s52, s53, ()) ⟨0, rfl, by omega⟩ (wq (by dsimp only; omega))).elim fun o h => ?_
  rotate_left
  · rw [h.1, h.2]
  · rintro _ ⟨i, rfl, hi⟩
    rw [zlK, zn]
    by_cases hlt : (i : Int) < b
    · have := zr3 i
      rw [if_pos hlt, we (by rw [List.length_append]; simp; omega), Option.bind_some, xq (by omega)]
      refine ⟨_, rfl, ⟨i + 1, ?_, by omega⟩, ?_⟩
      · unfold Y5; rw [List.range_succ, List.map_append]; rfl
      · show (b - ((i + 1 : Nat) : Int)).toNat < (b - (i : Int)).toNat
        omega
    · rw [if_neg hlt]
      have : i = b.toNat := by omega
      subst this
      exact ⟨_, rfl, rfl⟩
theorem ztW {s1 : zd} {s2 : Int} {s3 : Int} {s4 : Int} {s5 : Int} {s6 : Int} {s7 : Int} {s8 : Int} {s9 : Int} {s10 : Int} {s11 : BitVec 64} {s12 : Int} {s13 : zq} {s14 : Int} {s15 : Int} {s16 : Bool} {s17 : Bool} {s18 : Int} {s19 : Int} {s20 : Int} {s21 : Int} {s22 : zp} {s23 : zd} {s24 : Int} {s25 : zq} {s26 : Int} {s27 : Int} {s28 : Bool} {s29 : Bool} {s30 : Int} {s31 : zk} {s32 : zp} {s33 : List Int} {s34 : List (List Int)} {s35 : List (List Int)} {s36 : List (List zi)} {s37 : List zj} {s38 : List (List Int)} {s39 : List (BitVec 64)} {s40 : List (List Int)} {s41 : List Int} {s42 : List Int} {s43 : List ze} {s44 : List zb} {s45 : List (List Int)} {s46 : List (BitVec 64)} {s48 : List Int} {s49 : List ze} {s50 : List zb} : ∀ (ys acc : List (List Int)), acc.length + ys.length < 1000000 → (∀ c ∈ ys, c.length < 1000000) → ZQ zbH ys (s1, s2, s3, s4, s5, s6, s7, s8, s9, s10, s11, s12, s13, s14, s15, s16, s17, s18, s19, s20, s21, s22, s23, s24, s25, s26, s27, s28, s29, s30, s31, s32, s33, s34, s35, s36, s37, s38, s39, s40, s41, s42, s43, s44, s45, s46, acc, s48, s49, s50, ()) = some (s1, s2, s3, s4, s5, s6, s7, s8, s9, s10, s11, s12, s13, s14, s15, s16, s17, s18, s19, s20, s21, s22, s23, s24, s25, s26, s27, s28, s29, s30, s31, s32, s33, s34, s35, s36, s37, s38, s39, s40, s41, s42, s43, s44, s45, s46, (acc ++ ys), s48, s49, s50, ())
  | [], acc, _, _ => by simp [ZQ]
  | y :: ys, acc, h, hc => by
    simp only [List.length_cons] at h
    have hy := hc y (List.mem_cons_self ..)
    rw [ZQ, zlJ, ui (by omega), Option.bind_some, we (by simp <;> omega), Option.bind_some, Option.bind_some, ztW ys _ (by simp <;> omega) (fun c h' => hc c (List.mem_cons_of_mem _ h'))]
    simp
def vo (r : List Int) : zb := ⟨0, 0, 0, 0, 0, 0, 0, 0, r, [], [], ⟨0, 0, 0, 0, 0#64, 0, 0, 0⟩, ⟨0, 0, 0, 0, ⟨0, 0, 0, 0, 0#64, 0#64, 0, 0⟩, ⟨0, 0, 0, 0, 0#64, 0, 0, 0⟩, 0, 0⟩⟩
theorem zxp {p : zd} {s4 : Int} {s5 : Int} {s6 : Int} {s7 : Int} {s8 : Int} {s9 : Int} {s10 : Int} {s11 : Int} {s12 : Int} {s13 : BitVec 64} {s14 : Int} {s15 : zq} {s16 : Int} {s17 : Int} {s18 : Bool} {s19 : Bool} {s20 : Int} {s21 : Int} {s22 : Int} {s23 : Int} {s24 : zp} {s25 : zd} {s26 : Int} {s27 : List (BitVec 64)} {s28 : zq} {s29 : Int} {s30 : Int} {s31 : Bool} {s32 : Bool} {s33 : Int} {s34 : zk} {s35 : zp} {s36 : List (List Int)} {s37 : List (List Int)} {s38 : List (List zi)} {s39 : List zj} {s40 : List (List Int)} {s41 : List (BitVec 64)} {s42 : List (List Int)} {s43 : List Int} {s44 : List Int} {s45 : List ze} {s46 : List zb} {s47 : List (List Int)} {s48 : List (List Int)} {s49 : List Int} {s50 : List ze} (hl : p.Regs.length < 1000000) (hr : ∀ r ∈ p.Regs, r.length < 1000000) :
    yo V9 (p.Regs, (p.Regs.length : Int), 0, s4, s5, s6, s7, s8, s9, s10, s11, s12, s13, s14, s15, s16, s17, s18, s19, s20, s21, s22, s23, s24, s25, s26, s27, s28, s29, s30, s31, s32, s33, s34, s35, s36, s37, s38, s39, s40, s41, s42, s43, s44, s45, s46, s47, s48, s49, s50, [], ()) = some (.brk (s4, s5, s6, s7, s8, s9, s10, s11, s12, s13, s14, s15, s16, s17, s18, s19, s20, s21, s22, s23, s24, s25, s26, s27, s28, s29, s30, s31, s32, s33, s34, s35, s36, s37, s38, s39, s40, s41, s42, s43, s44, s45, s46, s47, s48, s49, s50, (p.Regs.map vo), ())) := by
  refine (um (f := V9) (fun a => ∃ i : Nat, a = (p.Regs, (p.Regs.length : Int), (i : Int), s4, s5, s6, s7, s8, s9, s10, s11, s12, s13, s14, s15, s16, s17, s18, s19, s20, s21, s22, s23, s24, s25, s26, s27, s28, s29, s30, s31, s32, s33, s34, s35, s36, s37, s38, s39, s40, s41, s42, s43, s44, s45, s46, s47, s48, s49, s50, ((p.Regs.take i).map vo), ()) ∧ i ≤ p.Regs.length) (fun a => p.Regs.length - a.2.2.1.toNat) (fun o => o = .brk (s4, s5, s6, s7, s8, s9, s10, s11, s12, s13, s14, s15, s16, s17, s18, s19, s20, s21, s22, s23, s24, s25, s26, s27, s28, s29, s30, s31, s32, s33, s34, s35, s36, s37, s38, s39, s40, s41, s42, s43, s44, s45, s46, s47, s48, s49, s50, (p.Regs.map vo), ())) ?_ (p.Regs, (p.Regs.length : Int), 0, s4, s5, s6, s7, s8, s9, s10, s11, s12, s13, s14, s15, s16, s17, s18, s19, s20, s21, s22, s23, s24, s25, s26, s27, s28, s29, s30, s31, s32, s33, s34, s35, s36, s37, s38, s39, s40, s41, s42, s43, s44, s45, s46, s47, s48, s49, s50, [], ()) ⟨0, rfl, by omega⟩ (wq (by dsimp only; omega))).elim fun o h => ?_
  rotate_left
  · rw [h.1, h.2]
  · rintro _ ⟨i, rfl, hi⟩
    rw [zlx, zn]
    rcases Nat.lt_or_ge i p.Regs.length with hlt | hge
    · have hx := List.getElem?_eq_getElem hlt
      have hh := hr _ (List.getElem_mem hlt)
      rw [if_pos (by omega), wI hx, Option.bind_some, ui (by omega), Option.bind_some, we (by simp <;> omega), Option.bind_some, xq (by omega)]
      refine ⟨_, rfl, ⟨i + 1, ?_, hlt⟩, ?_⟩
      · rw [List.take_add_one, hx, List.map_append]; rfl
      · show p.Regs.length - ((i + 1 : Nat) : Int).toNat < p.Regs.length - (i : Int).toNat
        omega
    · rw [if_neg (by omega)]
      have : i = p.Regs.length := by omega
      subst this
      exact ⟨_, rfl, by rw [List.take_length]⟩
def xK (p : zd) : Nat := (p.Most + p.Workers + p.Mutators).toNat
def uP (p : zd) : List (List Int) := ZC p.Bin.toNat (zdC (WH p)).length (zdC (WH p))
def Zc (p : zd) : za :=
  { P := p, H := p.H,
    M := zke (zke (WG p p.Workers.toNat ++ List.replicate (2 + xK p) 0#64) (vE p) (yT p) ((Y5 (xK p)).take (uP p).length)) (yT p) (yT p) ((Y5 (xK p)).drop (uP p).length),
    Bins := [[]] ++ uP p ++ List.replicate (xK p - (uP p).length) [],
    T := ⟨WH p, 0#64⟩, Work := cnt (WH p), Epoch := 0, Flag := false, Done := false, Restarts := 0,
    Acks := List.replicate p.Mutators.toNat 0, L := ⟨0, 0, 0, List.replicate p.Mutators.toNat 0⟩,
    Ws := (List.range p.Workers.toNat).map (UM p), Ms := p.Regs.map vo, D := ⟨0, 0⟩ }
theorem zyN : ∀ r : Fin 7, bit (r.1 : Int) &&& ~~~63#64 = 0#64 := by decide
theorem zv4 {r n : Int} (h : 0 ≤ r) (h2 : r ≤ n) (h3 : n ≤ 6) : bit r &&& ~~~zao n = 0#64 := by
  have := zq9 ⟨r.toNat, by omega⟩ ⟨n.toNat, by omega⟩ (by show r.toNat ≤ n.toNat; omega)
  simpa [Int.toNat_of_nonneg h, Int.toNat_of_nonneg (show 0 ≤ n by omega)] using this
theorem zsr {a b c : BitVec 64} (ha : a &&& ~~~c = 0#64) (hb : b &&& ~~~c = 0#64) : (a ||| b) &&& ~~~c = 0#64 := by
  apply BitVec.eq_of_getLsbD_eq
  intro i hi
  have h1 := congrArg (fun x => x.getLsbD i) ha
  have h2 := congrArg (fun x => x.getLsbD i) hb
  simp only [BitVec.getLsbD_and, BitVec.getLsbD_or, BitVec.getLsbD_not, BitVec.getLsbD_zero, hi, decide_true, Bool.true_and] at h1 h2 ⊢
  revert h1 h2
  generalize a.getLsbD i = x
  generalize b.getLsbD i = y
  generalize c.getLsbD i = z
  cases x <;> cases y <;> cases z <;> decide
theorem zuX {c : BitVec 64} {l : List Int} (h : ∀ o ∈ l, bit o &&& ~~~c = 0#64) : ∀ (z : BitVec 64), z &&& ~~~c = 0#64 → l.foldl (fun s o => s ||| bit o) z &&& ~~~c = 0#64 := by
  induction l with
  | nil => intro z hz; exact hz
  | cons a l ih => intro z hz; exact ih (fun o ho => h o (List.mem_cons_of_mem _ ho)) _ (zsr hz (h a (List.mem_cons_self ..)))
theorem zm7 {p : zd} (h : zP p) : WH p &&& ~~~zao (p.H.Objs.length : Int) = 0#64 := by
  have hn := h.n
  have key : ∀ (L : List (List Int)) (z : BitVec 64), (∀ r ∈ L, ∀ v ∈ r, 0 ≤ v ∧ v ≤ (p.H.Objs.length : Int)) → z &&& ~~~zao (p.H.Objs.length : Int) = 0#64 → L.foldl (fun s l => s ||| zo8 l) z &&& ~~~zao (p.H.Objs.length : Int) = 0#64 := by
    intro L
    induction L with
    | nil => intro z _ hz; exact hz
    | cons r L ih =>
      intro z hr hz
      refine ih _ (fun r' h' => hr r' (List.mem_cons_of_mem _ h')) (zsr hz (zuX (fun o ho => ?_) _ (by simp)))
      have := hr r (List.mem_cons_self ..) o ho
      exact zv4 this.1 this.2 hn.2
  exact key _ _ (fun r hr => (h.reg r hr).2) (zm1 h)
theorem ztJ {a b c : BitVec 64} (h : a &&& ~~~b = 0#64) (h2 : b &&& ~~~c = 0#64) : a &&& ~~~c = 0#64 := by
  apply BitVec.eq_of_getLsbD_eq
  intro i hi
  have h1 := congrArg (fun x => x.getLsbD i) h
  have h2 := congrArg (fun x => x.getLsbD i) h2
  simp only [BitVec.getLsbD_and, BitVec.getLsbD_not, BitVec.getLsbD_zero, hi, decide_true, Bool.true_and] at h1 h2 ⊢
  revert h1 h2
  generalize a.getLsbD i = x
  generalize b.getLsbD i = y
  generalize c.getLsbD i = z
  cases x <;> cases y <;> cases z <;> decide
theorem ztD : ∀ n : Fin 7, zao (n.1 : Int) &&& ~~~63#64 = 0#64 := by decide
theorem zmZ {p : zd} (h : zP p) : WH p &&& ~~~63#64 = 0#64 := by
  have hn := h.n
  refine ztJ (zm7 h) ?_
  exact ztD ⟨p.H.Objs.length, by omega⟩
theorem zuh : ∀ (n : Fin 7) (t : Fin 64), BitVec.ofNat 64 t.1 &&& ~~~zao (n.1 : Int) = 0#64 → (zdC (BitVec.ofNat 64 t.1)).length ≤ n.1 := by decide +kernel
theorem zlu {p : zd} (h : zP p) : (zdC (WH p)).length ≤ p.H.Objs.length := by
  have hn := h.n
  obtain ⟨t, ht⟩ := zr0 (zmZ h)
  have h2 := zm7 h
  rw [ht] at h2 ⊢
  exact zuh ⟨p.H.Objs.length, by omega⟩ t h2
theorem zrS {p : zd} (h : zP p) : (uP p).length ≤ p.H.Objs.length := by
  have hb := h.bin
  exact Nat.le_trans (zpG _ (by omega) _ _) (zlu h)
theorem zh1 {p : zd} (h : zP p) : YI p = some (Zc p, ()) := by
  have hw := h.wk
  have hc := h.cap
  have hm := h.mt
  have hb := h.bin
  have hn := h.n
  have hmo := h.most
  have hrl := h.regs
  have hreg : ∀ r ∈ p.Regs, r.length < 1000000 := fun r hr => by have := (h.reg r hr).1; omega
  have hobj : ∀ o ∈ p.H.Objs, o.length < 1000000 := fun o ho => by have := (h.objs o ho).1; have := h.slots; omega
  have hfl := zrS h
  have hgl := zlu h
  have hcl := zfs p p.Workers.toNat
  have hcb : p.Workers.toNat * (p.Cap.toNat + 2) ≤ 3 * 5 := Nat.mul_le_mul (by omega) (by omega)
  have hbn : (xK p : Int) = p.Most + p.Workers + p.Mutators := by unfold xK; omega
  have eb : zdY p = some ((xK p : Int), ()) := by
    rw [zqo, z9 (a := p.Most + p.Workers) (by omega) (by omega), z9 (by omega) (by omega), hbn]
  have hul := zr3 (xK p)
  have ec : VG (zdC (WH p)) p.Bin = some (uP p) := by
    show zg5 _ _ = _
    unfold zg5 uP
    have c1 : (decide (1 ≤ p.Bin) && decide (p.Bin < 1000000) && decide (((zdC (WH p)).length : Int) < 1000000)) = true := by simp <;> omega
    rw [c1]; rfl
  have cut1 : cut (Y5 (xK p)) 0 ((uP p).length : Int) = some ((Y5 (xK p)).take (uP p).length) := by
    unfold cut
    have : ((uP p).length : Int) ≤ ((Y5 (xK p)).length : Int) := by omega
    simp [this]
  have cut2 : cut (Y5 (xK p)) ((uP p).length : Int) ((Y5 (xK p)).length : Int) = some ((Y5 (xK p)).drop (uP p).length) := by
    unfold cut
    have : ((uP p).length : Int) ≤ ((Y5 (xK p)).length : Int) := by omega
    simp [this]
  rw [zql, zun h]
  simp only [Option.bind_some, Bool.not_true, cond_false]
  rw [zus (by omega) hreg]
  simp only [Option.bind_some, zvf, zu3 hm.1 (show p.Mutators ≤ 16 by omega)]
  rw [zll (by omega) hobj]
  simp only [Option.bind_some]
  rw [zx3 h]
  simp only [Option.bind_some, eb]
  have e3 : (2 + (xK p : Int)).toNat = 2 + xK p := by omega
  rw [z9 (a := 2 + (xK p : Int)) (by omega) (by omega), zqS (by omega) (by omega), e3, Option.bind_some, we (l := WG p p.Workers.toNat ++ List.replicate (2 + xK p) 0#64) (by simp <;> omega), Option.bind_some, zxc (by omega)]
  dsimp only [Option.bind_some]
  rw [Int.toNat_natCast, zwQ (zmZ h), Option.bind_some, ze8, zn, if_neg (by omega), Option.bind_some, ec, Option.bind_some, ztW _ _ (by simp <;> omega) (fun c hc' => by have := ziY _ _ _ _ hc'; omega)]
  dsimp only [Option.bind_some]
  have e1 : w64 ((([[]] ++ uP p : List (List Int)).length : Int) - 1) = ((uP p).length : Int) := by
    rw [z9 (by simp <;> omega) (by simp <;> omega)]; simp
  have e2 : w64 (((Y5 (xK p)).length : Int) - ((uP p).length : Int)) = ((xK p - (uP p).length : Nat) : Int) := by
    rw [z9 (by omega) (by omega)]; omega
  rw [e1, e2, zqS (by omega) (by omega), Int.toNat_natCast, Option.bind_some, we (by simp <;> omega), Option.bind_some, zca, Option.bind_some, UG, Option.bind_some, cut1, Option.bind_some, zq6 (by simp <;> omega) (by simp <;> omega), Option.bind_some, zax, Option.bind_some, Option.bind_some, cut2, Option.bind_some, zq6 (by rw [zn9]; simp <;> omega) (by simp <;> omega), Option.bind_some, decide_true, cond_true, zaW hm.1 (show p.Mutators < 4294967296 by omega), Option.bind_some, zxp (by omega) hreg]
  rfl
end
end Go.Pe.G
namespace Go.Pe.G
open Go.Pe
noncomputable section
theorem zig (h : BitVec 64) : yY h = ((h.toNat % 4294967296 : Nat) : Int) := by
  unfold yY
  have e : (h &&& 4294967295#64).toNat = h.toNat % 4294967296 := by
    rw [BitVec.toNat_and]
    exact Nat.and_two_pow_sub_one_eq_mod h.toNat 32
  rw [BitVec.toInt_eq_toNat_cond, e]
  omega
theorem zq4 (h : BitVec 64) : 0 ≤ yY h ∧ yY h < 4294967296 := by rw [zig]; omega
theorem zqR (v : BitVec 64) {n : Int} (h : 0 ≤ n) (h2 : n < 4294967296) : yY (WN v n) = n := by
  rw [zig]
  unfold WN
  rw [BitVec.toNat_or, BitVec.toNat_and, BitVec.toNat_shiftLeft]
  have e1 : (v.toNat <<< 32 % 2 ^ 64 ||| (BitVec.ofInt 64 n).toNat &&& (4294967295#64).toNat) % 2 ^ 32 = (v.toNat <<< 32 % 2 ^ 64) % 2 ^ 32 ||| ((BitVec.ofInt 64 n).toNat &&& (4294967295#64).toNat) % 2 ^ 32 := Nat.or_mod_two_pow
  have e2 : v.toNat <<< 32 % 2 ^ 64 % 2 ^ 32 = 0 := by rw [Nat.shiftLeft_eq]; omega
  have e3 : (BitVec.ofInt 64 n).toNat &&& (4294967295#64).toNat = n.toNat := by
    have : (BitVec.ofInt 64 n).toNat = n.toNat := by rw [BitVec.toNat_ofInt]; omega
    rw [this]
    exact (Nat.and_two_pow_sub_one_eq_mod n.toNat 32).trans (Nat.mod_eq_of_lt (by omega))
  rw [show (4294967296 : Nat) = 2 ^ 32 from rfl, e1, e2, e3, Nat.zero_or, Nat.mod_eq_of_lt (by omega)]
  omega
theorem zm5 {n : Int} (h : 0 ≤ n) (h2 : n < 4294967296) : (BitVec.ofInt 64 n).toInt = n := by
  have e : (BitVec.ofInt 64 n).toNat = n.toNat := by rw [BitVec.toNat_ofInt]; omega
  rw [BitVec.toInt_eq_toNat_cond, e]
  omega
theorem zog {m : List (BitVec 64)} {a b : Int} {v : BitVec 64} : ld (st m a v) b = if a = b ∧ 0 ≤ a ∧ a < m.length then v else ld m b := by
  unfold ld st
  by_cases hb : 0 ≤ b
  · rw [if_pos hb, if_pos hb]
    by_cases ha : 0 ≤ a
    · rw [if_pos ha, List.getD_eq_getElem?_getD, List.getD_eq_getElem?_getD, List.getElem?_set]
      by_cases hab : a.toNat = b.toNat
      · have e : a = b := by omega
        subst e
        by_cases hl : a.toNat < m.length
        · rw [if_pos rfl, if_pos hl, if_pos ⟨rfl, ha, by omega⟩]; rfl
        · rw [if_pos rfl, if_neg hl, if_neg (by omega), List.getElem?_eq_none (by omega)]
      · rw [if_neg hab, if_neg (by omega)]
    · rw [if_neg ha, if_neg (by omega)]
  · rw [if_neg hb, if_neg hb, if_neg (by omega)]
theorem zdl {m : List (BitVec 64)} {a b : Int} {v : BitVec 64} (h : a ≠ b) : ld (st m a v) b = ld m b := by
  rw [zog, if_neg (fun h' => h h'.1)]
theorem zbs {p : zd} (h : zP p) : vE p = p.Workers * (p.Cap + 2) ∧ 3 ≤ vE p ∧ vE p ≤ 15 := by
  have hw := h.wk
  have hc := h.cap
  unfold vE
  rw [ZW (a := p.Cap + 2) (by omega) (by omega)]
  have hx : p.Workers = 1 ∨ p.Workers = 2 ∨ p.Workers = 3 := by omega
  rcases hx with hx | hx | hx <;> rw [hx, ZW (by omega) (by omega)] <;> omega
theorem zc8 {p : zd} (h : zP p) : yT p = vE p + 1 := by
  have := zbs h
  unfold yT
  rw [ZW (by omega) (by omega)]
theorem zoe {p : zd} (h : zP p) {w : Int} (h1 : 1 ≤ w) (h2 : w ≤ p.Workers) : Yd p w = (w - 1) * (p.Cap + 2) ∧ 0 ≤ Yd p w ∧ Yd p w + p.Cap + 2 ≤ vE p := by
  have hw := h.wk
  have hc := h.cap
  have hf := (zbs h).1
  unfold Yd
  rw [ZW (a := p.Cap + 2) (by omega) (by omega), ZW (a := w - 1) (by omega) (by omega)]
  have hx : p.Workers = 1 ∨ p.Workers = 2 ∨ p.Workers = 3 := by omega
  have hy : w = 1 ∨ w = 2 ∨ w = 3 := by omega
  rw [hf]
  rcases hx with hx | hx | hx <;> rcases hy with hy | hy | hy <;> first | omega | (rw [hx, hy, ZW (by omega) (by omega)] <;> omega)
theorem zw4 {p : zd} (h : zP p) {d : zh} {w : Int} (h1 : 1 ≤ w) (h2 : w ≤ p.Workers) (hb : d.Base = Yd p w) (hc : d.Cap = p.Cap) (i : BitVec 64) :
    zbL d i = d.Base + 2 + ((i.toNat % p.Cap.toNat : Nat) : Int) ∧ d.Base + 2 ≤ zbL d i ∧ zbL d i < d.Base + 2 + p.Cap := by
  have hcp := h.cap
  have hd := zoe h h1 h2
  have hf := zbs h
  have hs : (UU d).toNat = p.Cap.toNat := by
    unfold UU
    rw [hc, if_neg (by omega), BitVec.toNat_ofInt]
    omega
  have hlt : i.toNat % p.Cap.toNat < p.Cap.toNat := Nat.mod_lt _ (by omega)
  have hm : (i % UU d).toInt = ((i.toNat % p.Cap.toNat : Nat) : Int) := by
    rw [BitVec.toInt_eq_toNat_cond, BitVec.toNat_umod, hs]
    omega
  unfold zbL
  rw [hm, ZW (a := d.Base + 2) (by omega) (by omega), ZW (by omega) (by omega)]
  omega
structure SOk (p : zd) (nb : Nat) (s : za) : Prop where
  P : s.P = p
  bins : s.Bins.length = nb
  nbk : 1 ≤ nb ∧ nb < 1000
  mem : s.M.length < 100000
  cF : yY (ld s.M (vE p)) < nb
  cE : yY (ld s.M (yT p)) < nb
  cL : ∀ a, yT p < a → 0 ≤ (ld s.M a).toInt ∧ (ld s.M a).toInt < nb
structure MOk (p : zd) (nb : Nat) (g : zB) : Prop where
  who : g.Mode = 1 → 1 ≤ g.Who ∧ g.Who ≤ p.Workers
  d3 : g.PC = 3 → g.D.Kind = 1 ∧ g.D.Base = Yd p g.Who ∧ g.D.Cap = p.Cap ∧ g.Mode = 1
  c5 : g.PC = 5 → g.C.Kind = 2 ∧ g.C.Head = yT p ∧ g.C.Next = yT p ∧ (1 ≤ g.C.PC → 1 ≤ yY g.C.H ∧ yY g.C.H < nb) ∧ (2 ≤ g.C.PC → 0 ≤ g.C.Y ∧ g.C.Y < nb)
  b6 : g.PC = 6 → 1 ≤ g.Bin ∧ g.Bin < nb
  c7 : g.PC = 7 → g.C.Kind = 1 ∧ g.C.Head = vE p ∧ g.C.Next = yT p ∧ (1 ≤ g.C.X ∧ g.C.X < nb) ∧ (1 ≤ g.C.PC → yY g.C.H < nb)
theorem SOk.gok {p : zd} {nb : Nat} {s : za} {g : zB} (h : zP p) (S : SOk p nb s) (M : MOk p nb g) : GOk s g := by
  have hc := h.cap
  refine ⟨by have := S.mem; omega, by have := S.bins; have := S.nbk; omega, fun h6 => ?_, fun h3 => ?_⟩
  · have := M.b6 h6; have := S.bins; omega
  · obtain ⟨a, b, c, _⟩ := M.d3 h3; exact ⟨a, by omega⟩
theorem SOk.low {p : zd} {nb : Nat} {s : za} (h : zP p) (S : SOk p nb s) {a : Int} (ha : a < vE p) (v : BitVec 64) : SOk p nb { s with M := st s.M a v } := by
  have he := zc8 h
  exact ⟨S.P, S.bins, S.nbk, by simp only [Vz]; exact S.mem, by simp only [zdl (show a ≠ vE p by omega)]; exact S.cF, by simp only [zdl (show a ≠ yT p by omega)]; exact S.cE, fun b hb => by
    simp only [zdl (show a ≠ b by omega)]; exact S.cL b hb⟩
theorem SOk.link {p : zd} {nb : Nat} {s : za} (h : zP p) (S : SOk p nb s) {a : Int} (ha : yT p < a) {v : BitVec 64} (hv : 0 ≤ v.toInt ∧ v.toInt < nb) : SOk p nb { s with M := st s.M a v } := by
  have he := zc8 h
  exact ⟨S.P, S.bins, S.nbk, by simp only [Vz]; exact S.mem, by simp only [zdl (show a ≠ vE p by omega)]; exact S.cF, by simp only [zdl (show a ≠ yT p by omega)]; exact S.cE, fun b hb => by
    simp only [zog]
    split
    · exact hv
    · exact S.cL b hb⟩
theorem SOk.head {p : zd} {nb : Nat} {s : za} (h : zP p) (S : SOk p nb s) {a : Int} (ha : a = vE p ∨ a = yT p) {v : BitVec 64} (hv : yY v < nb) : SOk p nb { s with M := st s.M a v } := by
  have he := zc8 h
  refine ⟨S.P, S.bins, S.nbk, by simp only [Vz]; exact S.mem, ?_, ?_, fun b hb => ?_⟩
  · simp only [zog]
    split
    · exact hv
    · exact S.cF
  · simp only [zog]
    split
    · exact hv
    · exact S.cE
  · simp only [zdl (show a ≠ b by omega)]; exact S.cL b hb
theorem SOk.swap {p : zd} {nb : Nat} {s : za} (h : zP p) (S : SOk p nb s) {a : Int} (ha : a = vE p ∨ a = yT p) (x : BitVec 64) {v : BitVec 64} (hv : yY v < nb) : SOk p nb { s with M := (sw s.M a x v).1 } := by
  unfold sw
  split
  · exact S.head h ha hv
  · exact S
theorem zsx {p : zd} {nb : Nat} {s : za} (h : zP p) (S : SOk p nb s) {c : zu} {hd : Int} (hdd : hd = vE p ∨ hd = yT p) (hk : c.Kind = 2) (hh : c.Head = hd) (hn : c.Next = yT p)
    (h1 : 1 ≤ c.PC → 1 ≤ yY c.H ∧ yY c.H < nb) (h2 : 2 ≤ c.PC → 0 ≤ c.Y ∧ c.Y < nb) (ho : c.Out ≠ 1) :
    SOk p nb { s with M := (zJ s.M c).1 } ∧ (zJ s.M c).2.Kind = 2 ∧ (zJ s.M c).2.Head = hd ∧ (zJ s.M c).2.Next = yT p ∧
    ((zJ s.M c).2.Out ≠ 1 → (zJ s.M c).2.Out ≠ 2 → (1 ≤ (zJ s.M c).2.PC → 1 ≤ yY (zJ s.M c).2.H ∧ yY (zJ s.M c).2.H < nb) ∧ (2 ≤ (zJ s.M c).2.PC → 0 ≤ (zJ s.M c).2.Y ∧ (zJ s.M c).2.Y < nb)) ∧
    ((zJ s.M c).2.Out = 1 → 1 ≤ (zJ s.M c).2.X ∧ (zJ s.M c).2.X < nb) := by
  have hnb := S.nbk
  have hE := zc8 h
  have hF := zbs h
  unfold zJ
  split
  · exact ⟨S, hk, hh, hn, fun _ _ => ⟨h1, h2⟩, fun e => absurd e ho⟩
  · split
    · rw [hh]
      have n1 := zq4 (ld s.M hd)
      have n2 : yY (ld s.M hd) < nb := by
        rcases hdd with e | e <;> rw [e]
        · exact S.cF
        · exact S.cE
      split
      · exact ⟨S, hk, rfl, hn, fun _ h => absurd rfl h, fun e => by cases e⟩
      · rename_i hne
        refine ⟨S, hk, rfl, hn, fun _ _ => ⟨fun _ => ⟨?_, n2⟩, fun e => absurd e (by dsimp only; omega)⟩, fun e => absurd e ho⟩
        have : yY (ld s.M hd) ≠ 0 := fun e => hne ⟨hk, e⟩
        dsimp only
        omega
    · split
      · try rw [if_pos hk]
        have hpc : 1 ≤ c.PC := by omega
        have n1 := h1 hpc
        refine ⟨S, hk, hh, hn, fun _ _ => ⟨fun _ => n1, fun _ => ?_⟩, fun e => absurd e ho⟩
        dsimp only
        rw [hn, ZW (by omega) (by omega)]
        exact S.cL _ (by omega)
      · rename_i g1 g2 g3
        have hpc : c.PC = 2 := by omega
        have n1 := h1 (by omega)
        have n2 := h2 (by omega)
        simp only [if_pos hk]
        refine ⟨S.swap h (by rw [hh]; exact hdd) _ (by rw [zqR _ n2.1 (by omega)]; exact n2.2), ?_⟩
        split
        · exact ⟨hk, hh, hn, fun e => absurd rfl e, fun _ => n1⟩
        · exact ⟨hk, hh, hn, fun _ _ => ⟨fun e => absurd e (by dsimp only; omega), fun e => absurd e (by dsimp only; omega)⟩, fun e => absurd e ho⟩
theorem zqv {p : zd} {nb : Nat} {s : za} (h : zP p) (S : SOk p nb s) {c : zu} {hd : Int} (hdd : hd = vE p ∨ hd = yT p) (hk : c.Kind = 1) (hh : c.Head = hd) (hn : c.Next = yT p) (hx : 1 ≤ c.X ∧ c.X < nb)
    (h1 : 1 ≤ c.PC → yY c.H < nb) :
    SOk p nb { s with M := (zJ s.M c).1 } ∧ (zJ s.M c).2.Kind = 1 ∧ (zJ s.M c).2.Head = hd ∧ (zJ s.M c).2.Next = yT p ∧ (1 ≤ (zJ s.M c).2.X ∧ (zJ s.M c).2.X < nb) ∧
    (1 ≤ (zJ s.M c).2.PC → yY (zJ s.M c).2.H < nb) := by
  have hnb := S.nbk
  have hE := zc8 h
  have hF := zbs h
  have hk2 : ¬ c.Kind = 2 := by omega
  unfold zJ
  split
  · exact ⟨S, hk, hh, hn, hx, h1⟩
  · split
    · rw [if_neg (fun e => hk2 e.1), hh]
      exact ⟨S, hk, rfl, hn, hx, fun _ => hdd.elim (fun e => by dsimp only; rw [e]; exact S.cF) (fun e => by dsimp only; rw [e]; exact S.cE)⟩
    · split
      · try rw [if_neg hk2]
        have hpc : 1 ≤ c.PC := by omega
        have n1 := h1 hpc
        have n2 := zq4 c.H
        refine ⟨?_, hk, hh, hn, hx, fun _ => n1⟩
        dsimp only
        rw [hn, ZW (by omega) (by omega)]
        exact S.link h (by omega) (by rw [zm5 (by omega) (by omega)]; omega)
      · have n1 := h1 (by omega)
        simp only [if_neg hk2]
        refine ⟨S.swap h (by rw [hh]; exact hdd) _ (by rw [zqR _ (by omega) (by omega)]; exact hx.2), ?_⟩
        split
        · exact ⟨hk, hh, hn, hx, fun _ => n1⟩
        · exact ⟨hk, hh, hn, hx, fun _ => n1⟩
theorem MOk.ask {p : zd} {nb : Nat} {g : zB} (hw : g.Mode = 1 → 1 ≤ g.Who ∧ g.Who ≤ p.Workers) : MOk p nb (zqb p g) :=
  ⟨hw, fun e => (by cases e), fun _ => ⟨rfl, rfl, rfl, fun e => absurd e (show ¬ (1 : Int) ≤ 0 by decide), fun e => absurd e (show ¬ (2 : Int) ≤ 0 by decide)⟩, fun e => (by cases e), fun e => (by cases e)⟩
theorem zpY {p : zd} {nb : Nat} {s : za} {g : zB} (h : zP p) (S : SOk p nb s) (M : MOk p nb g) (hout : g.PC = 5 → g.C.Out ≠ 1) : SOk p nb (zH s g).1 ∧ MOk p nb (zH s g).2 ∧ ((zH s g).2.PC = 5 → (zH s g).2.C.Out ≠ 1) := by
  have hP := S.P
  unfold zH
  split
  · exact ⟨S, M, hout⟩
  split
  · rename_i h7
    obtain ⟨a1, a2, a3, a4, a5⟩ := M.c7 h7
    obtain ⟨b1, b2, b3, b4, b5, b6⟩ := zqv h S (.inl rfl) a1 a2 a3 a4 a5
    unfold zgJ
    refine ⟨b1, ?_, ?_⟩
    · dsimp only
      split <;> exact ⟨M.who, fun e => (by dsimp only at e; omega), fun e => (by dsimp only at e; omega), fun e => (by dsimp only at e; omega), fun _ => ⟨b2, b3, b4, b5, b6⟩⟩
    · dsimp only
      split <;> exact fun e => by dsimp only at e; omega
  split
  · rename_i h6
    obtain ⟨a1, a2⟩ := M.b6 h6
    unfold zxb
    refine ⟨⟨hP, by simp only [List.length_set]; exact S.bins, S.nbk, S.mem, S.cF, S.cE, S.cL⟩, ⟨M.who, fun e => (by cases e), fun e => (by cases e), fun e => (by cases e), fun _ => ⟨rfl, by rw [hP], by rw [hP], ⟨a1, a2⟩, fun e => absurd e (show ¬ (1 : Int) ≤ 0 by decide)⟩⟩, fun e => by cases e⟩
  split
  · rename_i h5
    obtain ⟨a1, a2, a3, a4, a5⟩ := M.c5 h5
    obtain ⟨b1, b2, b3, b4, b5, b6⟩ := zsx h S (.inr rfl) a1 a2 a3 a4 a5 (hout h5)
    unfold zml
    refine ⟨b1, ?_, ?_⟩
    · dsimp only
      split
      · rename_i e1
        exact ⟨M.who, fun e => (by cases e), fun e => (by cases e), fun _ => b6 e1, fun e => (by cases e)⟩
      · split
        · rw [hP]; exact MOk.ask M.who
        · rename_i e1 e2
          exact ⟨M.who, fun e => (by dsimp only at e; omega), fun _ => ⟨b2, b3, b4, b5 e1 e2⟩, fun e => (by dsimp only at e; omega), fun e => (by dsimp only at e; omega)⟩
    · dsimp only
      split
      · exact fun e => by cases e
      · split
        · exact fun _ e => by cases e
        · rename_i e1 e2; exact fun _ => e1
  split
  · rw [hP]
    exact ⟨⟨rfl, S.bins, S.nbk, S.mem, S.cF, S.cE, S.cL⟩, MOk.ask M.who, fun _ e => by cases e⟩
  split
  · rename_i h3
    obtain ⟨a1, a2, a3, a4⟩ := M.d3 h3
    have hw := M.who a4
    obtain ⟨d1, d2, d3⟩ := zoe h hw.1 hw.2
    have hc := h.cap
    have hf := zbs h
    have hs : SOk p nb { s with M := (Zo s.M g.D).1 } := by
      unfold Zo
      split
      · exact S
      split
      · exact S
      split
      · exact S
      split
      · have := zw4 h hw.1 hw.2 a2 a3 g.D.B
        exact S.low h (by omega) _
      · dsimp only
        rw [ZW (by omega) (by omega)]
        exact S.low h (by omega) _
    have hd : (Zo s.M g.D).2.Kind = 1 ∧ (Zo s.M g.D).2.Base = Yd p g.Who ∧ (Zo s.M g.D).2.Cap = p.Cap := by
      unfold Zo
      split
      · exact ⟨a1, a2, a3⟩
      split
      · exact ⟨a1, a2, a3⟩
      split
      · dsimp only
        split <;> exact ⟨a1, a2, a3⟩
      split <;> exact ⟨a1, a2, a3⟩
    unfold zmv
    refine ⟨hs, ?_, ?_⟩
    · dsimp only
      split
      · exact ⟨M.who, fun _ => ⟨hd.1, hd.2.1, hd.2.2, a4⟩, fun e => (by dsimp only at e; omega), fun e => (by dsimp only at e; omega), fun e => (by dsimp only at e; omega)⟩
      · split
        · rw [hP]; exact MOk.ask M.who
        · exact ⟨M.who, fun _ => ⟨hd.1, hd.2.1, hd.2.2, a4⟩, fun e => (by dsimp only at e; omega), fun e => (by dsimp only at e; omega), fun e => (by dsimp only at e; omega)⟩
    · dsimp only
      split
      · exact fun e => by dsimp only at e; omega
      · split
        · exact fun _ e => by cases e
        · exact fun e => by dsimp only at e; omega
  split
  · rename_i h2
    exact ⟨⟨hP, S.bins, S.nbk, S.mem, S.cF, S.cE, S.cL⟩, ⟨M.who, fun e => (by dsimp only at e; omega), fun e => (by dsimp only at e; omega), fun e => (by dsimp only at e; omega), fun e => (by dsimp only at e; omega)⟩, fun e => by dsimp only at e; omega⟩
  split
  · unfold zoh
    refine ⟨⟨hP, S.bins, S.nbk, S.mem, S.cF, S.cE, S.cL⟩, ?_, ?_⟩
    · dsimp only
      split
      · exact ⟨M.who, fun e => (by cases e), fun e => (by cases e), fun e => (by cases e), fun e => (by cases e)⟩
      split
      · exact ⟨M.who, fun _ => ⟨rfl, by rw [hP], by rw [hP], by assumption⟩, fun e => (by cases e), fun e => (by cases e), fun e => (by cases e)⟩
      split
      · exact ⟨M.who, fun e => (by cases e), fun e => (by cases e), fun e => (by cases e), fun e => (by cases e)⟩
      · rw [hP]; exact MOk.ask M.who
    · dsimp only
      split
      · exact fun e => by cases e
      split
      · exact fun e => by cases e
      split
      · exact fun e => by cases e
      · exact fun _ e => by cases e
  · exact ⟨⟨hP, S.bins, S.nbk, S.mem, S.cF, S.cE, S.cL⟩, ⟨M.who, fun e => (by cases e), fun e => (by cases e), fun e => (by cases e), fun e => (by cases e)⟩, fun e => by cases e⟩
theorem znk (s : za) (g : zB) : (zH s g).2.Obj = g.Obj ∧ (zH s g).2.Who = g.Who ∧ (zH s g).2.Mode = g.Mode := by
  unfold zH
  split
  · exact ⟨rfl, rfl, rfl⟩
  split
  · unfold zgJ; dsimp only; split <;> exact ⟨rfl, rfl, rfl⟩
  split
  · exact ⟨rfl, rfl, rfl⟩
  split
  · unfold zml; dsimp only
    split
    · exact ⟨rfl, rfl, rfl⟩
    · split <;> exact ⟨rfl, rfl, rfl⟩
  split
  · exact ⟨rfl, rfl, rfl⟩
  split
  · unfold zmv; dsimp only
    split
    · exact ⟨rfl, rfl, rfl⟩
    · split <;> exact ⟨rfl, rfl, rfl⟩
  split
  · exact ⟨rfl, rfl, rfl⟩
  split
  · unfold zoh; dsimp only
    split
    · exact ⟨rfl, rfl, rfl⟩
    split
    · exact ⟨rfl, rfl, rfl⟩
    split <;> exact ⟨rfl, rfl, rfl⟩
  · exact ⟨rfl, rfl, rfl⟩
end
end Go.Pe.G
namespace Go.Pe.G
open Go.Pe
noncomputable section
def OkV (nb : Nat) (v : BitVec 64) : Prop := yY v < nb ∧ 0 ≤ v.toInt ∧ v.toInt < nb
theorem zsW {nb : Nat} (h : 1 ≤ nb) : OkV nb 0#64 := by
  refine ⟨by rw [zig]; simp; omega, by simp, by simp; omega⟩
theorem zpK {nb : Nat} {b : Int} (h : 0 ≤ b) (h2 : b < nb) (h3 : nb < 1000) : OkV nb (BitVec.ofInt 64 b) := by
  have e : (BitVec.ofInt 64 b).toNat = b.toNat := by rw [BitVec.toNat_ofInt]; omega
  refine ⟨by rw [zig, e]; omega, ?_⟩
  rw [zm5 h (by omega)]
  omega
theorem zq1 {b : Int} (h : 0 ≤ b) (h2 : b < 4294967296) : WN 0#64 b = BitVec.ofInt 64 b := by
  have e : (BitVec.ofInt 64 b).toNat = b.toNat := by rw [BitVec.toNat_ofInt]; omega
  apply BitVec.eq_of_toNat_eq
  unfold WN
  rw [BitVec.toNat_or, BitVec.toNat_and, e]
  have : b.toNat &&& (4294967295#64).toNat = b.toNat := (Nat.and_two_pow_sub_one_eq_mod b.toNat 32).trans (Nat.mod_eq_of_lt (by omega))
  rw [this]
  simp
def Y4 (F : Int) (nb : Nat) (m : List (BitVec 64)) : Prop := ∀ a, F ≤ a → OkV nb (ld m a)
theorem Y4.st {F : Int} {nb : Nat} {m : List (BitVec 64)} (h : Y4 F nb m) (a : Int) {v : BitVec 64} (hv : OkV nb v) : Y4 F nb (st m a v) := fun b hb => by
  rw [zog]
  split
  · exact hv
  · exact h b hb
theorem Y4.links {F : Int} {nb : Nat} (h1 : 1 ≤ nb) (h3 : nb < 1000) : ∀ (l : List Int) (m : List (BitVec 64)) (n : Int), (∀ b ∈ l, 0 ≤ b ∧ b < nb) → Y4 F nb m → Y4 F nb (links m n l)
  | [], m, n, _, h => h
  | [a], m, n, _, h => h.st _ (zsW h1)
  | a :: b :: l, m, n, hb, h => Y4.links h1 h3 (b :: l) _ n (fun x hx => hb x (List.mem_cons_of_mem _ hx)) (h.st _ (zpK (hb b (by simp)).1 (hb b (by simp)).2 h3))
theorem Y4.lay {F : Int} {nb : Nat} (h1 : 1 ≤ nb) (h3 : nb < 1000) {l : List Int} {m : List (BitVec 64)} {hd n : Int} (hb : ∀ b ∈ l, 0 ≤ b ∧ b < nb) (h : Y4 F nb m) : Y4 F nb (zke m hd n l) := by
  unfold zke
  refine (Y4.links h1 h3 l m n hb h).st _ ?_
  cases l with
  | nil => rw [List.headD_nil, zq1 (by omega) (by omega)]; exact zpK (by omega) (by omega) h3
  | cons a r =>
    have := hb a (by simp)
    rw [List.headD_cons, zq1 this.1 (by omega)]
    exact zpK this.1 this.2 h3
theorem zsv {k : Nat} {b : Int} (h : b ∈ Y5 k) : 1 ≤ b ∧ b ≤ k := by
  unfold Y5 at h
  obtain ⟨i, hi, rfl⟩ := List.mem_map.1 h
  have := List.mem_range.1 hi
  omega
theorem zrT {p : zd} (h : zP p) : (xK p : Int) = p.Most + p.Workers + p.Mutators ∧ 2 ≤ xK p ∧ xK p ≤ 14 := by
  have := h.most
  have := h.n
  have := h.wk
  have := h.mt
  unfold xK
  omega
theorem zua {p : zd} (h : zP p) : SOk p (xK p + 1) (Zc p) := by
  have hb := zrT h
  have hf := zrS h
  have hn := h.n
  have hw := h.wk
  have hc := h.cap
  have hmo := h.most
  have hF := zbs h
  have hE := zc8 h
  have hcl := zfs p p.Workers.toNat
  have hfe : vE p = ((p.Workers.toNat * (p.Cap.toNat + 2) : Nat) : Int) := by
    rw [hF.1]
    have e1 : p.Workers = ((p.Workers.toNat : Nat) : Int) := by omega
    have e2 : p.Cap + 2 = ((p.Cap.toNat + 2 : Nat) : Int) := by omega
    rw [e2, Int.natCast_mul]
    rw [← e1]
  have h0 : Y4 (vE p) (xK p + 1) (WG p p.Workers.toNat ++ List.replicate (2 + xK p) 0#64) := by
    intro a ha
    have : ld (WG p p.Workers.toNat ++ List.replicate (2 + xK p) 0#64) a = 0#64 := by
      unfold ld
      rw [if_pos (by omega), List.getD_eq_getElem?_getD, List.getElem?_append_right (by omega), List.getElem?_replicate]
      split <;> rfl
    rw [this]
    exact zsW (by omega)
  have h1 : Y4 (vE p) (xK p + 1) (Zc p).M := by
    refine Y4.lay (by omega) (by omega) (fun b hb' => ?_) (Y4.lay (by omega) (by omega) (fun b hb' => ?_) h0)
    · have := zsv (List.mem_of_mem_drop hb'); omega
    · have := zsv (List.mem_of_mem_take hb'); omega
  have hlen : (Zc p).M.length = p.Workers.toNat * (p.Cap.toNat + 2) + (2 + xK p) := by
    show (zke _ _ _ _).length = _
    rw [zn9, zn9, List.length_append, hcl, List.length_replicate]
  refine ⟨rfl, ?_, by omega, by rw [hlen]; omega, (h1 _ (by omega)).1, (h1 _ (by omega)).1, fun a ha => (h1 a (by omega)).2⟩
  have hd : (Zc p).Bins.length = 1 + (uP p).length + (xK p - (uP p).length) := by
    show ([[]] ++ uP p ++ List.replicate (xK p - (uP p).length) ([] : List Int)).length = _
    rw [List.length_append, List.length_append, List.length_replicate]; rfl
  have h2 := hb.1
  have hmt := h.mt
  rw [hd]
  omega
def zoi (mode obj who : Int) : zB := ⟨0, mode, obj, who, ⟨0, 0, 0, 0, 0#64, 0#64, 0, 0⟩, ⟨0, 0, 0, 0, 0#64, 0, 0, 0⟩, 0, 0⟩
theorem zko (a b c : Int) : Uo a b c = some (zoi a b c, ()) := by rw [zpE]; rfl
end
end Go.Pe.G
namespace Go.Pe.G
open Go.Pe
noncomputable section
structure Zf (s : za) : Prop where
  m : s.M.length < 1000000
  bins : s.Bins.length < 1000000
  bin : ∀ x ∈ s.Bins, x.length < 1000000
  acks : s.Acks.length < 1000000
  bal : s.L.Bal.length < 1000000
  ws : s.Ws.length < 1000000
  w : ∀ x ∈ s.Ws, x.Batch.length < 1000000
  ms : s.Ms.length < 1000000
  mu : ∀ x ∈ s.Ms, x.Regs.length < 1000000 ∧ x.Buf.length < 1000000 ∧ x.Batch.length < 1000000
  objs : s.H.Objs.length < 1000000
  obj : ∀ x ∈ s.H.Objs, x.length < 1000000
  pobjs : s.P.H.Objs.length < 1000000
  pobj : ∀ x ∈ s.P.H.Objs, x.length < 1000000
  regs : s.P.Regs.length < 1000000
  reg : ∀ x ∈ s.P.Regs, x.length < 1000000
  progs : s.P.Progs.length < 1000000
  prog : ∀ x ∈ s.P.Progs, x.length < 1000000
  picks : s.P.Picks.length < 1000000
theorem UZ (m : List (BitVec 64)) (c : zu) : (zJ m c).1.length = m.length := by
  unfold zJ sw
  split
  · rfl
  split
  · rfl
  split
  · split <;> simp [Vz]
  · dsimp only; split <;> simp [Vz]
theorem zuF (m : List (BitVec 64)) (d : zh) : (Zo m d).1.length = m.length := by
  unfold Zo
  split
  · rfl
  split
  · rfl
  split
  · rfl
  split <;> simp [Vz]
theorem Vj (s : za) (g : zB) : ∃ m b t w f, (zH s g).1 = { s with M := m, Bins := b, T := t, Work := w, Flag := f } ∧ m.length = s.M.length ∧ b.length = s.Bins.length ∧
    (∀ x ∈ b, x ∈ s.Bins ∨ x = [g.Obj]) ∧ (t = s.T ∨ t = (zfQ s.T g.Obj).1) ∧ (w = s.Work ∨ w = wc (s.Work + 1) ∨ w = wc (s.Work - 1)) := by
  unfold zH
  split
  · exact ⟨s.M, s.Bins, s.T, s.Work, s.Flag, rfl, rfl, rfl, fun x h => .inl h, .inl rfl, .inl rfl⟩
  split
  · exact ⟨_, s.Bins, s.T, s.Work, s.Flag, rfl, UZ _ _, rfl, fun x h => .inl h, .inl rfl, .inl rfl⟩
  split
  · refine ⟨s.M, _, s.T, s.Work, s.Flag, rfl, rfl, by simp, fun x h => ?_, .inl rfl, .inl rfl⟩
    rcases List.mem_or_eq_of_mem_set h with h | h
    · exact .inl h
    · exact .inr h
  split
  · exact ⟨_, s.Bins, s.T, s.Work, s.Flag, rfl, UZ _ _, rfl, fun x h => .inl h, .inl rfl, .inl rfl⟩
  split
  · exact ⟨s.M, s.Bins, s.T, s.Work, true, rfl, rfl, rfl, fun x h => .inl h, .inl rfl, .inl rfl⟩
  split
  · exact ⟨_, s.Bins, s.T, s.Work, s.Flag, rfl, zuF _ _, rfl, fun x h => .inl h, .inl rfl, .inl rfl⟩
  split
  · exact ⟨s.M, s.Bins, s.T, _, s.Flag, rfl, rfl, rfl, fun x h => .inl h, .inl rfl, .inr (.inr rfl)⟩
  split
  · exact ⟨s.M, s.Bins, _, s.Work, s.Flag, rfl, rfl, rfl, fun x h => .inl h, .inr rfl, .inl rfl⟩
  · exact ⟨s.M, s.Bins, s.T, _, s.Flag, rfl, rfl, rfl, fun x h => .inl h, .inl rfl, .inr (.inl rfl)⟩
theorem zyA {s : za} {g : zB} (h : Zf s) : Zf (zH s g).1 := by
  obtain ⟨m, b, t, w, f, e, h1, h2, h3, _, _⟩ := Vj s g
  rw [e]
  refine ⟨by rw [h1]; exact h.m, by rw [h2]; exact h.bins, fun x hx => ?_, h.acks, h.bal, h.ws, h.w, h.ms, h.mu, h.objs, h.obj, h.pobjs, h.pobj, h.regs, h.reg, h.progs, h.prog, h.picks⟩
  rcases h3 x hx with h' | rfl
  · exact h.bin x h'
  · simp
theorem zvV {p : zd} (h : zP p) : Zf (Zc p) := by
  have S := zua h
  have hb := zrT h
  have hg := zlu h
  have hn := h.n
  have hm := h.mt
  have hw := h.wk
  have hs := h.slots
  have hrl := h.regs
  have hpl := h.progs
  have hobj : ∀ o ∈ p.H.Objs, o.length < 1000000 := fun o ho => by have := (h.objs o ho).1; omega
  have hreg : ∀ r ∈ p.Regs, r.length < 1000000 := fun r hr => by have := (h.reg r hr).1; omega
  refine ⟨by have := S.mem; omega, by rw [S.bins]; omega, fun x hx => ?_, ?_, ?_, ?_, fun x hx => ?_, ?_, fun x hx => ?_, by show p.H.Objs.length < _; omega, hobj, by show p.H.Objs.length < _; omega, hobj, by show p.Regs.length < _; omega, hreg, by show p.Progs.length < _; omega, fun x hx => ?_, ?_⟩
  · have hx : x ∈ [[]] ++ uP p ++ List.replicate (xK p - (uP p).length) [] := hx
    rcases List.mem_append.1 hx with hx | hx
    · rcases List.mem_append.1 hx with hx | hx
      · simp at hx; subst hx; simp
      · have := ziY _ _ _ _ hx; omega
    · have := (List.mem_replicate.1 hx).2; subst this; simp
  · show (List.replicate p.Mutators.toNat (0 : Int)).length < _; simp; omega
  · show (List.replicate p.Mutators.toNat (0 : Int)).length < _; simp; omega
  · show ((List.range p.Workers.toNat).map (UM p)).length < _; simp; omega
  · have hx : x ∈ (List.range p.Workers.toNat).map (UM p) := hx
    obtain ⟨i, _, rfl⟩ := List.mem_map.1 hx
    simp [UM]
  · show (p.Regs.map vo).length < _; simp; omega
  · have hx : x ∈ p.Regs.map vo := hx
    obtain ⟨r, hr, rfl⟩ := List.mem_map.1 hx
    exact ⟨hreg r hr, by simp [vo], by simp [vo]⟩
  · obtain ⟨i, hi⟩ := List.getElem?_of_mem hx
    have hlt := (List.getElem?_eq_some_iff.1 hi).1
    have := (h.prog i _ x (List.getElem?_eq_getElem (by have : p.Progs.length = p.Regs.length := by omega
                                                        have hlt : i < p.Progs.length := hlt
                                                        omega)) hi).1
    omega
  · show p.Picks.length < _; rw [h.picks]; simp
end
end Go.Pe.G
namespace Go.Pe.G
open Go.Pe
noncomputable section
theorem XU {α B C : Type} {f : List α × List α × Int × Int × Unit → Option (y0 (List α × List α × Int × Int × Unit) B C)} {l : List α} {b : B} (hl : l.length < 1000000)
    (h1 : ∀ (i : Nat) (x : α), l[i]? = some x → f (l, l, (l.length : Int), (i : Int), ()) = some (.again (l, l, (l.length : Int), ((i + 1 : Nat) : Int), ())))
    (h2 : f (l, l, (l.length : Int), (l.length : Int), ()) = some (.brk b)) : yo f (l, l, (l.length : Int), 0, ()) = some (.brk b) := by
  refine (um (f := f) (fun a => ∃ i : Nat, a = (l, l, (l.length : Int), (i : Int), ()) ∧ i ≤ l.length) (fun a => l.length - a.2.2.2.1.toNat) (fun o => o = .brk b) ?_ (l, l, (l.length : Int), 0, ()) ⟨0, rfl, by omega⟩ (wq (by dsimp only; omega))).elim fun o h => ?_
  rotate_left
  · rw [h.1, h.2]
  · rintro _ ⟨i, rfl, hi⟩
    rcases Nat.lt_or_ge i l.length with hlt | hge
    · refine ⟨_, h1 i _ (List.getElem?_eq_getElem hlt), ⟨i + 1, rfl, hlt⟩, ?_⟩
      show l.length - ((i + 1 : Nat) : Int).toNat < l.length - (i : Int).toNat
      omega
    · have : i = l.length := by omega
      subst this
      exact ⟨_, h2, rfl⟩
theorem xT {l : List (Int)} (hl : l.length < 1000000) : z6 l l = some (true, ()) := by
  rw [zeO, yf, if_pos rfl, XU (b := ()) hl (fun i x hx => ?_) (by rw [Wp]; simp)]
  · rfl
  · have hlt := va hx
    rw [Wp, zn, if_pos hlt, wI hx, Option.bind_some, Option.bind_some, xq (by omega)]
    simp
theorem za5 {l : List (BitVec 64)} (hl : l.length < 1000000) : Ze l l = some (true, ()) := by
  rw [zaZ, yf, if_pos rfl, XU (b := ()) hl (fun i x hx => ?_) (by rw [ZR]; simp)]
  · rfl
  · have hlt := va hx
    rw [ZR, zn, if_pos hlt, wI hx, Option.bind_some, Option.bind_some, xq (by omega)]
    simp
theorem zcl {l : List (Int)} (hl : l.length < 1000000) : ZD l l = some (true, ()) := by
  rw [zce, yf, if_pos rfl, XU (b := ()) hl (fun i x hx => ?_) (by rw [YJ]; simp)]
  · rfl
  · have hlt := va hx
    rw [YJ, zn, if_pos hlt, wI hx, Option.bind_some, Option.bind_some, xq (by omega)]
    simp
theorem zae {l : List (zi)} (hl : l.length < 1000000) : uF l l = some (true, ()) := by
  rw [zai, yf, if_pos rfl, XU (b := ()) hl (fun i x hx => ?_) (by rw [Zt]; simp)]
  · rfl
  · have hlt := va hx
    rw [Zt, zn, if_pos hlt, wI hx, Option.bind_some, Option.bind_some, xq (by omega)]
    simp
theorem V5 {l : List (zj)} (hl : l.length < 1000000) : vF l l = some (true, ()) := by
  rw [V2, yf, if_pos rfl, XU (b := ()) hl (fun i x hx => ?_) (by rw [uI]; simp)]
  · rfl
  · have hlt := va hx
    rw [uI, zn, if_pos hlt, wI hx, Option.bind_some, Option.bind_some, xq (by omega)]
    simp
theorem wm {l : List (List Int)} (hl : l.length < 1000000) (he : ∀ x ∈ l, x.length < 1000000) : zr l l = some (true, ()) := by
  rw [vV, yf, if_pos rfl, XU (b := ()) hl (fun i x hx => ?_) (by rw [yU]; simp)]
  · rfl
  · have hlt := va hx
    rw [yU, zn, if_pos hlt, wI hx, Option.bind_some, Option.bind_some, xT (he x (List.mem_of_getElem? hx)), Option.bind_some, xq (by omega)]
    simp
theorem u0 {l : List (List zi)} (hl : l.length < 1000000) (he : ∀ x ∈ l, x.length < 1000000) : zX l l = some (true, ()) := by
  rw [xP, yf, if_pos rfl, XU (b := ()) hl (fun i x hx => ?_) (by rw [yw]; simp)]
  · rfl
  · have hlt := va hx
    rw [yw, zn, if_pos hlt, wI hx, Option.bind_some, Option.bind_some, zae (he x (List.mem_of_getElem? hx)), Option.bind_some, xq (by omega)]
    simp
theorem ztO {w : ze} (h : w.Batch.length < 1000000) : VU w w = some (true, ()) := by
  rw [zit, xT h]; simp
theorem zsI {m : zb} (h : m.Regs.length < 1000000 ∧ m.Buf.length < 1000000 ∧ m.Batch.length < 1000000) : Vd m m = some (true, ()) := by
  rw [zhv, xT h.1, xT h.2.1, xT h.2.2, zfO]; simp
theorem ve {l : List (ze)} (hl : l.length < 1000000) (he : ∀ x ∈ l, x.Batch.length < 1000000) : zU l l = some (true, ()) := by
  rw [xE, yf, if_pos rfl, XU (b := ()) hl (fun i x hx => ?_) (by rw [yp]; simp)]
  · rfl
  · have hlt := va hx
    rw [yp, zn, if_pos hlt, wI hx, Option.bind_some, Option.bind_some, ztO (he x (List.mem_of_getElem? hx)), Option.bind_some, xq (by omega)]
    simp
theorem wQ {l : List (zb)} (hl : l.length < 1000000) (he : ∀ x ∈ l, x.Regs.length < 1000000 ∧ x.Buf.length < 1000000 ∧ x.Batch.length < 1000000) : zL l l = some (true, ()) := by
  rw [xk, yf, if_pos rfl, XU (b := ()) hl (fun i x hx => ?_) (by rw [yh]; simp)]
  · rfl
  · have hlt := va hx
    rw [yh, zn, if_pos hlt, wI hx, Option.bind_some, Option.bind_some, zsI (he x (List.mem_of_getElem? hx)), Option.bind_some, xq (by omega)]
    simp
theorem zq2 {h : zw} (h1 : h.Objs.length < 1000000) (h2 : ∀ x ∈ h.Objs, x.length < 1000000) : uM h h = some (true, ()) := by
  rw [zqh, wm h1 h2]; simp
theorem zo6 {s : za} (h : Zf s) : Zz s s = some (true, ()) := by
  have hp : Zy s.P s.P = some (true, ()) := by
    rw [zqt, ziD, zq2 h.pobjs h.pobj, wm h.regs h.reg, u0 h.progs h.prog, V5 h.picks]
    simp
  have hl : uj s.L s.L = some (true, ()) := by
    rw [znU, zcl h.bal]; simp
  have hm : YA s.M s.M = some (true, ()) := by
    rw [zrA, za5 h.m]; rfl
  rw [zol, hp, zq2 h.objs h.obj, hm, wm h.bins h.bin, xT h.acks, hl, ve h.ws h.w, wQ h.ms h.mu]
  simp
end
end Go.Pe.G
namespace Go.Pe.G
open Go.Pe
noncomputable section
def goF {S : Type} (g : Nat → S → S) : Nat → Nat → S → S
  | _, 0, s => s
  | i, k + 1, s => goF g (i + 1) k (g i s)
theorem zrd {S : Type} {g : Nat → S → S} {Inv : S → Prop} (hg : ∀ i s, Inv s → Inv (g i s)) : ∀ (k i : Nat) (s : S), Inv s → Inv (goF g i k s)
  | 0, _, _, h => h
  | k + 1, i, s, h => zrd hg k (i + 1) _ (hg i s h)
theorem zxg {S σ B C : Type} {f : σ → Option (y0 σ B C)} (A : Int → S → σ) (b : S → B) (n : Nat) (hn : n < 1000000) (g : Nat → S → S) (Inv : S → Prop) (hg : ∀ i s, Inv s → Inv (g i s))
    (h1 : ∀ (i : Nat) s, i < n → Inv s → f (A (i : Int) s) = some (.again (A ((i + 1 : Nat) : Int) (g i s)))) (h2 : ∀ s, Inv s → f (A (n : Int) s) = some (.brk (b s))) {s : S} (hs : Inv s) :
    yo f (A 0 s) = some (.brk (b (goF g 0 n s))) := by
  have key : ∀ (k i : Nat) (s : S), n - i = k → i ≤ n → Inv s → ∀ m, k < m → uR f m (A (i : Int) s) = some (.brk (b (goF g i k s))) := by
    intro k
    induction k with
    | zero =>
      intro i s hk hi hs m hm
      have : i = n := by omega
      subst this
      obtain ⟨m, rfl⟩ : ∃ x, m = x + 1 := ⟨m - 1, by omega⟩
      simp only [uR]
      rw [h2 s hs]; rfl
    | succ k ih =>
      intro i s hk hi hs m hm
      obtain ⟨m, rfl⟩ : ∃ x, m = x + 1 := ⟨m - 1, by omega⟩
      simp only [uR]
      rw [h1 i s (by omega) hs, Option.bind_some]
      exact ih (i + 1) _ (by omega) (by omega) (hg i s hs) m (by omega)
  have := key n 0 s (by omega) (by omega) hs Wz (wq (by omega))
  rw [Uv]
  exact this
end
end Go.Pe.G
namespace Go.Pe.G
open Go.Pe
noncomputable section
def zic (m : List (BitVec 64)) (d : zh) : List (BitVec 64) × zh :=
  if d.PC < 0 ∨ 7 ≤ d.PC then (m, d)
  else if d.PC = 0 then (m, { d with B := ld m (wc (d.Base + 1)), PC := 1 })
  else if d.PC = 1 then (st m (wc (d.Base + 1)) (d.B - 1#64), { d with PC := 2 })
  else if d.PC = 2 then (m, { d with T := ld m d.Base, PC := if 0 < (ld m d.Base - (d.B - 1#64)).toInt then 5 else 3 })
  else if d.PC = 3 then (m, { d with X := (ld m (zbL d (d.B - 1#64))).toInt, PC := 4, Out := if d.T = d.B - 1#64 then d.Out else 1 })
  else if d.PC = 4 then ((sw m d.Base d.T (d.T + 1#64)).1, { d with PC := if (sw m d.Base d.T (d.T + 1#64)).2 then 6 else 5 })
  else if d.PC = 5 then (st m (wc (d.Base + 1)) d.B, { d with X := 0, Out := 2, PC := 6 })
  else (st m (wc (d.Base + 1)) d.B, { d with Out := 1, PC := 7 })
def zbr (m : List (BitVec 64)) (d : zh) : List (BitVec 64) × zh :=
  if d.PC < 0 ∨ 4 ≤ d.PC then (m, d)
  else if d.PC = 0 then (m, { d with T := ld m d.Base, PC := 1 })
  else if d.PC = 1 then (m, { d with B := ld m (wc (d.Base + 1)), PC := 2, Out := if 0 < (ld m (wc (d.Base + 1)) - d.T).toInt then d.Out else 2 })
  else if d.PC = 2 then (m, { d with X := (ld m (zbL d d.T)).toInt, PC := 3 })
  else ((sw m d.Base d.T (d.T + 1#64)).1, if (sw m d.Base d.T (d.T + 1#64)).2 then { d with Out := 1, PC := 4 } else { d with X := 0, Out := 4, PC := 4 })
def wF (m : List (BitVec 64)) (d : zh) : List (BitVec 64) × zh :=
  if d.Out ≠ 0 then (m, d) else if d.Kind = 1 then Zo m d else if d.Kind = 2 then zic m d else if d.Kind = 3 then zbr m d else (m, d)
theorem ztG {m : List (BitVec 64)} {d : zh} (h : d.Kind = 1) : wF m d = Zo m d := by
  unfold wF
  by_cases h0 : d.Out ≠ 0
  · rw [if_pos h0]; unfold Zo; rw [if_pos (.inl h0)]
  · rw [if_neg h0, if_pos h]
theorem zt5 {α : Type} {x y : Option α} {v : α} (h : x = some v) : Option.or x y = some v := by subst h; rfl
theorem zf5 {α : Type} {x y z : Option α} (h : x = none) (h2 : y = z) : Option.or x y = z := by subst h; exact h2
theorem zw1 : wc 1 = 1 ∧ wc 2 = 2 ∧ wc 3 = 3 ∧ wc 4 = 4 ∧ wc 5 = 5 ∧ wc 6 = 6 ∧ wc 7 = 7 := by decide
theorem zvK : w64 5 = 5 ∧ w64 6 = 6 ∧ w64 7 = 7 := by
  refine ⟨?_, ?_, ?_⟩ <;> exact z9 (by omega) (by omega)
theorem zuP {m : List (BitVec 64)} (hm : m.length < 4294967296) {d : zh} (hc : d.Cap < 1000) : Uu m d = some ((wF m d).1, (wF m d).2, ()) := by
  by_cases k1 : d.Kind = 1
  · rw [ztG k1]; exact zia hm k1 hc
  obtain ⟨w0, w1, w2, w3, w4⟩ := zsp
  obtain ⟨w5, w6, w7⟩ := zvK
  obtain ⟨v1, v2, v3, v4, v5, v6, v7⟩ := zw1
  have hsb : ∀ d : zh, wv m d = some (m, { d with B := ld m (wc (d.Base + 1)) }, ()) := fun d => by
    rw [Xr, xm, yS, Option.bind_some, XS]; rfl
  have htk : ∀ d : zh, Yo m d = some ((sw m d.Base d.T (d.T + 1#64)).1, (sw m d.Base d.T (d.T + 1#64)).2, ()) := fun d => by
    obtain ⟨v, hv⟩ := zpQ hm d.Base d.T (d.T + 1#64)
    rw [zho, Zv, Option.bind_some, hv]; rfl
  rw [zij, zfe, zmz, zmG, zmV]
  simp only [zn, yf, if_neg k1]
  unfold wF
  by_cases k2 : d.Kind = 2
  · refine zf5 (by simp [k2]) (zt5 ?_)
    rw [if_pos k2, Option.bind_some]
    by_cases g0 : d.Out = 0
    rotate_left
    · rw [if_neg g0, if_pos (show d.Out ≠ 0 from g0)]
    rw [if_pos g0, if_neg (show ¬ (d.Out ≠ 0) from fun e => e g0), if_neg k1, if_pos k2]
    unfold zic
    by_cases g1 : d.PC < 0
    · rw [if_pos g1, if_pos (.inl g1)]
    rw [if_neg g1]
    by_cases g2 : 7 ≤ d.PC
    · rw [if_pos g2, if_pos (.inr g2)]
    rw [if_neg g2, if_neg (show ¬ (d.PC < 0 ∨ 7 ≤ d.PC) by omega)]
    have hpc : d.PC = 0 ∨ d.PC = 1 ∨ d.PC = 2 ∨ d.PC = 3 ∨ d.PC = 4 ∨ d.PC = 5 ∨ d.PC = 6 := by omega
    rcases hpc with h | h | h | h | h | h | h
    · simp [h, hsb, w1]
    · simp [h, zgy, xm, yS, zap hm, v1, v2, v3, v4, v5, v6, v7]
    · rw [h, if_neg (by decide), if_neg (by decide), if_neg (by decide), if_neg (by decide), if_pos rfl, if_neg (by decide), if_neg (by decide), if_pos rfl]
      simp only [zdA, Zv, Option.bind_some, XS, zga, zn]
      by_cases hs : 0 < (ld m d.Base - (d.B - 1#64)).toInt
      · simp only [if_pos hs, Option.bind_some, Int.reduceAdd, w5]
      · simp only [if_neg hs, Option.bind_some, h, Int.reduceAdd, w3]
    · simp only [h, zfp, zi8 hc, Option.bind_some, XS, yf, x8]
      by_cases hs : d.T = d.B - 1#64
      · simp [hs, w4, h]
      · simp [hs, w4, h]
    · simp only [h, zeY, htk, Option.bind_some]
      cases hs : (sw m d.Base d.T (d.T + 1#64)).2 with
      | true => simp [hs, w6, h]
      | false => simp [hs, w5, h]
    · simp [h, ze0, x8, k1, xm, yS, zap hm, v1, v2, v3, v4, v5, v6, v7]
    · simp [h, zfn, x8, xm, yS, zap hm, v1, v2, v3, v4, v5, v6, v7]
  by_cases k3 : d.Kind = 3
  · refine zf5 (by simp [k2, k3]) (zf5 (by simp [k2, k3]) (zt5 ?_))
    rw [if_neg k2, if_pos k3, Option.bind_some]
    by_cases g0 : d.Out = 0
    rotate_left
    · rw [if_neg g0, if_pos (show d.Out ≠ 0 from g0)]
    rw [if_pos g0, if_neg (show ¬ (d.Out ≠ 0) from fun e => e g0), if_neg k1, if_neg k2, if_pos k3]
    unfold zbr
    by_cases g1 : d.PC < 0
    · rw [if_pos g1, if_pos (.inl g1)]
    rw [if_neg g1]
    by_cases g2 : 4 ≤ d.PC
    · rw [if_pos g2, if_pos (.inr g2)]
    rw [if_neg g2, if_neg (show ¬ (d.PC < 0 ∨ 4 ≤ d.PC) by omega)]
    have hpc : d.PC = 0 ∨ d.PC = 1 ∨ d.PC = 2 ∨ d.PC = 3 := by omega
    rcases hpc with h | h | h | h
    · simp [h, zfL, Zv, XS, w1]
    · rw [h, if_neg (by decide), if_neg (by decide), if_pos rfl, if_neg (by decide), if_pos rfl]
      simp only [zfh, xm, Option.bind_some, XS, zga, yf, yS]
      by_cases hs : 0 < (ld m (wc (d.Base + 1)) - d.T).toInt
      · simp only [if_pos hs, Option.bind_some, Int.reduceAdd, v2, h]
      · simp only [if_neg hs, Option.bind_some, Int.reduceAdd, v2, h]
    · simp [h, ze4, zi8 hc, XS, w3]
    · simp only [h, zcZ, htk, Option.bind_some, x8]
      cases hs : (sw m d.Base d.T (d.T + 1#64)).2 with
      | true => simp [hs, w4, h]
      | false => simp [hs, w4, h, k1]
  · refine zf5 (by simp [k2, k3]) (zf5 (by simp [k2, k3]) (zf5 (by simp [k2, k3]) ?_))
    rw [if_neg k2, if_neg k3, Option.bind_some]
    by_cases g0 : d.Out = 0
    · simp [g0, k1, k2, k3]
    · simp [g0]
theorem zuD (m : List (BitVec 64)) (d : zh) : (zic m d).1.length = m.length ∧ (zic m d).2.Kind = d.Kind ∧ (zic m d).2.Base = d.Base ∧ (zic m d).2.Cap = d.Cap := by
  unfold zic sw st
  split
  · exact ⟨rfl, rfl, rfl, rfl⟩
  split
  · exact ⟨rfl, rfl, rfl, rfl⟩
  split
  · refine ⟨?_, rfl, rfl, rfl⟩; dsimp only; split <;> simp
  split
  · exact ⟨rfl, rfl, rfl, rfl⟩
  split
  · exact ⟨rfl, rfl, rfl, rfl⟩
  split
  · refine ⟨?_, rfl, rfl, rfl⟩; dsimp only; split <;> (try split) <;> simp
  split <;> (refine ⟨?_, rfl, rfl, rfl⟩; dsimp only; split <;> simp)
theorem zta (m : List (BitVec 64)) (d : zh) : (zbr m d).1.length = m.length ∧ (zbr m d).2.Kind = d.Kind ∧ (zbr m d).2.Base = d.Base ∧ (zbr m d).2.Cap = d.Cap := by
  unfold zbr sw st
  split
  · exact ⟨rfl, rfl, rfl, rfl⟩
  split
  · exact ⟨rfl, rfl, rfl, rfl⟩
  split
  · exact ⟨rfl, rfl, rfl, rfl⟩
  split
  · exact ⟨rfl, rfl, rfl, rfl⟩
  · refine ⟨?_, ?_, ?_, ?_⟩ <;> dsimp only <;> split <;> (try split) <;> simp
end
end Go.Pe.G
namespace Go.Pe.G
open Go.Pe
noncomputable section
def xB (h : zw) (o : Int) : List Int := h.Objs.getD (o - 1).toNat []
def VR (h : zw) (o s : Int) : Bool := decide (1 ≤ o) && decide (o ≤ (h.Objs.length : Int)) && decide (0 ≤ s) && decide (s < ((xB h o).length : Int))
def UT (h : zw) (o s : Int) : Int := if VR h o s then (xB h o).getD s.toNat 0 else 0
def zqB (s : BitVec 64) (o : Int) : Bool := !(decide (s &&& bit o = 0#64))
def zg8 (t : zq) (o : Int) : Int := if zqB (t.Marks &&& t.Black) o then 2 else if zqB t.Marks o then 1 else 0
def zpj (t : zq) (o : Int) : zq := if zg8 t o = 1 then { t with Black := t.Black ||| bit o } else t
def zmn (l : zk) (who : Int) : zk :=
  if 1 ≤ who ∧ who ≤ (l.Bal.length : Int) then { l with Scanned := wc (l.Scanned + 1), Bal := l.Bal.set (who - 1).toNat (wc (l.Bal.getD (who - 1).toNat 0 + 1)) }
  else { l with Scanned := wc (l.Scanned + 1), Pool := wc (l.Pool + 1) }
def zks (s : za) (b : Int) : List Int := s.Bins.getD b.toNat []
def zwd (p : zd) (h x : Int) : zu := ⟨2, 0, h, yT p, 0#64, x, 0, 0⟩
def zuW (p : zd) (h x : Int) : zu := ⟨1, 0, h, yT p, 0#64, x, 0, 0⟩
def onW (s : za) (slot : Int) : Int := if slot = s.H.Slots then 8 else 5
def zok (p : zd) (w : Int) (x : ze) : ze := { x with PC := 0, Victim := w, D := ⟨2, 0, Yd p w, p.Cap, 0#64, 0#64, 0, 0⟩ }
def zfP (n v : Int) : Int := if v < n then v + 1 else 1
def zj8 (p : zd) (w : Int) (x : ze) : ze :=
  if zfP p.Workers x.Victim = w then { x with PC := 2, Victim := w, C := zwd p (vE p) 0 }
  else { x with PC := 1, Victim := zfP p.Workers x.Victim, D := ⟨3, 0, Yd p (zfP p.Workers x.Victim), p.Cap, 0#64, 0#64, 0, 0⟩ }
def yq (s : za) (w : Int) (x : ze) : za × ze :=
  if x.PC = 0 ∨ x.PC = 1 then
    ({ s with M := (wF s.M x.D).1 },
      if (wF s.M x.D).2.Out = 1 then { x with D := (wF s.M x.D).2, Victim := w, PC := 5, Obj := (wF s.M x.D).2.X, Slot := 0 }
      else if (wF s.M x.D).2.Out = 2 ∨ (wF s.M x.D).2.Out = 4 then zj8 s.P w { x with D := (wF s.M x.D).2 } else { x with D := (wF s.M x.D).2 })
  else if x.PC = 2 then
    ({ s with M := (zJ s.M x.C).1 },
      if (zJ s.M x.C).2.Out = 1 then { x with C := (zJ s.M x.C).2, Bin := (zJ s.M x.C).2.X, PC := 3 }
      else if (zJ s.M x.C).2.Out = 2 then zok s.P w { x with C := (zJ s.M x.C).2 } else { x with C := (zJ s.M x.C).2 })
  else if x.PC = 3 then ({ s with Bins := s.Bins.set x.Bin.toNat [] }, { x with Batch := zks s x.Bin, PC := 4, C := zuW s.P (yT s.P) x.Bin })
  else if x.PC = 4 then
    ({ s with M := (zJ s.M x.C).1 }, if (zJ s.M x.C).2.Out = 1 then { x with C := (zJ s.M x.C).2, Bin := 0, PC := 7 } else { x with C := (zJ s.M x.C).2 })
  else if x.PC = 5 then
    (s, if UT s.H x.Obj x.Slot = 0 then { x with Slot := wc (x.Slot + 1), PC := onW s (wc (x.Slot + 1)) } else { x with Slot := wc (x.Slot + 1), PC := 6, G := zoi 1 (UT s.H x.Obj x.Slot) w })
  else if x.PC = 6 then ((zH s x.G).1, if (zH s x.G).2.Out = 1 then { x with G := (zH s x.G).2, PC := onW s x.Slot } else { x with G := (zH s x.G).2 })
  else if x.PC = 7 then (s, match x.Batch with | [] => zok s.P w x | o :: l => { x with Batch := l, PC := 5, Obj := o, Slot := 0 })
  else if x.PC = 8 then ({ s with T := zpj s.T x.Obj, L := zmn s.L 0 }, { x with PC := 9 })
  else if x.PC = 9 then ({ s with Work := wc (s.Work - 1) }, { x with Obj := 0, PC := 7 })
  else (s, x)
def vK (s : za) (w : Int) : za :=
  if s.Done = true ∨ w < 1 ∨ (s.Ws.length : Int) < w then s
  else match s.Ws[(w - 1).toNat]? with
    | some x => { (yq s w x).1 with Ws := s.Ws.set (w - 1).toNat (yq s w x).2 }
    | none => s
structure zup (p : zd) (nb : Nat) (hd : Int) (c : zu) : Prop where
  k : c.Kind = 2
  h : c.Head = hd
  n : c.Next = yT p
  v : 1 ≤ c.PC → 1 ≤ yY c.H ∧ yY c.H < nb
  y : 2 ≤ c.PC → 0 ≤ c.Y ∧ c.Y < nb
  o : c.Out ≠ 1
structure zsz (p : zd) (nb : Nat) (hd : Int) (c : zu) : Prop where
  k : c.Kind = 1
  h : c.Head = hd
  n : c.Next = yT p
  x : 1 ≤ c.X ∧ c.X < nb
  v : 1 ≤ c.PC → yY c.H < nb
theorem ztS {p : zd} {nb : Nat} {hd x : Int} : zup p nb hd (zwd p hd x) :=
  ⟨rfl, rfl, rfl, fun e => absurd e (by show ¬ (1 : Int) ≤ 0; decide), fun e => absurd e (by show ¬ (2 : Int) ≤ 0; decide), by show (0 : Int) ≠ 1; decide⟩
theorem zsJ {p : zd} {nb : Nat} {hd x : Int} (h : 1 ≤ x ∧ x < nb) : zsz p nb hd (zuW p hd x) :=
  ⟨rfl, rfl, rfl, h, fun e => absurd e (by show ¬ (1 : Int) ≤ 0; decide)⟩
structure WOk (p : zd) (nb : Nat) (w : Int) (x : ze) : Prop where
  pc : 0 ≤ x.PC ∧ x.PC ≤ 9
  vic : 1 ≤ x.Victim ∧ x.Victim ≤ p.Workers
  d0 : x.PC = 0 → x.D.Kind = 2 ∧ x.D.Base = Yd p w ∧ x.D.Cap = p.Cap
  d1 : x.PC = 1 → x.D.Kind = 3 ∧ x.D.Base = Yd p x.Victim ∧ x.D.Cap = p.Cap
  c2 : x.PC = 2 → zup p nb (vE p) x.C
  b3 : x.PC = 3 → 1 ≤ x.Bin ∧ x.Bin < nb
  c4 : x.PC = 4 → zsz p nb (yT p) x.C
  g6 : x.PC = 6 → MOk p nb x.G ∧ (x.G.PC = 5 → x.G.C.Out ≠ 1) ∧ x.G.Mode = 1 ∧ x.G.PC ≠ 4
theorem WOk.plain {p : zd} {nb : Nat} {w : Int} {x : ze} (pc : x.PC = 5 ∨ x.PC = 7 ∨ x.PC = 8 ∨ x.PC = 9) (vic : 1 ≤ x.Victim ∧ x.Victim ≤ p.Workers) : WOk p nb w x :=
  ⟨by omega, vic, fun e => by omega, fun e => by omega, fun e => by omega, fun e => by omega, fun e => by omega, fun e => by omega⟩
theorem SOk.swLow {p : zd} {nb : Nat} {s : za} (h : zP p) (S : SOk p nb s) {a : Int} (ha : a < vE p) (x v : BitVec 64) : SOk p nb { s with M := (sw s.M a x v).1 } := by
  unfold sw
  split
  · exact S.low h ha v
  · exact S
theorem zyB {p : zd} {nb : Nat} {s : za} (h : zP p) (S : SOk p nb s) {d : zh} {v : Int} (hv : 1 ≤ v ∧ v ≤ p.Workers) (hk : d.Kind = 2 ∨ d.Kind = 3) (hb : d.Base = Yd p v) : SOk p nb { s with M := (wF s.M d).1 } := by
  have hd := zoe h hv.1 hv.2
  have hc := h.cap
  have hf := zbs h
  have e1 : wc (d.Base + 1) = d.Base + 1 := ZW (by omega) (by omega)
  unfold wF
  split
  · exact S
  split
  · omega
  split
  · unfold zic
    rw [e1]
    split
    · exact S
    split
    · exact S
    split
    · exact S.low h (by omega) _
    split
    · exact S
    split
    · exact S
    split
    · exact S.swLow h (by omega) _ _
    split <;> exact S.low h (by omega) _
  split
  · unfold zbr
    split
    · exact S
    split
    · exact S
    split
    · exact S
    split
    · exact S
    · exact S.swLow h (by omega) _ _
  · exact S
theorem znb (m : List (BitVec 64)) (d : zh) : (wF m d).1.length = m.length ∧ (wF m d).2.Kind = d.Kind ∧ (wF m d).2.Base = d.Base ∧ (wF m d).2.Cap = d.Cap := by
  unfold wF
  split
  · exact ⟨rfl, rfl, rfl, rfl⟩
  split
  · unfold Zo
    split
    · exact ⟨rfl, rfl, rfl, rfl⟩
    split
    · exact ⟨rfl, rfl, rfl, rfl⟩
    split
    · refine ⟨rfl, ?_, ?_, ?_⟩ <;> dsimp only <;> split <;> rfl
    split <;> exact ⟨Vz _ _ _, rfl, rfl, rfl⟩
  split
  · exact zuD m d
  split
  · exact zta m d
  · exact ⟨rfl, rfl, rfl, rfl⟩
theorem zwn {n v : Int} (h : 1 ≤ v ∧ v ≤ n) : 1 ≤ zfP n v ∧ zfP n v ≤ n := by unfold zfP; split <;> omega
theorem WOk.look {p : zd} {nb : Nat} {w : Int} {x : ze} (hw : 1 ≤ w ∧ w ≤ p.Workers) (vic : 1 ≤ x.Victim ∧ x.Victim ≤ p.Workers) : WOk p nb w (zj8 p w x) := by
  have hn := zwn vic
  unfold zj8
  split
  · exact ⟨⟨(by show (0 : Int) ≤ 2; decide), (by show (2 : Int) ≤ 9; decide)⟩, hw, fun e => (by cases e), fun e => (by cases e), fun _ => ztS, fun e => (by cases e), fun e => (by cases e), fun e => (by cases e)⟩
  · exact ⟨⟨(by show (0 : Int) ≤ 1; decide), (by show (1 : Int) ≤ 9; decide)⟩, hn, fun e => (by cases e), fun _ => ⟨rfl, rfl, rfl⟩, fun e => (by cases e), fun e => (by cases e), fun e => (by cases e), fun e => (by cases e)⟩
theorem WOk.begin {p : zd} {nb : Nat} {w : Int} {x : ze} (hw : 1 ≤ w ∧ w ≤ p.Workers) : WOk p nb w (zok p w x) :=
  ⟨⟨(by show (0 : Int) ≤ 0; decide), (by show (0 : Int) ≤ 9; decide)⟩, hw, fun _ => ⟨rfl, rfl, rfl⟩, fun e => (by cases e), fun e => (by cases e), fun e => (by cases e), fun e => (by cases e), fun e => (by cases e)⟩
theorem zt3 (s : za) {g : zB} (h1 : g.Mode = 1) (h4 : g.PC ≠ 4) : (zH s g).2.PC ≠ 4 ∧ (zH s g).1.Flag = s.Flag := by
  have five : (5 : Int) ≠ 4 := by decide
  unfold zH
  split
  · exact ⟨h4, rfl⟩
  split
  · refine ⟨?_, rfl⟩; unfold zgJ; dsimp only; split <;> exact h4
  split
  · exact ⟨(by show (7 : Int) ≠ 4; decide), rfl⟩
  split
  · refine ⟨?_, rfl⟩; unfold zml; dsimp only
    split
    · show (6 : Int) ≠ 4; decide
    split
    · exact five
    · exact h4
  split
  · refine ⟨?_, rfl⟩; unfold zmv; dsimp only
    split
    · exact h4
    split
    · exact five
    · exact h4
  split
  · exact ⟨h4, rfl⟩
  split
  · refine ⟨?_, rfl⟩; unfold zoh; dsimp only
    split
    · show (2 : Int) ≠ 4; decide
    · show (3 : Int) ≠ 4; decide
  · exact ⟨(by show (1 : Int) ≠ 4; decide), rfl⟩
theorem zvZ (s : za) (i : Int) : onW s i = 5 ∨ onW s i = 8 := by unfold onW; split <;> simp
theorem SOk.keep {p : zd} {nb : Nat} {s s' : za} (S : SOk p nb s) (hP : s'.P = s.P) (hM : s'.M = s.M) (hB : s'.Bins.length = s.Bins.length) : SOk p nb s' :=
  ⟨hP.trans S.P, hB.trans S.bins, S.nbk, by rw [hM]; exact S.mem, by rw [hM]; exact S.cF, by rw [hM]; exact S.cE, by rw [hM]; exact S.cL⟩
theorem zxh {p : zd} {nb : Nat} {s : za} {w : Int} {x : ze} (h : zP p) (hw : 1 ≤ w ∧ w ≤ p.Workers) (S : SOk p nb s) (W : WOk p nb w x) : SOk p nb (yq s w x).1 ∧ WOk p nb w (yq s w x).2 := by
  have hP := S.P
  unfold yq
  split
  · rename_i h01
    have hv : ∃ v, (1 ≤ v ∧ v ≤ p.Workers) ∧ (x.D.Kind = 2 ∨ x.D.Kind = 3) ∧ x.D.Base = Yd p v := by
      rcases h01 with e | e
      · obtain ⟨a, b, c⟩ := W.d0 e; exact ⟨w, hw, .inl a, b⟩
      · obtain ⟨a, b, c⟩ := W.d1 e; exact ⟨x.Victim, W.vic, .inr a, b⟩
    obtain ⟨v, hv1, hv2, hv3⟩ := hv
    refine ⟨zyB h S hv1 hv2 hv3, ?_⟩
    obtain ⟨l1, l2, l3, l4⟩ := znb s.M x.D
    dsimp only
    split
    · exact WOk.plain (.inl rfl) hw
    split
    · rw [hP]; exact WOk.look hw W.vic
    · refine ⟨W.pc, W.vic, fun e => ?_, fun e => ?_, fun e => by dsimp only at e; omega, fun e => by dsimp only at e; omega, fun e => by dsimp only at e; omega, fun e => by dsimp only at e; omega⟩
      · obtain ⟨a, b, c⟩ := W.d0 e; exact ⟨l2.trans a, l3.trans b, l4.trans c⟩
      · obtain ⟨a, b, c⟩ := W.d1 e; exact ⟨l2.trans a, l3.trans b, l4.trans c⟩
  split
  · rename_i h2
    have C := W.c2 h2
    obtain ⟨b1, b2, b3, b4, b5, b6⟩ := zsx h S (.inl rfl) C.k C.h C.n C.v C.y C.o
    refine ⟨b1, ?_⟩
    dsimp only
    split
    · rename_i e1
      exact ⟨⟨(by show (0 : Int) ≤ 3; decide), (by show (3 : Int) ≤ 9; decide)⟩, W.vic, fun e => (by cases e), fun e => (by cases e), fun e => (by cases e), fun _ => b6 e1, fun e => (by cases e), fun e => (by cases e)⟩
    split
    · rw [hP]; exact WOk.begin hw
    · rename_i e1 e2
      exact ⟨W.pc, W.vic, fun e => (by dsimp only at e; omega), fun e => (by dsimp only at e; omega), fun _ => ⟨b2, b3, b4, (b5 e1 e2).1, (b5 e1 e2).2, e1⟩, fun e => (by dsimp only at e; omega), fun e => (by dsimp only at e; omega), fun e => (by dsimp only at e; omega)⟩
  split
  · rename_i h3
    have B := W.b3 h3
    refine ⟨S.keep rfl rfl (by simp), ?_⟩
    rw [hP]
    exact ⟨⟨(by show (0 : Int) ≤ 4; decide), (by show (4 : Int) ≤ 9; decide)⟩, W.vic, fun e => (by cases e), fun e => (by cases e), fun e => (by cases e), fun e => (by cases e), fun _ => zsJ B, fun e => (by cases e)⟩
  split
  · rename_i h4
    have C := W.c4 h4
    obtain ⟨b1, b2, b3, b4, b5, b6⟩ := zqv h S (.inr rfl) C.k C.h C.n C.x C.v
    refine ⟨b1, ?_⟩
    dsimp only
    split
    · exact WOk.plain (.inr (.inl rfl)) W.vic
    · exact ⟨W.pc, W.vic, fun e => (by dsimp only at e; omega), fun e => (by dsimp only at e; omega), fun e => (by dsimp only at e; omega), fun e => (by dsimp only at e; omega), fun _ => ⟨b2, b3, b4, b5, b6⟩, fun e => (by dsimp only at e; omega)⟩
  split
  · refine ⟨S, ?_⟩
    dsimp only
    split
    · rcases zvZ s (wc (x.Slot + 1)) with e | e <;> rw [e]
      · exact WOk.plain (.inl rfl) W.vic
      · exact WOk.plain (.inr (.inr (.inl rfl))) W.vic
    · exact ⟨⟨(by show (0 : Int) ≤ 6; decide), (by show (6 : Int) ≤ 9; decide)⟩, W.vic, fun e => (by cases e), fun e => (by cases e), fun e => (by cases e), fun e => (by cases e), fun e => (by cases e), fun _ =>
        ⟨⟨fun _ => hw, fun e => (by cases e), fun e => (by cases e), fun e => (by cases e), fun e => (by cases e)⟩, fun e => (by cases e), rfl, by show (0 : Int) ≠ 4; decide⟩⟩
  split
  · rename_i h6
    obtain ⟨g1, g2, g3, g4⟩ := W.g6 h6
    obtain ⟨r1, r2, r3⟩ := zpY h S g1 g2
    refine ⟨r1, ?_⟩
    dsimp only
    split
    · rcases zvZ s x.Slot with e | e <;> rw [e]
      · exact WOk.plain (.inl rfl) W.vic
      · exact WOk.plain (.inr (.inr (.inl rfl))) W.vic
    · exact ⟨W.pc, W.vic, fun e => (by dsimp only at e; omega), fun e => (by dsimp only at e; omega), fun e => (by dsimp only at e; omega), fun e => (by dsimp only at e; omega), fun e => (by dsimp only at e; omega), fun _ => ⟨r2, r3, (znk s x.G).2.2.trans g3, (zt3 s g3 g4).1⟩⟩
  split
  · refine ⟨S, ?_⟩
    dsimp only
    split
    · rw [hP]; exact WOk.begin hw
    · exact WOk.plain (.inl rfl) W.vic
  split
  · exact ⟨S.keep rfl rfl rfl, WOk.plain (.inr (.inr (.inr rfl))) W.vic⟩
  split
  · exact ⟨S.keep rfl rfl rfl, WOk.plain (.inr (.inl rfl)) W.vic⟩
  · have := W.pc
    omega
end
end Go.Pe.G
namespace Go.Pe.G
open Go.Pe
noncomputable section
def zjv (h : zw) (o s v : Int) : zw :=
  if VR h o s = true ∧ 0 ≤ v ∧ v ≤ (h.Objs.length : Int) then { h with Objs := h.Objs.set (o - 1).toNat ((xB h o).set s.toNat v) } else h
def zf1 (h : zw) (most : Int) : Bool := decide ((h.Objs.length : Int) < most) && decide ((h.Objs.length : Int) < 64)
def zjP (h : zw) : zw := { h with Objs := h.Objs ++ [List.replicate h.Slots.toNat 0] }
def zoC (t : zq) (o : Int) : zq := if (zfQ t o).2 = true then zpj (zfQ t o).1 o else t
def zcf (l : zk) (who : Int) : Int := l.Bal.getD (who - 1).toNat 0
def Uw (l : zk) (who : Int) : Bool := decide (1 ≤ who) && decide (who ≤ (l.Bal.length : Int))
def US (l : zk) (who price limit : Int) : Bool := Uw l who && decide (0 ≤ price) && decide (0 ≤ limit) && decide (price ≤ 1000000) && decide (limit ≤ 1000000)
def zj2 (l : zk) (who price limit : Int) : Bool := US l who price limit && decide (wc (-limit) ≤ wc (zcf l who - price))
def zlc (l : zk) (who price : Int) : zk := { l with Spent := wc (l.Spent + price), Bal := l.Bal.set (who - 1).toNat (wc (zcf l who - price)) }
def zlD (l : zk) (who price limit : Int) : Int := if US l who price limit then (if zj2 l who price limit then 0 else wc (wc (price - limit) - zcf l who)) else -1
def zj9 (a b : Int) : Int := if b < a then b else a
def zh6 (l : zk) (who want : Int) : zk × Int :=
  if Uw l who = true ∧ 0 < zj9 want l.Pool then ({ l with Pool := wc (l.Pool - zj9 want l.Pool), Bal := l.Bal.set (who - 1).toNat (wc (zcf l who + zj9 want l.Pool)) }, zj9 want l.Pool) else (l, 0)
def wG (p : zd) (m : Int) : List zi := p.Progs.getD (m - 1).toNat []
def opM (p : zd) (m : Int) (x : zb) : zi := (wG p m).getD x.IP.toNat ⟨0, 0, 0, 0⟩
def ziA (x : zb) (r : Int) : Int := x.Regs.getD r.toNat 0
def zrM (x : zb) : zb := { x with PC := 0, IP := wc (x.IP + 1) }
def setM (x : zb) (r v : Int) : zb := { x with PC := 0, IP := wc (x.IP + 1), Regs := x.Regs.set r.toNat v }
def onM (s : za) (slot : Int) : Int := if slot = s.H.Slots then 38 else 36
def zrR (s : za) (m : Int) (x : zb) : Int := UT s.H (ziA x (opM s.P m x).A) (opM s.P m x).S
def zgx (s : za) (m : Int) (x : zb) : zb :=
  if s.Acks.getD (m - 1).toNat 0 < s.Epoch then { x with PC := 1, Ret := 2, Want := s.Epoch }
  else if ((wG s.P m).length : Int) ≤ x.IP then x
  else if (opM s.P m x).Kind = 1 then { x with PC := 10 }
  else if (opM s.P m x).Kind = 2 then { x with PC := 20 }
  else if (opM s.P m x).Kind = 3 then { x with PC := 30 }
  else if (opM s.P m x).Kind = 4 then setM x (opM s.P m x).R (ziA x (opM s.P m x).A)
  else setM x (opM s.P m x).R 0
def mu0 (s : za) (m : Int) (x : zb) : za × zb :=
  (s, zgx s m x)
def mu1 (s : za) (m : Int) (x : zb) : za × zb :=
  (s, if x.Buf.length = 0 then { x with PC := x.Ret } else { x with PC := 3, Buf := x.Buf.take (x.Buf.length - 1), G := zoi 2 (x.Buf.getD (x.Buf.length - 1) 0) m })
def mu2 (s : za) (m : Int) (x : zb) : za × zb :=
  ({ s with Acks := s.Acks.set (m - 1).toNat x.Want }, { x with PC := 0 })
def mu3 (s : za) (m : Int) (x : zb) : za × zb :=
  ((zH s x.G).1, if (zH s x.G).2.Out = 1 then { x with PC := 1, G := (zH s x.G).2 } else { x with G := (zH s x.G).2 })
def znE (s : za) (m : Int) (x : zb) : za × zb :=
  (s, setM x (opM s.P m x).R (zrR s m x))
def zlP (s : za) (m : Int) (x : zb) : za × zb :=
  (s, if ziA x (opM s.P m x).A = 0 then zrM x else { x with PC := 21, Old := zrR s m x })
def zlm (s : za) (m : Int) (x : zb) : za × zb :=
  (s, if x.Old = 0 ∨ zg8 s.T x.Old ≠ 0 then { x with PC := 23, Old := 0 } else { x with PC := 22 })
def zme (s : za) (m : Int) (x : zb) : za × zb :=
  (s, if s.P.Buf ≤ (x.Buf.length : Int) then { x with PC := 1, Ret := 22 } else { x with PC := 23, Old := 0, Buf := x.Buf ++ [x.Old] })
def znp (s : za) (m : Int) (x : zb) : za × zb :=
  ({ s with H := zjv s.H (ziA x (opM s.P m x).A) (opM s.P m x).S (ziA x (opM s.P m x).R) }, zrM x)
def zix (s : za) (m : Int) (x : zb) : za × zb :=
     if zj2 s.L m s.P.Price s.P.Limit = true then
      if zf1 s.H s.P.Most = true then ({ s with L := zlc s.L m s.P.Price, H := zjP s.H, T := zoC s.T (wc (s.H.Objs.length + 1)) }, setM x (opM s.P m x).R (wc (s.H.Objs.length + 1)))
      else (s, zrM x)
    else (s, { x with PC := 31 })
def zlM (s : za) (m : Int) (x : zb) : za × zb :=
     ({ s with L := (zh6 s.L m (zlD s.L m s.P.Price s.P.Limit)).1 }, if (zh6 s.L m (zlD s.L m s.P.Price s.P.Limit)).2 = 0 then { x with PC := 32, C := zwd s.P (vE s.P) x.Bin } else { x with PC := 0 })
def zl9 (s : za) (m : Int) (x : zb) : za × zb :=
     ({ s with M := (zJ s.M x.C).1 }, if (zJ s.M x.C).2.Out = 1 then { x with PC := 33, Bin := (zJ s.M x.C).2.X, C := (zJ s.M x.C).2 }
      else if (zJ s.M x.C).2.Out = 2 then { x with PC := 0, C := (zJ s.M x.C).2 } else { x with C := (zJ s.M x.C).2 })
def znK (s : za) (m : Int) (x : zb) : za × zb :=
  ({ s with Bins := s.Bins.set x.Bin.toNat [] }, { x with Batch := zks s x.Bin, PC := 34, C := zuW s.P (yT s.P) x.Bin })
def zlw (s : za) (m : Int) (x : zb) : za × zb :=
     ({ s with M := (zJ s.M x.C).1 }, if (zJ s.M x.C).2.Out = 1 then { x with C := (zJ s.M x.C).2, Bin := 0, PC := 35 } else { x with C := (zJ s.M x.C).2 })
def zmh (s : za) (m : Int) (x : zb) : za × zb :=
  (s, match x.Batch with | [] => { x with PC := 0 } | o :: l => { x with PC := 36, Obj := o, Slot := 0, Batch := l })
def zlp (s : za) (m : Int) (x : zb) : za × zb :=
     (s, if UT s.H x.Obj x.Slot = 0 then { x with Slot := wc (x.Slot + 1), PC := onM s (wc (x.Slot + 1)) } else { x with Slot := wc (x.Slot + 1), PC := 37, G := zoi 3 (UT s.H x.Obj x.Slot) m })
def zny (s : za) (m : Int) (x : zb) : za × zb :=
  ((zH s x.G).1, if (zH s x.G).2.Out = 1 then { x with G := (zH s x.G).2, PC := onM s x.Slot } else { x with G := (zH s x.G).2 })
def znj (s : za) (m : Int) (x : zb) : za × zb :=
  ({ s with T := zpj s.T x.Obj, L := zmn s.L m }, { x with PC := 39 })
def zqj (s : za) (m : Int) (x : zb) : za × zb :=
  ({ s with Work := wc (s.Work - 1) }, { x with Obj := 0, PC := 35 })
def z8 (s : za) (m : Int) (x : zb) : za × zb :=
  if x.PC = 0 then mu0 s m x
  else if x.PC = 1 then mu1 s m x
  else if x.PC = 2 then mu2 s m x
  else if x.PC = 3 then mu3 s m x
  else if x.PC = 10 then znE s m x
  else if x.PC = 20 then zlP s m x
  else if x.PC = 21 then zlm s m x
  else if x.PC = 22 then zme s m x
  else if x.PC = 23 then znp s m x
  else if x.PC = 30 then zix s m x
  else if x.PC = 31 then zlM s m x
  else if x.PC = 32 then zl9 s m x
  else if x.PC = 33 then znK s m x
  else if x.PC = 34 then zlw s m x
  else if x.PC = 35 then zmh s m x
  else if x.PC = 36 then zlp s m x
  else if x.PC = 37 then zny s m x
  else if x.PC = 38 then znj s m x
  else if x.PC = 39 then zqj s m x
  else (s, x)
def yG (s : za) (m : Int) : za :=
  if s.Done = true ∨ m < 1 ∨ (s.Ms.length : Int) < m then s
  else match s.Ms[(m - 1).toNat]? with
    | some x => { (z8 s m x).1 with Ms := s.Ms.set (m - 1).toNat (z8 s m x).2 }
    | none => s
def zdS (p : zd) (m : Int) : Nat := (p.Regs.getD (m - 1).toNat []).length
structure XOk (p : zd) (nb : Nat) (m : Int) (x : zb) : Prop where
  pc : (0 ≤ x.PC ∧ x.PC ≤ 3) ∨ x.PC = 10 ∨ (20 ≤ x.PC ∧ x.PC ≤ 23) ∨ (30 ≤ x.PC ∧ x.PC ≤ 39)
  regs : x.Regs.length = zdS p m
  ip : 0 ≤ x.IP ∧ x.IP ≤ ((wG p m).length : Int)
  op : (10 ≤ x.PC ∧ x.PC ≤ 30) ∨ ((x.PC = 1 ∨ x.PC = 3) ∧ x.Ret = 22) → x.IP < ((wG p m).length : Int)
  ret : x.PC = 1 ∨ x.PC = 3 → x.Ret = 2 ∨ x.Ret = 22
  c32 : x.PC = 32 → zup p nb (vE p) x.C
  b33 : x.PC = 33 → 1 ≤ x.Bin ∧ x.Bin < nb
  c34 : x.PC = 34 → zsz p nb (yT p) x.C
  bin : x.PC ≠ 33 → x.PC ≠ 34 → x.Bin = 0
  g : x.PC = 3 ∨ x.PC = 37 → MOk p nb x.G ∧ (x.G.PC = 5 → x.G.C.Out ≠ 1) ∧ x.G.Mode ≠ 1
  buf : (x.Buf.length : Int) ≤ p.Buf
theorem XOk.move {p : zd} {nb : Nat} {m : Int} {x y : zb} (X : XOk p nb m x) (h : x.PC ≠ 33 ∧ x.PC ≠ 34) (pc : y.PC = 0 ∨ y.PC = 2 ∨ y.PC = 10 ∨ (20 ≤ y.PC ∧ y.PC ≤ 23) ∨ y.PC = 30 ∨ y.PC = 31 ∨ y.PC = 35 ∨ y.PC = 36 ∨ y.PC = 38 ∨ y.PC = 39)
    (regs : y.Regs.length = x.Regs.length) (bin : y.Bin = x.Bin) (buf : (y.Buf.length : Int) ≤ p.Buf) (ip : 0 ≤ y.IP ∧ y.IP ≤ ((wG p m).length : Int)) (op : 10 ≤ y.PC ∧ y.PC ≤ 30 → y.IP < ((wG p m).length : Int)) : XOk p nb m y :=
  ⟨by omega, regs.trans X.regs, ip, fun e => op (by omega), fun e => by omega, fun e => by omega, fun e => by omega, fun e => by omega, fun _ _ => bin.trans (X.bin h.1 h.2), fun e => by omega, buf⟩
theorem zo2 (s : za) (i : Int) : onM s i = 36 ∨ onM s i = 38 := by unfold onM; split <;> simp
theorem XOk.next {p : zd} {nb : Nat} {m : Int} {x : zb} (hp : ((wG p m).length : Int) ≤ 64) (X : XOk p nb m x) (h : x.PC ≠ 33 ∧ x.PC ≠ 34) (hi : x.IP < ((wG p m).length : Int)) : XOk p nb m (zrM x) := by
  have := X.ip
  have e : wc (x.IP + 1) = x.IP + 1 := ZW (by omega) (by omega)
  refine X.move h (.inl rfl) rfl rfl X.buf ?_ (fun h => absurd h (by show ¬ ((10 : Int) ≤ 0 ∧ (0 : Int) ≤ 30); decide))
  show 0 ≤ wc (x.IP + 1) ∧ wc (x.IP + 1) ≤ _
  rw [e]; omega
theorem XOk.set {p : zd} {nb : Nat} {m : Int} {x : zb} (hp : ((wG p m).length : Int) ≤ 64) (X : XOk p nb m x) (h : x.PC ≠ 33 ∧ x.PC ≠ 34) (hi : x.IP < ((wG p m).length : Int)) (r v : Int) : XOk p nb m (setM x r v) := by
  have := X.ip
  have e : wc (x.IP + 1) = x.IP + 1 := ZW (by omega) (by omega)
  refine X.move h (.inl rfl) (by simp [setM]) rfl X.buf ?_ (fun h => absurd h (by show ¬ ((10 : Int) ≤ 0 ∧ (0 : Int) ≤ 30); decide))
  show 0 ≤ wc (x.IP + 1) ∧ wc (x.IP + 1) ≤ _
  rw [e]; omega
theorem Z6 {motive : za × zb → Prop} (s : za) (m : Int) (x : zb) (h0 : x.PC = 0 → motive (mu0 s m x)) (h1 : x.PC = 1 → motive (mu1 s m x)) (h2 : x.PC = 2 → motive (mu2 s m x)) (h3 : x.PC = 3 → motive (mu3 s m x)) (h10 : x.PC = 10 → motive (znE s m x)) (h20 : x.PC = 20 → motive (zlP s m x)) (h21 : x.PC = 21 → motive (zlm s m x)) (h22 : x.PC = 22 → motive (zme s m x)) (h23 : x.PC = 23 → motive (znp s m x)) (h30 : x.PC = 30 → motive (zix s m x)) (h31 : x.PC = 31 → motive (zlM s m x)) (h32 : x.PC = 32 → motive (zl9 s m x)) (h33 : x.PC = 33 → motive (znK s m x)) (h34 : x.PC = 34 → motive (zlw s m x)) (h35 : x.PC = 35 → motive (zmh s m x)) (h36 : x.PC = 36 → motive (zlp s m x)) (h37 : x.PC = 37 → motive (zny s m x)) (h38 : x.PC = 38 → motive (znj s m x)) (h39 : x.PC = 39 → motive (zqj s m x)) (hn : motive (s, x)) : motive (z8 s m x) := by
  unfold z8
  by_cases c0 : x.PC = 0
  · rw [if_pos c0]; exact h0 c0
  rw [if_neg c0]
  by_cases c1 : x.PC = 1
  · rw [if_pos c1]; exact h1 c1
  rw [if_neg c1]
  by_cases c2 : x.PC = 2
  · rw [if_pos c2]; exact h2 c2
  rw [if_neg c2]
  by_cases c3 : x.PC = 3
  · rw [if_pos c3]; exact h3 c3
  rw [if_neg c3]
  by_cases c10 : x.PC = 10
  · rw [if_pos c10]; exact h10 c10
  rw [if_neg c10]
  by_cases c20 : x.PC = 20
  · rw [if_pos c20]; exact h20 c20
  rw [if_neg c20]
  by_cases c21 : x.PC = 21
  · rw [if_pos c21]; exact h21 c21
  rw [if_neg c21]
  by_cases c22 : x.PC = 22
  · rw [if_pos c22]; exact h22 c22
  rw [if_neg c22]
  by_cases c23 : x.PC = 23
  · rw [if_pos c23]; exact h23 c23
  rw [if_neg c23]
  by_cases c30 : x.PC = 30
  · rw [if_pos c30]; exact h30 c30
  rw [if_neg c30]
  by_cases c31 : x.PC = 31
  · rw [if_pos c31]; exact h31 c31
  rw [if_neg c31]
  by_cases c32 : x.PC = 32
  · rw [if_pos c32]; exact h32 c32
  rw [if_neg c32]
  by_cases c33 : x.PC = 33
  · rw [if_pos c33]; exact h33 c33
  rw [if_neg c33]
  by_cases c34 : x.PC = 34
  · rw [if_pos c34]; exact h34 c34
  rw [if_neg c34]
  by_cases c35 : x.PC = 35
  · rw [if_pos c35]; exact h35 c35
  rw [if_neg c35]
  by_cases c36 : x.PC = 36
  · rw [if_pos c36]; exact h36 c36
  rw [if_neg c36]
  by_cases c37 : x.PC = 37
  · rw [if_pos c37]; exact h37 c37
  rw [if_neg c37]
  by_cases c38 : x.PC = 38
  · rw [if_pos c38]; exact h38 c38
  rw [if_neg c38]
  by_cases c39 : x.PC = 39
  · rw [if_pos c39]; exact h39 c39
  rw [if_neg c39]
  exact hn
theorem zyb {p : zd} {nb : Nat} {s : za} {m : Int} {x : zb} (h : zP p) (hp : ((wG p m).length : Int) ≤ 64) (S : SOk p nb s) (X : XOk p nb m x) : SOk p nb (z8 s m x).1 ∧ XOk p nb m (z8 s m x).2 := by
  have hP := S.P
  have hip := X.ip
  have hbuf := X.buf
  have hb := h.buf
  have nop : ∀ y : Int, 31 ≤ y → ¬ (10 ≤ y ∧ y ≤ 30) := fun y h e => by omega
  refine Z6 (motive := fun r => SOk p nb r.1 ∧ XOk p nb m r.2) s m x ?_ ?_ ?_ ?_ ?_ ?_ ?_ ?_ ?_ ?_ ?_ ?_ ?_ ?_ ?_ ?_ ?_ ?_ ?_ ?_
  · intro c
    unfold mu0
    refine ⟨S, ?_⟩
    unfold zgx
    rw [hP]
    split
    · exact ⟨.inl ⟨(by show (0 : Int) ≤ 1; decide), (by show (1 : Int) ≤ 3; decide)⟩, X.regs, X.ip, fun e => by dsimp only at e; omega, fun _ => .inl rfl, fun e => (by cases e), fun e => (by cases e), fun e => (by cases e), fun _ _ => X.bin (by omega) (by omega), fun e => by dsimp only at e; omega, X.buf⟩
    split
    · exact X
    rename_i hlt
    have hlt : x.IP < ((wG p m).length : Int) := by omega
    split
    · exact X.move (by omega) (.inr (.inr (.inl rfl))) rfl rfl X.buf X.ip (fun _ => hlt)
    split
    · exact X.move (by omega) (.inr (.inr (.inr (.inl ⟨by show (20 : Int) ≤ 20; decide, by show (20 : Int) ≤ 23; decide⟩)))) rfl rfl X.buf X.ip (fun _ => hlt)
    split
    · exact X.move (by omega) (.inr (.inr (.inr (.inr (.inl rfl))))) rfl rfl X.buf X.ip (fun _ => hlt)
    split
    · exact X.set hp (by omega) hlt _ _
    · exact X.set hp (by omega) hlt _ _
  · intro c
    unfold mu1
    refine ⟨S, ?_⟩
    split
    · rcases X.ret (.inl c) with e | e
      · exact X.move (by omega) (.inr (.inl e)) rfl rfl X.buf X.ip (fun e2 => by dsimp only at e2; omega)
      · exact X.move (by omega) (.inr (.inr (.inr (.inl (by dsimp only; omega))))) rfl rfl X.buf X.ip (fun e2 => X.op (.inr ⟨.inl c, e⟩))
    · exact ⟨.inl ⟨(by show (0 : Int) ≤ 3; decide), (by show (3 : Int) ≤ 3; decide)⟩, X.regs, X.ip, fun e => X.op (.inr ⟨.inl c, by dsimp only at e; omega⟩), fun _ => X.ret (.inl c), fun e => (by cases e), fun e => (by cases e), fun e => (by cases e), fun _ _ => X.bin (by omega) (by omega),
        fun _ => ⟨⟨fun e => absurd e (by show ¬ (2 : Int) = 1; decide), fun e => (by cases e), fun e => (by cases e), fun e => (by cases e), fun e => (by cases e)⟩, fun e => (by cases e), by show (2 : Int) ≠ 1; decide⟩, by dsimp only; rw [List.length_take]; omega⟩
  · intro c
    unfold mu2
    exact ⟨S.keep rfl rfl rfl, X.move (by omega) (.inl rfl) rfl rfl X.buf X.ip (fun e => absurd e (by show ¬ ((10 : Int) ≤ 0 ∧ (0 : Int) ≤ 30); decide))⟩
  · intro c
    unfold mu3
    obtain ⟨g1, g2, g3⟩ := X.g (.inl c)
    obtain ⟨r1, r2, r3⟩ := zpY h S g1 g2
    refine ⟨r1, ?_⟩
    dsimp only
    split
    · exact ⟨.inl ⟨(by show (0 : Int) ≤ 1; decide), (by show (1 : Int) ≤ 3; decide)⟩, X.regs, X.ip, fun e => X.op (.inr ⟨.inr c, by dsimp only at e; omega⟩), fun _ => X.ret (.inr c), fun e => (by cases e), fun e => (by cases e), fun e => (by cases e), fun _ _ => X.bin (by omega) (by omega), fun e => by dsimp only at e; omega, X.buf⟩
    · exact ⟨X.pc, X.regs, X.ip, X.op, X.ret, fun e => by dsimp only at e; omega, fun e => by dsimp only at e; omega, fun e => by dsimp only at e; omega, X.bin, fun _ => ⟨r2, r3, by rw [(znk s x.G).2.2]; exact g3⟩, X.buf⟩
  · intro c
    unfold znE
    exact ⟨S, X.set hp (by omega) (X.op (.inl (by omega))) _ _⟩
  · intro c
    unfold zlP
    refine ⟨S, ?_⟩
    split
    · exact X.next hp (by omega) (X.op (.inl (by omega)))
    · exact X.move (by omega) (.inr (.inr (.inr (.inl ⟨by show (20 : Int) ≤ 21; decide, by show (21 : Int) ≤ 23; decide⟩)))) rfl rfl X.buf X.ip (fun _ => X.op (.inl (by omega)))
  · intro c
    unfold zlm
    refine ⟨S, ?_⟩
    split
    · exact X.move (by omega) (.inr (.inr (.inr (.inl ⟨by show (20 : Int) ≤ 23; decide, by show (23 : Int) ≤ 23; decide⟩)))) rfl rfl X.buf X.ip (fun _ => X.op (.inl (by omega)))
    · exact X.move (by omega) (.inr (.inr (.inr (.inl ⟨by show (20 : Int) ≤ 22; decide, by show (22 : Int) ≤ 23; decide⟩)))) rfl rfl X.buf X.ip (fun _ => X.op (.inl (by omega)))
  · intro c
    unfold zme
    have hi := X.op (.inl (by omega))
    refine ⟨S, ?_⟩
    rw [hP]
    split
    · exact ⟨.inl ⟨(by show (0 : Int) ≤ 1; decide), (by show (1 : Int) ≤ 3; decide)⟩, X.regs, X.ip, fun e => hi, fun _ => .inr rfl, fun e => (by cases e), fun e => (by cases e), fun e => (by cases e), fun _ _ => X.bin (by omega) (by omega), fun e => by dsimp only at e; omega, X.buf⟩
    · exact X.move (by omega) (.inr (.inr (.inr (.inl ⟨by show (20 : Int) ≤ 23; decide, by show (23 : Int) ≤ 23; decide⟩)))) rfl rfl (by simp; omega) X.ip (fun _ => hi)
  · intro c
    unfold znp
    exact ⟨S.keep rfl rfl rfl, X.next hp (by omega) (X.op (.inl (by omega)))⟩
  · intro c
    unfold zix
    have hi := X.op (.inl (by omega))
    split
    · split
      · exact ⟨S.keep rfl rfl rfl, X.set hp (by omega) hi _ _⟩
      · exact ⟨S, X.next hp (by omega) hi⟩
    · exact ⟨S, X.move (by omega) (.inr (.inr (.inr (.inr (.inr (.inl rfl)))))) rfl rfl X.buf X.ip (fun e => absurd e (by show ¬ ((10 : Int) ≤ 31 ∧ (31 : Int) ≤ 30); decide))⟩
  · intro c
    unfold zlM
    refine ⟨S.keep rfl rfl rfl, ?_⟩
    rw [hP]
    split
    · exact ⟨.inr (.inr (.inr ⟨(by show (30 : Int) ≤ 32; decide), (by show (32 : Int) ≤ 39; decide)⟩)), X.regs, X.ip, fun e => by dsimp only at e; omega, fun e => by dsimp only at e; omega, fun _ => ztS, fun e => (by cases e), fun e => (by cases e), fun _ _ => X.bin (by omega) (by omega), fun e => by dsimp only at e; omega, X.buf⟩
    · exact X.move (by omega) (.inl rfl) rfl rfl X.buf X.ip (fun e => absurd e (by show ¬ ((10 : Int) ≤ 0 ∧ (0 : Int) ≤ 30); decide))
  · intro c
    unfold zl9
    have C := X.c32 c
    obtain ⟨b1, b2, b3, b4, b5, b6⟩ := zsx h S (.inl rfl) C.k C.h C.n C.v C.y C.o
    refine ⟨b1, ?_⟩
    dsimp only
    split
    · rename_i e1
      exact ⟨.inr (.inr (.inr ⟨(by show (30 : Int) ≤ 33; decide), (by show (33 : Int) ≤ 39; decide)⟩)), X.regs, X.ip, fun e => by dsimp only at e; omega, fun e => by dsimp only at e; omega, fun e => (by cases e), fun _ => b6 e1, fun e => (by cases e), fun e => absurd rfl e, fun e => by dsimp only at e; omega, X.buf⟩
    split
    · exact X.move (by omega) (.inl rfl) rfl rfl X.buf X.ip (fun e => absurd e (by show ¬ ((10 : Int) ≤ 0 ∧ (0 : Int) ≤ 30); decide))
    · rename_i e1 e2
      exact ⟨X.pc, X.regs, X.ip, X.op, X.ret, fun _ => ⟨b2, b3, b4, (b5 e1 e2).1, (b5 e1 e2).2, e1⟩, fun e => by dsimp only at e; omega, fun e => by dsimp only at e; omega, X.bin, fun e => by dsimp only at e; omega, X.buf⟩
  · intro c
    unfold znK
    have B := X.b33 c
    refine ⟨S.keep rfl rfl (by simp), ?_⟩
    rw [hP]
    exact ⟨.inr (.inr (.inr ⟨(by show (30 : Int) ≤ 34; decide), (by show (34 : Int) ≤ 39; decide)⟩)), X.regs, X.ip, fun e => by dsimp only at e; omega, fun e => by dsimp only at e; omega, fun e => (by cases e), fun e => (by cases e), fun _ => zsJ B, fun _ e => absurd rfl e, fun e => by dsimp only at e; omega, X.buf⟩
  · intro c
    unfold zlw
    have C := X.c34 c
    obtain ⟨b1, b2, b3, b4, b5, b6⟩ := zqv h S (.inr rfl) C.k C.h C.n C.x C.v
    refine ⟨b1, ?_⟩
    dsimp only
    split
    · exact ⟨.inr (.inr (.inr ⟨(by show (30 : Int) ≤ 35; decide), (by show (35 : Int) ≤ 39; decide)⟩)), X.regs, X.ip, fun e => by dsimp only at e; omega, fun e => by dsimp only at e; omega, fun e => (by cases e), fun e => (by cases e), fun e => (by cases e), fun _ _ => rfl, fun e => by dsimp only at e; omega, X.buf⟩
    · exact ⟨X.pc, X.regs, X.ip, X.op, X.ret, fun e => by dsimp only at e; omega, fun e => by dsimp only at e; omega, fun _ => ⟨b2, b3, b4, b5, b6⟩, X.bin, fun e => by dsimp only at e; omega, X.buf⟩
  · intro c
    unfold zmh
    refine ⟨S, ?_⟩
    dsimp only
    split
    · exact X.move (by omega) (.inl rfl) rfl rfl X.buf X.ip (fun e => absurd e (by show ¬ ((10 : Int) ≤ 0 ∧ (0 : Int) ≤ 30); decide))
    · exact X.move (by omega) (by simp) rfl rfl X.buf X.ip (fun e => absurd e (nop 36 (by omega)))
  · intro c
    unfold zlp
    refine ⟨S, ?_⟩
    dsimp only
    split
    · rcases zo2 s (wc (x.Slot + 1)) with e | e <;> rw [e]
      · exact X.move (by omega) (by simp) rfl rfl X.buf X.ip (fun e => absurd e (nop 36 (by omega)))
      · exact X.move (by omega) (by simp) rfl rfl X.buf X.ip (fun e => absurd e (nop 38 (by omega)))
    · exact ⟨.inr (.inr (.inr ⟨(by show (30 : Int) ≤ 37; decide), (by show (37 : Int) ≤ 39; decide)⟩)), X.regs, X.ip, fun e => by dsimp only at e; omega, fun e => by dsimp only at e; omega, fun e => (by cases e), fun e => (by cases e), fun e => (by cases e), fun _ _ => X.bin (by omega) (by omega),
        fun _ => ⟨⟨fun e => absurd e (by show ¬ (3 : Int) = 1; decide), fun e => (by cases e), fun e => (by cases e), fun e => (by cases e), fun e => (by cases e)⟩, fun e => (by cases e), by show (3 : Int) ≠ 1; decide⟩, X.buf⟩
  · intro c
    unfold zny
    obtain ⟨g1, g2, g3⟩ := X.g (.inr c)
    obtain ⟨r1, r2, r3⟩ := zpY h S g1 g2
    refine ⟨r1, ?_⟩
    dsimp only
    split
    · rcases zo2 s x.Slot with e | e <;> rw [e]
      · exact X.move (by omega) (by simp) rfl rfl X.buf X.ip (fun e => absurd e (nop 36 (by omega)))
      · exact X.move (by omega) (by simp) rfl rfl X.buf X.ip (fun e => absurd e (nop 38 (by omega)))
    · exact ⟨X.pc, X.regs, X.ip, X.op, X.ret, fun e => by dsimp only at e; omega, fun e => by dsimp only at e; omega, fun e => by dsimp only at e; omega, X.bin, fun _ => ⟨r2, r3, by rw [(znk s x.G).2.2]; exact g3⟩, X.buf⟩
  · intro c
    unfold znj
    exact ⟨S.keep rfl rfl rfl, X.move (by omega) (by simp) rfl rfl X.buf X.ip (fun e => absurd e (nop 39 (by omega)))⟩
  · intro c
    unfold zqj
    exact ⟨S.keep rfl rfl rfl, X.move (by omega) (by simp) rfl rfl X.buf X.ip (fun e => absurd e (nop 35 (by omega)))⟩
  · exact ⟨S, X⟩
end
end Go.Pe.G
namespace Go.Pe.G
open Go.Pe
noncomputable section
def xj (s : za) : za :=
  if s.Done = true then s
  else if s.D.PC = 0 then { s with Flag := false, D := { s.D with PC := 1 } }
  else if s.D.PC = 1 then (if s.Work = 0 then { s with D := { s.D with PC := 2 } } else s)
  else if s.D.PC = 2 then { s with Epoch := wc (s.Epoch + 1), D := ⟨if s.Ms.length = 0 then 4 else 3, 0⟩ }
  else if s.D.PC = 3 then (if s.Acks.getD s.D.I.toNat 0 < s.Epoch then s else { s with D := ⟨if wc (s.D.I + 1) = (s.Ms.length : Int) then 4 else 3, wc (s.D.I + 1)⟩ })
  else if s.D.PC = 4 then (if s.Work = 0 then { s with D := { s.D with PC := 5 } } else { s with Restarts := wc (s.Restarts + 1), D := { s.D with PC := 0 } })
  else if s.D.PC = 5 then (if s.Flag = true then { s with Restarts := wc (s.Restarts + 1), D := { s.D with PC := 0 } } else { s with D := { s.D with PC := 6 } })
  else if s.D.PC = 6 then { s with Done := true }
  else s
structure HOk (p : zd) (h : zw) : Prop where
  slots : h.Slots = p.H.Slots
  n : (p.H.Objs.length : Int) ≤ (h.Objs.length : Int) ∧ (h.Objs.length : Int) ≤ p.Most
  objs : ∀ o ∈ h.Objs, (o.length : Int) = h.Slots ∧ ∀ v ∈ o, 0 ≤ v ∧ v ≤ (h.Objs.length : Int)
structure EOk (p : zd) (nb : Nat) (s : za) : Prop where
  S : SOk p nb s
  wl : (s.Ws.length : Int) = p.Workers
  ml : (s.Ms.length : Int) = p.Mutators
  al : s.Acks.length = s.Ms.length
  W : ∀ (i : Nat) x, s.Ws[i]? = some x → WOk p nb ((i : Int) + 1) x
  X : ∀ (i : Nat) x, s.Ms[i]? = some x → XOk p nb ((i : Int) + 1) x
  H : HOk p s.H
  D : (0 ≤ s.D.PC ∧ s.D.PC ≤ 6) ∧ (s.D.PC = 3 → 0 ≤ s.D.I ∧ s.D.I < (s.Ms.length : Int))
  small : Zf s
theorem zur {p : zd} (h : zP p) (m : Int) : ((wG p m).length : Int) ≤ 64 := by
  unfold wG
  have hr := h.regs
  have hp := h.progs
  rw [List.getD_eq_getElem?_getD]
  rcases Nat.lt_or_ge (m - 1).toNat p.Progs.length with hl | hl
  · rw [List.getElem?_eq_getElem hl]
    have hl2 : (m - 1).toNat < p.Regs.length := by omega
    have := (h.prog (m - 1).toNat _ _ (List.getElem?_eq_getElem hl2) (List.getElem?_eq_getElem hl)).1
    show ((p.Progs[(m - 1).toNat]).length : Int) ≤ 64
    omega
  · rw [List.getElem?_eq_none hl]; show (([] : List zi).length : Int) ≤ 64; simp
theorem zo3 {p : zd} (h : zP p) : EOk p (xK p + 1) (Zc p) := by
  have hw := h.wk
  have hm := h.mt
  have hr := h.regs
  have hn := h.n
  have hmo := h.most
  have hb := h.buf
  refine ⟨zua h, ?_, ?_, ?_, fun i x hx => ?_, fun i x hx => ?_, ⟨rfl, ⟨Int.le_refl _, hmo.1⟩, h.objs⟩, ⟨⟨by show (0 : Int) ≤ 0; decide, by show (0 : Int) ≤ 6; decide⟩, fun e => absurd e (by show ¬ (0 : Int) = 3; decide)⟩, zvV h⟩
  · show (((List.range p.Workers.toNat).map (UM p)).length : Int) = _
    rw [List.length_map, List.length_range]; omega
  · show ((p.Regs.map vo).length : Int) = _
    rw [List.length_map]; exact hr
  · show (List.replicate p.Mutators.toNat (0 : Int)).length = (p.Regs.map vo).length
    rw [List.length_replicate, List.length_map]; omega
  · have hx : ((List.range p.Workers.toNat).map (UM p))[i]? = some x := hx
    rw [List.getElem?_map] at hx
    rcases Nat.lt_or_ge i p.Workers.toNat with hl | hl
    · rw [List.getElem?_range hl] at hx
      injection hx with hx
      subst hx
      exact ⟨⟨by show (0 : Int) ≤ 0; decide, by show (0 : Int) ≤ 9; decide⟩, by show 1 ≤ (i : Int) + 1 ∧ (i : Int) + 1 ≤ p.Workers; omega, fun _ => ⟨rfl, rfl, rfl⟩, fun e => (by cases e), fun e => (by cases e), fun e => (by cases e), fun e => (by cases e), fun e => (by cases e)⟩
    · rw [List.getElem?_eq_none (by rw [List.length_range]; exact hl)] at hx; cases hx
  · have hx : (p.Regs.map vo)[i]? = some x := hx
    rw [List.getElem?_map] at hx
    cases hq : p.Regs[i]? with
    | none => rw [hq] at hx; cases hx
    | some r =>
      rw [hq] at hx
      injection hx with hx
      subst hx
      refine ⟨.inl ⟨by show (0 : Int) ≤ 0; decide, by show (0 : Int) ≤ 3; decide⟩, ?_, ⟨by show (0 : Int) ≤ 0; decide, by show (0 : Int) ≤ _; omega⟩, fun e => absurd e ?_, fun e => absurd e ?_, fun e => (by cases e), fun e => (by cases e), fun e => (by cases e), fun _ _ => rfl, fun e => absurd e ?_, by show (0 : Int) ≤ p.Buf; omega⟩
      · show r.length = zdS p ((i : Int) + 1)
        unfold zdS
        rw [show ((i : Int) + 1 - 1).toNat = i by omega, List.getD_eq_getElem?_getD, hq]; rfl
      · intro e; simp [vo] at e
      · intro e; simp [vo] at e
      · intro e; simp [vo] at e
theorem znh {s : za} (h : Zf s) (b : Int) : (zks s b).length < 1000000 := by
  unfold zks
  rw [List.getD_eq_getElem?_getD]
  cases hq : s.Bins[b.toNat]? with
  | none => simp
  | some l => exact h.bin l (List.mem_of_getElem? hq)
theorem zqP (l : zk) (w : Int) : (zmn l w).Bal.length = l.Bal.length := by unfold zmn; split <;> simp
structure Xt (s s' : za) : Prop where
  P : s'.P = s.P
  m : s'.M.length = s.M.length
  bl : s'.Bins.length = s.Bins.length
  b : ∀ l ∈ s'.Bins, l ∈ s.Bins ∨ l.length ≤ 1
  bal : s'.L.Bal.length = s.L.Bal.length
  ac : s'.Acks.length = s.Acks.length
  ws : s'.Ws = s.Ws
  ms : s'.Ms = s.Ms
  done : s'.Done = s.Done
  d : s'.D = s.D
theorem Xt.refl (s : za) : Xt s s := ⟨rfl, rfl, rfl, fun l h => .inl h, rfl, rfl, rfl, rfl, rfl, rfl⟩
theorem zbd (s : za) (g : zB) : Xt s (zH s g).1 ∧ (zH s g).1.H = s.H := by
  obtain ⟨m, b, t, w, f, e, h1, h2, h3, _, _⟩ := Vj s g
  rw [e]
  exact ⟨⟨rfl, h1, h2, fun l hl => (h3 l hl).imp id (fun e => by rw [e]; simp), rfl, rfl, rfl, rfl, rfl, rfl⟩, rfl⟩
theorem zt8 {s : za} (b : Nat) : ∀ l ∈ s.Bins.set b [], l ∈ s.Bins ∨ l.length ≤ 1 := fun l hl => (List.mem_or_eq_of_mem_set hl).imp id (fun e => by rw [e]; simp)
theorem zrg (s : za) (w : Int) (x : ze) : Xt s (yq s w x).1 ∧ (yq s w x).1.H = s.H := by
  unfold yq
  split
  · exact ⟨⟨rfl, (znb _ _).1, rfl, fun l h => .inl h, rfl, rfl, rfl, rfl, rfl, rfl⟩, rfl⟩
  split
  · exact ⟨⟨rfl, UZ _ _, rfl, fun l h => .inl h, rfl, rfl, rfl, rfl, rfl, rfl⟩, rfl⟩
  split
  · exact ⟨⟨rfl, rfl, by simp, zt8 _, rfl, rfl, rfl, rfl, rfl, rfl⟩, rfl⟩
  split
  · exact ⟨⟨rfl, UZ _ _, rfl, fun l h => .inl h, rfl, rfl, rfl, rfl, rfl, rfl⟩, rfl⟩
  split
  · exact ⟨Xt.refl s, rfl⟩
  split
  · exact zbd s x.G
  split
  · exact ⟨Xt.refl s, rfl⟩
  split
  · exact ⟨⟨rfl, rfl, rfl, fun l h => .inl h, zqP _ _, rfl, rfl, rfl, rfl, rfl⟩, rfl⟩
  split
  · exact ⟨⟨rfl, rfl, rfl, fun l h => .inl h, rfl, rfl, rfl, rfl, rfl, rfl⟩, rfl⟩
  · exact ⟨Xt.refl s, rfl⟩
theorem ztC (p : zd) (w : Int) (x : ze) : (zj8 p w x).Batch = x.Batch := by unfold zj8; split <;> rfl
theorem zuA {s : za} (h : Zf s) (w : Int) {x : ze} (hx : x.Batch.length < 1000000) : (yq s w x).2.Batch.length < 1000000 := by
  unfold yq
  split
  · dsimp only
    split
    · exact hx
    split
    · rw [ztC]; exact hx
    · exact hx
  split
  · dsimp only
    split
    · exact hx
    split <;> exact hx
  split
  · exact znh h _
  split
  · dsimp only
    split <;> exact hx
  split
  · dsimp only
    split <;> exact hx
  split
  · dsimp only
    split <;> exact hx
  split
  · dsimp only
    cases hb : x.Batch with
    | nil => show x.Batch.length < _; exact hx
    | cons o l => rw [hb] at hx; show l.length < _; simp at hx; omega
  split
  · exact hx
  split
  · exact hx
  · exact hx
theorem zu1 (l : zk) (w p : Int) : (zlc l w p).Bal.length = l.Bal.length := by unfold zlc; simp
theorem zvX (l : zk) (w n : Int) : (zh6 l w n).1.Bal.length = l.Bal.length := by unfold zh6; split <;> simp
theorem zse (s : za) (m : Int) (x : zb) : Xt s (z8 s m x).1 := by
  have q : ∀ s' : za, s'.P = s.P → s'.M = s.M → s'.Bins = s.Bins → s'.L.Bal.length = s.L.Bal.length → s'.Acks.length = s.Acks.length → s'.Ws = s.Ws → s'.Ms = s.Ms → s'.Done = s.Done → s'.D = s.D → Xt s s' :=
    fun s' a b c d e f g h i => ⟨a, by rw [b], by rw [c], fun l hl => .inl (c ▸ hl), d, e, f, g, h, i⟩
  refine Z6 (motive := fun r => Xt s r.1) s m x ?_ ?_ ?_ ?_ ?_ ?_ ?_ ?_ ?_ ?_ ?_ ?_ ?_ ?_ ?_ ?_ ?_ ?_ ?_ ?_
  · intro c
    unfold mu0
    exact Xt.refl s
  · intro c
    unfold mu1
    exact Xt.refl s
  · intro c
    unfold mu2
    exact q _ rfl rfl rfl rfl (by simp) rfl rfl rfl rfl
  · intro c
    unfold mu3
    exact (zbd s x.G).1
  · intro c
    unfold znE
    exact Xt.refl s
  · intro c
    unfold zlP
    exact Xt.refl s
  · intro c
    unfold zlm
    exact Xt.refl s
  · intro c
    unfold zme
    exact Xt.refl s
  · intro c
    unfold znp
    exact q _ rfl rfl rfl rfl rfl rfl rfl rfl rfl
  · intro c
    unfold zix
    split
    · split
      · exact q _ rfl rfl rfl (zu1 _ _ _) rfl rfl rfl rfl rfl
      · exact Xt.refl s
    · exact Xt.refl s
  · intro c
    unfold zlM
    exact q _ rfl rfl rfl (zvX _ _ _) rfl rfl rfl rfl rfl
  · intro c
    unfold zl9
    exact ⟨rfl, UZ _ _, rfl, fun l h => .inl h, rfl, rfl, rfl, rfl, rfl, rfl⟩
  · intro c
    unfold znK
    exact ⟨rfl, rfl, by simp, zt8 _, rfl, rfl, rfl, rfl, rfl, rfl⟩
  · intro c
    unfold zlw
    exact ⟨rfl, UZ _ _, rfl, fun l h => .inl h, rfl, rfl, rfl, rfl, rfl, rfl⟩
  · intro c
    unfold zmh
    exact Xt.refl s
  · intro c
    unfold zlp
    exact Xt.refl s
  · intro c
    unfold zny
    exact (zbd s x.G).1
  · intro c
    unfold znj
    exact q _ rfl rfl rfl (zqP _ _) rfl rfl rfl rfl rfl
  · intro c
    unfold zqj
    exact q _ rfl rfl rfl rfl rfl rfl rfl rfl rfl
  · exact Xt.refl s
theorem HOk.sm {p : zd} (hp : zP p) {h : zw} (H : HOk p h) : h.Objs.length < 1000000 ∧ ∀ x ∈ h.Objs, x.length < 1000000 := by
  have h1 := H.n
  have h2 := hp.most
  have h3 := hp.n
  have h4 := hp.slots
  have h5 := H.slots
  exact ⟨by omega, fun x hx => by have := (H.objs x hx).1; omega⟩
theorem Zf.turn {p : zd} (hp : zP p) {s s' : za} (h : Zf s) (T : Xt s s') (H : HOk p s'.H) : Zf s' := by
  have hh := H.sm hp
  refine ⟨by rw [T.m]; exact h.m, by rw [T.bl]; exact h.bins, fun x hx => ?_, by rw [T.ac]; exact h.acks, by rw [T.bal]; exact h.bal, by rw [T.ws]; exact h.ws, by rw [T.ws]; exact h.w, by rw [T.ms]; exact h.ms, by rw [T.ms]; exact h.mu, hh.1, hh.2, by rw [T.P]; exact h.pobjs, by rw [T.P]; exact h.pobj, by rw [T.P]; exact h.regs, by rw [T.P]; exact h.reg, by rw [T.P]; exact h.progs, by rw [T.P]; exact h.prog, by rw [T.P]; exact h.picks⟩
  rcases T.b x hx with h' | h'
  · exact h.bin x h'
  · omega
theorem Zf.setW {s : za} (h : Zf s) {i : Nat} {x : ze} (hx : x.Batch.length < 1000000) : Zf { s with Ws := s.Ws.set i x } :=
  ⟨h.m, h.bins, h.bin, h.acks, h.bal, by simp only [List.length_set]; exact h.ws, fun y hy => by
    rcases List.mem_or_eq_of_mem_set hy with hy | rfl
    · exact h.w y hy
    · exact hx, h.ms, h.mu, h.objs, h.obj, h.pobjs, h.pobj, h.regs, h.reg, h.progs, h.prog, h.picks⟩
theorem Zf.setM {s : za} (h : Zf s) {i : Nat} {x : zb} (hx : x.Regs.length < 1000000 ∧ x.Buf.length < 1000000 ∧ x.Batch.length < 1000000) : Zf { s with Ms := s.Ms.set i x } :=
  ⟨h.m, h.bins, h.bin, h.acks, h.bal, h.ws, h.w, by simp only [List.length_set]; exact h.ms, fun y hy => by
    rcases List.mem_or_eq_of_mem_set hy with hy | rfl
    · exact h.mu y hy
    · exact hx, h.objs, h.obj, h.pobjs, h.pobj, h.regs, h.reg, h.progs, h.prog, h.picks⟩
theorem zt9 {α : Type} {l : List α} {i j : Nat} {x y : α} (h : (l.set i x)[j]? = some y) : (j = i ∧ y = x) ∨ l[j]? = some y := by
  rw [List.getElem?_set] at h
  split at h
  · rename_i e
    split at h
    · injection h with h; exact .inl ⟨e.symm, h.symm⟩
    · cases h
  · exact .inr h
theorem zwT {p : zd} {nb : Nat} {s : za} (h : zP p) (E : EOk p nb s) (w : Int) : EOk p nb (vK s w) := by
  unfold vK
  split
  · exact E
  rename_i hc
  cases hx : s.Ws[(w - 1).toNat]? with
  | none => exact E
  | some x =>
    have hw1 : ¬ w < 1 := fun e => hc (.inr (.inl e))
    have hw2 : ¬ (s.Ws.length : Int) < w := fun e => hc (.inr (.inr e))
    have hwl := E.wl
    have ei : (((w - 1).toNat : Nat) : Int) + 1 = w := by omega
    have hW := E.W _ x hx
    rw [ei] at hW
    obtain ⟨r1, r2⟩ := zxh h (by omega) E.S hW
    obtain ⟨T, TH⟩ := zrg s w x
    have sm : Zf (yq s w x).1 := E.small.turn h T (by rw [TH]; exact E.H)
    have hws : (yq s w x).1.Ws = s.Ws := T.ws
    refine ⟨r1.keep rfl rfl rfl, ?_, ?_, ?_, fun i y hy => ?_, fun i y hy => ?_, ?_, ?_, ?_⟩
    · show ((s.Ws.set _ _).length : Int) = _
      rw [List.length_set]; exact hwl
    · show ((yq s w x).1.Ms.length : Int) = _
      rw [T.ms]; exact E.ml
    · show (yq s w x).1.Acks.length = (yq s w x).1.Ms.length
      rw [T.ms, T.ac]; exact E.al
    · rcases zt9 hy with ⟨rfl, rfl⟩ | hy
      · rw [ei]; exact r2
      · exact E.W i y hy
    · have hy : (yq s w x).1.Ms[i]? = some y := hy
      rw [T.ms] at hy
      exact E.X i y hy
    · show HOk p (yq s w x).1.H
      rw [TH]; exact E.H
    · show (0 ≤ (yq s w x).1.D.PC ∧ (yq s w x).1.D.PC ≤ 6) ∧ ((yq s w x).1.D.PC = 3 → 0 ≤ (yq s w x).1.D.I ∧ (yq s w x).1.D.I < ((yq s w x).1.Ms.length : Int))
      rw [T.d, T.ms]; exact E.D
    · have := sm.setW (i := (w - 1).toNat) (zuA E.small w (E.small.w x (List.mem_of_getElem? hx)))
      rw [hws] at this
      exact this
theorem zuz {p : zd} {nb : Nat} {s : za} (h : zP p) (E : EOk p nb s) : EOk p nb (xj s) := by
  have key : ∀ s' : za, s'.P = s.P → s'.M = s.M → s'.Bins = s.Bins → s'.Ws = s.Ws → s'.Ms = s.Ms → s'.Acks = s.Acks → s'.H = s.H → s'.L = s.L → ((0 ≤ s'.D.PC ∧ s'.D.PC ≤ 6) ∧ (s'.D.PC = 3 → 0 ≤ s'.D.I ∧ s'.D.I < (s'.Ms.length : Int))) → EOk p nb s' := by
    intro s' e1 e2 e3 e4 e5 e6 e7 e8 e9
    have q := E.small
    refine ⟨E.S.keep e1 e2 (by rw [e3]), by rw [e4]; exact E.wl, by rw [e5]; exact E.ml, by rw [e5, e6]; exact E.al, by rw [e4]; exact E.W, by rw [e5]; exact E.X, by rw [e7]; exact E.H, e9, ?_⟩
    exact ⟨by rw [e2]; exact q.m, by rw [e3]; exact q.bins, by rw [e3]; exact q.bin, by rw [e6]; exact q.acks, by rw [e8]; exact q.bal, by rw [e4]; exact q.ws, by rw [e4]; exact q.w, by rw [e5]; exact q.ms, by rw [e5]; exact q.mu, by rw [e7]; exact q.objs, by rw [e7]; exact q.obj, by rw [e1]; exact q.pobjs, by rw [e1]; exact q.pobj, by rw [e1]; exact q.regs, by rw [e1]; exact q.reg, by rw [e1]; exact q.progs, by rw [e1]; exact q.prog, by rw [e1]; exact q.picks⟩
  have hm : ∀ n : Int, 0 ≤ n ∧ n ≤ 6 → n ≠ 3 → ∀ i, (0 ≤ (⟨n, i⟩ : zp).PC ∧ (⟨n, i⟩ : zp).PC ≤ 6) ∧ ((⟨n, i⟩ : zp).PC = 3 → 0 ≤ (⟨n, i⟩ : zp).I ∧ (⟨n, i⟩ : zp).I < (s.Ms.length : Int)) := fun n h1 h2 i => ⟨h1, fun e => absurd e h2⟩
  have hml := E.ml
  have hmt := h.mt
  unfold xj
  split
  · exact E
  split
  · exact key _ rfl rfl rfl rfl rfl rfl rfl rfl (hm 1 (by decide) (by decide) _)
  split
  · split
    · exact key _ rfl rfl rfl rfl rfl rfl rfl rfl (hm 2 (by decide) (by decide) _)
    · exact E
  split
  · refine key _ rfl rfl rfl rfl rfl rfl rfl rfl ?_
    dsimp only
    split
    · exact hm 4 (by decide) (by decide) _
    · exact ⟨by decide, fun _ => by omega⟩
  split
  · rename_i c3
    have hi := E.D.2 c3
    split
    · exact E
    · refine key _ rfl rfl rfl rfl rfl rfl rfl rfl ?_
      dsimp only
      have e : wc (s.D.I + 1) = s.D.I + 1 := ZW (by omega) (by omega)
      rw [e]
      split
      · exact hm 4 (by decide) (by decide) _
      · exact ⟨by decide, fun _ => by omega⟩
  split
  · split
    · exact key _ rfl rfl rfl rfl rfl rfl rfl rfl (hm 5 (by decide) (by decide) _)
    · exact key _ rfl rfl rfl rfl rfl rfl rfl rfl (hm 0 (by decide) (by decide) _)
  split
  · split
    · exact key _ rfl rfl rfl rfl rfl rfl rfl rfl (hm 0 (by decide) (by decide) _)
    · exact key _ rfl rfl rfl rfl rfl rfl rfl rfl (hm 6 (by decide) (by decide) _)
  split
  · exact key _ rfl rfl rfl rfl rfl rfl rfl rfl E.D
  · exact E
theorem HOk.put {p : zd} {h : zw} (H : HOk p h) (o s v : Int) : HOk p (zjv h o s v) := by
  unfold zjv
  split
  · rename_i c
    obtain ⟨c1, c2, c3⟩ := c
    unfold VR at c1
    simp only [Bool.and_eq_true, decide_eq_true_eq] at c1
    refine ⟨H.slots, by simp only [List.length_set]; exact H.n, fun l hl => ?_⟩
    simp only [List.length_set]
    rcases List.mem_or_eq_of_mem_set hl with hl | rfl
    · exact H.objs l hl
    · have hm : xB h o ∈ h.Objs := by
        unfold xB
        rw [List.getD_eq_getElem?_getD, List.getElem?_eq_getElem (show (o - 1).toNat < h.Objs.length by omega)]
        exact List.getElem_mem _
      obtain ⟨a, b⟩ := H.objs _ hm
      refine ⟨by rw [List.length_set]; exact a, fun y hy => ?_⟩
      rcases List.mem_or_eq_of_mem_set hy with hy | rfl
      · exact b y hy
      · exact ⟨c2, c3⟩
  · exact H
theorem HOk.alloc {p : zd} (hp : zP p) {h : zw} (H : HOk p h) (hr : zf1 h p.Most = true) : HOk p (zjP h) := by
  unfold zf1 at hr
  simp only [Bool.and_eq_true, decide_eq_true_eq] at hr
  have hs := hp.slots
  have hsl := H.slots
  have hn := H.n
  unfold zjP
  refine ⟨H.slots, by simp only [List.length_append, List.length_singleton]; omega, fun l hl => ?_⟩
  simp only [List.length_append, List.length_singleton]
  rcases List.mem_append.1 hl with hl | hl
  · obtain ⟨a, b⟩ := H.objs l hl
    exact ⟨a, fun v hv => by have := b v hv; omega⟩
  · rw [List.mem_singleton.1 hl]
    refine ⟨by rw [List.length_replicate]; omega, fun v hv => ?_⟩
    rw [(List.mem_replicate.1 hv).2]; omega
theorem zyF {p : zd} (hp : zP p) {s : za} (hP : s.P = p) (H : HOk p s.H) (m : Int) (x : zb) : HOk p (z8 s m x).1.H := by
  refine Z6 (motive := fun r => HOk p r.1.H) s m x ?_ ?_ ?_ ?_ ?_ ?_ ?_ ?_ ?_ ?_ ?_ ?_ ?_ ?_ ?_ ?_ ?_ ?_ ?_ ?_
  · intro c
    unfold mu0
    exact H
  · intro c
    unfold mu1
    exact H
  · intro c
    unfold mu2
    exact H
  · intro c
    unfold mu3
    rw [(zbd s x.G).2]; exact H
  · intro c
    unfold znE
    exact H
  · intro c
    unfold zlP
    exact H
  · intro c
    unfold zlm
    exact H
  · intro c
    unfold zme
    exact H
  · intro c
    unfold znp
    exact H.put _ _ _
  · intro c
    unfold zix
    split
    · split
      · rename_i hr
        rw [hP] at hr
        exact H.alloc hp hr
      · exact H
    · exact H
  · intro c
    unfold zlM
    exact H
  · intro c
    unfold zl9
    exact H
  · intro c
    unfold znK
    exact H
  · intro c
    unfold zlw
    exact H
  · intro c
    unfold zmh
    exact H
  · intro c
    unfold zlp
    exact H
  · intro c
    unfold zny
    rw [(zbd s x.G).2]; exact H
  · intro c
    unfold znj
    exact H
  · intro c
    unfold zqj
    exact H
  · exact H
theorem zsP (s : za) (m : Int) (x : zb) : (zgx s m x).Batch = x.Batch := by
  unfold zgx
  repeat' split
  all_goals rfl
theorem zvJ {s : za} (h : Zf s) (m : Int) {x : zb} (hx : x.Batch.length < 1000000) : (z8 s m x).2.Batch.length < 1000000 := by
  refine Z6 (motive := fun r => r.2.Batch.length < 1000000) s m x ?_ ?_ ?_ ?_ ?_ ?_ ?_ ?_ ?_ ?_ ?_ ?_ ?_ ?_ ?_ ?_ ?_ ?_ ?_ ?_
  · intro c
    unfold mu0
    dsimp only; rw [zsP]; exact hx
  · intro c
    unfold mu1
    dsimp only; split <;> exact hx
  · intro c
    unfold mu2
    exact hx
  · intro c
    unfold mu3
    dsimp only; split <;> exact hx
  · intro c
    unfold znE
    exact hx
  · intro c
    unfold zlP
    dsimp only; split <;> exact hx
  · intro c
    unfold zlm
    dsimp only; split <;> exact hx
  · intro c
    unfold zme
    dsimp only; split <;> exact hx
  · intro c
    unfold znp
    exact hx
  · intro c
    unfold zix
    split
    · split <;> exact hx
    · exact hx
  · intro c
    unfold zlM
    dsimp only; split <;> exact hx
  · intro c
    unfold zl9
    dsimp only
    split
    · exact hx
    split <;> exact hx
  · intro c
    unfold znK
    exact znh h _
  · intro c
    unfold zlw
    dsimp only; split <;> exact hx
  · intro c
    unfold zmh
    dsimp only
    cases hb : x.Batch with
    | nil => show ([] : List Int).length < 1000000; simp
    | cons o l => rw [hb] at hx; show l.length < _; simp at hx; omega
  · intro c
    unfold zlp
    dsimp only; split <;> exact hx
  · intro c
    unfold zny
    dsimp only; split <;> exact hx
  · intro c
    unfold znj
    exact hx
  · intro c
    unfold zqj
    exact hx
  · exact hx
theorem ziS {p : zd} (h : zP p) (m : Int) : zdS p m < 1000000 := by
  unfold zdS
  rw [List.getD_eq_getElem?_getD]
  cases hq : p.Regs[(m - 1).toNat]? with
  | none => simp
  | some r => have := (h.reg r (List.mem_of_getElem? hq)).1; show r.length < _; omega
theorem zib {p : zd} {nb : Nat} {s : za} (h : zP p) (E : EOk p nb s) (m : Int) : EOk p nb (yG s m) := by
  unfold yG
  split
  · exact E
  rename_i hc
  cases hx : s.Ms[(m - 1).toNat]? with
  | none => exact E
  | some x =>
    have hw1 : ¬ m < 1 := fun e => hc (.inr (.inl e))
    have hw2 : ¬ (s.Ms.length : Int) < m := fun e => hc (.inr (.inr e))
    have ei : (((m - 1).toNat : Nat) : Int) + 1 = m := by omega
    have hX := E.X _ x hx
    rw [ei] at hX
    obtain ⟨r1, r2⟩ := zyb h (zur h m) E.S hX
    have T := zse s m x
    have TH := zyF h E.S.P E.H m x
    have sm : Zf (z8 s m x).1 := E.small.turn h T TH
    have hms : (z8 s m x).1.Ms = s.Ms := T.ms
    have hb := h.buf
    refine ⟨r1.keep rfl rfl rfl, ?_, ?_, ?_, fun i y hy => ?_, fun i y hy => ?_, TH, ?_, ?_⟩
    · show ((z8 s m x).1.Ws.length : Int) = _
      rw [T.ws]; exact E.wl
    · show ((s.Ms.set _ _).length : Int) = _
      rw [List.length_set]; exact E.ml
    · show (z8 s m x).1.Acks.length = (s.Ms.set _ _).length
      rw [List.length_set, T.ac]; exact E.al
    · have hy : (z8 s m x).1.Ws[i]? = some y := hy
      rw [T.ws] at hy
      exact E.W i y hy
    · rcases zt9 hy with ⟨rfl, rfl⟩ | hy
      · rw [ei]; exact r2
      · exact E.X i y hy
    · show (0 ≤ (z8 s m x).1.D.PC ∧ (z8 s m x).1.D.PC ≤ 6) ∧ ((z8 s m x).1.D.PC = 3 → 0 ≤ (z8 s m x).1.D.I ∧ (z8 s m x).1.D.I < ((s.Ms.set _ _).length : Int))
      rw [T.d, List.length_set]; exact E.D
    · have q := E.small.mu x (List.mem_of_getElem? hx)
      have q1 := r2.regs
      have q2 := r2.buf
      have q3 := ziS h m
      have := sm.setM (i := (m - 1).toNat) (x := (z8 s m x).2) ⟨by omega, by omega, zvJ E.small m q.2.2⟩
      rw [hms] at this
      exact this
end
end Go.Pe.G
namespace Go.Pe.G
open Go.Pe
noncomputable section
theorem zud (t : zq) (o : Int) : zh3 t o = some (zg8 t o, ()) := by
  rw [zsc, zqH, Option.bind_some]
  show (bif zqB (t.Marks &&& t.Black) o then _ else _) = _
  unfold zg8
  cases h : zqB (t.Marks &&& t.Black) o with
  | true => rfl
  | false =>
    rw [cond_false, zqH, Option.bind_some]
    show (bif zqB t.Marks o then _ else _) = _
    cases h2 : zqB t.Marks o <;> rfl
theorem zlk (t : zq) (o : Int) : VS t o = some (zpj t o, decide (zg8 t o = 1), ()) := by
  rw [zp2, zud, Option.bind_some, yf]
  unfold zpj
  by_cases h : zg8 t o = 1
  · rw [if_pos h, if_pos h, zmq, Option.bind_some, decide_eq_true h]
  · rw [if_neg h, if_neg h, decide_eq_false h]
theorem zpF {h : zw} (hl : h.Objs.length < 1000000) (o s : Int) : Wx h o s = some (VR h o s, ()) := by
  rw [zkD]
  simp only [zn]
  unfold VR
  by_cases h1 : 1 ≤ o
  · rw [if_pos h1]
    by_cases h2 : o ≤ (h.Objs.length : Int)
    · rw [if_pos h2]
      by_cases h3 : 0 ≤ s
      · have e := List.getElem?_eq_getElem (show (o - 1).toNat < h.Objs.length by omega)
        rw [if_pos h3, z9 (a := o - 1) (by omega) (by omega), wR (by omega), e, Option.bind_some, decide_eq_true h1, decide_eq_true h2, decide_eq_true h3]
        unfold xB
        rw [List.getD_eq_getElem?_getD, e]; rfl
      · rw [if_neg h3, decide_eq_false h3, Bool.and_false]; rfl
    · rw [if_neg h2, decide_eq_false h2, Bool.and_false]; rfl
  · rw [if_neg h1, decide_eq_false h1]; rfl
theorem znY {h : zw} (hl : h.Objs.length < 1000000) (o s : Int) : zbS h o s = some (UT h o s, VR h o s, ()) := by
  rw [zrm, zpF hl, Option.bind_some]
  unfold UT
  cases hs : VR h o s with
  | false => rfl
  | true =>
    have hs' := hs
    unfold VR at hs'
    simp only [Bool.and_eq_true, decide_eq_true_eq] at hs'
    obtain ⟨⟨⟨h1, h2⟩, h3⟩, h4⟩ := hs'
    have e := List.getElem?_eq_getElem (show (o - 1).toNat < h.Objs.length by omega)
    have es : xB h o = h.Objs[(o - 1).toNat]'(by omega) := by unfold xB; rw [List.getD_eq_getElem?_getD, e]; rfl
    rw [es] at h4
    have e2 := List.getElem?_eq_getElem (show s.toNat < (h.Objs[(o - 1).toNat]'(by omega)).length by omega)
    simp only [Bool.not_true, cond_false, if_true]
    rw [z9 (a := o - 1) (by omega) (by omega), wR (by omega), e, Option.bind_some, wR h3, e2, Option.bind_some, es, List.getD_eq_getElem?_getD, e2]; rfl
theorem zhj (l : zk) (who : Int) : uw l who = some (decide (1 ≤ who) && decide (who ≤ (l.Bal.length : Int)), ()) := by
  rw [zgZ, zn]
  by_cases h1 : 1 ≤ who
  · rw [if_pos h1, decide_eq_true h1]; rfl
  · rw [if_neg h1, decide_eq_false h1]; rfl
theorem zm3 {l : zk} (hl : l.Bal.length < 1000000) (who : Int) : VJ l who = some (zmn l who, ()) := by
  rw [znV, yS, zhj, Option.bind_some]
  unfold zmn
  by_cases h : 1 ≤ who ∧ who ≤ (l.Bal.length : Int)
  · rw [if_pos h, decide_eq_true h.1, decide_eq_true (show who ≤ ((({ l with Scanned := wc (l.Scanned + 1) } : zk).Bal.length : Nat) : Int) from h.2)]
    have hn : ¬ l.Bal.isEmpty = true := by
      intro e
      have : l.Bal = [] := by simpa using e
      rw [this] at h
      simp at h
      omega
    have hn : l.Bal.isEmpty = false := by simpa using hn
    have e := List.getElem?_eq_getElem (show (who - 1).toNat < l.Bal.length by omega)
    rw [Bool.true_and, Bool.not_true, cond_false, WD]
    simp only [decide_true, cond_true, zaW (n := (l.Bal.length : Int)) (by omega) (by omega), Option.bind_some, List.length_replicate, Int.toNat_natCast, hn, cond_false, yS]
    rw [ZW (a := who - 1) (by omega) (by omega), vG (l := l.Bal) (by omega) (by omega), Option.bind_some, e, Option.bind_some, zla, Option.bind_some, Option.bind_some, Option.bind_some, yS, List.getD_eq_getElem?_getD, e]
    rfl
  · rw [if_neg h]
    have e : (decide (1 ≤ who) && decide (who ≤ ((({ l with Scanned := wc (l.Scanned + 1) } : zk).Bal.length : Nat) : Int))) = false := by
      by_cases h1 : 1 ≤ who
      · rw [decide_eq_true h1, decide_eq_false (fun e => h ⟨h1, e⟩)]; rfl
      · rw [decide_eq_false h1]; rfl
    rw [e]; rfl
theorem zsV {α : Type} (o : α) (l : List α) : cut (o :: l) 1 (((o :: l).length : Nat) : Int) = some l := by
  unfold cut
  rw [decide_eq_true (show (0 : Int) ≤ 1 by decide), decide_eq_true (show (1 : Int) ≤ (((o :: l).length : Nat) : Int) by simp; omega), decide_eq_true (Int.le_refl _)]
  simp
end
end Go.Pe.G
namespace Go.Pe.G
open Go.Pe
noncomputable section
theorem zi0 {p : zd} {nb : Nat} {s : za} (h : zP p) (E : EOk p nb s) : VF s = some (xj s, ()) := by
  rw [znI, yS]
  simp only [zn, yf]
  have ag : ∀ s : za, Wu s = some ({ s with Restarts := wc (s.Restarts + 1), D := { s.D with PC := 0 } }, ()) := fun s => by rw [zkA, yS]
  unfold xj
  by_cases hd : s.Done = true
  · rw [cond_eq_ite, if_pos hd, if_pos hd]
  · rw [cond_eq_ite, if_neg hd, if_neg hd]
    by_cases c0 : s.D.PC = 0
    · rw [if_pos c0, if_pos c0]
    rw [if_neg c0, if_neg c0]
    by_cases c1 : s.D.PC = 1
    · rw [if_pos c1, if_pos c1]
      by_cases w : s.Work = 0
      · rw [if_pos w, if_pos w]
      · rw [if_neg w, if_neg w]
    rw [if_neg c1, if_neg c1]
    by_cases c2 : s.D.PC = 2
    · rw [if_pos c2, if_pos c2]
      by_cases w : s.Ms.length = 0
      · rw [if_pos (show (s.Ms.length : Int) = 0 by omega), if_pos w]
      · rw [if_neg (show ¬ (s.Ms.length : Int) = 0 by omega), if_neg w]
    rw [if_neg c2, if_neg c2]
    by_cases c3 : s.D.PC = 3
    · have hi := E.D.2 c3
      have ha := E.al
      have e := List.getElem?_eq_getElem (show s.D.I.toNat < s.Acks.length by omega)
      have ed : s.Acks.getD s.D.I.toNat 0 = s.Acks[s.D.I.toNat]'(by omega) := by rw [List.getD_eq_getElem?_getD, e]; rfl
      rw [if_pos c3, if_pos c3, wR hi.1, e, Option.bind_some, ed]
      by_cases w : (s.Acks[s.D.I.toNat]'(by omega)) < s.Epoch
      · rw [if_pos w, if_pos w]
      · rw [if_neg w, if_neg w]
        by_cases v : wc (s.D.I + 1) = (s.Ms.length : Int)
        · rw [if_pos v, if_pos v]
        · rw [if_neg v, if_neg v, c3]
    rw [if_neg c3, if_neg c3]
    by_cases c4 : s.D.PC = 4
    · rw [if_pos c4, if_pos c4]
      by_cases w : s.Work = 0
      · rw [if_pos w, if_pos w]
      · rw [if_neg w, if_neg w, ag]; rfl
    rw [if_neg c4, if_neg c4]
    by_cases c5 : s.D.PC = 5
    · rw [if_pos c5, if_pos c5]
      by_cases hf : s.Flag = true
      · rw [cond_eq_ite, if_pos hf, if_pos hf, ag]; rfl
      · rw [cond_eq_ite, if_neg hf, if_neg hf]
    rw [if_neg c5, if_neg c5]
    by_cases c6 : s.D.PC = 6
    · rw [if_pos c6, if_pos c6]
    · rw [if_neg c6, if_neg c6]
theorem zod {p : zd} (h : zP p) {m : Int} (hm : 1 ≤ m ∧ m ≤ p.Mutators) : p.Progs[(m - 1).toNat]? = some (wG p m) := by
  have := h.progs
  have e := List.getElem?_eq_getElem (show (m - 1).toNat < p.Progs.length by omega)
  unfold wG
  rw [List.getD_eq_getElem?_getD, e]; rfl
theorem zjF {p : zd} (h : zP p) {m : Int} (hm : 1 ≤ m ∧ m ≤ p.Mutators) {o : zi} (ho : o ∈ wG p m) : (0 ≤ o.R ∧ o.R < (zdS p m : Int)) ∧ (0 ≤ o.A ∧ o.A < (zdS p m : Int)) := by
  have hr := h.regs
  have er := List.getElem?_eq_getElem (show (m - 1).toNat < p.Regs.length by omega)
  have e1 : zdS p m = (p.Regs[(m - 1).toNat]'(by omega)).length := by unfold zdS; rw [List.getD_eq_getElem?_getD, er]; rfl
  have hl := (h.reg _ (List.getElem_mem (show (m - 1).toNat < p.Regs.length by omega))).1
  obtain ⟨a, b⟩ := (h.prog _ _ _ er (zod h hm)).2 o ho
  rw [e1]
  refine ⟨a, ?_⟩
  rcases b with ⟨_, b, _⟩ | ⟨_, b, _⟩ | ⟨_, b, _⟩
  · exact b
  · exact b
  · omega
theorem zfV {p : zd} (h : zP p) {s : za} (hP : s.P = p) {m : Int} (hm : 1 ≤ m ∧ m ≤ p.Mutators) {x : zb} (hi : 0 ≤ x.IP ∧ x.IP < ((wG p m).length : Int)) :
    wL ⟨x, s, m⟩ = some (opM p m x, ()) ∧ opM p m x ∈ wG p m := by
  have hmt := h.mt
  have e := List.getElem?_eq_getElem (show x.IP.toNat < (wG p m).length by omega)
  have eo : opM p m x = (wG p m)[x.IP.toNat]'(by omega) := by unfold opM; rw [List.getD_eq_getElem?_getD, e]; rfl
  rw [zk1]
  dsimp only
  rw [hP, z9 (a := m - 1) (by omega) (by omega), wR (by omega), zod h hm, Option.bind_some, wR hi.1, e, Option.bind_some, eo]
  exact ⟨rfl, List.getElem_mem _⟩
theorem zjw {x : zb} {r : Int} (h : 0 ≤ r ∧ r < (x.Regs.length : Int)) : idx x.Regs r = some (ziA x r) := by
  have e := List.getElem?_eq_getElem (show r.toNat < x.Regs.length by omega)
  rw [wR h.1, e]
  unfold ziA
  rw [List.getD_eq_getElem?_getD, e]; rfl
theorem zdN {s : za} {m : Int} {x : zb} {r : Int} (h : 0 ≤ r ∧ r < (x.Regs.length : Int)) (hl : x.Regs.length < 1000000) (v : Int) : vO r v ⟨x, s, m⟩ = some (⟨setM x r v, s, m⟩, ()) := by
  rw [zhJ]
  simp only [ui (show x.Regs.length < 4294967296 by omega), Option.bind_some, vG h.1 h.2, uQ, yS]
  rfl
theorem zlA {p : zd} (h : zP p) {s : za} (hP : s.P = p) {m : Int} (hm : 1 ≤ m ∧ m ≤ p.Mutators) {x : zb} (hi : 0 ≤ x.IP ∧ x.IP < ((wG p m).length : Int)) (hr : x.Regs.length = zdS p m) (ho : s.H.Objs.length < 1000000) :
    XI ⟨x, s, m⟩ = some (zrR s m x, ()) := by
  obtain ⟨e1, e2⟩ := zfV h hP hm hi
  have o := zjF h hm e2
  rw [zju]
  simp only [e1, Option.bind_some, zjw (x := x) (r := (opM p m x).A) (by omega), znY ho]
  unfold zrR
  rw [hP]
theorem zjt {p : zd} {nb : Nat} (h : zP p) {s : za} (S : SOk p nb s) {m : Int} {x : zb} (M : MOk p nb x.G) (to : Int) :
    Zg to ⟨x, s, m⟩ = some (⟨if (zH s x.G).2.Out = 1 then { x with PC := to, G := (zH s x.G).2 } else { x with G := (zH s x.G).2 }, (zH s x.G).1, m⟩, ()) := by
  rw [zeR]
  simp only [zqX (S.gok h M), Option.bind_some, zn]
  split <;> rfl
theorem zpn (s : za) (x : zb) (m : Int) : Vn ⟨x, s, m⟩ = some (onM s x.Slot, ()) := by
  rw [zk5, zn]
  unfold onM
  split <;> rfl
theorem zlb (k hd to : Int) (s : za) (x : zb) (m : Int) : ZP k hd to ⟨x, s, m⟩ = some (⟨{ x with PC := to, C := ⟨k, 0, hd, yT s.P, 0#64, x.Bin, 0, 0⟩ }, s, m⟩, ()) := by
  rw [zgK]
  simp only [UG, Option.bind_some, Y0]
theorem zws {m : List zb} (h : m.length < 4294967296) : wj m = some (m, ()) := by
  rw [XF, List.nil_append, we h, Option.bind_some]
  cases m with
  | nil => simp [zbt]
  | cons a l => simp
theorem zrr {p : zd} (h : zP p) {nb : Nat} {s : za} (hP : s.P = p) {m : Int} (hm : 1 ≤ m ∧ m ≤ p.Mutators) (ha : (s.Acks.length : Int) = p.Mutators) {x : zb} (X : XOk p nb m x) :
    X7 ⟨x, s, m⟩ = some (⟨zgx s m x, s, m⟩, ()) := by
  have hmt := h.mt
  have hip := X.ip
  have hrs := ziS h m
  have e := List.getElem?_eq_getElem (show (m - 1).toNat < s.Acks.length by omega)
  have ed : s.Acks.getD (m - 1).toNat 0 = s.Acks[(m - 1).toNat]'(by omega) := by rw [List.getD_eq_getElem?_getD, e]; rfl
  have pg : s.P.Progs[(m - 1).toNat]? = some (wG p m) := by rw [hP]; exact zod h hm
  rw [zfW]
  simp only [zn]
  rw [z9 (a := m - 1) (by omega) (by omega), wR (by omega), e, Option.bind_some]
  unfold zgx
  rw [ed, hP]
  by_cases c : (s.Acks[(m - 1).toNat]'(by omega)) < s.Epoch
  · rw [if_pos c, if_pos c]
  rw [if_neg c, if_neg c, ← hP, wR (by omega), pg, Option.bind_some, hP]
  by_cases c2 : ((wG p m).length : Int) ≤ x.IP
  · rw [if_pos c2, if_pos c2]
  rw [if_neg c2, if_neg c2]
  obtain ⟨e1, e2⟩ := zfV h hP hm (x := x) (show 0 ≤ x.IP ∧ x.IP < ((wG p m).length : Int) by omega)
  have o := zjF h hm e2
  have hreg := X.regs
  rw [e1, Option.bind_some]
  by_cases k1 : (opM p m x).Kind = 1
  · rw [if_pos k1, if_pos k1]
  rw [if_neg k1, if_neg k1]
  by_cases k2 : (opM p m x).Kind = 2
  · rw [if_pos k2, if_pos k2]
  rw [if_neg k2, if_neg k2]
  by_cases k3 : (opM p m x).Kind = 3
  · rw [if_pos k3, if_pos k3]
  rw [if_neg k3, if_neg k3]
  by_cases k4 : (opM p m x).Kind = 4
  · rw [if_pos k4, if_pos k4, zjw (x := x) (r := (opM p m x).A) (by omega), Option.bind_some, zdN (x := x) (r := (opM p m x).R) (by omega) (by omega)]; rfl
  · rw [if_neg k4, if_neg k4, zdN (x := x) (r := (opM p m x).R) (by omega) (by omega)]; rfl
theorem zvM {h : zw} (hl : h.Objs.length < 1000000) (hs : ∀ l ∈ h.Objs, l.length < 1000000) (o i v : Int) : ∃ b, zky h o i v = some (zjv h o i v, b, ()) := by
  rw [zrk, zpF hl, Option.bind_some]
  unfold zjv
  cases ht : VR h o i with
  | false => rw [if_neg (fun e => by cases e.1)]; exact ⟨_, rfl⟩
  | true =>
    rw [Bool.not_true, cond_false, zn]
    by_cases h1 : v < 0
    · rw [if_pos h1, if_neg (by omega)]; exact ⟨_, rfl⟩
    rw [if_neg h1, zn]
    by_cases h2 : (h.Objs.length : Int) < v
    · rw [if_pos h2, if_neg (by omega)]; exact ⟨_, rfl⟩
    have hh := ht
    unfold VR at hh
    simp only [Bool.and_eq_true, decide_eq_true_eq] at hh
    obtain ⟨⟨⟨g1, g2⟩, g3⟩, g4⟩ := hh
    have e := List.getElem?_eq_getElem (show (o - 1).toNat < h.Objs.length by omega)
    have es : xB h o = h.Objs[(o - 1).toNat]'(by omega) := by unfold xB; rw [List.getD_eq_getElem?_getD, e]; rfl
    have hlen := hs _ (List.mem_of_getElem? e)
    rw [if_neg h2, if_pos ⟨rfl, by omega, by omega⟩, zfo (by omega), Option.bind_some, z9 (a := o - 1) (by omega) (by omega), vG (l := h.Objs) (by omega) (by omega), Option.bind_some, e, Option.bind_some, ui (by omega), Option.bind_some, Option.bind_some, Option.bind_some]
    rw [zn, if_pos rfl, vG g3 (by rw [← es]; exact g4), Option.bind_some, es]
    exact ⟨_, rfl⟩
theorem zrs {h : zw} (h1 : 1 ≤ h.Slots ∧ h.Slots ≤ 4) (h2 : h.Objs.length ≤ 64) (h3 : ∀ o ∈ h.Objs, (o.length : Int) = h.Slots ∧ ∀ v ∈ o, 0 ≤ v ∧ v ≤ (h.Objs.length : Int)) : Ur h = some (true, ()) := by
  rw [zhV, zn, if_pos h1.1, zn, if_pos h1.2, zn, if_pos (by omega), zq5 (by omega) (by omega) h3]
  rfl
theorem zuH {h : zw} (h1 : 1 ≤ h.Slots ∧ h.Slots ≤ 4) (h2 : h.Objs.length ≤ 64) (h3 : ∀ o ∈ h.Objs, (o.length : Int) = h.Slots ∧ ∀ v ∈ o, 0 ≤ v ∧ v ≤ (h.Objs.length : Int)) (hne : h.Objs ≠ []) (most : Int) :
    zgv h most = some (if zf1 h most = true then (zjP h, (h.Objs.length : Int) + 1, 0, ()) else (h, 0, 4, ())) := by
  have hn : h.Objs.length ≠ 0 := fun e => hne (List.eq_nil_of_length_eq_zero e)
  rw [zoo, zrs h1 h2 h3, Option.bind_some, Bool.not_true, cond_false]
  simp only [zn]
  have er : zf1 h most = true ↔ (h.Objs.length : Int) < most ∧ (h.Objs.length : Int) < 64 := by unfold zf1; simp
  have hx : (if 64 < most then (64 : Int) else most) ≤ (h.Objs.length : Int) ↔ ¬ (zf1 h most = true) := by
    rw [er]
    split <;> omega
  by_cases hr : zf1 h most = true
  · rw [if_neg (fun e => hx.1 e hr), if_pos hr]
    have ec : YX h.Objs = some (h.Objs, ()) := by
      rw [zdZ]
      simp [hn]
    rw [ec, Option.bind_some, if_pos trivial, zim, decide_eq_true (show 0 ≤ h.Slots by omega), decide_eq_true (show h.Slots < 4294967296 by omega)]
    simp only [Bool.and_self, cond_true, Option.bind_some]
    rw [we (by simp only [List.length_append, List.length_singleton]; omega), Option.bind_some]
    unfold zjP
    simp
  · rw [if_pos (hx.2 hr), if_neg hr]
theorem zue (t : zq) (o : Int) : ∃ b, zgf t o = some (zoC t o, b, ()) := by
  rw [zoM, zoL, Option.bind_some]
  unfold zoC
  dsimp only
  cases hs : (zfQ t o).2 with
  | false => rw [if_neg (by simp)]; exact ⟨_, rfl⟩
  | true => rw [Bool.not_true, cond_false, zlk, if_pos rfl]; exact ⟨_, rfl⟩
theorem zkS (l : zk) (who price limit : Int) : Zw l who price limit = some (US l who price limit, ()) := by
  rw [zfG, zhj, Option.bind_some]
  unfold US Uw
  simp only [zn]
  cases ht : (decide (1 ≤ who) && decide (who ≤ (l.Bal.length : Int))) with
  | false => rw [cond_false]; simp
  | true =>
    rw [cond_true]
    by_cases h1 : 0 ≤ price <;> by_cases h2 : 0 ≤ limit
    · rw [if_pos (by split <;> omega)]
      simp only [Bool.true_and, decide_eq_true h1, decide_eq_true h2, Option.some.injEq, Prod.mk.injEq, and_true]
      rw [Bool.eq_iff_iff]
      simp only [decide_eq_true_eq, Bool.and_eq_true]
      split <;> omega
    · rw [if_neg (by split <;> omega)]; simp [h2]
    · rw [if_neg (by split <;> omega)]; simp [h1]
    · rw [if_neg (by split <;> omega)]; simp [h1]
theorem zp8 {l : zk} {who : Int} (hl : l.Bal.length < 1000000) (h : Uw l who = true) : idx l.Bal (w64 (who - 1)) = some (zcf l who) ∧ yV l.Bal (w64 (who - 1)) = some (who - 1).toNat ∧ l.Bal[(who - 1).toNat]? = some (zcf l who) := by
  unfold Uw at h
  simp only [Bool.and_eq_true, decide_eq_true_eq] at h
  have e := List.getElem?_eq_getElem (show (who - 1).toNat < l.Bal.length by omega)
  have eb : zcf l who = l.Bal[(who - 1).toNat]'(by omega) := by unfold zcf; rw [List.getD_eq_getElem?_getD, e]; rfl
  rw [z9 (a := who - 1) (by omega) (by omega), wR (by omega), vG (by omega) (by omega), e, eb]
  exact ⟨rfl, rfl, rfl⟩
theorem zpd {l : zk} (hl : l.Bal.length < 1000000) (who price limit : Int) : zbU l who price limit = some (zj2 l who price limit, ()) := by
  rw [zpr, zkS, Option.bind_some]
  unfold zj2
  cases hp : US l who price limit with
  | false => rfl
  | true =>
    have ht : Uw l who = true := by unfold US at hp; simp only [Bool.and_eq_true] at hp; exact hp.1.1.1.1
    dsimp only
    rw [cond_true, (zp8 hl ht).1, Option.bind_some, yS, Bool.true_and, Int.zero_sub]
theorem zkN {l l' : zk} (hl : l.Bal.length < 1000000) {who : Int} (h : Uw l who = true) (hb : l'.Bal = l.Bal) {v : Int} {Q : Option (zk × Unit)} {f : Int → Option (Int × Unit)} (hf : f (zcf l who) = some (v, ()))
    (hQ : Q = bif decide (((l'.Bal.length : Int)) = ((l'.Bal.length : Int))) then (Zh ((l'.Bal.length : Int))).bind fun n1 => bif decide (l'.Bal.length = ((List.replicate n1 ((0 : Int))).length)) then
      bif l'.Bal.isEmpty then (yV (List.replicate n1 ((0 : Int))) (w64 (who - 1))).bind fun n2 => ((List.replicate n1 ((0 : Int)))[n2]?).bind fun x3 => (f x3).bind fun y4 => (yV (List.replicate n1 ((0 : Int))) (w64 (who - 1))).bind fun n5 => some ({ l' with Bal := (List.replicate n1 ((0 : Int))).set n5 y4.1 }, ())
      else (yV l'.Bal (w64 (who - 1))).bind fun n6 => (l'.Bal[n6]?).bind fun x7 => (f x7).bind fun y8 => (yV l'.Bal (w64 (who - 1))).bind fun n9 => some ({ l' with Bal := l'.Bal.set n9 y8.1 }, ()) else none else none) :
    Q = some ({ l' with Bal := l.Bal.set (who - 1).toNat v }, ()) := by
  obtain ⟨e1, e2, e3⟩ := zp8 hl h
  have hne : l.Bal.isEmpty = false := by
    cases hl2 : l.Bal with
    | nil => rw [hl2] at e3; simp at e3
    | cons a r => rfl
  rw [hQ, hb, zim, decide_eq_true (show (0 : Int) ≤ (l.Bal.length : Int) by omega), decide_eq_true (show (l.Bal.length : Int) < 4294967296 by omega)]
  simp only [decide_true, cond_true, Bool.and_self, Option.bind_some, Int.toNat_natCast, List.length_replicate, hne, cond_false, e2, e3, hf]
theorem zr1 {l : zk} (hl : l.Bal.length < 1000000) (who price limit : Int) : zc9 l who price limit = some (if zj2 l who price limit = true then (zlc l who price, true, ()) else (l, false, ())) := by
  rw [zmH, zpd hl, Option.bind_some]
  cases hm : zj2 l who price limit with
  | false => rfl
  | true =>
    have ht : Uw l who = true := by unfold zj2 US at hm; simp only [Bool.and_eq_true] at hm; exact hm.1.1.1.1.1
    dsimp only
    rw [Bool.not_true, cond_false, zkN (l' := { l with Spent := w64 (l.Spent + price) }) hl ht rfl (f := fun b => W9 b price) (v := wc (zcf l who - price)) (by rw [zk4, yS]) (Wt _ _ _), Option.bind_some, if_pos rfl, yS]
    rfl
theorem ztE {l : zk} (hl : l.Bal.length < 1000000) (who want : Int) : zeU l who want = some ((zh6 l who want).1, (zh6 l who want).2, ()) := by
  rw [znQ, zhj, Option.bind_some]
  unfold zh6
  have em : (bif decide (l.Pool < want) then l.Pool else want) = zj9 want l.Pool := by rw [zn]; rfl
  simp only [em]
  have et : (decide (1 ≤ who) && decide (who ≤ (l.Bal.length : Int))) = Uw l who := rfl
  rw [et]
  cases ht : Uw l who with
  | false => rw [if_neg (fun e => by cases e.1)]; rfl
  | true =>
    rw [Bool.not_true, cond_false, zn]
    by_cases hz : zj9 want l.Pool ≤ 0
    · rw [if_pos hz, if_neg (by omega)]
    · rw [if_neg hz, if_pos ⟨rfl, by omega⟩, zkN (l' := { l with Pool := w64 (l.Pool - zj9 want l.Pool) }) hl ht rfl (f := fun b => Uf b (zj9 want l.Pool)) (v := wc (zcf l who + zj9 want l.Pool)) (by rw [zle, yS]) (WL _ _ _), Option.bind_some, yS]
theorem zs8 {l : zk} (hl : l.Bal.length < 1000000) (who price limit : Int) : zdp l who price limit = some (zlD l who price limit, ()) := by
  rw [zmW, zkS, Option.bind_some]
  unfold zlD
  cases hp : US l who price limit with
  | false => rfl
  | true =>
    have ht : Uw l who = true := by unfold US at hp; simp only [Bool.and_eq_true] at hp; exact hp.1.1.1.1
    dsimp only
    rw [Bool.not_true, cond_false, zpd hl, Option.bind_some, if_pos rfl]
    cases hm : zj2 l who price limit with
    | false => rw [cond_false, (zp8 hl ht).1, Option.bind_some, yS]; rfl
    | true => rfl
theorem ztl {p : zd} {nb : Nat} (h : zP p) {s : za} {x : zb} {m : Int} (S : SOk p nb s) (X : XOk p nb m x) (hm : 1 ≤ m ∧ m ≤ p.Mutators) (ha : (s.Acks.length : Int) = p.Mutators) (sm : Zf s) (H : HOk p s.H) (hb : x.Buf.length < 1000000) (hbt : x.Batch.length < 1000000) : WW ⟨x, s, m⟩ = some (⟨(z8 s m x).2, (z8 s m x).1, m⟩, ()) := by
  have hmt := h.mt
  have hpc := X.pc
  rw [zf8]
  simp only [zn]
  unfold z8
  by_cases c0 : x.PC = 0
  · rw [if_pos c0, if_pos c0, zrr h S.P hm ha X]; rfl
  rw [if_neg c0, if_neg c0]
  by_cases c1 : x.PC = 1
  · rw [if_pos c1, if_pos c1, zfq]
    simp only [zn]
    unfold mu1
    by_cases e : x.Buf.length = 0
    · rw [if_pos e, if_pos (by rw [z9 (by omega) (by omega)]; omega)]; rfl
    · have ei := List.getElem?_eq_getElem (show x.Buf.length - 1 < x.Buf.length by omega)
      have en : ((x.Buf.length : Int) - 1).toNat = x.Buf.length - 1 := by omega
      have ec : cut x.Buf 0 ((x.Buf.length : Int) - 1) = some (x.Buf.take (x.Buf.length - 1)) := by
        unfold cut
        rw [decide_eq_true (show (0 : Int) ≤ 0 by decide), decide_eq_true (show (0 : Int) ≤ (x.Buf.length : Int) - 1 by omega), decide_eq_true (show (x.Buf.length : Int) - 1 ≤ (x.Buf.length : Int) by omega), en]
        simp
      rw [if_neg e, z9 (a := (x.Buf.length : Int) - 1) (by omega) (by omega), if_neg (by omega), wR (by omega), en, ei, Option.bind_some, zko, Option.bind_some, ec, List.getD_eq_getElem?_getD, ei]
      rfl
  rw [if_neg c1, if_neg c1]
  by_cases c2 : x.PC = 2
  · rw [if_pos c2, if_pos c2, zhL]
    have hs := sm.acks
    simp only [ui (show s.Acks.length < 4294967296 by omega), Option.bind_some]
    rw [z9 (a := m - 1) (by omega) (by omega), vG (l := s.Acks) (by omega) (by omega)]
    rfl
  rw [if_neg c2, if_neg c2]
  have hbl := sm.bal
  have hon := sm.objs
  have hregs := X.regs
  have hrs := ziS h m
  have hHs := H.slots
  have hHn := H.n
  have hpn := h.n
  have hpm := h.most
  have hps := h.slots
  have op := fun (hi : x.IP < ((wG p m).length : Int)) => zfV h S.P hm (x := x) ⟨X.ip.1, hi⟩
  by_cases c3 : x.PC = 3
  · rw [if_pos c3, if_pos c3, zfF, zjt h S (X.g (.inl c3)).1]; rfl
  rw [if_neg c3, if_neg c3]
  by_cases c10 : x.PC = 10
  · have hi := X.op (.inl (by omega))
    obtain ⟨e1, e2⟩ := op hi
    have o := zjF h hm e2
    rw [if_pos c10, if_pos c10, zgk, e1, Option.bind_some, zlA h S.P hm ⟨X.ip.1, hi⟩ hregs hon, Option.bind_some, zdN (x := x) (r := (opM p m x).R) (by omega) (by omega)]
    unfold znE
    rw [S.P]; rfl
  rw [if_neg c10, if_neg c10]
  by_cases c20 : x.PC = 20
  · have hi := X.op (.inl (by omega))
    obtain ⟨e1, e2⟩ := op hi
    have o := zjF h hm e2
    rw [if_pos c20, if_pos c20, zhK, e1, Option.bind_some]
    unfold zlP
    dsimp only
    rw [zjw (x := x) (r := (opM p m x).A) (by omega), Option.bind_some, zn, S.P]
    by_cases e : ziA x (opM p m x).A = 0
    · rw [if_pos e, if_pos e, uQ, yS]; rfl
    · rw [if_neg e, if_neg e, zlA h S.P hm ⟨X.ip.1, hi⟩ hregs hon]; rfl
  rw [if_neg c20, if_neg c20]
  by_cases c21 : x.PC = 21
  · rw [if_pos c21, if_pos c21, zfI]
    unfold zlm
    dsimp only
    rw [zn]
    by_cases e : x.Old = 0
    · rw [if_pos e, if_pos (.inl e)]; rfl
    · rw [if_neg e, zud, Option.bind_some, yf]
      by_cases e2 : zg8 s.T x.Old = 0
      · rw [if_pos e2, if_neg (fun h => h.elim e (fun h => h e2))]; rfl
      · rw [if_neg e2, if_pos (.inr e2)]; rfl
  rw [if_neg c21, if_neg c21]
  by_cases c22 : x.PC = 22
  · rw [if_pos c22, if_pos c22, zcW]
    unfold zme
    dsimp only
    rw [zn]
    by_cases e : s.P.Buf ≤ (x.Buf.length : Int)
    · rw [if_pos e, if_pos e]; rfl
    · rw [if_neg e, if_neg e, ui (by omega), Option.bind_some, we (by simp; omega)]; rfl
  rw [if_neg c22, if_neg c22]
  by_cases c23 : x.PC = 23
  · have hi := X.op (.inl (by omega))
    obtain ⟨e1, e2⟩ := op hi
    have o := zjF h hm e2
    obtain ⟨b, ep⟩ := zvM hon sm.obj (ziA x (opM p m x).A) (opM p m x).S (ziA x (opM p m x).R)
    rw [if_pos c23, if_pos c23, zfA, e1, Option.bind_some]
    dsimp only
    rw [zjw (x := x) (r := (opM p m x).A) (by omega), Option.bind_some, zjw (x := x) (r := (opM p m x).R) (by omega), Option.bind_some, ep, Option.bind_some, uQ, yS]
    unfold znp
    rw [S.P]; rfl
  rw [if_neg c23, if_neg c23]
  by_cases c30 : x.PC = 30
  · have hi := X.op (.inl (by omega))
    obtain ⟨e1, e2⟩ := op hi
    have o := zjF h hm e2
    have hne : s.H.Objs ≠ [] := fun e => by have e2 : s.H.Objs.length = 0 := by rw [e]; rfl
                                            omega
    rw [if_pos c30, if_pos c30, zfT]
    unfold zix
    dsimp only
    rw [zr1 hbl, Option.bind_some]
    cases hmay : zj2 s.L m s.P.Price s.P.Limit with
    | false => rfl
    | true =>
      rw [if_pos rfl, if_pos rfl]
      dsimp only
      rw [Bool.not_true, cond_false, zuH (show 1 ≤ s.H.Slots ∧ s.H.Slots ≤ 4 by rw [hHs]; omega) (show s.H.Objs.length ≤ 64 by omega) H.objs hne, Option.bind_some]
      cases hr : zf1 s.H s.P.Most with
      | false =>
        rw [if_neg (by simp), if_neg (by simp)]
        dsimp only
        rw [yf, if_neg (by decide), uQ, yS]; rfl
      | true =>
        rw [if_pos rfl, if_pos rfl]
        dsimp only
        obtain ⟨b, ef⟩ := zue s.T ((s.H.Objs.length : Int) + 1)
        rw [yf, if_pos rfl, ef, Option.bind_some]
        have e3 := (zfV h (s := { s with H := zjP s.H, T := zoC s.T ((s.H.Objs.length : Int) + 1), L := zlc s.L m s.P.Price }) S.P hm (x := x) ⟨X.ip.1, hi⟩).1
        rw [e3, Option.bind_some, zdN (x := x) (r := (opM p m x).R) (by omega) (by omega), ZW (by omega) (by omega)]
        rw [S.P]; rfl
  rw [if_neg c30, if_neg c30]
  by_cases c31 : x.PC = 31
  · rw [if_pos c31, if_pos c31, zhc]
    unfold zlM
    dsimp only
    rw [zs8 hbl, Option.bind_some, ztE hbl, Option.bind_some, zn]
    by_cases e : (zh6 s.L m (zlD s.L m s.P.Price s.P.Limit)).2 = 0
    · rw [if_pos e, if_pos e, zca, Option.bind_some, zlb]; rfl
    · rw [if_neg e, if_neg e]; rfl
  rw [if_neg c31, if_neg c31]
  by_cases c32 : x.PC = 32
  · rw [if_pos c32, if_pos c32, zhG]
    unfold zl9
    dsimp only
    rw [zcn (by have := S.mem; omega), Option.bind_some, zn, zn]
    by_cases e : (zJ s.M x.C).2.Out = 1
    · rw [if_pos e, if_pos e]; rfl
    · rw [if_neg e, if_neg e]
      by_cases e2 : (zJ s.M x.C).2.Out = 2
      · rw [if_pos e2, if_pos e2]; rfl
      · rw [if_neg e2, if_neg e2]; rfl
  rw [if_neg c32, if_neg c32]
  by_cases c33 : x.PC = 33
  · have B := X.b33 c33
    have hbn := S.bins
    have hnb := S.nbk
    have e := List.getElem?_eq_getElem (show x.Bin.toNat < s.Bins.length by omega)
    rw [if_pos c33, if_pos c33, zfx]
    unfold znK
    dsimp only
    rw [wR (by omega), e, Option.bind_some, zfo (by omega), Option.bind_some, vG (l := s.Bins) (by omega) (by omega), Option.bind_some, zax, Option.bind_some, zlb]
    have eb : zks s x.Bin = s.Bins[x.Bin.toNat]'(by omega) := by unfold zks; rw [List.getD_eq_getElem?_getD, e]; rfl
    rw [eb]; rfl
  rw [if_neg c33, if_neg c33]
  by_cases c34 : x.PC = 34
  · rw [if_pos c34, if_pos c34, zhh]
    unfold zlw
    dsimp only
    rw [zcn (by have := S.mem; omega), Option.bind_some, zn]
    by_cases e : (zJ s.M x.C).2.Out = 1
    · rw [if_pos e, if_pos e]; rfl
    · rw [if_neg e, if_neg e]; rfl
  rw [if_neg c34, if_neg c34]
  by_cases c35 : x.PC = 35
  · rw [if_pos c35, if_pos c35, zfm]
    unfold zmh
    dsimp only
    rw [zn]
    cases hbb : x.Batch with
    | nil => rw [if_neg (by simp)]; rfl
    | cons o l =>
      have : idx (o :: l) 0 = some o := by rw [wR (by omega)]; rfl
      rw [if_pos (by simp), this, Option.bind_some, zsV]; rfl
  rw [if_neg c35, if_neg c35]
  by_cases c36 : x.PC = 36
  · rw [if_pos c36, if_pos c36, zg2]
    unfold zlp
    dsimp only
    rw [znY hon, Option.bind_some, zpn, Option.bind_some, yf, yS]
    by_cases e : UT s.H x.Obj x.Slot = 0
    · rw [if_pos e, if_pos e]; rfl
    · rw [if_neg e, if_neg e, zko]; rfl
  rw [if_neg c36, if_neg c36]
  by_cases c37 : x.PC = 37
  · rw [if_pos c37, if_pos c37, zhF, zpn, Option.bind_some, zjt h S (X.g (.inr c37)).1]; rfl
  rw [if_neg c37, if_neg c37]
  by_cases c38 : x.PC = 38
  · rw [if_pos c38, if_pos c38, zen]
    unfold znj
    dsimp only
    rw [zlk, Option.bind_some, zm3 hbl]; rfl
  rw [if_neg c38, if_neg c38]
  have c39 : x.PC = 39 := by omega
  rw [if_pos c39, if_pos c39, zeh, yS]; rfl
theorem zbN {p : zd} {nb : Nat} {s : za} (h : zP p) (E : EOk p nb s) (m : Int) : YL s m = some (yG s m, ()) := by
  rw [zmy]
  simp only [zn]
  unfold yG
  cases hd : s.Done with
  | true => rw [cond_true, if_pos (.inl rfl)]
  | false =>
    rw [cond_false]
    by_cases h1 : m < 1
    · rw [if_pos h1, if_pos (.inr (.inl h1))]
    rw [if_neg h1]
    by_cases h2 : (s.Ms.length : Int) < m
    · rw [if_pos h2, if_pos (.inr (.inr h2))]
    have hml := E.ml
    have hal := E.al
    have hmt := h.mt
    have e := List.getElem?_eq_getElem (show (m - 1).toNat < s.Ms.length by omega)
    have ei : (((m - 1).toNat : Nat) : Int) + 1 = m := by omega
    have hX := E.X _ _ e
    rw [ei] at hX
    have hb := (E.small.mu _ (List.mem_of_getElem? e)).2
    have T := zse s m (s.Ms[(m - 1).toNat]'(by omega))
    rw [if_neg h2, if_neg (fun e => e.elim (fun h => by cases h) (fun e => e.elim h1 h2)), z9 (a := m - 1) (by omega) (by omega), wR (by omega), e, Option.bind_some, ztl h E.S hX (by omega) (by omega) E.small E.H hb.1 hb.2, Option.bind_some]
    simp only [T.ms, zws (show s.Ms.length < 4294967296 by omega), Option.bind_some, vG (l := s.Ms) (show 0 ≤ m - 1 by omega) (show m - 1 < (s.Ms.length : Int) by omega)]
end
end Go.Pe.G
namespace Go.Pe.G
open Go.Pe
noncomputable section
theorem zwH {m : List ze} (h : m.length < 4294967296) : wE m = some (m, ()) := by
  rw [X6, List.nil_append, we h, Option.bind_some]
  cases m with
  | nil => simp [zbt]
  | cons a l => simp
theorem zww {n v : Int} (h : 1 ≤ v ∧ v ≤ n) (hn : n < 1000000) : w64 (v.tmod n + 1) = zfP n v := by
  unfold zfP
  rw [Int.tmod_eq_emod_of_nonneg (by omega)]
  by_cases hv : v < n
  · rw [if_pos hv, Int.emod_eq_of_lt (by omega) hv, z9 (by omega) (by omega)]
  · have : v = n := by omega
    rw [if_neg hv, this, Int.emod_self, z9 (by omega) (by omega)]
    rfl
theorem ztH {p : zd} (h : zP p) {s : za} (hP : s.P = p) (hl : (s.Ws.length : Int) = p.Workers) {x : ze} (hv : 1 ≤ x.Victim ∧ x.Victim ≤ p.Workers) (w : Int) :
    YD ⟨x, s, w⟩ = some (⟨zj8 p w x, s, w⟩, ()) := by
  have hw := h.wk
  rw [zhI]
  simp only [zn, hl]
  rw [if_neg (show ¬ p.Workers = 0 by omega), zww hv (by omega)]
  unfold zj8
  by_cases e : zfP p.Workers x.Victim = w
  · rw [if_pos e, if_pos e, zca, Option.bind_some, zcm]
    simp only [UG, Option.bind_some, Y0, e, hP]
    rfl
  · rw [if_neg e, if_neg e, zex]
    simp only [zdW, Option.bind_some, Vb, hP]
theorem zls {p : zd} {s : za} (hP : s.P = p) (x : ze) (w : Int) : vh ⟨x, s, w⟩ = some (⟨zok p w x, s, w⟩, ()) := by
  rw [zgm, zex]
  simp only [zdW, Option.bind_some, Vb, hP]
  rfl
theorem zq8 (s : za) (x : ze) (w : Int) : XN ⟨x, s, w⟩ = some (onW s x.Slot, ()) := by
  rw [zlY, zn]
  unfold onW
  split <;> rfl
theorem znd {s : za} (hm : s.M.length < 4294967296) (x : ze) (w : Int) : vP ⟨x, s, w⟩ = some ((zJ s.M x.C).2.Out, ⟨{ x with C := (zJ s.M x.C).2 }, { s with M := (zJ s.M x.C).1 }, w⟩, ()) := by
  rw [zhm]
  simp only [zcn hm, Option.bind_some]
theorem zpq {p : zd} (h : zP p) {s : za} (hP : s.P = p) (hm : s.M.length < 4294967296) (hl : (s.Ws.length : Int) = p.Workers) {x : ze} (hv : 1 ≤ x.Victim ∧ x.Victim ≤ p.Workers) (hc : x.D.Cap < 1000) {w : Int} (h01 : x.PC = 0 ∨ x.PC = 1) :
    Xo ⟨x, s, w⟩ = some (⟨(yq s w x).2, (yq s w x).1, w⟩, ()) := by
  unfold yq
  rw [if_pos h01, ziI]
  simp only [zuP hm hc, Option.bind_some, zn]
  by_cases o1 : (wF s.M x.D).2.Out = 1
  · rw [if_pos o1, if_pos o1, U3]; rfl
  · rw [if_neg o1, if_neg o1]
    have hk := fun (x' : ze) (e : x'.Victim = x.Victim) => ztH h (s := { s with M := (wF s.M x.D).1 }) hP hl (x := x') (by rw [e]; exact hv) w
    by_cases o4 : (wF s.M x.D).2.Out = 4
    · rw [if_pos o4, if_pos (.inr o4), hk { x with D := (wF s.M x.D).2 } rfl, Option.bind_some, hP]
    · rw [if_neg o4]
      by_cases o2 : (wF s.M x.D).2.Out = 2
      · rw [if_pos o2, if_pos (.inl o2), hk { x with D := (wF s.M x.D).2 } rfl, Option.bind_some, hP]
      · rw [if_neg o2, if_neg (by omega)]
theorem zuu {p : zd} {nb : Nat} (h : zP p) {s : za} {x : ze} {w : Int} (S : SOk p nb s) (W : WOk p nb w x) (hl : (s.Ws.length : Int) = p.Workers) (sm : Zf s) :
    Vh ⟨x, s, w⟩ = some (⟨(yq s w x).2, (yq s w x).1, w⟩, ()) := by
  have hP := S.P
  have hm : s.M.length < 4294967296 := by have := S.mem; omega
  have hc := h.cap
  rw [zhs]
  simp only [zn]
  by_cases c0 : x.PC = 0
  · rw [if_pos c0, if_pos c0, zpq h hP hm hl W.vic (by have := (W.d0 c0).2.2; omega) (.inl c0), Option.bind_some]
  rw [if_neg c0]
  by_cases c1 : x.PC = 1
  · rw [if_pos c1, zpq h hP hm hl W.vic (by have := (W.d1 c1).2.2; omega) (.inr c1), Option.bind_some]
  rw [if_neg c1]
  unfold yq
  rw [if_neg (show ¬ (x.PC = 0 ∨ x.PC = 1) by omega)]
  by_cases c2 : x.PC = 2
  · rw [if_pos c2, if_pos c2, znd hm, Option.bind_some]
    simp only [zls (s := { s with M := (zJ s.M x.C).1 }) hP]
    by_cases o1 : (zJ s.M x.C).2.Out = 1
    · rw [if_pos o1, if_pos o1]
    · rw [if_neg o1, if_neg o1]
      by_cases o2 : (zJ s.M x.C).2.Out = 2
      · rw [if_pos o2, if_pos o2, Option.bind_some, hP]
      · rw [if_neg o2, if_neg o2]
  rw [if_neg c2, if_neg c2]
  by_cases c3 : x.PC = 3
  · have B := W.b3 c3
    have hb := S.bins
    have hnb := S.nbk
    have e := List.getElem?_eq_getElem (show x.Bin.toNat < s.Bins.length by omega)
    rw [if_pos c3, if_pos c3, zhu]
    dsimp only
    rw [wR (by omega), e, Option.bind_some, zfo (by omega), Option.bind_some, vG (l := s.Bins) (by omega) (by omega), Option.bind_some, zax, Option.bind_some, zcm]
    simp only [UG, Option.bind_some, Y0]
    unfold zks
    rw [List.getD_eq_getElem?_getD, e]; rfl
  rw [if_neg c3, if_neg c3]
  by_cases c4 : x.PC = 4
  · rw [if_pos c4, if_pos c4, znd hm, Option.bind_some]
    dsimp only
    by_cases o1 : (zJ s.M x.C).2.Out = 1
    · rw [if_pos o1, if_pos o1]
    · rw [if_neg o1, if_neg o1]
  rw [if_neg c4, if_neg c4]
  by_cases c5 : x.PC = 5
  · rw [if_pos c5, if_pos c5, zhB]
    simp only [znY sm.objs, Option.bind_some, zn, zq8, zko, yS]
    by_cases v : UT s.H x.Obj x.Slot = 0
    · rw [if_pos v, if_pos v]; rfl
    · rw [if_neg v, if_neg v]; rfl
  rw [if_neg c5, if_neg c5]
  by_cases c6 : x.PC = 6
  · obtain ⟨g1, g2, g3, g4⟩ := W.g6 c6
    rw [if_pos c6, if_pos c6]
    simp only [zqX (S.gok h g1), Option.bind_some, zq8]
    have eH : (zH s x.G).1.H = s.H := (zbd s x.G).2
    by_cases o1 : (zH s x.G).2.Out = 1
    · rw [if_pos o1, if_pos o1]
      unfold onW
      rw [eH]
    · rw [if_neg o1, if_neg o1]
  rw [if_neg c6, if_neg c6]
  by_cases c7 : x.PC = 7
  · rw [if_pos c7, if_pos c7]
    cases hb : x.Batch with
    | nil => rw [if_pos (by simp), zls hP, Option.bind_some, hP]
    | cons o l =>
      rw [if_neg (by simp; omega), wR (by omega)]
      simp only [Int.toNat_zero, List.getElem?_cons_zero, Option.bind_some, U3, hb]
      rw [zsV]; rfl
  rw [if_neg c7, if_neg c7]
  by_cases c8 : x.PC = 8
  · rw [if_pos c8, if_pos c8]
    simp only [zlk, Option.bind_some, zm3 sm.bal]
  rw [if_neg c8, if_neg c8]
  by_cases c9 : x.PC = 9
  · rw [if_pos c9, if_pos c9, yS]
  · rw [if_neg c9, if_neg c9]
theorem ztL {p : zd} {nb : Nat} {s : za} (h : zP p) (E : EOk p nb s) (w : Int) : zeN s w = some (vK s w, ()) := by
  rw [zn0]
  simp only [zn]
  unfold vK
  cases hd : s.Done with
  | true => rw [cond_true, if_pos (.inl rfl)]
  | false =>
    rw [cond_false]
    by_cases h1 : w < 1
    · rw [if_pos h1, if_pos (.inr (.inl h1))]
    rw [if_neg h1]
    by_cases h2 : (s.Ws.length : Int) < w
    · rw [if_pos h2, if_pos (.inr (.inr h2))]
    have hwl := E.wl
    have hwk := h.wk
    have e := List.getElem?_eq_getElem (show (w - 1).toNat < s.Ws.length by omega)
    have ei : (((w - 1).toNat : Nat) : Int) + 1 = w := by omega
    have hW := E.W _ _ e
    rw [ei] at hW
    obtain ⟨T, TH⟩ := zrg s w (s.Ws[(w - 1).toNat]'(by omega))
    rw [if_neg h2, if_neg (fun e => e.elim (fun h => by cases h) (fun e => e.elim h1 h2)), z9 (a := w - 1) (by omega) (by omega), wR (by omega), e, Option.bind_some, zuu h E.S hW hwl E.small, Option.bind_some]
    simp only [T.ws, zwH (show s.Ws.length < 4294967296 by omega), Option.bind_some, vG (l := s.Ws) (show 0 ≤ w - 1 by omega) (show w - 1 < (s.Ws.length : Int) by omega)]
end
end Go.Pe.G
namespace Go.Pe.G
open Go.Pe
noncomputable section
theorem zyz (s : za) (g : zB) : (zH s g).1 = { s with M := (zH s g).1.M, Bins := (zH s g).1.Bins, T := (zH s g).1.T, Work := (zH s g).1.Work, Flag := (zH s g).1.Flag } := by
  obtain ⟨m, b, t, wk, f, e, _⟩ := Vj s g
  rw [e]
theorem zum {p : zd} {nb : Nat} {s : za} {w : Int} {x : ze} (W : WOk p nb w x) : (yq s w x).1 = { s with M := (yq s w x).1.M, Bins := (yq s w x).1.Bins, T := (yq s w x).1.T, Work := (yq s w x).1.Work, L := (yq s w x).1.L } := by
  unfold yq
  split
  · rfl
  split
  · rfl
  split
  · rfl
  split
  · rfl
  split
  · rfl
  split
  · rename_i h6
    obtain ⟨g1, g2, g3, g4⟩ := W.g6 h6
    have hf := (zt3 s g3 g4).2
    obtain ⟨m, b, t, wk, f, e, _⟩ := Vj s x.G
    dsimp only
    rw [e] at hf ⊢
    have hf : f = s.Flag := hf
    rw [hf]
  split
  · rfl
  split
  · rfl
  split <;> rfl
theorem zqT (s : za) (m : Int) (x : zb) : (z8 s m x).1 = { s with H := (z8 s m x).1.H, M := (z8 s m x).1.M, Bins := (z8 s m x).1.Bins, T := (z8 s m x).1.T, Work := (z8 s m x).1.Work, Flag := (z8 s m x).1.Flag, Acks := (z8 s m x).1.Acks, L := (z8 s m x).1.L } := by
  have g : ∀ g : zB, (zH s g).1 = { s with H := (zH s g).1.H, M := (zH s g).1.M, Bins := (zH s g).1.Bins, T := (zH s g).1.T, Work := (zH s g).1.Work, Flag := (zH s g).1.Flag, Acks := (zH s g).1.Acks, L := (zH s g).1.L } := fun g => by
    obtain ⟨m, b, t, wk, f, e, _⟩ := Vj s g
    rw [e]
  refine Z6 (motive := fun r => r.1 = { s with H := r.1.H, M := r.1.M, Bins := r.1.Bins, T := r.1.T, Work := r.1.Work, Flag := r.1.Flag, Acks := r.1.Acks, L := r.1.L }) s m x ?_ ?_ ?_ ?_ ?_ ?_ ?_ ?_ ?_ ?_ ?_ ?_ ?_ ?_ ?_ ?_ ?_ ?_ ?_ ?_
  · exact fun _ => rfl
  · exact fun _ => rfl
  · exact fun _ => rfl
  · exact fun _ => g x.G
  · exact fun _ => rfl
  · exact fun _ => rfl
  · exact fun _ => rfl
  · exact fun _ => rfl
  · exact fun _ => rfl
  · intro _
    unfold zix
    split
    · split <;> rfl
    · rfl
  · exact fun _ => rfl
  · exact fun _ => rfl
  · exact fun _ => rfl
  · exact fun _ => rfl
  · exact fun _ => rfl
  · exact fun _ => rfl
  · exact fun _ => g x.G
  · exact fun _ => rfl
  · exact fun _ => rfl
  · rfl
theorem zyT (s : za) (m : Int) {x : zb} (h : x.PC ≠ 2) : (z8 s m x).1.Acks = s.Acks := by
  have g : ∀ g : zB, (zH s g).1.Acks = s.Acks := fun g => by
    obtain ⟨m, b, t, wk, f, e, _⟩ := Vj s g
    rw [e]
  refine Z6 (motive := fun r => r.1.Acks = s.Acks) s m x ?_ ?_ ?_ ?_ ?_ ?_ ?_ ?_ ?_ ?_ ?_ ?_ ?_ ?_ ?_ ?_ ?_ ?_ ?_ ?_
  · exact fun _ => rfl
  · exact fun _ => rfl
  · exact fun c => absurd c h
  · exact fun _ => g x.G
  · exact fun _ => rfl
  · exact fun _ => rfl
  · exact fun _ => rfl
  · exact fun _ => rfl
  · exact fun _ => rfl
  · intro _
    unfold zix
    split
    · split <;> rfl
    · rfl
  · exact fun _ => rfl
  · exact fun _ => rfl
  · exact fun _ => rfl
  · exact fun _ => rfl
  · exact fun _ => rfl
  · exact fun _ => rfl
  · exact fun _ => g x.G
  · exact fun _ => rfl
  · exact fun _ => rfl
  · rfl
def UQ (s : za) (k : Int) : za := if k = 0 then xj s else if k ≤ (s.Ws.length : Int) then vK s k else yG s (k - s.Ws.length)
theorem zxm {p : zd} {nb : Nat} {s : za} (h : zP p) (E : EOk p nb s) (k : Int) : EOk p nb (UQ s k) := by
  unfold UQ
  split
  · exact zuz h E
  split
  · exact zwT h E k
  · exact zib h E _
theorem zgu {p : zd} {nb : Nat} {s : za} (E : EOk p nb s) (w : Int) : vK s w = { s with M := (vK s w).M, Bins := (vK s w).Bins, T := (vK s w).T, Work := (vK s w).Work, L := (vK s w).L, Ws := (vK s w).Ws } := by
  unfold vK
  split
  · rfl
  rename_i hc
  cases hx : s.Ws[(w - 1).toNat]? with
  | none => rfl
  | some x =>
    have hW := E.W _ _ hx
    rw [show (((w - 1).toNat : Nat) : Int) + 1 = w by omega] at hW
    dsimp only
    rw [zum hW]
theorem zmR (s : za) (m : Int) : yG s m = { s with H := (yG s m).H, M := (yG s m).M, Bins := (yG s m).Bins, T := (yG s m).T, Work := (yG s m).Work, Flag := (yG s m).Flag, Acks := (yG s m).Acks, L := (yG s m).L, Ms := (yG s m).Ms } := by
  unfold yG
  split
  · rfl
  cases hx : s.Ms[(m - 1).toNat]? with
  | none => rfl
  | some x =>
    dsimp only
    rw [zqT]
structure AI (k : Int) (s : za) : Prop where
  ep : 0 ≤ s.Epoch ∧ s.Epoch ≤ k
  m : ∀ (i : Nat) x, s.Ms[i]? = some x → s.Acks.getD i 0 ≤ s.Epoch ∧ (x.PC = 2 ∨ ((x.PC = 1 ∨ x.PC = 3) ∧ x.Ret = 2) → s.Acks.getD i 0 ≤ x.Want ∧ x.Want ≤ s.Epoch) ∧ (x.PC = 2 → x.Buf = [])
def zuv (s s' : za) : Prop := ∀ (i : Nat) x', s'.Ms[i]? = some x' → s.Acks.getD i 0 ≤ s'.Acks.getD i 0 ∧ s'.Acks.getD i 0 ≤ s'.Epoch ∧ (s.Acks.getD i 0 < s'.Acks.getD i 0 → x'.Buf = [])
theorem AI.same {k : Int} {s s' : za} (A : AI k s) (e1 : s'.Epoch = s.Epoch) (e2 : s'.Ms = s.Ms) (e3 : s'.Acks = s.Acks) : AI (k + 1) s' ∧ zuv s s' := by
  refine ⟨⟨by rw [e1]; have := A.ep; omega, by rw [e1, e2, e3]; exact A.m⟩, fun i x hx => ?_⟩
  rw [e2] at hx
  rw [e3, e1]
  exact ⟨Int.le_refl _, (A.m i x hx).1, fun e => by omega⟩
theorem zti {α : Type} {l : List α} {i j : Nat} {v d : α} (h : i < l.length) : (l.set i v).getD j d = if i = j then v else l.getD j d := by
  rw [List.getD_eq_getElem?_getD, List.getD_eq_getElem?_getD, List.getElem?_set]
  by_cases e : i = j
  · rw [if_pos e, if_pos e, if_pos h]; rfl
  · rw [if_neg e, if_neg e]
theorem zyc {p : zd} {nb : Nat} {k : Int} {s : za} (hp : zP p) (E : EOk p nb s) (A : AI k s) {m : Int} (hm : 1 ≤ m ∧ m ≤ (s.Ms.length : Int)) {x : zb} (hx : s.Ms[(m - 1).toNat]? = some x) :
    let y := (z8 s m x).2
    let s' := (z8 s m x).1
    (s.Acks.getD (m - 1).toNat 0 ≤ s'.Acks.getD (m - 1).toNat 0 ∧ s'.Acks.getD (m - 1).toNat 0 ≤ s.Epoch ∧ (s.Acks.getD (m - 1).toNat 0 < s'.Acks.getD (m - 1).toNat 0 → y.Buf = [])) ∧ (∀ j, j ≠ (m - 1).toNat → s'.Acks.getD j 0 = s.Acks.getD j 0) ∧
      (y.PC = 2 ∨ ((y.PC = 1 ∨ y.PC = 3) ∧ y.Ret = 2) → s'.Acks.getD (m - 1).toNat 0 ≤ y.Want ∧ y.Want ≤ s.Epoch) ∧ (y.PC = 2 → y.Buf = []) := by
  obtain ⟨a1, a2, a3⟩ := A.m _ _ hx
  have X := E.X _ _ hx
  rw [show (((m - 1).toNat : Nat) : Int) + 1 = m by omega] at X
  have hal := E.al
  have same : ∀ {s' : za} {y : zb}, s'.Acks = s.Acks → (y.PC = 2 ∨ ((y.PC = 1 ∨ y.PC = 3) ∧ y.Ret = 2) → s.Acks.getD (m - 1).toNat 0 ≤ y.Want ∧ y.Want ≤ s.Epoch) → (y.PC = 2 → y.Buf = []) →
      (s.Acks.getD (m - 1).toNat 0 ≤ s'.Acks.getD (m - 1).toNat 0 ∧ s'.Acks.getD (m - 1).toNat 0 ≤ s.Epoch ∧ (s.Acks.getD (m - 1).toNat 0 < s'.Acks.getD (m - 1).toNat 0 → y.Buf = [])) ∧ (∀ j, j ≠ (m - 1).toNat → s'.Acks.getD j 0 = s.Acks.getD j 0) ∧
      (y.PC = 2 ∨ ((y.PC = 1 ∨ y.PC = 3) ∧ y.Ret = 2) → s'.Acks.getD (m - 1).toNat 0 ≤ y.Want ∧ y.Want ≤ s.Epoch) ∧ (y.PC = 2 → y.Buf = []) := fun e h1 h2 => by
    rw [e]; exact ⟨⟨Int.le_refl _, a1, fun e => by omega⟩, fun _ _ => rfl, h1, h2⟩
  have far : ∀ {s' : za} {y : zb}, s'.Acks = s.Acks → (y.PC = 0 ∨ 10 ≤ y.PC) → _ := fun {s' y} e h => same (s' := s') (y := y) e (fun e => by omega) (fun e => by omega)
  have gacks : ∀ g : zB, (zH s g).1.Acks = s.Acks := fun g => by
    obtain ⟨m, b, t, wk, f, e, _⟩ := Vj s g
    rw [e]
  refine Z6 (motive := fun r => (s.Acks.getD (m - 1).toNat 0 ≤ r.1.Acks.getD (m - 1).toNat 0 ∧ r.1.Acks.getD (m - 1).toNat 0 ≤ s.Epoch ∧ (s.Acks.getD (m - 1).toNat 0 < r.1.Acks.getD (m - 1).toNat 0 → r.2.Buf = [])) ∧ (∀ j, j ≠ (m - 1).toNat → r.1.Acks.getD j 0 = s.Acks.getD j 0) ∧
      (r.2.PC = 2 ∨ ((r.2.PC = 1 ∨ r.2.PC = 3) ∧ r.2.Ret = 2) → r.1.Acks.getD (m - 1).toNat 0 ≤ r.2.Want ∧ r.2.Want ≤ s.Epoch) ∧ (r.2.PC = 2 → r.2.Buf = [])) s m x ?_ ?_ ?_ ?_ ?_ ?_ ?_ ?_ ?_ ?_ ?_ ?_ ?_ ?_ ?_ ?_ ?_ ?_ ?_ ?_
  · intro c
    unfold mu0 zgx
    split
    · rename_i hlt
      exact same rfl (fun _ => ⟨Int.le_of_lt hlt, Int.le_refl _⟩) (fun e => by cases e)
    split
    · exact far rfl (.inl c)
    split
    · exact far rfl (.inr (by show (10 : Int) ≤ 10; decide))
    split
    · exact far rfl (.inr (by show (10 : Int) ≤ 20; decide))
    split
    · exact far rfl (.inr (by show (10 : Int) ≤ 30; decide))
    split <;> exact far rfl (.inl rfl)
  · intro c
    unfold mu1
    split
    · rename_i hb
      have hb : x.Buf = [] := List.eq_nil_of_length_eq_zero hb
      refine same rfl (fun e => ?_) (fun _ => hb)
      have e : x.Ret = 2 ∨ ((x.Ret = 1 ∨ x.Ret = 3) ∧ x.Ret = 2) := e
      exact a2 (.inr ⟨.inl c, by omega⟩)
    · refine same rfl (fun e => a2 (.inr ⟨.inl c, ?_⟩)) (fun e => by cases e)
      rcases e with e | e
      · cases e
      · exact e.2
  · intro c
    have hlt : (m - 1).toNat < s.Acks.length := by omega
    obtain ⟨b1, b2⟩ := a2 (.inl c)
    unfold mu2
    have e0 : (s.Acks.set (m - 1).toNat x.Want).getD (m - 1).toNat 0 = x.Want := by rw [zti hlt, if_pos rfl]
    refine ⟨⟨by dsimp only; rw [e0]; exact b1, by dsimp only; rw [e0]; exact b2, fun _ => a3 c⟩, fun j hj => ?_, fun (e : (0 : Int) = 2 ∨ (((0 : Int) = 1 ∨ (0 : Int) = 3) ∧ x.Ret = 2)) => by omega, fun (e : (0 : Int) = 2) => by omega⟩
    dsimp only
    rw [zti hlt, if_neg (fun e => hj e.symm)]
  · intro c
    unfold mu3
    dsimp only
    split
    · refine same (gacks _) (fun e => a2 (.inr ⟨.inr c, ?_⟩)) (fun e => by cases e)
      rcases e with e | e
      · cases e
      · exact e.2
    · refine same (gacks _) (fun e => a2 ?_) (fun e => by have e : x.PC = 2 := e; omega)
      rcases e with e | e
      · exact .inl e
      · exact .inr e
  · exact fun c => far rfl (.inl rfl)
  · intro c
    unfold zlP
    split
    · exact far rfl (.inl rfl)
    · exact far rfl (.inr (by show (10 : Int) ≤ 21; decide))
  · intro c
    unfold zlm
    split
    · exact far rfl (.inr (by show (10 : Int) ≤ 23; decide))
    · exact far rfl (.inr (by show (10 : Int) ≤ 22; decide))
  · intro c
    unfold zme
    split
    · refine same rfl (fun e => ?_) (fun e => by cases e)
      rcases e with e | ⟨_, e⟩ <;> cases e
    · exact far rfl (.inr (by show (10 : Int) ≤ 23; decide))
  · exact fun c => far rfl (.inl rfl)
  · intro c
    unfold zix
    split
    · split
      · exact far rfl (.inl rfl)
      · exact far rfl (.inl rfl)
    · exact far rfl (.inr (by show (10 : Int) ≤ 31; decide))
  · intro c
    unfold zlM
    dsimp only
    split
    · exact far rfl (.inr (by show (10 : Int) ≤ 32; decide))
    · exact far rfl (.inl rfl)
  · intro c
    unfold zl9
    dsimp only
    split
    · exact far rfl (.inr (by show (10 : Int) ≤ 33; decide))
    split
    · exact far rfl (.inl rfl)
    · exact far rfl (.inr (by show 10 ≤ x.PC; omega))
  · exact fun c => far rfl (.inr (by show (10 : Int) ≤ 34; decide))
  · intro c
    unfold zlw
    dsimp only
    split
    · exact far rfl (.inr (by show (10 : Int) ≤ 35; decide))
    · exact far rfl (.inr (by show 10 ≤ x.PC; omega))
  · intro c
    unfold zmh
    dsimp only
    split
    · exact far rfl (.inl rfl)
    · exact far rfl (.inr (by show (10 : Int) ≤ 36; decide))
  · intro c
    unfold zlp
    dsimp only
    split
    · exact far rfl (.inr (by show 10 ≤ onM s (wc (x.Slot + 1)); rcases zo2 s (wc (x.Slot + 1)) with e | e <;> rw [e] <;> decide))
    · exact far rfl (.inr (by show (10 : Int) ≤ 37; decide))
  · intro c
    unfold zny
    dsimp only
    split
    · exact far (gacks _) (.inr (by show 10 ≤ onM s x.Slot; rcases zo2 s x.Slot with e | e <;> rw [e] <;> decide))
    · exact far (gacks _) (.inr (by show 10 ≤ x.PC; omega))
  · exact fun c => far rfl (.inr (by show (10 : Int) ≤ 39; decide))
  · exact fun c => far rfl (.inr (by show (10 : Int) ≤ 35; decide))
  · exact same rfl a2 a3
theorem zyY {p : zd} {nb : Nat} {k : Int} {s : za} (hp : zP p) (E : EOk p nb s) (hk : k < 1000000) (A : AI k s) (j : Int) : AI (k + 1) (UQ s j) ∧ zuv s (UQ s j) := by
  unfold UQ
  split
  · -- the detector
    have up : ∀ s' : za, s'.Epoch = s.Epoch + 1 → s'.Ms = s.Ms → s'.Acks = s.Acks → AI (k + 1) s' ∧ zuv s s' := fun s' e1 e2 e3 => by
      have := A.ep
      refine ⟨⟨by omega, fun i x hx => ?_⟩, fun i x hx => ?_⟩
      · rw [e2] at hx
        obtain ⟨b1, b2, b3⟩ := A.m i x hx
        rw [e3, e1]
        exact ⟨by omega, fun e => by have := b2 e; omega, b3⟩
      · rw [e2] at hx
        have := (A.m i x hx).1
        rw [e3, e1]
        exact ⟨Int.le_refl _, by omega, fun e => by omega⟩
    have he := A.ep
    unfold xj
    split
    · exact A.same rfl rfl rfl
    split
    · exact A.same rfl rfl rfl
    split
    · split <;> exact A.same rfl rfl rfl
    split
    · exact up _ (ZW (by omega) (by omega)) rfl rfl
    split
    · split <;> exact A.same rfl rfl rfl
    split
    · split <;> exact A.same rfl rfl rfl
    split
    · split <;> exact A.same rfl rfl rfl
    split <;> exact A.same rfl rfl rfl
  split
  · rw [zgu E]
    exact A.same rfl rfl rfl
  · generalize j - (s.Ws.length : Int) = m
    unfold yG
    split
    · exact A.same rfl rfl rfl
    rename_i hc
    cases hx : s.Ms[(m - 1).toNat]? with
    | none => exact A.same rfl rfl rfl
    | some x =>
      have hm : 1 ≤ m ∧ m ≤ (s.Ms.length : Int) := by
        constructor
        · exact Int.not_lt.1 (fun e => hc (.inr (.inl e)))
        · exact Int.not_lt.1 (fun e => hc (.inr (.inr e)))
      obtain ⟨b1, b2, b3, b4⟩ := zyc hp E A hm hx
      have hE : (z8 s m x).1.Epoch = s.Epoch := by rw [zqT]
      have he := A.ep
      have hl := (List.getElem?_eq_some_iff.1 hx).1
      refine ⟨⟨by show 0 ≤ (z8 s m x).1.Epoch ∧ _; rw [hE]; omega, fun i y hy => ?_⟩, fun i y hy => ?_⟩
      · show (z8 s m x).1.Acks.getD i 0 ≤ (z8 s m x).1.Epoch ∧ (_ → (z8 s m x).1.Acks.getD i 0 ≤ y.Want ∧ y.Want ≤ (z8 s m x).1.Epoch) ∧ _
        rw [hE]
        have hy : (s.Ms.set (m - 1).toNat (z8 s m x).2)[i]? = some y := hy
        by_cases hi : i = (m - 1).toNat
        · subst hi
          rw [List.getElem?_set_self hl] at hy
          injection hy with hy
          subst hy
          exact ⟨b1.2.1, b3, b4⟩
        · rw [List.getElem?_set_ne (fun e => hi e.symm)] at hy
          rw [b2 i hi]
          exact A.m i y hy
      · show s.Acks.getD i 0 ≤ (z8 s m x).1.Acks.getD i 0 ∧ (z8 s m x).1.Acks.getD i 0 ≤ (z8 s m x).1.Epoch ∧ _
        rw [hE]
        have hy : (s.Ms.set (m - 1).toNat (z8 s m x).2)[i]? = some y := hy
        by_cases hi : i = (m - 1).toNat
        · subst hi
          rw [List.getElem?_set_self hl] at hy
          injection hy with hy
          subst hy
          exact b1
        · rw [List.getElem?_set_ne (fun e => hi e.symm)] at hy
          show _ ∧ _ ∧ (s.Acks.getD i 0 < (z8 s m x).1.Acks.getD i 0 → _)
          rw [b2 i hi]
          exact ⟨Int.le_refl _, (A.m i y hy).1, fun e => by omega⟩
theorem zyZ (p : zd) : AI 0 (Zc p) := by
  refine ⟨⟨Int.le_refl _, Int.le_refl _⟩, fun i x hx => ?_⟩
  have e : (Zc p).Acks.getD i 0 = 0 := by
    show (List.replicate p.Mutators.toNat (0 : Int)).getD i 0 = 0
    rw [List.getD_eq_getElem?_getD, List.getElem?_replicate]; split <;> rfl
  have hx : (p.Regs.map vo)[i]? = some x := hx
  rw [List.getElem?_map] at hx
  cases hr : p.Regs[i]? with
  | none => rw [hr] at hx; cases hx
  | some r =>
    rw [hr] at hx
    injection hx with hx
    subst hx
    rw [e]
    refine ⟨Int.le_refl _, fun e => ?_, fun e => ?_⟩
    · simp [vo] at e
    · simp [vo] at e
end
end Go.Pe.G
namespace Go.Pe.G
open Go.Pe
noncomputable section
theorem zqV {α B C : Type} {f : Int × Int × List α × Unit → Option (y0 (Int × Int × List α × Unit) B C)} {l : List α} {b : B} (hl : l.length < 1000000)
    (h1 : ∀ (i : Nat) (x : α), l[i]? = some x → f ((l.length : Int), (i : Int), l, ()) = some (.again ((l.length : Int), ((i + 1 : Nat) : Int), l, ())))
    (h2 : f ((l.length : Int), (l.length : Int), l, ()) = some (.brk b)) : yo f ((l.length : Int), 0, l, ()) = some (.brk b) := by
  refine (um (f := f) (fun a => ∃ i : Nat, a = ((l.length : Int), (i : Int), l, ()) ∧ i ≤ l.length) (fun a => l.length - a.2.1.toNat) (fun o => o = .brk b) ?_ ((l.length : Int), 0, l, ()) ⟨0, rfl, by omega⟩ (wq (by dsimp only; omega))).elim fun o h => ?_
  rotate_left
  · rw [h.1, h.2]
  · rintro _ ⟨i, rfl, hi⟩
    rcases Nat.lt_or_ge i l.length with hlt | hge
    · refine ⟨_, h1 i _ (List.getElem?_eq_getElem hlt), ⟨i + 1, rfl, hlt⟩, ?_⟩
      show l.length - ((i + 1 : Nat) : Int).toNat < l.length - (i : Int).toNat
      omega
    · have : i = l.length := by omega
      subst this
      exact ⟨_, h2, rfl⟩
theorem zsC {α : Type} {l : List α} {i : Nat} {x : α} (h : l[i]? = some x) : l.set i x = l := by
  obtain ⟨hlt, rfl⟩ := List.getElem?_eq_some_iff.1 h
  simp
theorem zvi {m : List Int} (h : m.length < 4294967296) : ZF m = some (m, ()) := by
  rw [zb8, List.nil_append, we h, Option.bind_some]
  cases m with
  | nil => simp [zbt]
  | cons a l => simp
theorem zsb {l : List ze} (hl : l.length < 1000000) (h : ∀ x ∈ l, x.Batch.length < 1000000) : wD l = some (l, ()) := by
  have key : yo yR ((l.length : Int), 0, l, ()) = some (.brk (l, ())) := by
    refine zqV hl (fun i x hx => ?_) (by rw [vD, zn, if_neg (by omega)])
    have hlt := va hx
    have e : yV l (i : Int) = some i := by rw [vG (by omega) (by omega)]; simp
    rw [vD, zn, if_pos hlt, e]
    simp only [Option.bind_some]
    rw [hx, Option.bind_some, zmE, ui (by have := h x (List.mem_of_getElem? hx); omega), Option.bind_some, Option.bind_some, xq (by omega)]
    simp only [zsC hx]
  have hc : Zh (l.length : Int) = some l.length := by rw [zaW (by omega) (by omega)]; simp
  rw [Wm]
  simp only [decide_true, cond_true, hc, Option.bind_some, List.length_replicate]
  cases l with
  | nil => simp only [List.isEmpty_nil, cond_true]; exact congrArg (fun o => Option.bind o _) key
  | cons a r => simp only [List.isEmpty_cons, cond_false]; rw [key]; rfl
theorem zrE {l : List zb} (hl : l.length < 1000000) (h : ∀ x ∈ l, x.Regs.length < 1000000 ∧ x.Buf.length < 1000000 ∧ x.Batch.length < 1000000) : wx l = some (l, ()) := by
  have key : yo yP ((l.length : Int), 0, l, ()) = some (.brk (l, ())) := by
    refine zqV hl (fun i x hx => ?_) (by rw [vy, zn, if_neg (by omega)])
    have hlt := va hx
    have e : yV l (i : Int) = some i := by rw [vG (by omega) (by omega)]; simp
    obtain ⟨h1, h2, h3⟩ := h x (List.mem_of_getElem? hx)
    rw [vy, zn, if_pos hlt, e]
    simp only [Option.bind_some]
    rw [hx, Option.bind_some, zmL, ui (by omega), Option.bind_some, ui (by omega), Option.bind_some, ui (by omega), Option.bind_some, Option.bind_some, xq (by omega)]
    simp only [zsC hx]
  have hc : Zh (l.length : Int) = some l.length := by rw [zaW (by omega) (by omega)]; simp
  rw [XQ]
  simp only [decide_true, cond_true, hc, Option.bind_some, List.length_replicate]
  cases l with
  | nil => simp only [List.isEmpty_nil, cond_true]; exact congrArg (fun o => Option.bind o _) key
  | cons a r => simp only [List.isEmpty_cons, cond_false]; rw [key]; rfl
theorem zuJ {s : za} (h : Zf s) : zhi s = some (s, ()) := by
  rw [zoR, zll h.objs h.obj, Option.bind_some, zlR (by have := h.m; omega), Option.bind_some, zll h.bins h.bin, Option.bind_some, ui (by have := h.acks; omega), Option.bind_some, zvi (by have := h.bal; omega), Option.bind_some, zsb h.ws h.w, Option.bind_some, zrE h.ms h.mu]
  rfl
end
end Go.Pe.G
namespace Go.Pe.G
open Go.Pe
noncomputable section
namespace B17
def zaa (n : Nat) (s : za) : za := goF (fun _ s => xj s) 0 n s
theorem za0 {p : zd} {nb : Nat} (h : zP p) {s : za} (E : EOk p nb s) {n : Nat} (hn : n < 1000000) : yj s (n : Int) = some (zaa n s, ()) := by
  have e := zxg (f := uu) (fun i s => ((n : Int), i, s, 0, 0, 0, 0, 0, 0, 0, 0, 0, 0#64, 0, zq.mk 0#64 0#64, 0, 0, false, false, 0, 0, 0, 0, zp.mk 0 0, ([] : List (List Int)), ([] : List (List Int)), ([] : List (List zi)), ([] : List zj), ([] : List (List Int)), ([] : List (BitVec 64)), ([] : List (List Int)), ([] : List Int), ([] : List Int), ([] : List ze), ([] : List zb), ())) (fun s => (s, 0, 0, 0, 0, 0, 0, 0, 0, 0, 0#64, 0, zq.mk 0#64 0#64, 0, 0, false, false, 0, 0, 0, 0, zp.mk 0 0, ([] : List (List Int)), ([] : List (List Int)), ([] : List (List zi)), ([] : List zj), ([] : List (List Int)), ([] : List (BitVec 64)), ([] : List (List Int)), ([] : List Int), ([] : List Int), ([] : List ze), ([] : List zb), ())) n hn (fun _ s => xj s) (EOk p nb) (fun _ s E => zuz h E)
    (fun i s hi E => by
      show uu ((n : Int), (i : Int), s, 0, 0, 0, 0, 0, 0, 0, 0, 0, 0#64, 0, zq.mk 0#64 0#64, 0, 0, false, false, 0, 0, 0, 0, zp.mk 0 0, ([] : List (List Int)), ([] : List (List Int)), ([] : List (List zi)), ([] : List zj), ([] : List (List Int)), ([] : List (BitVec 64)), ([] : List (List Int)), ([] : List Int), ([] : List Int), ([] : List ze), ([] : List zb), ()) = _
      rw [UD, zn, if_pos (by omega), zi0 h E, Option.bind_some, xq (by omega)])
    (fun s E => by
      show uu ((n : Int), (n : Int), s, 0, 0, 0, 0, 0, 0, 0, 0, 0, 0#64, 0, zq.mk 0#64 0#64, 0, 0, false, false, 0, 0, 0, 0, zp.mk 0 0, ([] : List (List Int)), ([] : List (List Int)), ([] : List (List zi)), ([] : List zj), ([] : List (List Int)), ([] : List (BitVec 64)), ([] : List (List Int)), ([] : List Int), ([] : List Int), ([] : List ze), ([] : List zb), ()) = _
      rw [UD, zn, if_neg (by omega)]) E
  rw [zjm]
  exact congrArg (fun o => Option.bind o _) e
theorem zvE {p : zd} {nb : Nat} (h : zP p) {s : za} (E : EOk p nb s) (n : Nat) : EOk p nb (zaa n s) := zrd (Inv := EOk p nb) (g := fun _ s => xj s) (fun _ s E => zuz h E) n 0 s E
theorem zlU {s : za} (h : s.Done = true) (n : Nat) : zaa n s = s := by
  have : ∀ (n i : Nat), goF (fun _ s => xj s) i n s = s := by
    intro n
    induction n with
    | zero => intro i; rfl
    | succ n ih =>
      intro i
      show goF _ (i + 1) n (xj s) = s
      have e : xj s = s := by unfold xj; rw [if_pos h]
      rw [e]; exact ih (i + 1)
  exact this n 0
theorem zwW {A B D : Type} {f : A → Option (y0 A B D)} {x : A} {b : B} (h : f x = some (.brk b)) : yo f x = some (.brk b) := by
  rw [Uv]
  show uR f (18446744073709551615 + 1) x = _
  rw [uR, h]; rfl
theorem zvB {A B D : Type} {f : A → Option (y0 A B D)} {x y : A} {b : B} (h1 : f x = some (.again y)) (h : f y = some (.brk b)) : yo f x = some (.brk b) := by
  rw [Uv]
  show uR f (18446744073709551614 + 1 + 1) x = _
  rw [uR, h1, Option.bind_some]
  dsimp only
  rw [uR, h]; rfl
def zjB : zd := ⟨1, 0, 2, 1, 1, 4, 2, 2, ⟨1, [[2], [0], [0]]⟩, 1#64, [], [], []⟩
def zdU : zd := ⟨1, 0, 2, 1, 1, 4, 2, 2, ⟨1, [[2], [0], [0]]⟩, 0#64, [], [], []⟩
def zxN : zd := ⟨1, 1, 2, 1, 1, 4, 2, 2, ⟨1, [[2], [0], [0]]⟩, 1#64, [[1, 0]], [[]], []⟩
def zdM : zd := ⟨1, 1, 2, 1, 1, 4, 2, 2, ⟨1, [[2], [0], [0]]⟩, 0#64, [[0]], [[]], []⟩
theorem zwl : ZN [] = some (zjB, ()) := by
  rw [za8, zwW (by rw [Xi]; rfl)]; rfl
theorem zvW : ZN [[]] = some (zxN, ()) := by
  rw [za8, zvB (by rw [Xi, zn, if_pos (by decide), we (by decide), Option.bind_some, wR (by decide)]; simp only [Int.toNat_zero, List.getElem?_cons_zero, Option.bind_some]; rw [we (by decide), Option.bind_some, z9 (by decide) (by decide)]) (by rw [Xi, zn, if_neg (by decide)])]; rfl
theorem zkw : zP zjB := by
  constructor
  case objs => intro o ho; simp [zjB] at ho ⊢; rcases ho with rfl | rfl | rfl <;> simp
  case roots => exact ⟨1, by decide, by decide, by decide⟩
  case reg => intro r hr; cases hr
  case prog => intro k r ops hr; cases hr
  all_goals first | decide | rfl
theorem zbh : zP zdU := by
  constructor
  case objs => intro o ho; simp [zdU] at ho ⊢; rcases ho with rfl | rfl | rfl <;> simp
  case roots => exact ⟨0, by decide, by decide, by decide⟩
  case reg => intro r hr; cases hr
  case prog => intro k r ops hr; cases hr
  all_goals first | decide | rfl
theorem u9 : zP zdM := by
  constructor
  case objs => intro o ho; simp [zdM] at ho ⊢; rcases ho with rfl | rfl | rfl <;> simp
  case roots => exact ⟨0, by decide, by decide, by decide⟩
  case reg => intro r hr; simp [zdM] at hr ⊢; subst hr; simp
  case prog =>
    intro k r ops hr ho
    have : ops = [] := by
      cases k with
      | zero => injection ho with ho; exact ho.symm
      | succ k => cases ho
    subst this
    exact ⟨by decide, fun o h => by cases h⟩
  all_goals first | decide | rfl
theorem zrD : WF = some (true, ()) := by
  have E0 := zo3 zkw
  have E1 := zo3 zbh
  have E2 := zo3 u9
  have a9 : yj (Zc zjB) 9 = some (zaa 9 (Zc zjB), ()) := za0 zkw E0 (n := 9) (by decide)
  have b5 : yj (Zc zdU) 5 = some (zaa 5 (Zc zdU), ()) := za0 zbh E1 (n := 5) (by decide)
  have b6 : yj (Zc zdU) 6 = some (zaa 6 (Zc zdU), ()) := za0 zbh E1 (n := 6) (by decide)
  have d6 : (zaa 6 (Zc zdU)).Done = true := by decide +kernel
  have F1 := zvE zbh E1 6
  have b9 : yj (zaa 6 (Zc zdU)) 3 = some (zaa 6 (Zc zdU), ()) := by rw [← zlU d6 3]; rw [zlU d6 3]; exact (za0 zbh F1 (n := 3) (by decide)).trans (by rw [zlU d6])
  have c9 : yj (Zc zdM) 9 = some (zaa 9 (Zc zdM), ()) := za0 u9 E2 (n := 9) (by decide)
  have G0 := zvE u9 E2 9
  have m1 := zbN u9 G0 1
  have G1 := zib u9 G0 1
  have m2 := zbN u9 G1 1
  have G2 := zib u9 G1 1
  have m3 := zbN u9 G2 1
  have G3 := zib u9 G2 1
  have v4 : yj (yG (yG (yG (zaa 9 (Zc zdM)) 1) 1) 1) 4 = some (zaa 4 (yG (yG (yG (zaa 9 (Zc zdM)) 1) 1) 1), ()) := za0 u9 G3 (n := 4) (by decide)
  have u4 : yj (zaa 9 (Zc zdM)) 4 = some (zaa 4 (zaa 9 (Zc zdM)), ()) := za0 u9 G0 (n := 4) (by decide)
  have n1 : YI { zjB with Roots := 0#64 } = some (Zc zdU, ()) := zh1 zbh
  have n2 : YI { zxN with Roots := 0#64, Regs := [[0]] } = some (Zc zdM, ()) := zh1 u9
  rw [zf9, zwl]
  simp only [Option.bind_some, zvW, zh1 zkw, n1, n2, a9, b5, b6, b9, c9, m1, m2, m3, v4, u4, zo6 F1.small]
  decide +kernel
def zuM (s : za) (b : BitVec 8) : Int := (b.toNat : Int).tmod (1 + (s.Ws.length : Int) + (s.Ms.length : Int))
theorem zxt {p : zd} {nb : Nat} (h : zP p) {s : za} (E : EOk p nb s) (b : BitVec 8) : zaf s b = some (UQ s (zuM s b), ()) := by
  have hw := h.wk
  have hm := h.mt
  have hwl := E.wl
  have hml := E.ml
  have e1 : w64 (w64 (1 + (s.Ws.length : Int)) + (s.Ms.length : Int)) = 1 + (s.Ws.length : Int) + (s.Ms.length : Int) := by rw [z9 (a := 1 + (s.Ws.length : Int)) (by omega) (by omega), z9 (by omega) (by omega)]
  have ht := wX (show (0 : Int) ≤ (b.toNat : Int) by omega) (show (0 : Int) < 1 + (s.Ws.length : Int) + (s.Ms.length : Int) by omega)
  rw [zkp, e1, zn, if_neg (by omega)]
  simp only [zn]
  unfold UQ zuM
  generalize (b.toNat : Int).tmod (1 + (s.Ws.length : Int) + (s.Ms.length : Int)) = k at ht
  by_cases c0 : k = 0
  · rw [if_pos c0, if_pos c0, zi0 h E]; rfl
  rw [if_neg c0, if_neg c0]
  by_cases c1 : k ≤ (s.Ws.length : Int)
  · rw [if_pos c1, if_pos c1, ztL h E]; rfl
  · rw [if_neg c1, if_neg c1, z9 (by omega) (by omega), zbN h E]; rfl
def zw7 (ord : List (BitVec 8)) (i : Nat) : BitVec 8 := ord.getD (i % ord.length) 0#8 + BitVec.ofInt 8 ((i / ord.length : Nat) : Int)
theorem zyX {ord : List (BitVec 8)} (hl : ord.length ≠ 0) {i : Nat} (hi : i < 1000000) : idx ord ((i : Int).tmod (ord.length : Int)) = some (ord.getD (i % ord.length) 0#8) ∧ ord.getD (i % ord.length) 0#8 + BitVec.ofInt 8 (w64 ((i : Int).tdiv (ord.length : Int))) = zw7 ord i := by
  have e1 : (i : Int).tmod (ord.length : Int) = ((i % ord.length : Nat) : Int) := by rw [Int.tmod_eq_emod_of_nonneg (by omega)]; exact (Int.natCast_emod i ord.length).symm
  have e2 : (i : Int).tdiv (ord.length : Int) = ((i / ord.length : Nat) : Int) := by rw [Int.tdiv_eq_ediv_of_nonneg (by omega)]; exact (Int.natCast_ediv i ord.length).symm
  have hm := Nat.mod_lt i (show 0 < ord.length by omega)
  have hd := Nat.div_le_self i ord.length
  refine ⟨?_, ?_⟩
  · rw [e1, wR (by omega), Int.toNat_natCast, List.getD_eq_getElem?_getD, List.getElem?_eq_getElem hm]; rfl
  · have hdi : ((i / ord.length : Nat) : Int) ≤ (i : Int) := Int.ofNat_le.2 hd
    have hdn : (0 : Int) ≤ ((i / ord.length : Nat) : Int) := Int.natCast_nonneg _
    generalize hq : ((i / ord.length : Nat) : Int) = q at hdi hdn e2 ⊢
    rw [e2, z9 (by omega) (by omega)]; unfold zw7; rw [hq]
theorem zs1 {s : za} (he : 0 ≤ s.Epoch ∧ s.Epoch ≤ 1000000) (hr : 0 ≤ s.Restarts ∧ s.Restarts ≤ 1000000) : ({ xj s with Epoch := s.Epoch, Flag := s.Flag, Done := s.Done, Restarts := s.Restarts, D := s.D } : za) = s ∧
    ((xj s).Flag = true → s.Flag = true) ∧ (s.Epoch ≤ (xj s).Epoch ∧ (xj s).Epoch ≤ s.Epoch + 1) ∧ (s.Restarts ≤ (xj s).Restarts ∧ (xj s).Restarts ≤ s.Restarts + 1) ∧ (s.Done = true → (xj s).Done = true) := by
  have w1 : wc (s.Epoch + 1) = s.Epoch + 1 := ZW (by omega) (by omega)
  have w2 : wc (s.Restarts + 1) = s.Restarts + 1 := ZW (by omega) (by omega)
  unfold xj
  split
  · exact ⟨rfl, id, by omega, by omega, id⟩
  split
  · exact ⟨rfl, fun (e : false = true) => Bool.noConfusion e, ⟨Int.le_refl _, by show s.Epoch ≤ _; omega⟩, ⟨Int.le_refl _, by show s.Restarts ≤ _; omega⟩, id⟩
  split
  · split <;> exact ⟨rfl, id, ⟨Int.le_refl _, by show s.Epoch ≤ _; omega⟩, ⟨Int.le_refl _, by show s.Restarts ≤ _; omega⟩, id⟩
  split
  · refine ⟨rfl, id, ?_, ⟨Int.le_refl _, by show s.Restarts ≤ _; omega⟩, id⟩
    show s.Epoch ≤ wc (s.Epoch + 1) ∧ wc (s.Epoch + 1) ≤ _
    rw [w1]; omega
  split
  · split <;> exact ⟨rfl, id, ⟨Int.le_refl _, by show s.Epoch ≤ _; omega⟩, ⟨Int.le_refl _, by show s.Restarts ≤ _; omega⟩, id⟩
  split
  · split
    · exact ⟨rfl, id, ⟨Int.le_refl _, by show s.Epoch ≤ _; omega⟩, ⟨Int.le_refl _, by show s.Restarts ≤ _; omega⟩, id⟩
    · refine ⟨rfl, id, ⟨Int.le_refl _, by show s.Epoch ≤ _; omega⟩, ?_, id⟩
      show s.Restarts ≤ wc (s.Restarts + 1) ∧ wc (s.Restarts + 1) ≤ _
      rw [w2]; omega
  split
  · split
    · refine ⟨rfl, id, ⟨Int.le_refl _, by show s.Epoch ≤ _; omega⟩, ?_, id⟩
      show s.Restarts ≤ wc (s.Restarts + 1) ∧ wc (s.Restarts + 1) ≤ _
      rw [w2]; omega
    · exact ⟨rfl, id, ⟨Int.le_refl _, by show s.Epoch ≤ _; omega⟩, ⟨Int.le_refl _, by show s.Restarts ≤ _; omega⟩, id⟩
  split
  · exact ⟨rfl, id, ⟨Int.le_refl _, by show s.Epoch ≤ _; omega⟩, ⟨Int.le_refl _, by show s.Restarts ≤ _; omega⟩, fun _ => rfl⟩
  · exact ⟨rfl, id, ⟨Int.le_refl _, by omega⟩, ⟨Int.le_refl _, by omega⟩, id⟩
theorem zwt {p : zd} {nb : Nat} {s : za} (E : EOk p nb s) {k : Int} (hk : k < 1000000) (he : 0 ≤ s.Epoch ∧ s.Epoch ≤ k) (hr : 0 ≤ s.Restarts ∧ s.Restarts ≤ k) (j : Int) : (0 ≤ (UQ s j).Epoch ∧ (UQ s j).Epoch ≤ k + 1) ∧ (0 ≤ (UQ s j).Restarts ∧ (UQ s j).Restarts ≤ k + 1) := by
  unfold UQ
  split
  · obtain ⟨_, _, a, b, _⟩ := zs1 (s := s) (by omega) (by omega)
    omega
  split
  · rw [zgu E]; dsimp only; omega
  · rw [zmR]; dsimp only; omega
theorem detectOnly_plain (l ord : List (BitVec 8)) : vR l ord = some (true, ()) := by
  obtain ⟨p, ep, h⟩ := zxx l
  have E0 := zo3 h
  rw [zeC, zrD]
  simp only [Option.bind_some, Bool.not_true, cond_false, ep, zh1 h]
  obtain ⟨o, e, s, rfl, E, he, hr⟩ := um (f := Z9) (fun a => ∃ (i : Nat) (s : za), i ≤ 250 ∧ a = (ord, true, (i : Int), s, ()) ∧ EOk p (xK p + 1) s ∧ (0 ≤ s.Epoch ∧ s.Epoch ≤ (i : Int)) ∧ (0 ≤ s.Restarts ∧ s.Restarts ≤ (i : Int))) (fun a => 250 - a.2.2.1.toNat)
    (fun o => ∃ s : za, o = .brk (true, s, ()) ∧ EOk p (xK p + 1) s ∧ (0 ≤ s.Epoch ∧ s.Epoch ≤ 250) ∧ (0 ≤ s.Restarts ∧ s.Restarts ≤ 250)) (by
    rintro _ ⟨i, s, hi, rfl, E, he, hr⟩
    rw [zcx, zn, zn]
    by_cases c1 : (i : Int) < (ord.length : Int)
    · rw [if_pos c1]
      by_cases c2 : (i : Int) < 250
      · have hx := List.getElem?_eq_getElem (show i < ord.length by omega)
        have hf := zwt E (k := (i : Int)) (by omega) he hr (zuM s (ord[i]'(by omega)))
        rw [if_pos c2, wI hx, Option.bind_some, zxt h E, Option.bind_some, z9 (a := (i : Int) + 1) (by omega) (by omega)]
        refine ⟨_, rfl, ⟨i + 1, UQ s (zuM s (ord[i]'(by omega))), by omega, rfl, zxm h E _, by omega, by omega⟩, ?_⟩
        show 250 - ((i : Int) + 1).toNat < 250 - (i : Int).toNat
        omega
      · rw [if_neg c2]; exact ⟨_, rfl, s, rfl, E, by omega, by omega⟩
    · rw [if_neg c1]; exact ⟨_, rfl, s, rfl, E, by omega, by omega⟩) (ord, true, 0, Zc p, ()) ⟨0, Zc p, by omega, rfl, E0, ⟨Int.le_refl _, Int.le_refl _⟩, ⟨Int.le_refl _, Int.le_refl _⟩⟩ (by show 250 - 0 < 18446744073709551616; decide)
  refine (congrArg (fun o => Option.bind o _) e).trans ?_
  obtain ⟨d1, d2, d3, d4, d5⟩ := zs1 (s := s) (by omega) (by omega)
  have d1 : ({ xj s with Epoch := s.Epoch, Flag := s.Flag, Done := s.Done, Restarts := s.Restarts, D := s.D } : za) = s := d1
  simp only [Option.bind_some, zuJ E.small, zi0 h E, zo6 E.small, Bool.not_true, cond_false, cond_true, d1]
  rw [z9 (a := s.Epoch + 1) (by omega) (by omega), z9 (a := s.Restarts + 1) (by omega) (by omega)]
  simp only [zn]
  rw [if_neg (show ¬ (xj s).Epoch < s.Epoch by omega), if_neg (show ¬ s.Epoch + 1 < (xj s).Epoch by omega), if_neg (show ¬ (xj s).Restarts < s.Restarts by omega), if_neg (show ¬ s.Restarts + 1 < (xj s).Restarts by omega)]
  have e1 : (bif s.Done then bif !(xj s).Done then some (false, ()) else some (true, ()) else some (true, ())) = some (true, ()) := by
    cases hd : s.Done with
    | false => rfl
    | true => rw [d5 hd]; rfl
  rw [e1]
  cases hf : (xj s).Flag with
  | false => rfl
  | true => rw [d2 hf]; rfl
end B17
end
end Go.Pe.G
