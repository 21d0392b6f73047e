/- Own work of this seat: PA, PB, PMk, PMade15, PRight, PNew, PInv, PNewOk, PSmall, PSame, PGo, PDq, PWork, PMut, PEng, PLowEq, PWorkEq, PDq2, PChain, PStrong. -/
import Derived.Test.YtenpfjfpekljpaaGreatDoorWKGa
import Derived.Test.YtenpfjfpekljpaaGreatDoorWKGb
set_option linter.unusedVariables false
set_option linter.unusedSimpArgs false
set_option linter.unnecessarySimpa false
set_option linter.unusedSectionVars false
set_option linter.deprecated false
set_option maxRecDepth 20000
namespace Go.Pe.G
open Go.Pe
noncomputable section
theorem uq {A B D : Type} {f : A → Option (yY A B D)} (Inv : A → Prop) (ms : A → Nat) (Q : yY Unit B D → Prop)
    (h : ∀ a, Inv a → ∃ o, f a = some o ∧ match o with
      | .again a' => Inv a' ∧ ms a' < ms a
      | .brk b => Q (.brk b)
      | .ret c => Q (.ret c)) : ∀ a, Inv a → ms a < uX → ∃ o, yy f a = some o ∧ Q o := by
  have key : ∀ (n : Nat) a, Inv a → ms a < n → ∃ o, xr f n a = some o ∧ Q o := by
    intro n
    induction n with
    | zero => intro a _ h; omega
    | succ n ih =>
      intro a ha hm
      obtain ⟨o, ho, hq⟩ := h a ha
      simp only [xr, ho, Option.bind_some]
      cases o with
      | again a' => exact ih a' hq.1 (by have := hq.2; omega)
      | brk b => exact ⟨_, rfl, hq⟩
      | ret c => exact ⟨_, rfl, hq⟩
  intro a ha hm
  rw [XU]
  exact key uX a ha hm
theorem wQ {n : Nat} (h : n < 18446744073709551616) : n < uX := h
theorem yh {a : Int} (h : -9223372036854775808 ≤ a) (h2 : a < 9223372036854775808) : w64 a = a := by
  rw [zhm]; omega
def wc (n : Int) : Int := (n + 9223372036854775808) % 18446744073709551616 - 9223372036854775808
theorem ug : w64 = wc := funext zhm
theorem wO {a : Int} (h : -9223372036854775808 ≤ a) (h2 : a < 9223372036854775808) : wc a = a := by unfold wc; omega
theorem zxf (a : Int) (h : -9223372036854775808 ≤ a) (h2 : a < 9223372036854775808) : w64 (w64 (a + 1) - 1) = a := by
  simp only [zhm]; omega
theorem zn {α : Type} (p : Prop) [Decidable p] (a b : α) : (bif decide p then a else b) = if p then a else b := by
  by_cases h : p <;> simp [h]
theorem yG {α : Type} (p : Prop) [Decidable p] (a b : α) : (bif !(decide p) then a else b) = if p then b else a := by
  by_cases h : p <;> simp [h]
theorem vJ {α : Type} {l : List α} (h : l.length < 4294967296) : wR l = some l := by
  rw [zqv]; simp [h]
theorem Wz {α : Type} {l : List α} {i : Int} (h : 0 ≤ i) : idx l i = l[i.toNat]? := by
  unfold idx; simp [h]
theorem Xw {α : Type} {l : List α} {i : Int} (h : 0 ≤ i) (h2 : i < l.length) : Zh l i = some i.toNat := by
  unfold Zh; simp [h, h2]
def bit (o : Int) : BitVec 64 := if 1 ≤ o ∧ o ≤ 64 then 1#64 <<< (o - 1).toNat else 0#64
theorem zsl (a : Int) : zgt a = some (bit a, ()) := by
  rw [zq5]
  simp only [zn]
  unfold bit
  by_cases h1 : a < 1
  · rw [if_pos h1, if_neg (by omega)]
  · rw [if_neg h1]
    by_cases h2 : 64 < a
    · rw [if_pos h2, if_neg (by omega)]
    · rw [if_neg h2, yh (a := a - 1) (by omega) (by omega), if_neg (show ¬ a - 1 < 0 by omega), if_pos (show 1 ≤ a ∧ a ≤ 64 by omega), Nat.min_eq_left (by omega)]
theorem zkd (s : BitVec 64) (o : Int) : zaA s o = some (!(decide (s &&& bit o = 0#64)), ()) := by
  rw [zpJ, zsl]; rfl
theorem zhf (s : BitVec 64) (o : Int) : V1 s o = some (s ||| bit o, ()) := by
  rw [zqM, zsl]; rfl
def wn (t : zj) (o : Int) : zj × Bool :=
  if t.Marks ||| bit o = t.Marks then (t, false) else if t.Black &&& bit o = 0#64 then ({ t with Marks := t.Marks ||| bit o }, true) else (t, false)
theorem ziv (t : zj) (o : Int) : VV t o = some ((wn t o).1, (wn t o).2, ()) := by
  rw [zmy, zhf, Option.bind_some, zn]
  unfold wn
  by_cases h1 : t.Marks ||| bit o = t.Marks
  · rw [if_pos h1, if_pos h1]
  · rw [if_neg h1, if_neg h1, zkd, Option.bind_some, yG]
    by_cases h2 : t.Black &&& bit o = 0#64
    · rw [if_pos h2, if_pos h2]
    · rw [if_neg h2, if_neg h2]
theorem zo0 {m : List (BitVec 64)} (h : m.length < 4294967296) : xn m = some (m, ()) := by
  rw [zat, List.nil_append, vJ h, Option.bind_some]
  cases m with
  | nil => simp [zgl]
  | cons a l => simp
theorem zl3 {m : List (List Int)} (h : m.length < 4294967296) : uD m = some (m, ()) := by
  rw [zck, List.nil_append, vJ h, Option.bind_some]
  cases m with
  | nil => simp [zgl]
  | cons a l => simp
def ld (m : List (BitVec 64)) (a : Int) : BitVec 64 := if 0 ≤ a then m.getD a.toNat 0#64 else 0#64
def st (m : List (BitVec 64)) (a : Int) (v : BitVec 64) : List (BitVec 64) := if 0 ≤ a then m.set a.toNat v else m
def sw (m : List (BitVec 64)) (at_ : Int) (a b : BitVec 64) : List (BitVec 64) × Bool :=
  if 0 ≤ at_ ∧ at_ < m.length ∧ ld m at_ = a then (st m at_ b, true) else (m, false)
theorem zq1 {m : List (BitVec 64)} {a : Int} (h : 0 ≤ a) (h2 : a < m.length) : m[a.toNat]? = some (ld m a) := by
  unfold ld
  rw [if_pos h, List.getD_eq_getElem?_getD, List.getElem?_eq_getElem (by omega)]; rfl
theorem zsa {m : List (BitVec 64)} {a : Int} : st m a (ld m a) = m := by
  unfold st ld
  by_cases h : 0 ≤ a
  · rw [if_pos h, if_pos h]
    by_cases h2 : a.toNat < m.length
    · rw [List.getD_eq_getElem?_getD, List.getElem?_eq_getElem h2]; simp
    · rw [List.set_eq_of_length_le (by omega)]
  · rw [if_neg h]
theorem zuh {m : List (BitVec 64)} {a : Int} (h : a < 0 ∨ m.length ≤ a) : ld m a = 0#64 := by
  unfold ld
  rcases h with h | h
  · rw [if_neg (by omega)]
  · split
    · rw [List.getD_eq_getElem?_getD, List.getElem?_eq_none (by omega)]; rfl
    · rfl
theorem zt0 {m : List (BitVec 64)} {a : Int} {v : BitVec 64} (h : a < 0 ∨ m.length ≤ a) : st m a v = m := by
  unfold st
  rcases h with h | h
  · rw [if_neg (by omega)]
  · split
    · rw [List.set_eq_of_length_le (by omega)]
    · rfl
theorem zr3 (m : List (BitVec 64)) (a : Int) (x y : BitVec 64) : ∃ b, Y1 m ⟨1, a, x, y⟩ = some (m, ld m a, b, ()) := by
  rw [zgJ]
  simp only [zn, if_true]
  by_cases h1 : a < 0
  · rw [if_pos h1, zuh (.inl h1)]; exact ⟨_, rfl⟩
  · rw [if_neg h1]
    by_cases h2 : (m.length : Int) ≤ a
    · rw [if_pos h2, zuh (.inr h2)]; exact ⟨_, rfl⟩
    · rw [if_neg h2, Wz (by omega), zq1 (by omega) (by omega), Option.bind_some, zpf, Option.bind_some]
      simp
theorem zqx {m : List (BitVec 64)} (hm : m.length < 4294967296) (a : Int) (x y : BitVec 64) : ∃ v b, Y1 m ⟨2, a, x, y⟩ = some (st m a x, v, b, ()) := by
  rw [zgJ]
  simp only [zn, if_true, if_neg (show ¬ (2 : Int) = 1 by omega)]
  by_cases h1 : a < 0
  · rw [if_pos h1, zt0 (.inl h1)]; exact ⟨_, _, rfl⟩
  · rw [if_neg h1]
    by_cases h2 : (m.length : Int) ≤ a
    · rw [if_pos h2, zt0 (.inr h2)]; exact ⟨_, _, rfl⟩
    · rw [if_neg h2, Wz (by omega), zq1 (by omega) (by omega), Option.bind_some, zpk, Option.bind_some, cond_true, yG]
      by_cases h3 : ld m a = x
      · rw [if_pos h3]
        subst h3
        rw [zsa]; exact ⟨_, _, rfl⟩
      · rw [if_neg h3, zo0 hm, Option.bind_some, Xw (l := m) (by omega) (by omega), Option.bind_some]
        unfold st
        rw [if_pos (by omega)]
        exact ⟨_, _, rfl⟩
theorem znq {m : List (BitVec 64)} (hm : m.length < 4294967296) (a : Int) (x y : BitVec 64) : ∃ v, Y1 m ⟨3, a, x, y⟩ = some ((sw m a x y).1, v, (sw m a x y).2, ()) := by
  rw [zgJ]
  simp only [zn, if_true, if_neg (show ¬ (3 : Int) = 1 by omega), if_neg (show ¬ (3 : Int) = 2 by omega)]
  by_cases h1 : a < 0
  · rw [if_pos h1]
    have : sw m a x y = (m, false) := by unfold sw; rw [if_neg (by omega)]
    rw [this]; exact ⟨_, rfl⟩
  · rw [if_neg h1]
    by_cases h2 : (m.length : Int) ≤ a
    · rw [if_pos h2]
      have : sw m a x y = (m, false) := by unfold sw; rw [if_neg (by omega)]
      rw [this]; exact ⟨_, rfl⟩
    · rw [if_neg h2, Wz (by omega), zq1 (by omega) (by omega), Option.bind_some, zph, Option.bind_some]
      simp only [zn]
      by_cases h3 : ld m a = x
      · have : sw m a x y = (st m a y, true) := by unfold sw; rw [if_pos ⟨by omega, by omega, h3⟩]
        rw [if_pos h3, this, yG]
        by_cases h4 : ld m a = y
        · rw [if_pos h4]
          have : st m a y = m := by rw [← h4, zsa]
          rw [this]
          simp [h3]
        · rw [if_neg h4, zo0 hm, Option.bind_some, Xw (l := m) (by omega) (by omega), Option.bind_some]
          unfold st
          rw [if_pos (by omega)]
          simp [h3]
      · have : sw m a x y = (m, false) := by unfold sw; rw [if_neg (by rintro ⟨_, _, h⟩; exact h3 h)]
        rw [if_neg h3, this]
        simp [h3]
theorem zm6 (m : List (BitVec 64)) (a : Int) : za8 m a = some (ld m a, ()) := by
  obtain ⟨b, h⟩ := zr3 m a 0#64 0#64
  rw [zmL, h]; rfl
theorem U7 {m : List (BitVec 64)} (hm : m.length < 4294967296) (a : Int) (x : BitVec 64) : Z0 m a x = some (st m a x, ()) := by
  obtain ⟨v, b, h⟩ := zqx hm a x 0#64
  rw [zlt, h]; rfl
theorem XM (m : List (BitVec 64)) (a : Int) : uW m a = some (ld m a, ()) := by
  obtain ⟨b, h⟩ := zr3 m a 0#64 0#64
  rw [znc, h]; rfl
theorem U0 {m : List (BitVec 64)} (hm : m.length < 4294967296) (a : Int) (x : BitVec 64) : ZZ m a x = some (st m a x, ()) := by
  obtain ⟨v, b, h⟩ := zqx hm a x 0#64
  rw [zld, h]; rfl
def yo (h : BitVec 64) : Int := (h &&& 4294967295#64).toInt
def yU (v : BitVec 64) (n : Int) : BitVec 64 := (v <<< 32) ||| (BitVec.ofInt 64 n &&& 4294967295#64)
theorem zd7 (h : BitVec 64) : Y3 h = some (yo h, ()) := zm2 h
theorem zek (v : BitVec 64) (n : Int) : Wn v n = some (yU v n, ()) := znd v n
def zm (m : List (BitVec 64)) (c : zy) : List (BitVec 64) × zy :=
  if c.Out ≠ 0 ∨ (c.Kind ≠ 1 ∧ c.Kind ≠ 2) ∨ c.PC < 0 ∨ 3 ≤ c.PC then (m, c)
  else if c.PC = 0 then
    (m, if c.Kind = 2 ∧ yo (ld m c.Head) = 0 then { c with H := ld m c.Head, Out := 2, PC := 1 } else { c with H := ld m c.Head, PC := 1 })
  else if c.PC = 1 then
    if c.Kind = 2 then (m, { c with Y := (ld m (wc (c.Next + yo c.H))).toInt, PC := 2 })
    else (st m (wc (c.Next + c.X)) (BitVec.ofInt 64 (yo c.H)), { c with PC := 2 })
  else
    let r := sw m c.Head c.H (yU ((c.H >>> 32) + 1#64) (if c.Kind = 2 then c.Y else c.X))
    (r.1, if r.2 then (if c.Kind = 2 then { c with X := yo c.H, Out := 1, PC := 3 } else { c with Out := 1, PC := 3 }) else { c with PC := 0 })
theorem ziz {m : List (BitVec 64)} (hm : m.length < 4294967296) (c : zy) : V3 m c = some ((zm m c).1, (zm m c).2, ()) := by
  have hsee : va m c = some (m, (if c.Kind = 2 ∧ yo (ld m c.Head) = 0 then { c with H := ld m c.Head, Out := 2 } else { c with H := ld m c.Head }), ()) := by
    rw [zd6, zm6, Option.bind_some, zd7, Option.bind_some, zn, zn]
    by_cases h1 : c.Kind = 2
    · by_cases h2 : yo (ld m c.Head) = 0
      · rw [if_pos h1, if_pos h2, if_pos ⟨h1, h2⟩]
      · rw [if_pos h1, if_neg h2, if_neg (fun h => h2 h.2)]
    · rw [if_neg h1, if_neg (fun h => h1 h.1)]
  have hlink : Yv m c = some (st m (wc (c.Next + c.X)) (BitVec.ofInt 64 (yo c.H)), ()) := by
    rw [zf2, ug, zd7, Option.bind_some, U7 hm]; rfl
  have hbeh : uF m c = some (m, { c with Y := (ld m (wc (c.Next + yo c.H))).toInt }, ()) := by
    rw [zcr, ug, zd7, Option.bind_some, zm6]; rfl
  have hswap : wM m c = some ((sw m c.Head c.H (yU ((c.H >>> 32) + 1#64) (if c.Kind = 2 then c.Y else c.X))).1,
      (if (sw m c.Head c.H (yU ((c.H >>> 32) + 1#64) (if c.Kind = 2 then c.Y else c.X))).2 then (if c.Kind = 2 then { c with X := yo c.H, Out := 1 } else { c with Out := 1 }) else { c with PC := -1 }), ()) := by
    rw [zdr, zn]
    by_cases h1 : c.Kind = 2
    · rw [if_pos h1, zek, Option.bind_some]
      obtain ⟨v, hv⟩ := znq hm c.Head c.H (yU ((c.H >>> 32) + 1#64) c.Y)
      simp only [if_pos h1]
      rw [hv, Option.bind_some]
      cases hs : (sw m c.Head c.H (yU ((c.H >>> 32) + 1#64) c.Y)).2 with
      | true => simp [hs, h1, zd7]
      | false => simp [hs]
    · rw [if_neg h1, zek, Option.bind_some]
      obtain ⟨v, hv⟩ := znq hm c.Head c.H (yU ((c.H >>> 32) + 1#64) c.X)
      simp only [if_neg h1]
      rw [hv, Option.bind_some]
      cases hs : (sw m c.Head c.H (yU ((c.H >>> 32) + 1#64) c.X)).2 with
      | true => simp [hs, h1]
      | false => simp [hs]
  rw [zmf, hsee, hlink, hbeh, hswap]
  simp only [zn, yG, Option.bind_some]
  unfold zm
  by_cases h0 : c.Out = 0
  · by_cases hp0 : c.PC < 0
    · have : (c.Out ≠ 0 ∨ (c.Kind ≠ 1 ∧ c.Kind ≠ 2) ∨ c.PC < 0 ∨ 3 ≤ c.PC) := .inr (.inr (.inl hp0))
      rw [if_pos this]
      simp [h0, hp0]
    · by_cases hp3 : 3 ≤ c.PC
      · have : (c.Out ≠ 0 ∨ (c.Kind ≠ 1 ∧ c.Kind ≠ 2) ∨ c.PC < 0 ∨ 3 ≤ c.PC) := .inr (.inr (.inr hp3))
        rw [if_pos this]
        simp [h0, hp3]
      · by_cases hk : c.Kind = 1 ∨ c.Kind = 2
        · have : ¬ (c.Out ≠ 0 ∨ (c.Kind ≠ 1 ∧ c.Kind ≠ 2) ∨ c.PC < 0 ∨ 3 ≤ c.PC) := by
            rintro (h | h | h | h)
            · exact h h0
            · omega
            · exact hp0 h
            · exact hp3 h
          rw [if_neg this]
          have hpc : c.PC = 0 ∨ c.PC = 1 ∨ c.PC = 2 := by omega
          have w1 : w64 1 = 1 := yh (by omega) (by omega)
          have w2 : w64 2 = 2 := yh (by omega) (by omega)
          have w3 : w64 3 = 3 := yh (by omega) (by omega)
          have w4 : w64 0 = 0 := yh (by omega) (by omega)
          rcases hk with hk | hk <;> rcases hpc with hpc | hpc | hpc <;> simp [h0, hk, hpc, w1, w2, w3, w4] <;> (try split) <;> simp [hpc, w1, w3, w4]
        · have : (c.Out ≠ 0 ∨ (c.Kind ≠ 1 ∧ c.Kind ≠ 2) ∨ c.PC < 0 ∨ 3 ≤ c.PC) := .inr (.inl (by omega))
          rw [if_pos this]
          have k1 : ¬ c.Kind = 1 := by omega
          have k2 : ¬ c.Kind = 2 := by omega
          simp [h0, k1, k2]
  · have : (c.Out ≠ 0 ∨ (c.Kind ≠ 1 ∧ c.Kind ≠ 2) ∨ c.PC < 0 ∨ 3 ≤ c.PC) := .inl h0
    rw [if_pos this]
    simp [h0]
end
end Go.Pe.G
namespace Go.Pe.G
open Go.Pe
noncomputable section
def Yl (d : zg) : BitVec 64 := BitVec.ofInt 64 (if d.Cap < 1 then 1 else d.Cap)
def ZE (d : zg) (i : BitVec 64) : Int := wc (wc (d.Base + 2) + (i % Yl d).toInt)
def yK (m : List (BitVec 64)) (d : zg) : List (BitVec 64) × zg :=
  if d.Out ≠ 0 ∨ d.PC < 0 ∨ 4 ≤ d.PC then (m, d)
  else if d.PC = 0 then (m, { d with B := ld m (wc (d.Base + 1)), PC := 1 })
  else if d.PC = 1 then (m, if Yl d ≤ d.B - ld m d.Base then { d with T := ld m d.Base, Out := 3, PC := 2 } else { d with T := ld m d.Base, PC := 2 })
  else if d.PC = 2 then (st m (ZE d d.B) (BitVec.ofInt 64 d.X), { d with PC := 3 })
  else (st m (wc (d.Base + 1)) (d.B + 1#64), { d with Out := 1, PC := 4 })
theorem zq2 : w64 0 = 0 ∧ w64 1 = 1 ∧ w64 2 = 2 ∧ w64 3 = 3 ∧ w64 4 = 4 := by
  refine ⟨?_, ?_, ?_, ?_, ?_⟩ <;> exact yh (by omega) (by omega)
theorem ztW {d : zg} (h : d.Cap < 1000) : Yl d ≠ 0#64 := by
  unfold Yl
  intro e
  have := congrArg BitVec.toNat e
  rw [BitVec.toNat_ofInt] at this
  split at this <;> simp at this <;> omega
theorem zmp (d : zg) : YC d = some (Yl d, ()) := by
  rw [zfS]; unfold Yl; rw [zn]
theorem zgK {d : zg} (h : d.Cap < 1000) (i : BitVec 64) : uB i d = some (ZE d i, ()) := by
  rw [zeJ, ug, zmp, Option.bind_some, zn, if_neg (ztW h)]; rfl
theorem zgv {m : List (BitVec 64)} (hm : m.length < 4294967296) {d : zg} (hk : d.Kind = 1) (hc : d.Cap < 1000) : V5 m d = some ((yK m d).1, (yK m d).2, ()) := by
  obtain ⟨w0, w1, w2, w3, w4⟩ := zq2
  have h0 : wF m d = some (m, { d with B := ld m (wc (d.Base + 1)) }, ()) := by
    rw [Xi, xq, ug, Option.bind_some, XM]; rfl
  have h1 : Xq m d = some (m, (if Yl d ≤ d.B - ld m d.Base then { d with T := ld m d.Base, Out := 3 } else { d with T := ld m d.Base }), ()) := by
    rw [zdO, ZD, Option.bind_some, XM, Option.bind_some, zmp, Option.bind_some, zn]
    have e : Yl { d with T := ld m d.Base } = Yl d := rfl
    simp only [e]
    by_cases h : Yl d ≤ d.B - ld m d.Base
    · rw [if_pos h, if_pos h, wo]
      simp [hk]
    · rw [if_neg h, if_neg h]
  have h2 : VF m d = some (st m (ZE d d.B) (BitVec.ofInt 64 d.X), ()) := by
    rw [zg4, zgK hc, Option.bind_some, U0 hm]; rfl
  have h3 : Z4 m d = some (st m (wc (d.Base + 1)) (d.B + 1#64), { d with Out := 1 }, ()) := by
    rw [zbB, wo]
    simp only [decide_true, Bool.not_true, cond_false, Option.bind_some, xq, ug]
    rw [U0 hm]; rfl
  rw [zgh, h0, h1, h2, h3, zdS]
  simp only [hk, decide_true, cond_true, Option.bind_some, yG, zn]
  have key : ∀ (x : Option (List (BitVec 64) × zg × Unit)) (v : List (BitVec 64) × zg × Unit) (y : Option (List (BitVec 64) × zg × Unit)), x = some v → Option.or x y = some v := by
    rintro _ v y rfl; rfl
  apply key
  unfold yK
  by_cases g0 : d.Out = 0
  · by_cases g1 : d.PC < 0
    · simp [g0, g1]
    · by_cases g2 : 4 ≤ d.PC
      · simp [g0, g2]
      · have hpc : d.PC = 0 ∨ d.PC = 1 ∨ d.PC = 2 ∨ d.PC = 3 := by omega
        rcases hpc with h | h | h | h <;> simp [g0, h, hk, w1, w2, w3, w4] <;> (try split) <;> simp [h, hk, w2]
  · simp [g0]
def z7 (p : zb) : Int := wc (p.Workers * wc (p.Cap + 2))
def zD (p : zb) : Int := wc (z7 p + 1)
def zI (p : zb) (w : Int) : Int := wc (wc (w - 1) * wc (p.Cap + 2))
theorem zea (p : zb) : Wo p = some (z7 p, ()) := by rw [zmh, ug]; rfl
theorem zcF (p : zb) : Xx p = some (zD p, ()) := by rw [zlI, ug, zea]; rfl
theorem za6 (p : zb) : YQ p = some (zD p, ()) := by rw [zlW, zcF]; rfl
theorem zcw (p : zb) (w : Int) : Vd p w = some (zI p w, ()) := by rw [zlH, ug]; rfl
def ziM (p : zb) (g : zA) : zA := { g with PC := 5, C := ⟨2, 0, zD p, zD p, 0#64, 0, 0, 0⟩ }
theorem zh0 (a : zB) : vr a = some (⟨ziM a.s.P a.Grey, a.s⟩, ()) := by
  rw [ze5, zcF, Option.bind_some, za6, Option.bind_some, WY]; rfl
def ziy (s : za) (g : zA) : za × zA :=
  let t := wn s.T g.Obj
  ({ s with T := t.1 },
    if t.2 = false then { g with PC := 2 }
    else if g.Mode = 1 then { g with PC := 3, D := ⟨1, 0, zI s.P g.Who, s.P.Cap, 0#64, 0#64, g.Obj, 0⟩ }
    else if g.Mode = 2 then { g with PC := 4 }
    else ziM s.P g)
def zil (s : za) (g : zA) : za × zA :=
  let r := yK s.M g.D
  ({ s with M := r.1 }, if r.2.Out = 1 then { g with D := r.2, Out := 1 } else if r.2.Out = 3 then ziM s.P { g with D := r.2 } else { g with D := r.2 })
def ziK (s : za) (g : zA) : za × zA :=
  let r := zm s.M g.C
  ({ s with M := r.1 }, if r.2.Out = 1 then { g with PC := 6, C := r.2, Bin := r.2.X } else if r.2.Out = 2 then ziM s.P { g with C := r.2 } else { g with C := r.2 })
def zpv (s : za) (g : zA) : za × zA :=
  ({ s with Bins := s.Bins.set g.Bin.toNat [g.Obj] }, { g with PC := 7, C := ⟨1, 0, z7 s.P, zD s.P, 0#64, g.Bin, 0, 0⟩ })
def zcv (s : za) (g : zA) : za × zA :=
  let r := zm s.M g.C
  ({ s with M := r.1 }, if r.2.Out = 1 then { g with C := r.2, Out := 1 } else { g with C := r.2 })
def zF (s : za) (g : zA) : za × zA :=
  if g.Out ≠ 0 ∨ g.Mode < 1 ∨ 3 < g.Mode ∨ g.PC < 0 ∨ 8 ≤ g.PC then (s, g)
  else if g.PC = 7 then zcv s g
  else if g.PC = 6 then zpv s g
  else if g.PC = 5 then ziK s g
  else if g.PC = 4 then ({ s with Flag := true }, ziM s.P g)
  else if g.PC = 3 then zil s g
  else if g.PC = 2 then ({ s with Work := wc (s.Work - 1) }, { g with Out := 1 })
  else if g.PC = 1 then ziy s g
  else ({ s with Work := wc (s.Work + 1) }, { g with PC := 1 })
structure GOk (s : za) (g : zA) : Prop where
  mem : s.M.length < 4294967296
  bins : s.Bins.length < 4294967296
  bin : g.PC = 6 → 0 ≤ g.Bin ∧ g.Bin < s.Bins.length
  deq : g.PC = 3 → g.D.Kind = 1 ∧ g.D.Cap < 1000
theorem zuc {s : za} {g : zA} (ok : GOk s g) : zcO s g = some ((zF s g).1, (zF s g).2, ()) := by
  rw [zno]
  simp only [zn, yG]
  unfold zF
  by_cases h0 : g.Out = 0
  rotate_left
  · rw [if_neg h0, if_pos (.inl h0)]
  rw [if_pos h0]
  by_cases h1 : g.Mode < 1
  · rw [if_pos h1, if_pos (.inr (.inl h1))]
  rw [if_neg h1]
  by_cases h2 : 3 < g.Mode
  · rw [if_pos h2, if_pos (.inr (.inr (.inl h2)))]
  rw [if_neg h2]
  by_cases h3 : g.PC < 0
  · rw [if_pos h3, if_pos (.inr (.inr (.inr (.inl h3))))]
  rw [if_neg h3]
  by_cases h4 : 8 ≤ g.PC
  · rw [if_pos h4, if_pos (.inr (.inr (.inr (.inr h4))))]
  rw [if_neg h4, if_neg (show ¬ (g.Out ≠ 0 ∨ g.Mode < 1 ∨ 3 < g.Mode ∨ g.PC < 0 ∨ 8 ≤ g.PC) by omega)]
  by_cases p7 : g.PC = 7
  · rw [if_pos p7, if_pos p7, zci]
    simp only [ziz ok.mem, Option.bind_some, zn]
    by_cases e : (zm s.M g.C).2.Out = 1 <;> simp [zcv, e]
  rw [if_neg p7, if_neg p7]
  by_cases p6 : g.PC = 6
  · rw [if_pos p6, if_pos p6, zd5]
    obtain ⟨b1, b2⟩ := ok.bin p6
    simp only [zl3 ok.bins, Option.bind_some, Xw (l := s.Bins) b1 b2, zea, za6, WY]
    rfl
  rw [if_neg p6, if_neg p6]
  by_cases p5 : g.PC = 5
  · rw [if_pos p5, if_pos p5, zeb]
    simp only [ziz ok.mem, Option.bind_some, zn, zh0]
    by_cases e : (zm s.M g.C).2.Out = 1
    · simp [ziK, e]
    · by_cases e2 : (zm s.M g.C).2.Out = 2 <;> simp [ziK, e, e2]
  rw [if_neg p5, if_neg p5]
  by_cases p4 : g.PC = 4
  · rw [if_pos p4, if_pos p4, zed, zh0]; rfl
  rw [if_neg p4, if_neg p4]
  by_cases p3 : g.PC = 3
  · rw [if_pos p3, if_pos p3, zel]
    obtain ⟨b1, b2⟩ := ok.deq p3
    simp only [zgv ok.mem b1 b2, Option.bind_some, zn, zh0]
    by_cases e : (yK s.M g.D).2.Out = 1
    · simp [zil, e]
    · by_cases e2 : (yK s.M g.D).2.Out = 3 <;> simp [zil, e, e2]
  rw [if_neg p3, if_neg p3]
  by_cases p2 : g.PC = 2
  · rw [if_pos p2, if_pos p2, zey, ug]; rfl
  rw [if_neg p2, if_neg p2]
  by_cases p1 : g.PC = 1
  · rw [if_pos p1, if_pos p1, zd0]
    simp only [ziv, Option.bind_some, zn, zh0, zcw, WT]
    unfold ziy
    cases hs : (wn s.T g.Obj).2 with
    | false => simp [hs]
    | true =>
      by_cases m1 : g.Mode = 1
      · simp [hs, m1]
      · by_cases m2 : g.Mode = 2 <;> simp [hs, m1, m2]
  rw [if_neg p1, if_neg p1, if_pos (show g.PC = 0 by omega), zbY, ug]; rfl
end
end Go.Pe.G
namespace Go.Pe.G
open Go.Pe
noncomputable section
theorem vb {b k : Int} (h : 0 ≤ b) (hk : 0 < k) : 0 ≤ b.tmod k ∧ b.tmod k < k := by
  rw [Int.tmod_eq_emod_of_nonneg h]; exact ⟨Int.emod_nonneg _ (by omega), Int.emod_lt_of_pos _ hk⟩
def zeU (o : zi) (regs slots : Int) : Prop := (0 ≤ o.R ∧ o.R < regs) ∧
  ((o.Kind = 1 ∨ o.Kind = 2) ∧ (0 ≤ o.A ∧ o.A < regs) ∧ (0 ≤ o.S ∧ o.S < slots) ∨ o.Kind = 4 ∧ (0 ≤ o.A ∧ o.A < regs) ∧ o.S = 0 ∨ (o.Kind = 3 ∨ o.Kind = 5) ∧ o.A = 0 ∧ o.S = 0)
structure zC (p : zb) : Prop where
  wk : 1 ≤ p.Workers ∧ p.Workers ≤ 3
  mt : 0 ≤ p.Mutators ∧ p.Mutators ≤ 2
  cap : 1 ≤ p.Cap ∧ p.Cap ≤ 3
  buf : 1 ≤ p.Buf ∧ p.Buf ≤ 2
  bin : 1 ≤ p.Bin ∧ p.Bin ≤ 3
  price : 0 ≤ p.Price ∧ p.Price ≤ 3
  limit : 0 ≤ p.Limit ∧ p.Limit ≤ 3
  slots : 1 ≤ p.H.Slots ∧ p.H.Slots ≤ 2
  n : 1 ≤ (p.H.Objs.length : Int) ∧ (p.H.Objs.length : Int) ≤ 6
  objs : ∀ o ∈ p.H.Objs, (o.length : Int) = p.H.Slots ∧ ∀ v ∈ o, 0 ≤ v ∧ v ≤ (p.H.Objs.length : Int)
  most : (p.H.Objs.length : Int) ≤ p.Most ∧ p.Most ≤ (p.H.Objs.length : Int) + 3
  roots : ∃ r, 0 ≤ r ∧ r ≤ (p.H.Objs.length : Int) ∧ p.Roots = bit r
  regs : (p.Regs.length : Int) = p.Mutators
  progs : (p.Progs.length : Int) = p.Mutators
  reg : ∀ r ∈ p.Regs, (1 ≤ (r.length : Int) ∧ (r.length : Int) ≤ 3) ∧ ∀ v ∈ r, 0 ≤ v ∧ v ≤ (p.H.Objs.length : Int)
  prog : ∀ (k : Nat) r ops, p.Regs[k]? = some r → p.Progs[k]? = some ops → (ops.length : Int) ≤ 7 ∧ ∀ o ∈ ops, zeU o (r.length : Int) p.H.Slots
  picks : p.Picks = []
end
end Go.Pe.G
namespace Go.Pe.G
open Go.Pe
noncomputable section
namespace B15
def Xm (m : zE) : Prop := 0 ≤ m.At ∧ m.At ≤ m.L.length ∧ m.L.length ≤ 90
theorem vO {m : zE} (h : Xm m) : ∃ b m', zx m = some (b, m', ()) ∧ (0 ≤ b ∧ b < 256) ∧ Xm m' := by
  obtain ⟨h1, h2, h3⟩ := h
  rw [zbE, zn]
  by_cases h : (m.L.length : Int) ≤ m.At
  · rw [if_pos h]; exact ⟨_, _, rfl, by omega, h1, h2, h3⟩
  · rw [if_neg h, yh (a := m.At + 1) (by omega) (by omega), yh (by omega) (by omega), Wz (by omega), List.getElem?_eq_getElem (by omega), Option.bind_some]
    exact ⟨_, _, rfl, by have := (m.L[(m.At + 1 - 1).toNat]'(by omega)).isLt; omega, show 0 ≤ m.At + 1 by omega, show m.At + 1 ≤ m.L.length by omega, h3⟩
theorem zxq {m : zE} (h : Xm m) {regs slots : Int} (hr : 1 ≤ regs) (hs : 1 ≤ slots) : ∃ o m', YX regs slots m = some (o, m', ()) ∧ zeU o regs slots ∧ Xm m' := by
  obtain ⟨b1, m1, e1, r1, k1⟩ := vO h
  obtain ⟨b2, m2, e2, r2, k2⟩ := vO k1
  obtain ⟨b3, m3, e3, r3, k3⟩ := vO k2
  obtain ⟨b4, m4, e4, r4, k4⟩ := vO k3
  have t1 := vb r1.1 (show (0 : Int) < 8 by omega)
  have t2 := vb r2.1 (show (0 : Int) < regs by omega)
  have t3 := vb r3.1 (show (0 : Int) < regs by omega)
  have t4 := vb r4.1 (show (0 : Int) < slots by omega)
  have t5 := vb r3.1 (show (0 : Int) < slots by omega)
  have hn : ¬ regs = 0 := by omega
  have hn2 : ¬ slots = 0 := by omega
  rw [zdh, e1, Option.bind_some, Xw t1.1 (by simpa using t1.2), Option.bind_some]
  have hx : b1.tmod 8 = 0 ∨ b1.tmod 8 = 1 ∨ b1.tmod 8 = 2 ∨ b1.tmod 8 = 3 ∨ b1.tmod 8 = 4 ∨ b1.tmod 8 = 5 ∨ b1.tmod 8 = 6 ∨ b1.tmod 8 = 7 := by omega
  rcases hx with hx | hx | hx | hx | hx | hx | hx | hx <;> simp [hx, e2, e3, e4, hn, hn2] <;> refine ⟨_, _, ⟨rfl, rfl⟩, ?_, by assumption⟩ <;> (unfold zeU; dsimp only; omega)
theorem zuG {s1 : Int} {s2 : Int} {s4 : Int} {s5 : Int} {s6 : Int} {s7 : Int} {s8 : Int} {s9 : Int} {s10 : Int} {s11 : Int} {s12 : Int} {s13 : BitVec 64} {s15 : Int} {s16 : Int} {s17 : Int} {s18 : Int} {s19 : Int} {s20 : Int} {s21 : Int} {s22 : Int} {s23 : Int} {s24 : BitVec 64} {s26 : List (List Int)} {s27 : List (List Int)} {s28 : List (List zi)} {s29 : List zk} {s30 : List (List Int)} {s31 : List (List Int)} {s32 : List (List zi)} {s33 : List zk} (hn : 1 ≤ s1 ∧ s1 ≤ 6) (hs : 1 ≤ s23 ∧ s23 ≤ 2) {mk : zE} (hm : Xm mk) :
    ∃ mk' l, yy ZV (s1, s2, 0, s4, s5, s6, s7, s8, s9, s10, s11, s12, s13, mk, s15, s16, s17, s18, s19, s20, s21, s22, s23, s24, [], s26, s27, s28, s29, s30, s31, s32, s33, ()) = some (.brk (s1, s2, s4, s5, s6, s7, s8, s9, s10, s11, s12, s13, mk', s15, s16, s17, s18, s19, s20, s21, s22, s23, s24, l, s26, s27, s28, s29, s30, s31, s32, s33, ())) ∧ Xm mk' ∧ (l.length : Int) = s23 ∧ ∀ v ∈ l, 0 ≤ v ∧ v ≤ s1 := by
  refine (uq (f := ZV)
    (fun a => ∃ i mk l, a = (s1, s2, i, s4, s5, s6, s7, s8, s9, s10, s11, s12, s13, mk, s15, s16, s17, s18, s19, s20, s21, s22, s23, s24, l, s26, s27, s28, s29, s30, s31, s32, s33, ()) ∧ Xm mk ∧ (0 ≤ i ∧ i ≤ s23 ∧ (l.length : Int) = i) ∧ ∀ v ∈ l, 0 ≤ v ∧ v ≤ s1)
    (fun a => (s23 - a.2.2.1).toNat)
    (fun o => match o with | .brk b => ∃ mk l, b = (s1, s2, s4, s5, s6, s7, s8, s9, s10, s11, s12, s13, mk, s15, s16, s17, s18, s19, s20, s21, s22, s23, s24, l, s26, s27, s28, s29, s30, s31, s32, s33, ()) ∧ Xm mk ∧ (l.length : Int) = s23 ∧ ∀ v ∈ l, 0 ≤ v ∧ v ≤ s1 | _ => False) ?_
    (s1, s2, 0, s4, s5, s6, s7, s8, s9, s10, s11, s12, s13, mk, s15, s16, s17, s18, s19, s20, s21, s22, s23, s24, [], s26, s27, s28, s29, s30, s31, s32, s33, ()) ⟨0, mk, [], rfl, hm, by simp; omega, by simp⟩ (wQ (by simp; omega))).elim fun o h => ?_
  rotate_left
  · obtain ⟨ho, hq⟩ := h
    cases o with
    | again a => exact hq.elim
    | ret a => exact hq.elim
    | brk b =>
      obtain ⟨mk', l, rfl, h1, h2, h3⟩ := hq
      exact ⟨mk', l, ho, h1, h2, h3⟩
  · rintro _ ⟨i, mk, l, rfl, h1, h2, h3⟩
    rw [zfM, zn]
    by_cases hi : i < s23
    · rw [if_pos hi]
      obtain ⟨b, mk', e, r, k⟩ := vO h1
      have w1 : w64 (s1 + 1) = s1 + 1 := yh (by omega) (by omega)
      have t := vb r.1 (show 0 < s1 + 1 by omega)
      rw [e, Option.bind_some, w1, zn, if_neg (by omega), vJ (by simp; omega), Option.bind_some, yh (a := i + 1) (by omega) (by omega)]
      refine ⟨_, rfl, ⟨i + 1, mk', l ++ [b.tmod (s1 + 1)], rfl, k, by simp; omega, fun v hv => ?_⟩, ?_⟩
      · rcases List.mem_append.1 hv with hv | hv
        · exact h3 v hv
        · simp at hv; omega
      · show (s23 - (i + 1)).toNat < (s23 - i).toNat
        omega
    · rw [if_neg hi]
      exact ⟨_, rfl, mk, l, rfl, h1, by omega, h3⟩
theorem zwv {s1 : Int} {s3 : Int} {s4 : Int} {s5 : Int} {s6 : Int} {s7 : Int} {s8 : Int} {s9 : Int} {s10 : Int} {s11 : Int} {s12 : BitVec 64} {s14 : Int} {s15 : Int} {s16 : Int} {s17 : Int} {s18 : Int} {s19 : Int} {s20 : Int} {s21 : Int} {s22 : Int} {s23 : BitVec 64} {s24 : List (List Int)} {s25 : List (List Int)} {s26 : List (List zi)} {s27 : List zk} {s29 : List (List Int)} {s30 : List (List zi)} {s31 : List zk} (hn : 1 ≤ s1 ∧ s1 ≤ 6) (hs : 1 ≤ s22 ∧ s22 ≤ 2) {mk : zE} (hm : Xm mk) :
    ∃ mk' l, yy YE (s1, 0, s3, s4, s5, s6, s7, s8, s9, s10, s11, s12, mk, s14, s15, s16, s17, s18, s19, s20, s21, s22, s23, s24, s25, s26, s27, [], s29, s30, s31, ()) = some (.brk (s1, s3, s4, s5, s6, s7, s8, s9, s10, s11, s12, mk', s14, s15, s16, s17, s18, s19, s20, s21, s22, s23, s24, s25, s26, s27, l, s29, s30, s31, ())) ∧ Xm mk' ∧ (l.length : Int) = s1 ∧ ∀ o ∈ l, (o.length : Int) = s22 ∧ ∀ v ∈ o, 0 ≤ v ∧ v ≤ s1 := by
  refine (uq (f := YE)
    (fun a => ∃ i mk l, a = (s1, i, s3, s4, s5, s6, s7, s8, s9, s10, s11, s12, mk, s14, s15, s16, s17, s18, s19, s20, s21, s22, s23, s24, s25, s26, s27, l, s29, s30, s31, ()) ∧ Xm mk ∧ (0 ≤ i ∧ i ≤ s1 ∧ (l.length : Int) = i) ∧ ∀ o ∈ l, (o.length : Int) = s22 ∧ ∀ v ∈ o, 0 ≤ v ∧ v ≤ s1)
    (fun a => (s1 - a.2.1).toNat)
    (fun o => match o with | .brk b => ∃ mk l, b = (s1, s3, s4, s5, s6, s7, s8, s9, s10, s11, s12, mk, s14, s15, s16, s17, s18, s19, s20, s21, s22, s23, s24, s25, s26, s27, l, s29, s30, s31, ()) ∧ Xm mk ∧ (l.length : Int) = s1 ∧ ∀ o ∈ l, (o.length : Int) = s22 ∧ ∀ v ∈ o, 0 ≤ v ∧ v ≤ s1 | _ => False) ?_
    (s1, 0, s3, s4, s5, s6, s7, s8, s9, s10, s11, s12, mk, s14, s15, s16, s17, s18, s19, s20, s21, s22, s23, s24, s25, s26, s27, [], s29, s30, s31, ()) ⟨0, mk, [], rfl, hm, by simp; omega, by simp⟩ (wQ (by simp; omega))).elim fun o h => ?_
  rotate_left
  · obtain ⟨ho, hq⟩ := h
    cases o with
    | again a => exact hq.elim
    | ret a => exact hq.elim
    | brk b =>
      obtain ⟨mk', l, rfl, h1, h2, h3⟩ := hq
      exact ⟨mk', l, ho, h1, h2, h3⟩
  · rintro _ ⟨i, mk, l, rfl, h1, h2, h3⟩
    rw [zf1, zn]
    by_cases hi : i < s1
    · rw [if_pos hi]
      obtain ⟨mk', o, e, g1, g2, g3⟩ := zuG hn hs h1
      rw [e]
      simp only [Option.bind_some]
      rw [vJ (by simp; omega), Option.bind_some, yh (a := i + 1) (by omega) (by omega)]
      refine ⟨_, rfl, ⟨i + 1, mk', l ++ [o], rfl, g1, by simp; omega, fun v hv => ?_⟩, ?_⟩
      · rcases List.mem_append.1 hv with hv | hv
        · exact h3 v hv
        · simp at hv; subst hv; exact ⟨g2, g3⟩
      · show (s1 - (i + 1)).toNat < (s1 - i).toNat
        omega
    · rw [if_neg hi]
      exact ⟨_, rfl, mk, l, rfl, h1, by omega, h3⟩
theorem zvy {s1 : Int} {s2 : Int} {s4 : Int} {s5 : Int} {s6 : Int} {s7 : Int} {s8 : Int} {s9 : Int} {s10 : Int} {s11 : Int} {s12 : Int} {s13 : BitVec 64} {s15 : Int} {s16 : Int} {s17 : Int} {s18 : Int} {s19 : Int} {s20 : Int} {s21 : Int} {s22 : Int} {s23 : Int} {s24 : BitVec 64} {s26 : List (List Int)} {s27 : List (List Int)} {s28 : List (List zi)} {s29 : List zk} {s30 : List (List Int)} {s31 : List (List Int)} {s32 : List (List zi)} {s33 : List zk} (hn : 1 ≤ s1 ∧ s1 ≤ 6) {mk : zE} (hm : Xm mk) :
    ∃ mk' l, yy ZS (s1, s2, 0, s4, s5, s6, s7, s8, s9, s10, s11, s12, s13, mk, s15, s16, s17, s18, s19, s20, s21, s22, s23, s24, [], s26, s27, s28, s29, s30, s31, s32, s33, ()) = some (.brk (s1, s2, s4, s5, s6, s7, s8, s9, s10, s11, s12, s13, mk', s15, s16, s17, s18, s19, s20, s21, s22, s23, s24, l, s26, s27, s28, s29, s30, s31, s32, s33, ())) ∧ Xm mk' ∧ (1 ≤ (l.length : Int) ∧ (l.length : Int) ≤ 3) ∧ ∀ v ∈ l, 0 ≤ v ∧ v ≤ s1 := by
  refine (uq (f := ZS)
    (fun a => ∃ i mk l, a = (s1, s2, i, s4, s5, s6, s7, s8, s9, s10, s11, s12, s13, mk, s15, s16, s17, s18, s19, s20, s21, s22, s23, s24, l, s26, s27, s28, s29, s30, s31, s32, s33, ()) ∧ Xm mk ∧ (0 ≤ i ∧ i ≤ 3 ∧ (l.length : Int) = i) ∧ ∀ v ∈ l, 0 ≤ v ∧ v ≤ s1)
    (fun a => (3 - a.2.2.1).toNat)
    (fun o => match o with | .brk b => ∃ mk l, b = (s1, s2, s4, s5, s6, s7, s8, s9, s10, s11, s12, s13, mk, s15, s16, s17, s18, s19, s20, s21, s22, s23, s24, l, s26, s27, s28, s29, s30, s31, s32, s33, ()) ∧ Xm mk ∧ (1 ≤ (l.length : Int) ∧ (l.length : Int) ≤ 3) ∧ ∀ v ∈ l, 0 ≤ v ∧ v ≤ s1 | _ => False) ?_
    (s1, s2, 0, s4, s5, s6, s7, s8, s9, s10, s11, s12, s13, mk, s15, s16, s17, s18, s19, s20, s21, s22, s23, s24, [], s26, s27, s28, s29, s30, s31, s32, s33, ()) ⟨0, mk, [], rfl, hm, by simp, by simp⟩ (wQ (by simp))).elim fun o h => ?_
  rotate_left
  · obtain ⟨ho, hq⟩ := h
    cases o with
    | again a => exact hq.elim
    | ret a => exact hq.elim
    | brk b =>
      obtain ⟨mk', l, rfl, h1, h2, h3⟩ := hq
      exact ⟨mk', l, ho, h1, h2, h3⟩
  · rintro _ ⟨i, mk, l, rfl, h1, h2, h3⟩
    obtain ⟨b0, mk0, e0, r0, k0⟩ := vO h1
    have t0 := vb r0.1 (show (0 : Int) < 3 by omega)
    rw [zfF, e0, Option.bind_some, zn, yh (a := 1 + b0.tmod 3) (by omega) (by omega)]
    by_cases hi : i < 1 + b0.tmod 3
    · rw [if_pos hi]
      obtain ⟨b, mk', e, r, k⟩ := vO k0
      have w1 : w64 (s1 + 1) = s1 + 1 := yh (by omega) (by omega)
      have t := vb r.1 (show 0 < s1 + 1 by omega)
      rw [e, Option.bind_some, w1, zn, if_neg (by omega), vJ (by simp; omega), Option.bind_some, yh (a := i + 1) (by omega) (by omega)]
      refine ⟨_, rfl, ⟨i + 1, mk', l ++ [b.tmod (s1 + 1)], rfl, k, by simp; omega, fun v hv => ?_⟩, ?_⟩
      · rcases List.mem_append.1 hv with hv | hv
        · exact h3 v hv
        · simp at hv; omega
      · show (3 - (i + 1)).toNat < (3 - i).toNat
        omega
    · rw [if_neg hi]
      exact ⟨_, rfl, mk0, l, rfl, k0, by omega, h3⟩
theorem zvr {s1 : Int} {s2 : Int} {s4 : Int} {s5 : Int} {s6 : Int} {s7 : Int} {s8 : Int} {s9 : Int} {s10 : Int} {s11 : Int} {s12 : Int} {s13 : BitVec 64} {s15 : Int} {s16 : Int} {s17 : Int} {s18 : Int} {s19 : Int} {s20 : Int} {s21 : Int} {s22 : Int} {s23 : Int} {s24 : BitVec 64} {s25 : List Int} {s27 : List (List Int)} {s28 : List (List Int)} {s29 : List (List zi)} {s30 : List zk} {s31 : List (List Int)} {s32 : List (List Int)} {s33 : List (List zi)} {s34 : List zk} (hr : 1 ≤ (s25.length : Int)) (hs : 1 ≤ s23 ∧ s23 ≤ 2) {k0 : Int} (hk : 0 ≤ k0 ∧ k0 < 8) {mk : zE} (hm : Xm mk) :
    ∃ mk' l, yy uy (s1, s2, k0, s4, s5, s6, s7, s8, s9, s10, s11, s12, s13, mk, s15, s16, s17, s18, s19, s20, s21, s22, s23, s24, s25, [], s27, s28, s29, s30, s31, s32, s33, s34, ()) = some (.brk (s1, s2, s4, s5, s6, s7, s8, s9, s10, s11, s12, s13, mk', s15, s16, s17, s18, s19, s20, s21, s22, s23, s24, s25, l, s27, s28, s29, s30, s31, s32, s33, s34, ())) ∧ Xm mk' ∧ (l.length : Int) ≤ 7 ∧ ∀ o ∈ l, zeU o (s25.length : Int) s23 := by
  refine (uq (f := uy)
    (fun a => ∃ i mk l, a = (s1, s2, i, s4, s5, s6, s7, s8, s9, s10, s11, s12, s13, mk, s15, s16, s17, s18, s19, s20, s21, s22, s23, s24, s25, l, s27, s28, s29, s30, s31, s32, s33, s34, ()) ∧ Xm mk ∧ (0 ≤ i ∧ (l.length : Int) + i ≤ 7) ∧ ∀ o ∈ l, zeU o (s25.length : Int) s23)
    (fun a => (a.2.2.1).toNat)
    (fun o => match o with | .brk b => ∃ mk l, b = (s1, s2, s4, s5, s6, s7, s8, s9, s10, s11, s12, s13, mk, s15, s16, s17, s18, s19, s20, s21, s22, s23, s24, s25, l, s27, s28, s29, s30, s31, s32, s33, s34, ()) ∧ Xm mk ∧ (l.length : Int) ≤ 7 ∧ ∀ o ∈ l, zeU o (s25.length : Int) s23 | _ => False) ?_
    (s1, s2, k0, s4, s5, s6, s7, s8, s9, s10, s11, s12, s13, mk, s15, s16, s17, s18, s19, s20, s21, s22, s23, s24, s25, [], s27, s28, s29, s30, s31, s32, s33, s34, ()) ⟨k0, mk, [], rfl, hm, by simp; omega, by simp⟩ (wQ (by simp; omega))).elim fun o h => ?_
  rotate_left
  · obtain ⟨ho, hq⟩ := h
    cases o with
    | again a => exact hq.elim
    | ret a => exact hq.elim
    | brk b =>
      obtain ⟨mk', l, rfl, h1, h2, h3⟩ := hq
      exact ⟨mk', l, ho, h1, h2, h3⟩
  · rintro _ ⟨i, mk, l, rfl, h1, h2, h3⟩
    rw [zfe, zn]
    by_cases hi : 0 < i
    · rw [if_pos hi]
      obtain ⟨o, mk', e, r, k⟩ := zxq h1 hr hs.1
      rw [e, Option.bind_some, vJ (by simp; omega), Option.bind_some, yh (a := i - 1) (by omega) (by omega)]
      refine ⟨_, rfl, ⟨i - 1, mk', l ++ [o], rfl, k, by simp; omega, fun v hv => ?_⟩, ?_⟩
      · rcases List.mem_append.1 hv with hv | hv
        · exact h3 v hv
        · simp at hv; subst hv; exact r
      · show (i - 1).toNat < i.toNat
        omega
    · rw [if_neg hi]
      exact ⟨_, rfl, mk, l, rfl, h1, by omega, h3⟩
theorem zvv {s1 : Int} {s3 : Int} {s4 : Int} {s5 : Int} {s6 : Int} {s7 : Int} {s8 : Int} {s9 : Int} {s10 : Int} {s11 : Int} {s12 : BitVec 64} {s14 : Int} {s15 : Int} {s16 : Int} {s17 : Int} {s18 : Int} {s19 : Int} {s20 : Int} {s21 : Int} {s22 : Int} {s23 : BitVec 64} {s24 : List (List Int)} {s25 : List (List Int)} {s26 : List (List zi)} {s27 : List zk} {s28 : List (List Int)} {s31 : List zk} (hn : 1 ≤ s1 ∧ s1 ≤ 6) (hm0 : 0 ≤ s15 ∧ s15 ≤ 2) (hs : 1 ≤ s22 ∧ s22 ≤ 2) {mk : zE} (hm : Xm mk) :
    ∃ regs progs, yy ZU (s1, 0, s3, s4, s5, s6, s7, s8, s9, s10, s11, s12, mk, s14, s15, s16, s17, s18, s19, s20, s21, s22, s23, s24, s25, s26, s27, s28, [], [], s31, ()) = some (.brk (s3, s4, s5, s6, s7, s8, s9, s10, s11, s12, s14, s15, s16, s17, s18, s19, s20, s21, s22, s23, s24, s25, s26, s27, s28, regs, progs, s31, ())) ∧ (regs.length : Int) = s15 ∧ (regs.length = progs.length) ∧ (∀ r ∈ regs, (1 ≤ (r.length : Int) ∧ (r.length : Int) ≤ 3) ∧ ∀ v ∈ r, 0 ≤ v ∧ v ≤ s1) ∧ ∀ (k : Nat) r ops, regs[k]? = some r → progs[k]? = some ops → (ops.length : Int) ≤ 7 ∧ ∀ o ∈ ops, zeU o (r.length : Int) s22 := by
  refine (uq (f := ZU)
    (fun a => ∃ i mk regs progs, a = (s1, i, s3, s4, s5, s6, s7, s8, s9, s10, s11, s12, mk, s14, s15, s16, s17, s18, s19, s20, s21, s22, s23, s24, s25, s26, s27, s28, regs, progs, s31, ()) ∧ Xm mk ∧ (0 ≤ i ∧ i ≤ s15 ∧ (regs.length : Int) = i) ∧ (regs.length = progs.length) ∧ (∀ r ∈ regs, (1 ≤ (r.length : Int) ∧ (r.length : Int) ≤ 3) ∧ ∀ v ∈ r, 0 ≤ v ∧ v ≤ s1) ∧ ∀ (k : Nat) r ops, regs[k]? = some r → progs[k]? = some ops → (ops.length : Int) ≤ 7 ∧ ∀ o ∈ ops, zeU o (r.length : Int) s22)
    (fun a => (s15 - a.2.1).toNat)
    (fun o => match o with | .brk b => ∃ regs progs, b = (s3, s4, s5, s6, s7, s8, s9, s10, s11, s12, s14, s15, s16, s17, s18, s19, s20, s21, s22, s23, s24, s25, s26, s27, s28, regs, progs, s31, ()) ∧ (regs.length : Int) = s15 ∧ (regs.length = progs.length) ∧ (∀ r ∈ regs, (1 ≤ (r.length : Int) ∧ (r.length : Int) ≤ 3) ∧ ∀ v ∈ r, 0 ≤ v ∧ v ≤ s1) ∧ ∀ (k : Nat) r ops, regs[k]? = some r → progs[k]? = some ops → (ops.length : Int) ≤ 7 ∧ ∀ o ∈ ops, zeU o (r.length : Int) s22 | _ => False) ?_
    (s1, 0, s3, s4, s5, s6, s7, s8, s9, s10, s11, s12, mk, s14, s15, s16, s17, s18, s19, s20, s21, s22, s23, s24, s25, s26, s27, s28, [], [], s31, ()) ⟨0, mk, [], [], rfl, hm, by simp; omega, rfl, by simp, by simp⟩ (wQ (by simp; omega))).elim fun o h => ?_
  rotate_left
  · obtain ⟨ho, hq⟩ := h
    cases o with
    | again a => exact hq.elim
    | ret a => exact hq.elim
    | brk b =>
      obtain ⟨regs, progs, rfl, h⟩ := hq
      exact ⟨regs, progs, ho, h⟩
  · rintro _ ⟨i, mk, regs, progs, rfl, h1, h2, h3, h4, h5⟩
    rw [zfH, zn]
    by_cases hi : i < s15
    · rw [if_pos hi]
      obtain ⟨mk1, r, e, g1, g2, g3⟩ := zvy hn h1
      rw [e]
      simp only [Option.bind_some]
      rw [zn, if_neg (by omega)]
      obtain ⟨b, mk2, e2, r2, k2⟩ := vO g1
      rw [e2, Option.bind_some]
      obtain ⟨mk3, ops, e3, f1, f2, f3⟩ := zvr (s25 := r) g2.1 hs (vb r2.1 (show (0 : Int) < 8 by omega)) k2
      rw [e3]
      simp only [Option.bind_some]
      rw [vJ (by simp; omega), Option.bind_some, vJ (by simp; omega), Option.bind_some, yh (a := i + 1) (by omega) (by omega)]
      refine ⟨_, rfl, ⟨i + 1, mk3, regs ++ [r], progs ++ [ops], rfl, f1, by simp; omega, by simp [h3], fun v hv => ?_, fun k r' ops' hk1 hk2 => ?_⟩, ?_⟩
      · rcases List.mem_append.1 hv with hv | hv
        · exact h4 v hv
        · simp at hv; subst hv; exact ⟨g2, g3⟩
      · rcases Nat.lt_or_ge k regs.length with hlt | hge
        · rw [List.getElem?_append_left hlt] at hk1
          rw [List.getElem?_append_left (by omega)] at hk2
          exact h5 k r' ops' hk1 hk2
        · rw [List.getElem?_append_right hge] at hk1
          rw [List.getElem?_append_right (by omega), ← h3] at hk2
          have hk0 : k - regs.length = 0 := by
            have := (List.getElem?_eq_some_iff.1 hk1).1
            simpa using this
          rw [hk0] at hk1 hk2
          simp at hk1 hk2
          subst hk1; subst hk2
          exact ⟨f2, f3⟩
      · show (s15 - (i + 1)).toNat < (s15 - i).toNat
        omega
    · rw [if_neg hi]
      exact ⟨_, rfl, regs, progs, rfl, by omega, h3, h4, h5⟩
theorem zwA (l : List (BitVec 8)) : ∃ p, UQ l = some (p, ()) ∧ zC p := by
  rw [ziB, zn]
  obtain ⟨m, em, hl⟩ : ∃ m, cut l 0 (if 90 < (l.length : Int) then 90 else (l.length : Int)) = some m ∧ m.length ≤ 90 := by
    unfold cut
    by_cases h : 90 < (l.length : Int)
    · have h2 : (90 : Int) ≤ l.length := by omega
      rw [if_pos h]; exact ⟨l.take 90, by simp [h2], List.length_take_le _ _⟩
    · rw [if_neg h]; exact ⟨l, by simp, by omega⟩
  rw [em, Option.bind_some]
  obtain ⟨b1, m1, e1, r1, k1⟩ := vO (m := ⟨m, 0⟩) ⟨by simp, by simp, hl⟩
  obtain ⟨b2, m2, e2, r2, k2⟩ := vO k1
  obtain ⟨b3, m3, e3, r3, k3⟩ := vO k2
  obtain ⟨b4, m4, e4, r4, k4⟩ := vO k3
  obtain ⟨b5, m5, e5, r5, k5⟩ := vO k4
  obtain ⟨b6, m6, e6, r6, k6⟩ := vO k5
  obtain ⟨b7, m7, e7, r7, k7⟩ := vO k6
  obtain ⟨b8, m8, e8, r8, k8⟩ := vO k7
  obtain ⟨b9, m9, e9, r9, k9⟩ := vO k8
  obtain ⟨b10, m10, e10, r10, k10⟩ := vO k9
  simp only [e1, e2, e3, e4, e5, e6, e7, e8, e9, e10, Option.bind_some]
  have t1 := vb r1.1 (show (0 : Int) < 3 by omega)
  have t2 := vb r2.1 (show (0 : Int) < 3 by omega)
  have t3 := vb r3.1 (show (0 : Int) < 3 by omega)
  have t4 := vb r4.1 (show (0 : Int) < 2 by omega)
  have t5 := vb r5.1 (show (0 : Int) < 3 by omega)
  have t6 := vb r6.1 (show (0 : Int) < 4 by omega)
  have t7 := vb r7.1 (show (0 : Int) < 4 by omega)
  have t8 := vb r8.1 (show (0 : Int) < 2 by omega)
  have t9 := vb r9.1 (show (0 : Int) < 6 by omega)
  have t10 := vb r10.1 (show (0 : Int) < 4 by omega)
  rw [yh (a := 1 + b9.tmod 6) (by omega) (by omega), yh (a := 1 + b1.tmod 3) (by omega) (by omega), yh (a := 1 + b3.tmod 3) (by omega) (by omega), yh (a := 1 + b4.tmod 2) (by omega) (by omega), yh (a := 1 + b5.tmod 3) (by omega) (by omega),
    yh (a := 1 + b9.tmod 6 + b10.tmod 4) (by omega) (by omega), yh (a := 1 + b8.tmod 2) (by omega) (by omega)]
  obtain ⟨m11, objs, e11, g1, g2, g3⟩ := zwv (s1 := 1 + b9.tmod 6) (s22 := 1 + b8.tmod 2) (by omega) (by omega) k10
  rw [e11]
  simp only [Option.bind_some]
  obtain ⟨b12, m12, e12, r12, k12⟩ := vO g1
  rw [e12, Option.bind_some, yh (a := 1 + b9.tmod 6 + 1) (by omega) (by omega), zn, if_neg (by omega)]
  have t12 := vb r12.1 (show (0 : Int) < 1 + b9.tmod 6 + 1 by omega)
  rw [zhf, Option.bind_some]
  obtain ⟨regs, progs, e13, f1, f2, f3, f4⟩ := zvv (s1 := 1 + b9.tmod 6) (s15 := b2.tmod 3) (s22 := 1 + b8.tmod 2) (by omega) (by omega) (by omega) k12
  rw [e13]
  simp only [Option.bind_some]
  refine ⟨_, rfl, ?_⟩
  constructor <;> dsimp only
  case objs => intro o ho; rw [g2]; exact g3 o ho
  case roots => exact ⟨b12.tmod (1 + b9.tmod 6 + 1), by omega, by omega, by simp⟩
  case reg => rw [g2]; exact f3
  case prog => exact f4
  all_goals first | omega | rfl
end B15
end
end Go.Pe.G
namespace Go.Pe.G
open Go.Pe
noncomputable section
theorem Ux {α β B C : Type} {f : List α × Int × Int × β → Option (yY (List α × Int × Int × β) B C)} {l : List α} {e : β} {b : B} (hl : l.length < 1000000)
    (h1 : ∀ (i : Nat) (x : α), l[i]? = some x → f (l, (l.length : Int), (i : Int), e) = some (.again (l, (l.length : Int), ((i + 1 : Nat) : Int), e)))
    (h2 : f (l, (l.length : Int), (l.length : Int), e) = some (.brk b)) : yy f (l, (l.length : Int), 0, e) = some (.brk b) := by
  refine (uq (f := f) (fun a => ∃ i : Nat, a = (l, (l.length : Int), (i : Int), e) ∧ i ≤ l.length) (fun a => l.length - a.2.2.1.toNat) (fun o => o = .brk b) ?_ (l, (l.length : Int), 0, e) ⟨0, rfl, by omega⟩ (wQ (by simp; omega))).elim fun o h => ?_
  rotate_left
  · rw [h.1, h.2]
  · rintro _ ⟨i, rfl, hi⟩
    rcases Nat.lt_or_ge i l.length with hlt | hge
    · refine ⟨_, h1 i _ (List.getElem?_eq_getElem hlt), ⟨i + 1, rfl, hlt⟩, ?_⟩
      show l.length - ((i + 1 : Nat) : Int).toNat < l.length - (i : Int).toNat
      omega
    · have : i = l.length := by omega
      subst this
      exact ⟨_, h2, rfl⟩
theorem wy {α : Type} {l : List α} {i : Nat} {x : α} (h : l[i]? = some x) : idx l (i : Int) = some x := by
  rw [Wz (by omega)]; simpa using h
theorem vZ {α : Type} {l : List α} {i : Nat} {x : α} (h : l[i]? = some x) : (i : Int) < (l.length : Int) := by
  have := (List.getElem?_eq_some_iff.1 h).1; omega
theorem xM {i : Nat} (h : i < 1000000) : w64 ((i : Int) + 1) = ((i + 1 : Nat) : Int) := by
  rw [yh (by omega) (by omega)]; omega
theorem zcL (a b c : Int) : vG a b c = some (decide (b ≤ a ∧ a ≤ c), ()) := by
  rw [zk4, zn]
  by_cases h : b ≤ a
  · rw [if_pos h]; simp [h]
  · rw [if_neg h]; simp [h]
theorem zsz {l : List Int} {h : zo} (hl : l.length < 1000000) (hv : ∀ v ∈ l, 0 ≤ v ∧ v ≤ (h.Objs.length : Int)) : xK l h = some (false, ()) := by
  rw [Yc, Y0, Ux (b := ()) hl (fun i x hx => ?_) (by rw [vf]; simp)]
  · rfl
  · have hm := hv x (List.mem_of_getElem? hx)
    have hlt := vZ hx
    rw [vf, zn, if_pos hlt, wy hx, Option.bind_some, zi1, zn, if_neg (show ¬ x < 0 by omega), Option.bind_some, xM (by omega)]
    simp [show ¬ (h.Objs.length : Int) < x by omega]
theorem zuA {l : List Int} {n : Int} (hl : l.length < 1000000) (hv : ∀ v ∈ l, 0 ≤ v ∧ v ≤ n) : xT l n = some (false, ()) := by
  rw [YL, Xp, Ux (b := ()) hl (fun i x hx => ?_) (by rw [vo]; simp)]
  · rfl
  · have hm := hv x (List.mem_of_getElem? hx)
    have hlt := vZ hx
    rw [vo, wy hx, Option.bind_some, zkE, zcL, Option.bind_some, Option.bind_some, xM (by omega), zn, if_pos hlt]
    simp [hm]
theorem zt3 {l : List (List Int)} {h : zo} (hl : l.length < 1000000) (hs : h.Slots < 1000000) (hv : ∀ o ∈ l, (o.length : Int) = h.Slots ∧ ∀ v ∈ o, 0 ≤ v ∧ v ≤ (h.Objs.length : Int)) : xL l h = some (false, ()) := by
  rw [Ye, Y7, Ux (b := ()) hl (fun i x hx => ?_) (by rw [vc]; simp)]
  · rfl
  · have hm := hv x (List.mem_of_getElem? hx)
    have hlt := vZ hx
    rw [vc, wy hx, Option.bind_some, zkz, yG, if_pos hm.1, zsz (by omega) hm.2, Option.bind_some, Option.bind_some, xM (by omega), zn, if_pos hlt]
    rfl
theorem zmk {r n : Int} (h : 0 ≤ r ∧ r < n) (h2 : n ≤ 4) : zY r n = some (true, ()) := by
  rw [zkq, zn, if_pos h.1, zn]
  rw [if_neg (by omega)]
  simp [h.2]
theorem zuO {o : zi} {regs slots : Int} (h : zeU o regs slots) (h2 : regs ≤ 4) (h3 : slots ≤ 4) : zfq o regs slots = some (true, ()) := by
  obtain ⟨hr, h⟩ := h
  have e1 := zmk hr h2
  have h4 : ¬ 4 < slots := by omega
  rw [zmc]
  rcases h with ⟨hk | hk, ha, hs⟩ | ⟨hk, ha, hs⟩ | ⟨hk | hk, ha, hs⟩
  · have e2 := zmk ha h2
    simp [hk, e1, e2, hs.1, hs.2, h4]
  · have e2 := zmk ha h2
    simp [hk, e1, e2, hs.1, hs.2, h4]
  · have e2 := zmk ha h2
    simp [hk, e1, e2, hs]
  · simp [hk, e1, ha, hs]
  · simp [hk, e1, ha, hs]
theorem zwx {l : List zi} {regs slots : Int} (hl : (l.length : Int) ≤ 64) (h : ∀ o ∈ l, zeU o regs slots) (h2 : regs ≤ 4) (h3 : slots ≤ 4) : zg6 l regs slots = some (true, ()) := by
  rw [znv, zn, if_pos hl, Zu, ZM, Ux (b := ()) (by omega) (fun i x hx => ?_) (by rw [wz]; simp)]
  · rfl
  · have hlt := vZ hx
    rw [wz, wy hx, Option.bind_some, zlG, zuO (h x (List.mem_of_getElem? hx)) h2 h3, Option.bind_some, Option.bind_some, xM (by omega), zn, if_pos hlt]
    rfl
theorem ztO (a b : Int) : zeN [] a b = some (true, ()) := by
  rw [zm7, uR, Zf, Ux (b := ()) (by simp) (fun i x hx => by simp at hx) (by rw [uS]; simp)]
  rfl
def wX (n : Int) : BitVec 64 := if n < 1 then 0#64 else 18446744073709551615#64 >>> (64 - min n 64).toNat
theorem zoQ (n : Int) (h : 0 ≤ n) : zcV n = some (wX n, ()) := by
  rw [zns, zn]
  unfold wX
  by_cases h1 : n < 1
  · rw [if_pos h1, if_pos h1]
  · rw [if_neg h1, if_neg h1]
    simp only [zn]
    have e : (if 64 < n then (64 : Int) else n) = min n 64 := by
      by_cases h2 : 64 < n
      · rw [if_pos h2]; omega
      · rw [if_neg h2]; omega
    rw [e, yh (by omega) (by omega), if_neg (by omega), Nat.min_eq_left (by omega)]
theorem zoJ : ∀ (r n : Fin 7), r.1 ≤ n.1 → bit (r.1 : Int) &&& ~~~wX (n.1 : Int) = 0#64 := by decide
theorem zkU {p : zb} (h : zC p) : p.Roots &&& ~~~wX (p.H.Objs.length : Int) = 0#64 := by
  obtain ⟨r, h1, h2, h3⟩ := h.roots
  have hn := h.n
  have := zoJ ⟨r.toNat, by omega⟩ ⟨p.H.Objs.length, by omega⟩ (by show r.toNat ≤ p.H.Objs.length; omega)
  rw [h3]
  simpa [Int.toNat_of_nonneg h1] using this
theorem ztr {p : zb} (h : zC p) : UP p = some (true, ()) := by
  obtain ⟨h1, h2, h3, h4, h5, h6, h7, _⟩ := h
  rw [zhR]
  simp only [zcL, Option.bind_some, zn]
  rw [if_pos (by omega), if_pos (by omega), if_pos (by omega), if_pos (by omega), if_pos (by omega), if_pos (by split <;> omega)]
  have : (if p.Price < p.Limit then p.Limit else p.Price) ≤ 1000000 := by split <;> omega
  simp [this]
theorem zti {p : zb} (h : zC p) : zeX p.H = some (true, ()) := by
  have := h.slots
  have := h.n
  rw [zmS, zn, if_pos (by omega), zn, if_pos (by omega), zn, if_pos (by omega), zt3 (by omega) (by omega) h.objs]
  rfl
theorem zsw {p : zb} (h : zC p) : zfp p = some (true, ()) := by
  have hn := h.n
  have hm := h.most
  have hsl := h.slots
  have hmt := h.mt
  have hrl := h.regs
  have hpl := h.progs
  rw [zmm, ztr h]
  simp only [Option.bind_some, Bool.not_true, cond_false, zti h, zcL]
  rw [show decide ((p.H.Objs.length : Int) ≤ p.Most ∧ p.Most ≤ 64) = true by simp; omega]
  simp only [Bool.not_true, cond_false, zoQ _ (show (0 : Int) ≤ (p.H.Objs.length : Int) by omega), Option.bind_some, zhp, zkU h, decide_true, yG, if_pos h.regs, if_pos h.progs]
  rw [Ux (b := (p, ())) (by omega) (fun i x hx => ?_) (by rw [zc9]; simp)]
  · simp [h.picks, ztO]
  · have hlt := vZ hx
    have hr := h.reg x (List.mem_of_getElem? hx)
    obtain ⟨ops, hops⟩ : ∃ ops, p.Progs[i]? = some ops := ⟨_, List.getElem?_eq_getElem (by omega)⟩
    obtain ⟨o1, o2⟩ := h.prog i x ops hx hops
    rw [zc9, zn, if_pos hlt, wy hx]
    simp only [Option.bind_some, zcL]
    rw [show decide (1 ≤ (x.length : Int) ∧ (x.length : Int) ≤ 4) = true by simp; omega]
    simp only [Bool.not_true, cond_false, zuA (show x.length < 1000000 by omega) hr.2, Option.bind_some, wy hops, zwx (show (ops.length : Int) ≤ 64 by omega) o2 (show (x.length : Int) ≤ 4 by omega) (show p.H.Slots ≤ 4 by omega), xM (show i < 1000000 by omega)]
end
end Go.Pe.G
namespace Go.Pe.G
open Go.Pe
noncomputable section
theorem zfx {n : Int} (h : 0 ≤ n) (h2 : n < 4294967296) : VO n = some n.toNat := by rw [zoW]; simp [h, h2]
theorem zoU {n : Int} (h : 0 < n) (h2 : n < 4294967296) : zc6 n = some n.toNat := by rw [zmH]; simp [h, h2]
def zbk (l : List Int) : BitVec 64 := l.foldl (fun s o => s ||| bit o) 0#64
def vQ (p : zb) : BitVec 64 := p.Regs.foldl (fun s l => s ||| zbk l) p.Roots
def zvN (a1 : BitVec 64) : BitVec 64 :=
  let a := ((a1 >>> 1) &&& 6148914691236517205#64) + (a1 &&& 6148914691236517205#64)
  let b := ((a >>> 2) &&& 3689348814741910323#64) + (a &&& 3689348814741910323#64)
  let c := ((b >>> 4) + b) &&& 1085102592571150095#64
  let d := c + (c >>> 8)
  let e := d + (d >>> 16)
  e + (e >>> 32)
def cnt (s : BitVec 64) : Int := (BitVec.ofInt 64 (zvN s).toInt &&& BitVec.ofInt 64 127).toInt
theorem zoR (s : BitVec 64) : zcz s = some (cnt s, ()) := by
  rw [zn2, zht, zrb]; rfl
theorem ziH {m : List Int} (h : m.length < 4294967296) : vS m = some (m, ()) := by
  rw [zdG, List.nil_append, vJ h, Option.bind_some]
  cases m with
  | nil => simp [zgl]
  | cons a l => simp
theorem zwY {l : List Int} (hl : l.length < 1000000) : zlJ l = some (zbk l, ()) := by
  rw [zrt]
  refine (uq (f := zgy) (fun a => ∃ i : Nat, a = ((l.take i).foldl (fun s o => s ||| bit o) 0#64, l, (l.length : Int), (i : Int), ()) ∧ i ≤ l.length) (fun a => l.length - a.2.2.2.1.toNat) (fun o => o = .brk (zbk l, ())) ?_ (0#64, l, (l.length : Int), 0, ()) ⟨0, rfl, by omega⟩ (wQ (by simp; omega))).elim fun o h => ?_
  rotate_left
  · rw [h.1, h.2]; rfl
  · rintro _ ⟨i, rfl, hi⟩
    rw [znI, zn]
    rcases Nat.lt_or_ge i l.length with hlt | hge
    · have hx := List.getElem?_eq_getElem hlt
      rw [if_pos (by omega), wy hx, Option.bind_some, zhf, Option.bind_some, xM (by omega)]
      refine ⟨_, rfl, ⟨i + 1, ?_, hlt⟩, ?_⟩
      · rw [List.take_add_one, hx]; simp only [Option.toList_some, List.foldl_append, List.foldl_cons, List.foldl_nil]
      · show l.length - ((i + 1 : Nat) : Int).toNat < l.length - (i : Int).toNat
        omega
    · rw [if_neg (by omega)]
      have : i = l.length := by omega
      subst this
      exact ⟨_, rfl, by rw [List.take_length]; rfl⟩
theorem zmG {p : zb} (hl : p.Regs.length < 1000000) (hr : ∀ r ∈ p.Regs, r.length < 1000000) : zbr p = some (vQ p, ()) := by
  rw [zl4]
  refine (uq (f := zaW) (fun a => ∃ i : Nat, a = ((p.Regs.take i).foldl (fun s l => s ||| zbk l) p.Roots, p.Regs, (p.Regs.length : Int), (i : Int), ()) ∧ i ≤ p.Regs.length) (fun a => p.Regs.length - a.2.2.2.1.toNat) (fun o => o = .brk (vQ p, ())) ?_ (p.Roots, p.Regs, (p.Regs.length : Int), 0, ()) ⟨0, rfl, by omega⟩ (wQ (by simp; omega))).elim fun o h => ?_
  rotate_left
  · rw [h.1, h.2]; rfl
  · rintro _ ⟨i, rfl, hi⟩
    rw [zjU, zn]
    rcases Nat.lt_or_ge i p.Regs.length with hlt | hge
    · have hx := List.getElem?_eq_getElem hlt
      rw [if_pos (by omega), wy hx, Option.bind_some, zwY (hr _ (List.getElem_mem hlt)), Option.bind_some, xM (by omega)]
      refine ⟨_, rfl, ⟨i + 1, ?_, hlt⟩, ?_⟩
      · rw [List.take_add_one, hx]; simp only [Option.toList_some, List.foldl_append, List.foldl_cons, List.foldl_nil]
      · show p.Regs.length - ((i + 1 : Nat) : Int).toNat < p.Regs.length - (i : Int).toNat
        omega
    · rw [if_neg (by omega)]
      have : i = p.Regs.length := by omega
      subst this
      exact ⟨_, rfl, by rw [List.take_length]; rfl⟩
theorem ztX {l : List (List Int)} (hl : l.length < 1000000) (h : ∀ r ∈ l, r.length < 1000000) : wA l = some (l, ()) := by
  have key : ∀ n : Int, n = (l.length : Int) → yy yM (n, 0, l, ()) = some (.brk (l, ())) := by
    rintro _ rfl
    refine (uq (f := yM) (fun a => ∃ i : Nat, a = ((l.length : Int), (i : Int), l, ()) ∧ i ≤ l.length) (fun a => l.length - a.2.1.toNat) (fun o => o = .brk (l, ())) ?_ ((l.length : Int), 0, l, ()) ⟨0, rfl, by omega⟩ (wQ (by simp; omega))).elim fun o h => ?_
    rotate_left
    · rw [h.1, h.2]
    · rintro _ ⟨i, rfl, hi⟩
      rw [Y5, zn]
      rcases Nat.lt_or_ge i l.length with hlt | hge
      · have hx := List.getElem?_eq_getElem hlt
        have hr := h _ (List.getElem_mem hlt)
        have e : Zh l (i : Int) = some i := by rw [Xw (by omega) (by omega)]; simp
        rw [if_pos (by omega), e]
        simp only [Option.bind_some]
        rw [hx, Option.bind_some, ziH (by omega), Option.bind_some, xM (by omega)]
        refine ⟨_, rfl, ⟨i + 1, by simp, hlt⟩, ?_⟩
        show l.length - ((i + 1 : Nat) : Int).toNat < l.length - (i : Int).toNat
        omega
      · rw [if_neg (by omega)]
        have : i = l.length := by omega
        subst this
        exact ⟨_, rfl, rfl⟩
  have hc : VO (l.length : Int) = some l.length := by rw [zfx (by omega) (by omega)]; simp
  rw [XA]
  simp only [decide_true, cond_true, hc, Option.bind_some, List.length_replicate]
  cases l with
  | nil => simp; rw [key 0 rfl]; rfl
  | cons a r => simp only [List.isEmpty_cons, cond_false]; rw [key _ rfl]; rfl
def zcX (cap : Int) : List (BitVec 64) := [1#64, 1#64] ++ List.replicate cap.toNat 0#64
theorem zrJ {c : Int} (h : 1 ≤ c) (h2 : c ≤ 64) : zdq c = some (zcX c, ()) := by
  have e : (if 64 < (if c < 1 then (1 : Int) else c) then (64 : Int) else (if c < 1 then (1 : Int) else c)) = c := by
    rw [if_neg (show ¬ c < 1 by omega), if_neg (by omega)]
  have w : w64 (2 + c) = 2 + c := yh (by omega) (by omega)
  have hc : VO (2 + c) = some (2 + c.toNat) := by rw [zfx (by omega) (by omega)]; congr 1; omega
  rw [zk3]
  simp only [zn, e, w, if_true, hc, Option.bind_some]
  rw [Xw (by omega) (by simp; omega), Option.bind_some, Xw (by omega) (by simp; omega), Option.bind_some]
  have e2 : List.replicate (2 + c.toNat) 0#64 = 0#64 :: 0#64 :: List.replicate c.toNat 0#64 := by rw [Nat.add_comm 2]; rfl
  rw [e2]; rfl
theorem zsn {m : Int} (h : 0 ≤ m) (h2 : m ≤ 16) : zfn m = some (⟨0, 0, 0, List.replicate m.toNat 0⟩, ()) := by
  have e : (if (if 16 < m then (16 : Int) else m) < 0 then (0 : Int) else (if 16 < m then (16 : Int) else m)) = m := by
    rw [if_neg (show ¬ 16 < m by omega), if_neg (by omega)]
  have hc : VO m = some m.toNat := zfx (by omega) (by omega)
  rw [zmK]
  simp only [zn, e, if_true, hc, Option.bind_some]
def links (m : List (BitVec 64)) (next : Int) : List Int → List (BitVec 64)
  | [] => m
  | [a] => st m (wc (next + a)) 0#64
  | a :: b :: l => links (st m (wc (next + a)) (BitVec.ofInt 64 b)) next (b :: l)
def zas (m : List (BitVec 64)) (head next : Int) (l : List Int) : List (BitVec 64) := st (links m next l) head (yU 0#64 (l.headD 0))
theorem u0 (m : List (BitVec 64)) (a : Int) (v : BitVec 64) : (st m a v).length = m.length := by unfold st; split <;> simp
theorem zav : ∀ (l : List Int) (m : List (BitVec 64)) (n : Int), (links m n l).length = m.length
  | [], _, _ => rfl
  | [a], m, n => u0 _ _ _
  | a :: b :: l, m, n => by simp only [links]; rw [zav (b :: l), u0]
theorem zk2 (m : List (BitVec 64)) (h n : Int) (l : List Int) : (zas m h n l).length = m.length := by unfold zas; rw [u0, zav]
theorem zlP {head next : Int} {l : List Int} (hl : l.length < 1000000) : ∀ (k : Nat) (m : List (BitVec 64)) (i : Nat), l.length - i = k → i ≤ l.length → m.length < 4294967296 →
    ∀ n, k < n → xr zch n (m, head, next, l, (l.length : Int), (i : Int), ()) = some (.brk (links m next (l.drop i), head, l, ()))
  | 0, m, i, hk, hi, hm, n + 1, hn => by
    have : i = l.length := by omega
    subst this
    simp only [xr]
    rw [zdU, zn, if_neg (by omega), Option.bind_some, List.drop_length]; rfl
  | k + 1, m, i, hk, hi, hm, n + 1, hn => by
    have hlt : i < l.length := by omega
    have hx := List.getElem?_eq_getElem hlt
    simp only [xr]
    rw [zdU, zn, if_pos (by omega), xM (by omega), zn, ug]
    by_cases h2 : i + 1 < l.length
    · have hy := List.getElem?_eq_getElem h2
      have ed : l.drop i = l[i] :: l[i + 1] :: l.drop (i + 2) := by
        rw [List.drop_eq_getElem_cons hlt, List.drop_eq_getElem_cons h2]
      rw [if_pos (by omega), wy hy, Option.bind_some, wy hx, Option.bind_some, U7 hm, Option.bind_some, Option.bind_some]
      dsimp only
      rw [zlP hl k _ (i + 1) (by omega) (by omega) (by rw [u0]; exact hm) n (by omega), ed]
      rw [List.drop_eq_getElem_cons h2]; rfl
    · have ed : l.drop i = [l[i]] := by
        rw [List.drop_eq_getElem_cons hlt, List.drop_eq_nil_of_le (by omega)]
      rw [if_neg (by omega), wy hx, Option.bind_some, U7 hm, Option.bind_some, Option.bind_some]
      dsimp only
      rw [zlP hl k _ (i + 1) (by omega) (by omega) (by rw [u0]; exact hm) n (by omega), ed, List.drop_eq_nil_of_le (by omega)]
      rfl
theorem zoz {m : List (BitVec 64)} (hm : m.length < 4294967296) {head next : Int} {l : List Int} (hl : l.length < 1000000) : zcE m head next l = some (zas m head next l, ()) := by
  have e := zlP (head := head) (next := next) hl l.length m 0 (by omega) (by omega) hm uX (wQ (by omega))
  rw [show ((0 : Nat) : Int) = 0 from rfl] at e
  rw [zoo, XU, e]
  simp only [Option.bind_some, List.drop_zero, zn]
  unfold zas
  cases l with
  | nil =>
    rw [if_neg (by simp), zek, Option.bind_some, U7 (by rw [zav]; exact hm)]; rfl
  | cons a r =>
    have : idx (a :: r) 0 = some a := by rw [Wz (by omega)]; rfl
    rw [if_pos (by simp), this, Option.bind_some, zek, Option.bind_some, U7 (by rw [zav]; exact hm)]; rfl
def zis : Nat → BitVec 64 → Option (List Int)
  | 0, _ => none
  | f + 1, s => bif decide (s = 0#64) then some [] else (zis f (s &&& (s - 1#64))).map fun l => (((Go.Lib.ctz 64 s.toNat : Nat) : Int) + 1) :: l
theorem zrL : ∀ t : Fin 64, zis 66 (BitVec.ofNat 64 t.1) = some (((List.range 6).filter fun i => (BitVec.ofNat 64 t.1).getLsbD i).map fun i : Nat => (i : Int) + 1) := by decide +kernel
def WM (s : BitVec 64) : List Int := ((List.range 6).filter fun i => s.getLsbD i).map fun i : Nat => (i : Int) + 1
theorem zrh {s : BitVec 64} (h : s &&& ~~~63#64 = 0#64) : ∃ t : Fin 64, s = BitVec.ofNat 64 t.1 := by
  have h2 : s = s &&& 63#64 := by
    apply BitVec.eq_of_getLsbD_eq
    intro i hi
    have := congrArg (fun x => x.getLsbD i) h
    simp only [BitVec.getLsbD_and, BitVec.getLsbD_not, hi, decide_true, Bool.true_and, BitVec.getLsbD_zero] at this ⊢
    cases h1 : s.getLsbD i <;> cases h3 : (63#64 : BitVec 64).getLsbD i <;> simp_all
  have h3 : s.toNat < 64 := by
    rw [h2, BitVec.toNat_and]
    exact Nat.lt_of_le_of_lt Nat.and_le_right (by decide)
  exact ⟨⟨s.toNat, h3⟩, by simp⟩
theorem zxE : ∀ t : Fin 64, Go.Lib.ctz 64 t.1 ≤ 64 := by decide +kernel
theorem zoP : ∀ (f : Nat) (s : BitVec 64), s.toNat < 64 → WA f s = zis f s
  | 0, _, _ => rfl
  | f + 1, s, h => by
    simp only [WA, zis]
    rw [zoP f _ (by rw [BitVec.toNat_and]; exact Nat.lt_of_le_of_lt Nat.and_le_left h)]
    have : Go.Lib.ctz 64 s.toNat ≤ 64 := zxE ⟨s.toNat, h⟩
    have e : w64 (tz s + 1) = ((Go.Lib.ctz 64 s.toNat : Nat) : Int) + 1 := by
      unfold tz
      exact yh (by omega) (by omega)
    rw [e]
theorem zit : ∀ (l acc : List Int), (acc.length + l.length) < 4294967296 → ZN zdL l (acc, ()) = some (acc ++ l, ())
  | [], acc, _ => by simp [ZN]
  | a :: l, acc, h => by
    simp only [List.length_cons] at h
    rw [ZN, zll, vJ (by simp; omega), Option.bind_some, Option.bind_some, zit l _ (by simp; omega)]
    simp
theorem zuC (s : BitVec 64) : (WM s).length ≤ 6 := by
  unfold WM
  rw [List.length_map]
  exact Nat.le_trans (List.length_filter_le _ _) (by simp)
theorem zu4 {s : BitVec 64} (h : s &&& ~~~63#64 = 0#64) : za1 s = some (WM s, ()) := by
  obtain ⟨t, rfl⟩ := zrh h
  have e : zfE (BitVec.ofNat 64 t.1) = some (WM (BitVec.ofNat 64 t.1)) := by
    show WA 66 _ = _
    rw [zoP 66 _ (by simp; omega), zrL t]; rfl
  have := zuC (BitVec.ofNat 64 t.1)
  rw [ziQ, ziT, Option.bind_some, e, Option.bind_some, zit _ _ (by simp; omega)]
  rfl
theorem zni (n : Nat) (hn : 1 ≤ n) : ∀ (f : Nat) (l : List Int), (ui n f l).length ≤ l.length
  | 0, l => by simp [ui]
  | f + 1, [] => by simp [ui]
  | f + 1, x :: l => by
    have := zni n hn f ((x :: l).drop n)
    simp only [ui, List.length_cons, List.length_drop] at this ⊢
    omega
theorem zgw (n : Nat) : ∀ (f : Nat) (l c : List Int), c ∈ ui n f l → c.length ≤ l.length
  | 0, l, c, h => by simp [ui] at h
  | f + 1, [], c, h => by simp [ui] at h
  | f + 1, x :: l, c, h => by
    simp only [ui, List.mem_cons] at h
    rcases h with rfl | h
    · rw [List.length_take]; exact Nat.min_le_right _ _
    · have := zgw n f _ c h
      simp only [List.length_drop] at this
      omega
def ux (p : zb) (w : Nat) : ze := ⟨0, 0, 0, (w : Int) + 1, 0, [], ⟨2, 0, zI p ((w : Int) + 1), p.Cap, 0#64, 0#64, 0, 0⟩, ⟨0, 0, 0, 0, 0#64, 0, 0, 0⟩, ⟨0, 0, 0, 0, ⟨0, 0, 0, 0, 0#64, 0#64, 0, 0⟩, ⟨0, 0, 0, 0, 0#64, 0, 0, 0⟩, 0, 0⟩⟩
def ZJ (p : zb) (k : Nat) : List (BitVec 64) := (List.range k).flatMap fun _ => zcX p.Cap
theorem zmJ (c : Int) : (zcX c).length = c.toNat + 2 := by unfold zcX; rw [List.length_append, List.length_replicate]; exact Nat.add_comm _ _
theorem zgS (p : zb) (k : Nat) : ZJ p (k + 1) = ZJ p k ++ zcX p.Cap := by unfold ZJ; rw [List.range_succ, List.flatMap_append]; simp
theorem W5 (p : zb) : ∀ k, (ZJ p k).length = k * (p.Cap.toNat + 2)
  | 0 => by simp [ZJ]
  | k + 1 => by rw [zgS, List.length_append, W5 p k, zmJ, Nat.succ_mul]
theorem zwI {p : zb} {s1 : BitVec 64} {s5 : Int} {s6 : Int} {s7 : Int} {s8 : Int} {s9 : Int} {s10 : Int} {s11 : Int} {s12 : Int} {s13 : Int} {s14 : BitVec 64} {s15 : Int} {s16 : zj} {s17 : Int} {s18 : Int} {s19 : Bool} {s20 : Bool} {s21 : Int} {s22 : Int} {s23 : Int} {s24 : Int} {s25 : zr} {s26 : zb} {s27 : Int} {s28 : zj} {s29 : Int} {s30 : Int} {s31 : Bool} {s32 : Bool} {s33 : Int} {s34 : zp} {s35 : zr} {s36 : List (List Int)} {s37 : List (List Int)} {s38 : List (List zi)} {s39 : List zk} {s40 : List (List Int)} {s41 : List (BitVec 64)} {s42 : List (List Int)} {s43 : List Int} {s44 : List Int} {s45 : List ze} {s46 : List zd} {s47 : List (List Int)} {s49 : List (List Int)} {s50 : List Int} {s52 : List zd} (hp : zC p) :
    yy Ul (s1, p.Workers, 0, p, s5, s6, s7, s8, s9, s10, s11, s12, s13, s14, s15, s16, s17, s18, s19, s20, s21, s22, s23, s24, s25, s26, s27, s28, s29, s30, s31, s32, s33, s34, s35, s36, s37, s38, s39, s40, s41, s42, s43, s44, s45, s46, s47, [], s49, s50, [], s52, ()) = some (.brk (s1, p, s5, s6, s7, s8, s9, s10, s11, s12, s13, s14, s15, s16, s17, s18, s19, s20, s21, s22, s23, s24, s25, s26, s27, s28, s29, s30, s31, s32, s33, s34, s35, s36, s37, s38, s39, s40, s41, s42, s43, s44, s45, s46, s47, (ZJ p p.Workers.toNat), s49, s50, ((List.range p.Workers.toNat).map (ux p)), s52, ())) := by
  have hw := hp.wk
  have hc := hp.cap
  refine (uq (f := Ul) (fun a => ∃ i : Nat, a = (s1, p.Workers, (i : Int), p, s5, s6, s7, s8, s9, s10, s11, s12, s13, s14, s15, s16, s17, s18, s19, s20, s21, s22, s23, s24, s25, s26, s27, s28, s29, s30, s31, s32, s33, s34, s35, s36, s37, s38, s39, s40, s41, s42, s43, s44, s45, s46, s47, (ZJ p i), s49, s50, ((List.range i).map (ux p)), s52, ()) ∧ (i : Int) ≤ p.Workers) (fun a => (p.Workers - a.2.2.1).toNat) (fun o => o = .brk (s1, p, s5, s6, s7, s8, s9, s10, s11, s12, s13, s14, s15, s16, s17, s18, s19, s20, s21, s22, s23, s24, s25, s26, s27, s28, s29, s30, s31, s32, s33, s34, s35, s36, s37, s38, s39, s40, s41, s42, s43, s44, s45, s46, s47, (ZJ p p.Workers.toNat), s49, s50, ((List.range p.Workers.toNat).map (ux p)), s52, ())) ?_ (s1, p.Workers, 0, p, s5, s6, s7, s8, s9, s10, s11, s12, s13, s14, s15, s16, s17, s18, s19, s20, s21, s22, s23, s24, s25, s26, s27, s28, s29, s30, s31, s32, s33, s34, s35, s36, s37, s38, s39, s40, s41, s42, s43, s44, s45, s46, s47, [], s49, s50, [], s52, ()) ⟨0, rfl, by omega⟩ (wQ (by dsimp only; omega))).elim fun o h => ?_
  rotate_left
  · rw [h.1, h.2]
  · rintro _ ⟨i, rfl, hi⟩
    rw [zku, zn]
    by_cases hlt : (i : Int) < p.Workers
    · have hl := W5 p i
      have hl2 := zmJ p.Cap
      have hb : i * (p.Cap.toNat + 2) ≤ 3 * 5 := Nat.mul_le_mul (by omega) (by omega)
      rw [if_pos hlt, zrJ hc.1 (by omega), Option.bind_some, vJ (l := ZJ p i ++ zcX p.Cap) (by rw [List.length_append]; omega), Option.bind_some, zcw, Option.bind_some, WT, Option.bind_some, vJ (by simp <;> omega), Option.bind_some, xM (by omega)]
      refine ⟨_, rfl, ⟨i + 1, ?_, by omega⟩, ?_⟩
      · rw [zgS, List.range_succ, List.map_append]; rfl
      · show (p.Workers - ((i + 1 : Nat) : Int)).toNat < (p.Workers - (i : Int)).toNat
        omega
    · rw [if_neg hlt]
      have : i = p.Workers.toNat := by omega
      subst this
      exact ⟨_, rfl, rfl⟩
def xe (k : Nat) : List Int := (List.range k).map fun i : Nat => (i : Int) + 1
theorem zpV (k : Nat) : (xe k).length = k := by simp [xe]
theorem zv6 {b : Int} {s1 : BitVec 64} {s4 : zb} {s5 : Int} {s6 : Int} {s7 : Int} {s8 : Int} {s9 : Int} {s10 : Int} {s11 : Int} {s12 : Int} {s13 : Int} {s14 : BitVec 64} {s15 : Int} {s16 : zj} {s17 : Int} {s18 : Int} {s19 : Bool} {s20 : Bool} {s21 : Int} {s22 : Int} {s23 : Int} {s24 : Int} {s25 : zr} {s26 : zb} {s27 : Int} {s28 : zj} {s29 : Int} {s30 : Int} {s31 : Bool} {s32 : Bool} {s33 : Int} {s34 : zp} {s35 : zr} {s37 : List (List Int)} {s38 : List (List Int)} {s39 : List (List zi)} {s40 : List zk} {s41 : List (List Int)} {s42 : List (BitVec 64)} {s43 : List (List Int)} {s44 : List Int} {s45 : List Int} {s46 : List ze} {s47 : List zd} {s48 : List (List Int)} {s49 : List (BitVec 64)} {s50 : List (List Int)} {s51 : List Int} {s52 : List ze} {s53 : List zd} (hb : 0 ≤ b ∧ b < 1000) :
    yy VI (s1, b, 0, s4, s5, s6, s7, s8, s9, s10, s11, s12, s13, s14, s15, s16, s17, s18, s19, s20, s21, s22, s23, s24, s25, s26, s27, s28, s29, s30, s31, s32, s33, s34, s35, [], s37, s38, s39, s40, s41, s42, s43, s44, s45, s46, s47, s48, s49, s50, s51, s52, s53, ()) = some (.brk (s1, s4, s5, s6, s7, s8, s9, s10, s11, s12, s13, s14, s15, s16, s17, s18, s19, s20, s21, s22, s23, s24, s25, s26, s27, s28, s29, s30, s31, s32, s33, s34, s35, (xe b.toNat), s37, s38, s39, s40, s41, s42, s43, s44, s45, s46, s47, s48, s49, s50, s51, s52, s53, ())) := by
  refine (uq (f := VI) (fun a => ∃ i : Nat, a = (s1, b, (i : Int), s4, s5, s6, s7, s8, s9, s10, s11, s12, s13, s14, s15, s16, s17, s18, s19, s20, s21, s22, s23, s24, s25, s26, s27, s28, s29, s30, s31, s32, s33, s34, s35, (xe i), s37, s38, s39, s40, s41, s42, s43, s44, s45, s46, s47, s48, s49, s50, s51, s52, s53, ()) ∧ (i : Int) ≤ b) (fun a => (b - a.2.2.1).toNat) (fun o => o = .brk (s1, s4, s5, s6, s7, s8, s9, s10, s11, s12, s13, s14, s15, s16, s17, s18, s19, s20, s21, s22, s23, s24, s25, s26, s27, s28, s29, s30, s31, s32, s33, s34, s35, (xe b.toNat), s37, s38, s39, s40, s41, s42, s43, s44, s45, s46, s47, s48, s49, s50, s51, s52, s53, ())) ?_ (s1, b, 0, s4, s5, s6, s7, s8, s9, s10, s11, s12, s13, s14, s15, s16, s17, s18, s19, s20, s21, s22, s23, s24, s25, s26, s27, s28, s29, s30, s31, s32, s33, s34, s35, [], s37, s38, s39, s40, s41, s42, s43, s44, s45, s46, s47, s48, s49, s50, s51, s52, s53, ()) ⟨0, rfl, by omega⟩ (wQ (by dsimp only; omega))).elim fun o h => ?_
  rotate_left
  · rw [h.1, h.2]
  · rintro _ ⟨i, rfl, hi⟩
    rw [zjf, zn]
    by_cases hlt : (i : Int) < b
    · have := zpV i
      rw [if_pos hlt, vJ (by rw [List.length_append]; simp; omega), Option.bind_some, xM (by omega)]
      refine ⟨_, rfl, ⟨i + 1, ?_, by omega⟩, ?_⟩
      · unfold xe; rw [List.range_succ, List.map_append]; rfl
      · show (b - ((i + 1 : Nat) : Int)).toNat < (b - (i : Int)).toNat
        omega
    · rw [if_neg hlt]
      have : i = b.toNat := by omega
      subst this
      exact ⟨_, rfl, rfl⟩
theorem zr7 {s1 : zb} {s2 : Int} {s3 : Int} {s4 : Int} {s5 : Int} {s6 : Int} {s7 : Int} {s8 : Int} {s9 : Int} {s10 : Int} {s11 : BitVec 64} {s12 : Int} {s13 : zj} {s14 : Int} {s15 : Int} {s16 : Bool} {s17 : Bool} {s18 : Int} {s19 : Int} {s20 : Int} {s21 : Int} {s22 : zr} {s23 : zb} {s24 : Int} {s25 : zj} {s26 : Int} {s27 : Int} {s28 : Bool} {s29 : Bool} {s30 : Int} {s31 : zp} {s32 : zr} {s33 : List Int} {s34 : List (List Int)} {s35 : List (List Int)} {s36 : List (List zi)} {s37 : List zk} {s38 : List (List Int)} {s39 : List (BitVec 64)} {s40 : List (List Int)} {s41 : List Int} {s42 : List Int} {s43 : List ze} {s44 : List zd} {s45 : List (List Int)} {s46 : List (BitVec 64)} {s48 : List Int} {s49 : List ze} {s50 : List zd} : ∀ (ys acc : List (List Int)), acc.length + ys.length < 1000000 → (∀ c ∈ ys, c.length < 1000000) → ZN zbv ys (s1, s2, s3, s4, s5, s6, s7, s8, s9, s10, s11, s12, s13, s14, s15, s16, s17, s18, s19, s20, s21, s22, s23, s24, s25, s26, s27, s28, s29, s30, s31, s32, s33, s34, s35, s36, s37, s38, s39, s40, s41, s42, s43, s44, s45, s46, acc, s48, s49, s50, ()) = some (s1, s2, s3, s4, s5, s6, s7, s8, s9, s10, s11, s12, s13, s14, s15, s16, s17, s18, s19, s20, s21, s22, s23, s24, s25, s26, s27, s28, s29, s30, s31, s32, s33, s34, s35, s36, s37, s38, s39, s40, s41, s42, s43, s44, s45, s46, (acc ++ ys), s48, s49, s50, ())
  | [], acc, _, _ => by simp [ZN]
  | y :: ys, acc, h, hc => by
    simp only [List.length_cons] at h
    have hy := hc y (List.mem_cons_self ..)
    rw [ZN, zj2, ziH (by omega), Option.bind_some, vJ (by simp <;> omega), Option.bind_some, Option.bind_some, zr7 ys _ (by simp <;> omega) (fun c h' => hc c (List.mem_cons_of_mem _ h'))]
    simp
def vD (r : List Int) : zd := ⟨0, 0, 0, 0, 0, 0, 0, 0, r, [], [], ⟨0, 0, 0, 0, 0#64, 0, 0, 0⟩, ⟨0, 0, 0, 0, ⟨0, 0, 0, 0, 0#64, 0#64, 0, 0⟩, ⟨0, 0, 0, 0, 0#64, 0, 0, 0⟩, 0, 0⟩⟩
theorem zv8 {p : zb} {s4 : Int} {s5 : Int} {s6 : Int} {s7 : Int} {s8 : Int} {s9 : Int} {s10 : Int} {s11 : Int} {s12 : Int} {s13 : BitVec 64} {s14 : Int} {s15 : zj} {s16 : Int} {s17 : Int} {s18 : Bool} {s19 : Bool} {s20 : Int} {s21 : Int} {s22 : Int} {s23 : Int} {s24 : zr} {s25 : zb} {s26 : Int} {s27 : List (BitVec 64)} {s28 : zj} {s29 : Int} {s30 : Int} {s31 : Bool} {s32 : Bool} {s33 : Int} {s34 : zp} {s35 : zr} {s36 : List (List Int)} {s37 : List (List Int)} {s38 : List (List zi)} {s39 : List zk} {s40 : List (List Int)} {s41 : List (BitVec 64)} {s42 : List (List Int)} {s43 : List Int} {s44 : List Int} {s45 : List ze} {s46 : List zd} {s47 : List (List Int)} {s48 : List (List Int)} {s49 : List Int} {s50 : List ze} (hl : p.Regs.length < 1000000) (hr : ∀ r ∈ p.Regs, r.length < 1000000) :
    yy VT (p.Regs, (p.Regs.length : Int), 0, s4, s5, s6, s7, s8, s9, s10, s11, s12, s13, s14, s15, s16, s17, s18, s19, s20, s21, s22, s23, s24, s25, s26, s27, s28, s29, s30, s31, s32, s33, s34, s35, s36, s37, s38, s39, s40, s41, s42, s43, s44, s45, s46, s47, s48, s49, s50, [], ()) = some (.brk (s4, s5, s6, s7, s8, s9, s10, s11, s12, s13, s14, s15, s16, s17, s18, s19, s20, s21, s22, s23, s24, s25, s26, s27, s28, s29, s30, s31, s32, s33, s34, s35, s36, s37, s38, s39, s40, s41, s42, s43, s44, s45, s46, s47, s48, s49, s50, (p.Regs.map vD), ())) := by
  refine (uq (f := VT) (fun a => ∃ i : Nat, a = (p.Regs, (p.Regs.length : Int), (i : Int), s4, s5, s6, s7, s8, s9, s10, s11, s12, s13, s14, s15, s16, s17, s18, s19, s20, s21, s22, s23, s24, s25, s26, s27, s28, s29, s30, s31, s32, s33, s34, s35, s36, s37, s38, s39, s40, s41, s42, s43, s44, s45, s46, s47, s48, s49, s50, ((p.Regs.take i).map vD), ()) ∧ i ≤ p.Regs.length) (fun a => p.Regs.length - a.2.2.1.toNat) (fun o => o = .brk (s4, s5, s6, s7, s8, s9, s10, s11, s12, s13, s14, s15, s16, s17, s18, s19, s20, s21, s22, s23, s24, s25, s26, s27, s28, s29, s30, s31, s32, s33, s34, s35, s36, s37, s38, s39, s40, s41, s42, s43, s44, s45, s46, s47, s48, s49, s50, (p.Regs.map vD), ())) ?_ (p.Regs, (p.Regs.length : Int), 0, s4, s5, s6, s7, s8, s9, s10, s11, s12, s13, s14, s15, s16, s17, s18, s19, s20, s21, s22, s23, s24, s25, s26, s27, s28, s29, s30, s31, s32, s33, s34, s35, s36, s37, s38, s39, s40, s41, s42, s43, s44, s45, s46, s47, s48, s49, s50, [], ()) ⟨0, rfl, by omega⟩ (wQ (by dsimp only; omega))).elim fun o h => ?_
  rotate_left
  · rw [h.1, h.2]
  · rintro _ ⟨i, rfl, hi⟩
    rw [zj0, zn]
    rcases Nat.lt_or_ge i p.Regs.length with hlt | hge
    · have hx := List.getElem?_eq_getElem hlt
      have hh := hr _ (List.getElem_mem hlt)
      rw [if_pos (by omega), wy hx, Option.bind_some, ziH (by omega), Option.bind_some, vJ (by simp <;> omega), Option.bind_some, xM (by omega)]
      refine ⟨_, rfl, ⟨i + 1, ?_, hlt⟩, ?_⟩
      · rw [List.take_add_one, hx, List.map_append]; rfl
      · show p.Regs.length - ((i + 1 : Nat) : Int).toNat < p.Regs.length - (i : Int).toNat
        omega
    · rw [if_neg (by omega)]
      have : i = p.Regs.length := by omega
      subst this
      exact ⟨_, rfl, by rw [List.take_length]⟩
def zX (p : zb) : Nat := (p.Most + p.Workers + p.Mutators).toNat
def xg (p : zb) : List (List Int) := ui p.Bin.toNat (WM (vQ p)).length (WM (vQ p))
def vg (p : zb) : za :=
  { P := p, H := p.H,
    M := zas (zas (ZJ p p.Workers.toNat ++ List.replicate (2 + zX p) 0#64) (z7 p) (zD p) ((xe (zX p)).take (xg p).length)) (zD p) (zD p) ((xe (zX p)).drop (xg p).length),
    Bins := [[]] ++ xg p ++ List.replicate (zX p - (xg p).length) [],
    T := ⟨vQ p, 0#64⟩, Work := cnt (vQ p), Epoch := 0, Flag := false, Done := false, Restarts := 0,
    Acks := List.replicate p.Mutators.toNat 0, L := ⟨0, 0, 0, List.replicate p.Mutators.toNat 0⟩,
    Ws := (List.range p.Workers.toNat).map (ux p), Ms := p.Regs.map vD, D := ⟨0, 0⟩ }
theorem zxO : ∀ r : Fin 7, bit (r.1 : Int) &&& ~~~63#64 = 0#64 := by decide
theorem ztT {r n : Int} (h : 0 ≤ r) (h2 : r ≤ n) (h3 : n ≤ 6) : bit r &&& ~~~wX n = 0#64 := by
  have := zoJ ⟨r.toNat, by omega⟩ ⟨n.toNat, by omega⟩ (by show r.toNat ≤ n.toNat; omega)
  simpa [Int.toNat_of_nonneg h, Int.toNat_of_nonneg (show 0 ≤ n by omega)] using this
theorem zpZ {a b c : BitVec 64} (ha : a &&& ~~~c = 0#64) (hb : b &&& ~~~c = 0#64) : (a ||| b) &&& ~~~c = 0#64 := by
  apply BitVec.eq_of_getLsbD_eq
  intro i hi
  have h1 := congrArg (fun x => x.getLsbD i) ha
  have h2 := congrArg (fun x => x.getLsbD i) hb
  simp only [BitVec.getLsbD_and, BitVec.getLsbD_or, BitVec.getLsbD_not, BitVec.getLsbD_zero, hi, decide_true, Bool.true_and] at h1 h2 ⊢
  revert h1 h2
  generalize a.getLsbD i = x
  generalize b.getLsbD i = y
  generalize c.getLsbD i = z
  cases x <;> cases y <;> cases z <;> decide
theorem zsY {c : BitVec 64} {l : List Int} (h : ∀ o ∈ l, bit o &&& ~~~c = 0#64) : ∀ (z : BitVec 64), z &&& ~~~c = 0#64 → l.foldl (fun s o => s ||| bit o) z &&& ~~~c = 0#64 := by
  induction l with
  | nil => intro z hz; exact hz
  | cons a l ih => intro z hz; exact ih (fun o ho => h o (List.mem_cons_of_mem _ ho)) _ (zpZ hz (h a (List.mem_cons_self ..)))
theorem zgE {p : zb} (h : zC p) : vQ p &&& ~~~wX (p.H.Objs.length : Int) = 0#64 := by
  have hn := h.n
  have key : ∀ (L : List (List Int)) (z : BitVec 64), (∀ r ∈ L, ∀ v ∈ r, 0 ≤ v ∧ v ≤ (p.H.Objs.length : Int)) → z &&& ~~~wX (p.H.Objs.length : Int) = 0#64 → L.foldl (fun s l => s ||| zbk l) z &&& ~~~wX (p.H.Objs.length : Int) = 0#64 := by
    intro L
    induction L with
    | nil => intro z _ hz; exact hz
    | cons r L ih =>
      intro z hr hz
      refine ih _ (fun r' h' => hr r' (List.mem_cons_of_mem _ h')) (zpZ hz (zsY (fun o ho => ?_) _ (by simp)))
      have := hr r (List.mem_cons_self ..) o ho
      exact ztT this.1 this.2 hn.2
  exact key _ _ (fun r hr => (h.reg r hr).2) (zkU h)
theorem zrs {a b c : BitVec 64} (h : a &&& ~~~b = 0#64) (h2 : b &&& ~~~c = 0#64) : a &&& ~~~c = 0#64 := by
  apply BitVec.eq_of_getLsbD_eq
  intro i hi
  have h1 := congrArg (fun x => x.getLsbD i) h
  have h2 := congrArg (fun x => x.getLsbD i) h2
  simp only [BitVec.getLsbD_and, BitVec.getLsbD_not, BitVec.getLsbD_zero, hi, decide_true, Bool.true_and] at h1 h2 ⊢
  revert h1 h2
  generalize a.getLsbD i = x
  generalize b.getLsbD i = y
  generalize c.getLsbD i = z
  cases x <;> cases y <;> cases z <;> decide
theorem zrk : ∀ n : Fin 7, wX (n.1 : Int) &&& ~~~63#64 = 0#64 := by decide
theorem zcP {p : zb} (h : zC p) : vQ p &&& ~~~63#64 = 0#64 := by
  have hn := h.n
  refine zrs (zgE h) ?_
  exact zrk ⟨p.H.Objs.length, by omega⟩
theorem zsV : ∀ (n : Fin 7) (t : Fin 64), BitVec.ofNat 64 t.1 &&& ~~~wX (n.1 : Int) = 0#64 → (WM (BitVec.ofNat 64 t.1)).length ≤ n.1 := by decide +kernel
theorem zjj {p : zb} (h : zC p) : (WM (vQ p)).length ≤ p.H.Objs.length := by
  have hn := h.n
  obtain ⟨t, ht⟩ := zrh (zcP h)
  have h2 := zgE h
  rw [ht] at h2 ⊢
  exact zsV ⟨p.H.Objs.length, by omega⟩ t h2
theorem zlA {p : zb} (h : zC p) : (xg p).length ≤ p.H.Objs.length := by
  have hb := h.bin
  exact Nat.le_trans (zni _ (by omega) _ _) (zjj h)
theorem zov {p : zb} (h : zC p) : zcN p = some (vg p, ()) := by
  have hw := h.wk
  have hc := h.cap
  have hm := h.mt
  have hb := h.bin
  have hn := h.n
  have hmo := h.most
  have hrl := h.regs
  have hreg : ∀ r ∈ p.Regs, r.length < 1000000 := fun r hr => by have := (h.reg r hr).1; omega
  have hobj : ∀ o ∈ p.H.Objs, o.length < 1000000 := fun o ho => by have := (h.objs o ho).1; have := h.slots; omega
  have hfl := zlA h
  have hgl := zjj h
  have hcl := W5 p p.Workers.toNat
  have hcb : p.Workers.toNat * (p.Cap.toNat + 2) ≤ 3 * 5 := Nat.mul_le_mul (by omega) (by omega)
  have hbn : (zX p : Int) = p.Most + p.Workers + p.Mutators := by unfold zX; omega
  have eb : zcy p = some ((zX p : Int), ()) := by
    rw [znY, yh (a := p.Most + p.Workers) (by omega) (by omega), yh (by omega) (by omega), hbn]
  have hul := zpV (zX p)
  have ec : W8 (WM (vQ p)) p.Bin = some (xg p) := by
    show zeQ _ _ = _
    unfold zeQ xg
    have c1 : (decide (1 ≤ p.Bin) && decide (p.Bin < 1000000) && decide (((WM (vQ p)).length : Int) < 1000000)) = true := by simp <;> omega
    rw [c1]; rfl
  have cut1 : cut (xe (zX p)) 0 ((xg p).length : Int) = some ((xe (zX p)).take (xg p).length) := by
    unfold cut
    have : ((xg p).length : Int) ≤ ((xe (zX p)).length : Int) := by omega
    simp [this]
  have cut2 : cut (xe (zX p)) ((xg p).length : Int) ((xe (zX p)).length : Int) = some ((xe (zX p)).drop (xg p).length) := by
    unfold cut
    have : ((xg p).length : Int) ≤ ((xe (zX p)).length : Int) := by omega
    simp [this]
  rw [zoe, zsw h]
  simp only [Option.bind_some, Bool.not_true, cond_false]
  rw [zmG (by omega) hreg]
  simp only [Option.bind_some, zoR, zsn hm.1 (show p.Mutators ≤ 16 by omega)]
  rw [ztX (by omega) hobj]
  simp only [Option.bind_some]
  rw [zwI h]
  simp only [Option.bind_some, eb]
  have e3 : (2 + (zX p : Int)).toNat = 2 + zX p := by omega
  rw [yh (a := 2 + (zX p : Int)) (by omega) (by omega), zoU (by omega) (by omega), e3, Option.bind_some, vJ (l := ZJ p p.Workers.toNat ++ List.replicate (2 + zX p) 0#64) (by simp <;> omega), Option.bind_some, zv6 (by omega)]
  dsimp only [Option.bind_some]
  rw [Int.toNat_natCast, zu4 (zcP h), Option.bind_some, zdB, zn, if_neg (by omega), Option.bind_some, ec, Option.bind_some, zr7 _ _ (by simp <;> omega) (fun c hc' => by have := zgw _ _ _ _ hc'; omega)]
  dsimp only [Option.bind_some]
  have e1 : w64 ((([[]] ++ xg p : List (List Int)).length : Int) - 1) = ((xg p).length : Int) := by
    rw [yh (by simp <;> omega) (by simp <;> omega)]; simp
  have e2 : w64 (((xe (zX p)).length : Int) - ((xg p).length : Int)) = ((zX p - (xg p).length : Nat) : Int) := by
    rw [yh (by omega) (by omega)]; omega
  rw [e1, e2, zoU (by omega) (by omega), Int.toNat_natCast, Option.bind_some, vJ (by simp <;> omega), Option.bind_some, zea, Option.bind_some, za6, Option.bind_some, cut1, Option.bind_some, zoz (by simp <;> omega) (by simp <;> omega), Option.bind_some, zcF, Option.bind_some, Option.bind_some, cut2, Option.bind_some, zoz (by rw [zk2]; simp <;> omega) (by simp <;> omega), Option.bind_some, decide_true, cond_true, zfx hm.1 (show p.Mutators < 4294967296 by omega), Option.bind_some, zv8 (by omega) hreg]
  rfl
end
end Go.Pe.G
namespace Go.Pe.G
open Go.Pe
noncomputable section
theorem zgs (h : BitVec 64) : yo h = ((h.toNat % 4294967296 : Nat) : Int) := by
  unfold yo
  have e : (h &&& 4294967295#64).toNat = h.toNat % 4294967296 := by
    rw [BitVec.toNat_and]
    exact Nat.and_two_pow_sub_one_eq_mod h.toNat 32
  rw [BitVec.toInt_eq_toNat_cond, e]
  omega
theorem zf7 (h : BitVec 64) : 0 ≤ yo h ∧ yo h < 4294967296 := by rw [zgs]; omega
theorem zaG (v : BitVec 64) {n : Int} (h : 0 ≤ n) (h2 : n < 4294967296) : yo (yU v n) = n := by
  rw [zgs]
  unfold yU
  rw [BitVec.toNat_or, BitVec.toNat_and, BitVec.toNat_shiftLeft]
  have e1 : (v.toNat <<< 32 % 2 ^ 64 ||| (BitVec.ofInt 64 n).toNat &&& (4294967295#64).toNat) % 2 ^ 32 = (v.toNat <<< 32 % 2 ^ 64) % 2 ^ 32 ||| ((BitVec.ofInt 64 n).toNat &&& (4294967295#64).toNat) % 2 ^ 32 := Nat.or_mod_two_pow
  have e2 : v.toNat <<< 32 % 2 ^ 64 % 2 ^ 32 = 0 := by rw [Nat.shiftLeft_eq]; omega
  have e3 : (BitVec.ofInt 64 n).toNat &&& (4294967295#64).toNat = n.toNat := by
    have : (BitVec.ofInt 64 n).toNat = n.toNat := by rw [BitVec.toNat_ofInt]; omega
    rw [this]
    exact (Nat.and_two_pow_sub_one_eq_mod n.toNat 32).trans (Nat.mod_eq_of_lt (by omega))
  rw [show (4294967296 : Nat) = 2 ^ 32 from rfl, e1, e2, e3, Nat.zero_or, Nat.mod_eq_of_lt (by omega)]
  omega
theorem toInt_ofInt {n : Int} (h : 0 ≤ n) (h2 : n < 4294967296) : (BitVec.ofInt 64 n).toInt = n := by
  have e : (BitVec.ofInt 64 n).toNat = n.toNat := by rw [BitVec.toNat_ofInt]; omega
  rw [BitVec.toInt_eq_toNat_cond, e]
  omega
theorem Y9 {m : List (BitVec 64)} {a b : Int} {v : BitVec 64} : ld (st m a v) b = if a = b ∧ 0 ≤ a ∧ a < m.length then v else ld m b := by
  unfold ld st
  by_cases hb : 0 ≤ b
  · rw [if_pos hb, if_pos hb]
    by_cases ha : 0 ≤ a
    · rw [if_pos ha, List.getD_eq_getElem?_getD, List.getD_eq_getElem?_getD, List.getElem?_set]
      by_cases hab : a.toNat = b.toNat
      · have e : a = b := by omega
        subst e
        by_cases hl : a.toNat < m.length
        · rw [if_pos rfl, if_pos hl, if_pos ⟨rfl, ha, by omega⟩]; rfl
        · rw [if_pos rfl, if_neg hl, if_neg (by omega), List.getElem?_eq_none (by omega)]
      · rw [if_neg hab, if_neg (by omega)]
    · rw [if_neg ha, if_neg (by omega)]
  · rw [if_neg hb, if_neg hb, if_neg (by omega)]
theorem yp {m : List (BitVec 64)} {a b : Int} {v : BitVec 64} (h : a ≠ b) : ld (st m a v) b = ld m b := by
  rw [Y9, if_neg (fun h' => h h'.1)]
theorem u9 {p : zb} (h : zC p) : z7 p = p.Workers * (p.Cap + 2) ∧ 3 ≤ z7 p ∧ z7 p ≤ 15 := by
  have hw := h.wk
  have hc := h.cap
  unfold z7
  rw [wO (a := p.Cap + 2) (by omega) (by omega)]
  have hx : p.Workers = 1 ∨ p.Workers = 2 ∨ p.Workers = 3 := by omega
  rcases hx with hx | hx | hx <;> rw [hx, wO (by omega) (by omega)] <;> omega
theorem wm {p : zb} (h : zC p) : zD p = z7 p + 1 := by
  have := u9 h
  unfold zD
  rw [wO (by omega) (by omega)]
theorem Zy {p : zb} (h : zC p) {w : Int} (h1 : 1 ≤ w) (h2 : w ≤ p.Workers) : zI p w = (w - 1) * (p.Cap + 2) ∧ 0 ≤ zI p w ∧ zI p w + p.Cap + 2 ≤ z7 p := by
  have hw := h.wk
  have hc := h.cap
  have hf := (u9 h).1
  unfold zI
  rw [wO (a := p.Cap + 2) (by omega) (by omega), wO (a := w - 1) (by omega) (by omega)]
  have hx : p.Workers = 1 ∨ p.Workers = 2 ∨ p.Workers = 3 := by omega
  have hy : w = 1 ∨ w = 2 ∨ w = 3 := by omega
  rw [hf]
  rcases hx with hx | hx | hx <;> rcases hy with hy | hy | hy <;> first | omega | (rw [hx, hy, wO (by omega) (by omega)] <;> omega)
theorem zk0 {p : zb} (h : zC p) {d : zg} {w : Int} (h1 : 1 ≤ w) (h2 : w ≤ p.Workers) (hb : d.Base = zI p w) (hc : d.Cap = p.Cap) (i : BitVec 64) :
    ZE d i = d.Base + 2 + ((i.toNat % p.Cap.toNat : Nat) : Int) ∧ d.Base + 2 ≤ ZE d i ∧ ZE d i < d.Base + 2 + p.Cap := by
  have hcp := h.cap
  have hd := Zy h h1 h2
  have hf := u9 h
  have hs : (Yl d).toNat = p.Cap.toNat := by
    unfold Yl
    rw [hc, if_neg (by omega), BitVec.toNat_ofInt]
    omega
  have hlt : i.toNat % p.Cap.toNat < p.Cap.toNat := Nat.mod_lt _ (by omega)
  have hm : (i % Yl d).toInt = ((i.toNat % p.Cap.toNat : Nat) : Int) := by
    rw [BitVec.toInt_eq_toNat_cond, BitVec.toNat_umod, hs]
    omega
  unfold ZE
  rw [hm, wO (a := d.Base + 2) (by omega) (by omega), wO (by omega) (by omega)]
  omega
structure SOk (p : zb) (nb : Nat) (s : za) : Prop where
  P : s.P = p
  bins : s.Bins.length = nb
  nbk : 1 ≤ nb ∧ nb < 1000
  mem : s.M.length < 100000
  cF : yo (ld s.M (z7 p)) < nb
  cE : yo (ld s.M (zD p)) < nb
  cL : ∀ a, zD p < a → 0 ≤ (ld s.M a).toInt ∧ (ld s.M a).toInt < nb
structure MOk (p : zb) (nb : Nat) (g : zA) : Prop where
  who : g.Mode = 1 → 1 ≤ g.Who ∧ g.Who ≤ p.Workers
  d3 : g.PC = 3 → g.D.Kind = 1 ∧ g.D.Base = zI p g.Who ∧ g.D.Cap = p.Cap ∧ g.Mode = 1
  c5 : g.PC = 5 → g.C.Kind = 2 ∧ g.C.Head = zD p ∧ g.C.Next = zD p ∧ (1 ≤ g.C.PC → 1 ≤ yo g.C.H ∧ yo g.C.H < nb) ∧ (2 ≤ g.C.PC → 0 ≤ g.C.Y ∧ g.C.Y < nb)
  b6 : g.PC = 6 → 1 ≤ g.Bin ∧ g.Bin < nb
  c7 : g.PC = 7 → g.C.Kind = 1 ∧ g.C.Head = z7 p ∧ g.C.Next = zD p ∧ (1 ≤ g.C.X ∧ g.C.X < nb) ∧ (1 ≤ g.C.PC → yo g.C.H < nb)
theorem SOk.gok {p : zb} {nb : Nat} {s : za} {g : zA} (h : zC p) (S : SOk p nb s) (M : MOk p nb g) : GOk s g := by
  have hc := h.cap
  refine ⟨by have := S.mem; omega, by have := S.bins; have := S.nbk; omega, fun h6 => ?_, fun h3 => ?_⟩
  · have := M.b6 h6; have := S.bins; omega
  · obtain ⟨a, b, c, _⟩ := M.d3 h3; exact ⟨a, by omega⟩
theorem SOk.low {p : zb} {nb : Nat} {s : za} (h : zC p) (S : SOk p nb s) {a : Int} (ha : a < z7 p) (v : BitVec 64) : SOk p nb { s with M := st s.M a v } := by
  have he := wm h
  exact ⟨S.P, S.bins, S.nbk, by simp only [u0]; exact S.mem, by simp only [yp (show a ≠ z7 p by omega)]; exact S.cF, by simp only [yp (show a ≠ zD p by omega)]; exact S.cE, fun b hb => by
    simp only [yp (show a ≠ b by omega)]; exact S.cL b hb⟩
theorem SOk.link {p : zb} {nb : Nat} {s : za} (h : zC p) (S : SOk p nb s) {a : Int} (ha : zD p < a) {v : BitVec 64} (hv : 0 ≤ v.toInt ∧ v.toInt < nb) : SOk p nb { s with M := st s.M a v } := by
  have he := wm h
  exact ⟨S.P, S.bins, S.nbk, by simp only [u0]; exact S.mem, by simp only [yp (show a ≠ z7 p by omega)]; exact S.cF, by simp only [yp (show a ≠ zD p by omega)]; exact S.cE, fun b hb => by
    simp only [Y9]
    split
    · exact hv
    · exact S.cL b hb⟩
theorem SOk.head {p : zb} {nb : Nat} {s : za} (h : zC p) (S : SOk p nb s) {a : Int} (ha : a = z7 p ∨ a = zD p) {v : BitVec 64} (hv : yo v < nb) : SOk p nb { s with M := st s.M a v } := by
  have he := wm h
  refine ⟨S.P, S.bins, S.nbk, by simp only [u0]; exact S.mem, ?_, ?_, fun b hb => ?_⟩
  · simp only [Y9]
    split
    · exact hv
    · exact S.cF
  · simp only [Y9]
    split
    · exact hv
    · exact S.cE
  · simp only [yp (show a ≠ b by omega)]; exact S.cL b hb
theorem SOk.swap {p : zb} {nb : Nat} {s : za} (h : zC p) (S : SOk p nb s) {a : Int} (ha : a = z7 p ∨ a = zD p) (x : BitVec 64) {v : BitVec 64} (hv : yo v < nb) : SOk p nb { s with M := (sw s.M a x v).1 } := by
  unfold sw
  split
  · exact S.head h ha hv
  · exact S
theorem zp6 {p : zb} {nb : Nat} {s : za} (h : zC p) (S : SOk p nb s) {c : zy} {hd : Int} (hdd : hd = z7 p ∨ hd = zD p) (hk : c.Kind = 2) (hh : c.Head = hd) (hn : c.Next = zD p)
    (h1 : 1 ≤ c.PC → 1 ≤ yo c.H ∧ yo c.H < nb) (h2 : 2 ≤ c.PC → 0 ≤ c.Y ∧ c.Y < nb) (ho : c.Out ≠ 1) :
    SOk p nb { s with M := (zm s.M c).1 } ∧ (zm s.M c).2.Kind = 2 ∧ (zm s.M c).2.Head = hd ∧ (zm s.M c).2.Next = zD p ∧
    ((zm s.M c).2.Out ≠ 1 → (zm s.M c).2.Out ≠ 2 → (1 ≤ (zm s.M c).2.PC → 1 ≤ yo (zm s.M c).2.H ∧ yo (zm s.M c).2.H < nb) ∧ (2 ≤ (zm s.M c).2.PC → 0 ≤ (zm s.M c).2.Y ∧ (zm s.M c).2.Y < nb)) ∧
    ((zm s.M c).2.Out = 1 → 1 ≤ (zm s.M c).2.X ∧ (zm s.M c).2.X < nb) := by
  have hnb := S.nbk
  have hE := wm h
  have hF := u9 h
  unfold zm
  split
  · exact ⟨S, hk, hh, hn, fun _ _ => ⟨h1, h2⟩, fun e => absurd e ho⟩
  · split
    · rw [hh]
      have n1 := zf7 (ld s.M hd)
      have n2 : yo (ld s.M hd) < nb := by
        rcases hdd with e | e <;> rw [e]
        · exact S.cF
        · exact S.cE
      split
      · exact ⟨S, hk, rfl, hn, fun _ h => absurd rfl h, fun e => by cases e⟩
      · rename_i hne
        refine ⟨S, hk, rfl, hn, fun _ _ => ⟨fun _ => ⟨?_, n2⟩, fun e => absurd e (by dsimp only; omega)⟩, fun e => absurd e ho⟩
        have : yo (ld s.M hd) ≠ 0 := fun e => hne ⟨hk, e⟩
        dsimp only
        omega
    · split
      · try rw [if_pos hk]
        have hpc : 1 ≤ c.PC := by omega
        have n1 := h1 hpc
        refine ⟨S, hk, hh, hn, fun _ _ => ⟨fun _ => n1, fun _ => ?_⟩, fun e => absurd e ho⟩
        dsimp only
        rw [hn, wO (by omega) (by omega)]
        exact S.cL _ (by omega)
      · rename_i g1 g2 g3
        have hpc : c.PC = 2 := by omega
        have n1 := h1 (by omega)
        have n2 := h2 (by omega)
        simp only [if_pos hk]
        refine ⟨S.swap h (by rw [hh]; exact hdd) _ (by rw [zaG _ n2.1 (by omega)]; exact n2.2), ?_⟩
        split
        · exact ⟨hk, hh, hn, fun e => absurd rfl e, fun _ => n1⟩
        · exact ⟨hk, hh, hn, fun _ _ => ⟨fun e => absurd e (by dsimp only; omega), fun e => absurd e (by dsimp only; omega)⟩, fun e => absurd e ho⟩
theorem znC {p : zb} {nb : Nat} {s : za} (h : zC p) (S : SOk p nb s) {c : zy} {hd : Int} (hdd : hd = z7 p ∨ hd = zD p) (hk : c.Kind = 1) (hh : c.Head = hd) (hn : c.Next = zD p) (hx : 1 ≤ c.X ∧ c.X < nb)
    (h1 : 1 ≤ c.PC → yo c.H < nb) :
    SOk p nb { s with M := (zm s.M c).1 } ∧ (zm s.M c).2.Kind = 1 ∧ (zm s.M c).2.Head = hd ∧ (zm s.M c).2.Next = zD p ∧ (1 ≤ (zm s.M c).2.X ∧ (zm s.M c).2.X < nb) ∧
    (1 ≤ (zm s.M c).2.PC → yo (zm s.M c).2.H < nb) := by
  have hnb := S.nbk
  have hE := wm h
  have hF := u9 h
  have hk2 : ¬ c.Kind = 2 := by omega
  unfold zm
  split
  · exact ⟨S, hk, hh, hn, hx, h1⟩
  · split
    · rw [if_neg (fun e => hk2 e.1), hh]
      exact ⟨S, hk, rfl, hn, hx, fun _ => hdd.elim (fun e => by dsimp only; rw [e]; exact S.cF) (fun e => by dsimp only; rw [e]; exact S.cE)⟩
    · split
      · try rw [if_neg hk2]
        have hpc : 1 ≤ c.PC := by omega
        have n1 := h1 hpc
        have n2 := zf7 c.H
        refine ⟨?_, hk, hh, hn, hx, fun _ => n1⟩
        dsimp only
        rw [hn, wO (by omega) (by omega)]
        exact S.link h (by omega) (by rw [toInt_ofInt (by omega) (by omega)]; omega)
      · have n1 := h1 (by omega)
        simp only [if_neg hk2]
        refine ⟨S.swap h (by rw [hh]; exact hdd) _ (by rw [zaG _ (by omega) (by omega)]; exact hx.2), ?_⟩
        split
        · exact ⟨hk, hh, hn, hx, fun _ => n1⟩
        · exact ⟨hk, hh, hn, hx, fun _ => n1⟩
theorem MOk.ask {p : zb} {nb : Nat} {g : zA} (hw : g.Mode = 1 → 1 ≤ g.Who ∧ g.Who ≤ p.Workers) : MOk p nb (ziM p g) :=
  ⟨hw, fun e => (by cases e), fun _ => ⟨rfl, rfl, rfl, fun e => absurd e (show ¬ (1 : Int) ≤ 0 by decide), fun e => absurd e (show ¬ (2 : Int) ≤ 0 by decide)⟩, fun e => (by cases e), fun e => (by cases e)⟩
theorem zkj {p : zb} {nb : Nat} {s : za} {g : zA} (h : zC p) (S : SOk p nb s) (M : MOk p nb g) (hout : g.PC = 5 → g.C.Out ≠ 1) : SOk p nb (zF s g).1 ∧ MOk p nb (zF s g).2 ∧ ((zF s g).2.PC = 5 → (zF s g).2.C.Out ≠ 1) := by
  have hP := S.P
  unfold zF
  split
  · exact ⟨S, M, hout⟩
  split
  · rename_i h7
    obtain ⟨a1, a2, a3, a4, a5⟩ := M.c7 h7
    obtain ⟨b1, b2, b3, b4, b5, b6⟩ := znC h S (.inl rfl) a1 a2 a3 a4 a5
    unfold zcv
    refine ⟨b1, ?_, ?_⟩
    · dsimp only
      split <;> exact ⟨M.who, fun e => (by dsimp only at e; omega), fun e => (by dsimp only at e; omega), fun e => (by dsimp only at e; omega), fun _ => ⟨b2, b3, b4, b5, b6⟩⟩
    · dsimp only
      split <;> exact fun e => by dsimp only at e; omega
  split
  · rename_i h6
    obtain ⟨a1, a2⟩ := M.b6 h6
    unfold zpv
    refine ⟨⟨hP, by simp only [List.length_set]; exact S.bins, S.nbk, S.mem, S.cF, S.cE, S.cL⟩, ⟨M.who, fun e => (by cases e), fun e => (by cases e), fun e => (by cases e), fun _ => ⟨rfl, by rw [hP], by rw [hP], ⟨a1, a2⟩, fun e => absurd e (show ¬ (1 : Int) ≤ 0 by decide)⟩⟩, fun e => by cases e⟩
  split
  · rename_i h5
    obtain ⟨a1, a2, a3, a4, a5⟩ := M.c5 h5
    obtain ⟨b1, b2, b3, b4, b5, b6⟩ := zp6 h S (.inr rfl) a1 a2 a3 a4 a5 (hout h5)
    unfold ziK
    refine ⟨b1, ?_, ?_⟩
    · dsimp only
      split
      · rename_i e1
        exact ⟨M.who, fun e => (by cases e), fun e => (by cases e), fun _ => b6 e1, fun e => (by cases e)⟩
      · split
        · rw [hP]; exact MOk.ask M.who
        · rename_i e1 e2
          exact ⟨M.who, fun e => (by dsimp only at e; omega), fun _ => ⟨b2, b3, b4, b5 e1 e2⟩, fun e => (by dsimp only at e; omega), fun e => (by dsimp only at e; omega)⟩
    · dsimp only
      split
      · exact fun e => by cases e
      · split
        · exact fun _ e => by cases e
        · rename_i e1 e2; exact fun _ => e1
  split
  · rw [hP]
    exact ⟨⟨rfl, S.bins, S.nbk, S.mem, S.cF, S.cE, S.cL⟩, MOk.ask M.who, fun _ e => by cases e⟩
  split
  · rename_i h3
    obtain ⟨a1, a2, a3, a4⟩ := M.d3 h3
    have hw := M.who a4
    obtain ⟨d1, d2, d3⟩ := Zy h hw.1 hw.2
    have hc := h.cap
    have hf := u9 h
    have hs : SOk p nb { s with M := (yK s.M g.D).1 } := by
      unfold yK
      split
      · exact S
      split
      · exact S
      split
      · exact S
      split
      · have := zk0 h hw.1 hw.2 a2 a3 g.D.B
        exact S.low h (by omega) _
      · dsimp only
        rw [wO (by omega) (by omega)]
        exact S.low h (by omega) _
    have hd : (yK s.M g.D).2.Kind = 1 ∧ (yK s.M g.D).2.Base = zI p g.Who ∧ (yK s.M g.D).2.Cap = p.Cap := by
      unfold yK
      split
      · exact ⟨a1, a2, a3⟩
      split
      · exact ⟨a1, a2, a3⟩
      split
      · dsimp only
        split <;> exact ⟨a1, a2, a3⟩
      split <;> exact ⟨a1, a2, a3⟩
    unfold zil
    refine ⟨hs, ?_, ?_⟩
    · dsimp only
      split
      · exact ⟨M.who, fun _ => ⟨hd.1, hd.2.1, hd.2.2, a4⟩, fun e => (by dsimp only at e; omega), fun e => (by dsimp only at e; omega), fun e => (by dsimp only at e; omega)⟩
      · split
        · rw [hP]; exact MOk.ask M.who
        · exact ⟨M.who, fun _ => ⟨hd.1, hd.2.1, hd.2.2, a4⟩, fun e => (by dsimp only at e; omega), fun e => (by dsimp only at e; omega), fun e => (by dsimp only at e; omega)⟩
    · dsimp only
      split
      · exact fun e => by dsimp only at e; omega
      · split
        · exact fun _ e => by cases e
        · exact fun e => by dsimp only at e; omega
  split
  · rename_i h2
    exact ⟨⟨hP, S.bins, S.nbk, S.mem, S.cF, S.cE, S.cL⟩, ⟨M.who, fun e => (by dsimp only at e; omega), fun e => (by dsimp only at e; omega), fun e => (by dsimp only at e; omega), fun e => (by dsimp only at e; omega)⟩, fun e => by dsimp only at e; omega⟩
  split
  · unfold ziy
    refine ⟨⟨hP, S.bins, S.nbk, S.mem, S.cF, S.cE, S.cL⟩, ?_, ?_⟩
    · dsimp only
      split
      · exact ⟨M.who, fun e => (by cases e), fun e => (by cases e), fun e => (by cases e), fun e => (by cases e)⟩
      split
      · exact ⟨M.who, fun _ => ⟨rfl, by rw [hP], by rw [hP], by assumption⟩, fun e => (by cases e), fun e => (by cases e), fun e => (by cases e)⟩
      split
      · exact ⟨M.who, fun e => (by cases e), fun e => (by cases e), fun e => (by cases e), fun e => (by cases e)⟩
      · rw [hP]; exact MOk.ask M.who
    · dsimp only
      split
      · exact fun e => by cases e
      split
      · exact fun e => by cases e
      split
      · exact fun e => by cases e
      · exact fun _ e => by cases e
  · exact ⟨⟨hP, S.bins, S.nbk, S.mem, S.cF, S.cE, S.cL⟩, ⟨M.who, fun e => (by cases e), fun e => (by cases e), fun e => (by cases e), fun e => (by cases e)⟩, fun e => by cases e⟩
theorem zfi (s : za) (g : zA) : (zF s g).2.Obj = g.Obj ∧ (zF s g).2.Who = g.Who ∧ (zF s g).2.Mode = g.Mode := by
  unfold zF
  split
  · exact ⟨rfl, rfl, rfl⟩
  split
  · unfold zcv; dsimp only; split <;> exact ⟨rfl, rfl, rfl⟩
  split
  · exact ⟨rfl, rfl, rfl⟩
  split
  · unfold ziK; dsimp only
    split
    · exact ⟨rfl, rfl, rfl⟩
    · split <;> exact ⟨rfl, rfl, rfl⟩
  split
  · exact ⟨rfl, rfl, rfl⟩
  split
  · unfold zil; dsimp only
    split
    · exact ⟨rfl, rfl, rfl⟩
    · split <;> exact ⟨rfl, rfl, rfl⟩
  split
  · exact ⟨rfl, rfl, rfl⟩
  split
  · unfold ziy; dsimp only
    split
    · exact ⟨rfl, rfl, rfl⟩
    split
    · exact ⟨rfl, rfl, rfl⟩
    split <;> exact ⟨rfl, rfl, rfl⟩
  · exact ⟨rfl, rfl, rfl⟩
end
end Go.Pe.G
namespace Go.Pe.G
open Go.Pe
noncomputable section
def OkV (nb : Nat) (v : BitVec 64) : Prop := yo v < nb ∧ 0 ≤ v.toInt ∧ v.toInt < nb
theorem zqd {nb : Nat} (h : 1 ≤ nb) : OkV nb 0#64 := by
  refine ⟨by rw [zgs]; simp; omega, by simp, by simp; omega⟩
theorem znH {nb : Nat} {b : Int} (h : 0 ≤ b) (h2 : b < nb) (h3 : nb < 1000) : OkV nb (BitVec.ofInt 64 b) := by
  have e : (BitVec.ofInt 64 b).toNat = b.toNat := by rw [BitVec.toNat_ofInt]; omega
  refine ⟨by rw [zgs, e]; omega, ?_⟩
  rw [toInt_ofInt h (by omega)]
  omega
theorem zoK {b : Int} (h : 0 ≤ b) (h2 : b < 4294967296) : yU 0#64 b = BitVec.ofInt 64 b := by
  have e : (BitVec.ofInt 64 b).toNat = b.toNat := by rw [BitVec.toNat_ofInt]; omega
  apply BitVec.eq_of_toNat_eq
  unfold yU
  rw [BitVec.toNat_or, BitVec.toNat_and, e]
  have : b.toNat &&& (4294967295#64).toNat = b.toNat := (Nat.and_two_pow_sub_one_eq_mod b.toNat 32).trans (Nat.mod_eq_of_lt (by omega))
  rw [this]
  simp
def YR (F : Int) (nb : Nat) (m : List (BitVec 64)) : Prop := ∀ a, F ≤ a → OkV nb (ld m a)
theorem YR.st {F : Int} {nb : Nat} {m : List (BitVec 64)} (h : YR F nb m) (a : Int) {v : BitVec 64} (hv : OkV nb v) : YR F nb (st m a v) := fun b hb => by
  rw [Y9]
  split
  · exact hv
  · exact h b hb
theorem YR.links {F : Int} {nb : Nat} (h1 : 1 ≤ nb) (h3 : nb < 1000) : ∀ (l : List Int) (m : List (BitVec 64)) (n : Int), (∀ b ∈ l, 0 ≤ b ∧ b < nb) → YR F nb m → YR F nb (links m n l)
  | [], m, n, _, h => h
  | [a], m, n, _, h => h.st _ (zqd h1)
  | a :: b :: l, m, n, hb, h => YR.links h1 h3 (b :: l) _ n (fun x hx => hb x (List.mem_cons_of_mem _ hx)) (h.st _ (znH (hb b (by simp)).1 (hb b (by simp)).2 h3))
theorem YR.lay {F : Int} {nb : Nat} (h1 : 1 ≤ nb) (h3 : nb < 1000) {l : List Int} {m : List (BitVec 64)} {hd n : Int} (hb : ∀ b ∈ l, 0 ≤ b ∧ b < nb) (h : YR F nb m) : YR F nb (zas m hd n l) := by
  unfold zas
  refine (YR.links h1 h3 l m n hb h).st _ ?_
  cases l with
  | nil => rw [List.headD_nil, zoK (by omega) (by omega)]; exact znH (by omega) (by omega) h3
  | cons a r =>
    have := hb a (by simp)
    rw [List.headD_cons, zoK this.1 (by omega)]
    exact znH this.1 this.2 h3
theorem zbV {k : Nat} {b : Int} (h : b ∈ xe k) : 1 ≤ b ∧ b ≤ k := by
  unfold xe at h
  obtain ⟨i, hi, rfl⟩ := List.mem_map.1 h
  have := List.mem_range.1 hi
  omega
theorem zfd {p : zb} (h : zC p) : (zX p : Int) = p.Most + p.Workers + p.Mutators ∧ 2 ≤ zX p ∧ zX p ≤ 14 := by
  have := h.most
  have := h.n
  have := h.wk
  have := h.mt
  unfold zX
  omega
theorem zsc {p : zb} (h : zC p) : SOk p (zX p + 1) (vg p) := by
  have hb := zfd h
  have hf := zlA h
  have hn := h.n
  have hw := h.wk
  have hc := h.cap
  have hmo := h.most
  have hF := u9 h
  have hE := wm h
  have hcl := W5 p p.Workers.toNat
  have hfe : z7 p = ((p.Workers.toNat * (p.Cap.toNat + 2) : Nat) : Int) := by
    rw [hF.1]
    have e1 : p.Workers = ((p.Workers.toNat : Nat) : Int) := by omega
    have e2 : p.Cap + 2 = ((p.Cap.toNat + 2 : Nat) : Int) := by omega
    rw [e2, Int.natCast_mul]
    rw [← e1]
  have h0 : YR (z7 p) (zX p + 1) (ZJ p p.Workers.toNat ++ List.replicate (2 + zX p) 0#64) := by
    intro a ha
    have : ld (ZJ p p.Workers.toNat ++ List.replicate (2 + zX p) 0#64) a = 0#64 := by
      unfold ld
      rw [if_pos (by omega), List.getD_eq_getElem?_getD, List.getElem?_append_right (by omega), List.getElem?_replicate]
      split <;> rfl
    rw [this]
    exact zqd (by omega)
  have h1 : YR (z7 p) (zX p + 1) (vg p).M := by
    refine YR.lay (by omega) (by omega) (fun b hb' => ?_) (YR.lay (by omega) (by omega) (fun b hb' => ?_) h0)
    · have := zbV (List.mem_of_mem_drop hb'); omega
    · have := zbV (List.mem_of_mem_take hb'); omega
  have hlen : (vg p).M.length = p.Workers.toNat * (p.Cap.toNat + 2) + (2 + zX p) := by
    show (zas _ _ _ _).length = _
    rw [zk2, zk2, List.length_append, hcl, List.length_replicate]
  refine ⟨rfl, ?_, by omega, by rw [hlen]; omega, (h1 _ (by omega)).1, (h1 _ (by omega)).1, fun a ha => (h1 a (by omega)).2⟩
  have hd : (vg p).Bins.length = 1 + (xg p).length + (zX p - (xg p).length) := by
    show ([[]] ++ xg p ++ List.replicate (zX p - (xg p).length) ([] : List Int)).length = _
    rw [List.length_append, List.length_append, List.length_replicate]; rfl
  have h2 := hb.1
  have hmt := h.mt
  rw [hd]
  omega
def zdl (mode obj who : Int) : zA := ⟨0, mode, obj, who, ⟨0, 0, 0, 0, 0#64, 0#64, 0, 0⟩, ⟨0, 0, 0, 0, 0#64, 0, 0, 0⟩, 0, 0⟩
theorem zsW (a b c : Int) : zeS a b c = some (zdl a b c, ()) := by rw [zng]; rfl
end
end Go.Pe.G
namespace Go.Pe.G
open Go.Pe
noncomputable section
structure ZQ (s : za) : Prop where
  m : s.M.length < 1000000
  bins : s.Bins.length < 1000000
  bin : ∀ x ∈ s.Bins, x.length < 1000000
  acks : s.Acks.length < 1000000
  bal : s.L.Bal.length < 1000000
  ws : s.Ws.length < 1000000
  w : ∀ x ∈ s.Ws, x.Batch.length < 1000000
  ms : s.Ms.length < 1000000
  mu : ∀ x ∈ s.Ms, x.Regs.length < 1000000 ∧ x.Buf.length < 1000000 ∧ x.Batch.length < 1000000
  objs : s.H.Objs.length < 1000000
  obj : ∀ x ∈ s.H.Objs, x.length < 1000000
  pobjs : s.P.H.Objs.length < 1000000
  pobj : ∀ x ∈ s.P.H.Objs, x.length < 1000000
  regs : s.P.Regs.length < 1000000
  reg : ∀ x ∈ s.P.Regs, x.length < 1000000
  progs : s.P.Progs.length < 1000000
  prog : ∀ x ∈ s.P.Progs, x.length < 1000000
  picks : s.P.Picks.length < 1000000
theorem Uj (m : List (BitVec 64)) (c : zy) : (zm m c).1.length = m.length := by
  unfold zm sw
  split
  · rfl
  split
  · rfl
  split
  · split <;> simp [u0]
  · dsimp only; split <;> simp [u0]
theorem zen (m : List (BitVec 64)) (d : zg) : (yK m d).1.length = m.length := by
  unfold yK
  split
  · rfl
  split
  · rfl
  split
  · rfl
  split <;> simp [u0]
theorem XN (s : za) (g : zA) : ∃ m b t w f, (zF s g).1 = { s with M := m, Bins := b, T := t, Work := w, Flag := f } ∧ m.length = s.M.length ∧ b.length = s.Bins.length ∧
    (∀ x ∈ b, x ∈ s.Bins ∨ x = [g.Obj]) ∧ (t = s.T ∨ t = (wn s.T g.Obj).1) ∧ (w = s.Work ∨ w = wc (s.Work + 1) ∨ w = wc (s.Work - 1)) := by
  unfold zF
  split
  · exact ⟨s.M, s.Bins, s.T, s.Work, s.Flag, rfl, rfl, rfl, fun x h => .inl h, .inl rfl, .inl rfl⟩
  split
  · exact ⟨_, s.Bins, s.T, s.Work, s.Flag, rfl, Uj _ _, rfl, fun x h => .inl h, .inl rfl, .inl rfl⟩
  split
  · refine ⟨s.M, _, s.T, s.Work, s.Flag, rfl, rfl, by simp, fun x h => ?_, .inl rfl, .inl rfl⟩
    rcases List.mem_or_eq_of_mem_set h with h | h
    · exact .inl h
    · exact .inr h
  split
  · exact ⟨_, s.Bins, s.T, s.Work, s.Flag, rfl, Uj _ _, rfl, fun x h => .inl h, .inl rfl, .inl rfl⟩
  split
  · exact ⟨s.M, s.Bins, s.T, s.Work, true, rfl, rfl, rfl, fun x h => .inl h, .inl rfl, .inl rfl⟩
  split
  · exact ⟨_, s.Bins, s.T, s.Work, s.Flag, rfl, zen _ _, rfl, fun x h => .inl h, .inl rfl, .inl rfl⟩
  split
  · exact ⟨s.M, s.Bins, s.T, _, s.Flag, rfl, rfl, rfl, fun x h => .inl h, .inl rfl, .inr (.inr rfl)⟩
  split
  · exact ⟨s.M, s.Bins, _, s.Work, s.Flag, rfl, rfl, rfl, fun x h => .inl h, .inr rfl, .inl rfl⟩
  · exact ⟨s.M, s.Bins, s.T, _, s.Flag, rfl, rfl, rfl, fun x h => .inl h, .inl rfl, .inr (.inl rfl)⟩
theorem zxu {s : za} {g : zA} (h : ZQ s) : ZQ (zF s g).1 := by
  obtain ⟨m, b, t, w, f, e, h1, h2, h3, _, _⟩ := XN s g
  rw [e]
  refine ⟨by rw [h1]; exact h.m, by rw [h2]; exact h.bins, fun x hx => ?_, h.acks, h.bal, h.ws, h.w, h.ms, h.mu, h.objs, h.obj, h.pobjs, h.pobj, h.regs, h.reg, h.progs, h.prog, h.picks⟩
  rcases h3 x hx with h' | rfl
  · exact h.bin x h'
  · simp
theorem zoZ {p : zb} (h : zC p) : ZQ (vg p) := by
  have S := zsc h
  have hb := zfd h
  have hg := zjj h
  have hn := h.n
  have hm := h.mt
  have hw := h.wk
  have hs := h.slots
  have hrl := h.regs
  have hpl := h.progs
  have hobj : ∀ o ∈ p.H.Objs, o.length < 1000000 := fun o ho => by have := (h.objs o ho).1; omega
  have hreg : ∀ r ∈ p.Regs, r.length < 1000000 := fun r hr => by have := (h.reg r hr).1; omega
  refine ⟨by have := S.mem; omega, by rw [S.bins]; omega, fun x hx => ?_, ?_, ?_, ?_, fun x hx => ?_, ?_, fun x hx => ?_, by show p.H.Objs.length < _; omega, hobj, by show p.H.Objs.length < _; omega, hobj, by show p.Regs.length < _; omega, hreg, by show p.Progs.length < _; omega, fun x hx => ?_, ?_⟩
  · have hx : x ∈ [[]] ++ xg p ++ List.replicate (zX p - (xg p).length) [] := hx
    rcases List.mem_append.1 hx with hx | hx
    · rcases List.mem_append.1 hx with hx | hx
      · simp at hx; subst hx; simp
      · have := zgw _ _ _ _ hx; omega
    · have := (List.mem_replicate.1 hx).2; subst this; simp
  · show (List.replicate p.Mutators.toNat (0 : Int)).length < _; simp; omega
  · show (List.replicate p.Mutators.toNat (0 : Int)).length < _; simp; omega
  · show ((List.range p.Workers.toNat).map (ux p)).length < _; simp; omega
  · have hx : x ∈ (List.range p.Workers.toNat).map (ux p) := hx
    obtain ⟨i, _, rfl⟩ := List.mem_map.1 hx
    simp [ux]
  · show (p.Regs.map vD).length < _; simp; omega
  · have hx : x ∈ p.Regs.map vD := hx
    obtain ⟨r, hr, rfl⟩ := List.mem_map.1 hx
    exact ⟨hreg r hr, by simp [vD], by simp [vD]⟩
  · obtain ⟨i, hi⟩ := List.getElem?_of_mem hx
    have hlt := (List.getElem?_eq_some_iff.1 hi).1
    have := (h.prog i _ x (List.getElem?_eq_getElem (by have : p.Progs.length = p.Regs.length := by omega
                                                        have hlt : i < p.Progs.length := hlt
                                                        omega)) hi).1
    omega
  · show p.Picks.length < _; rw [h.picks]; simp
end
end Go.Pe.G
namespace Go.Pe.G
open Go.Pe
noncomputable section
theorem XK {α B C : Type} {f : List α × List α × Int × Int × Unit → Option (yY (List α × List α × Int × Int × Unit) B C)} {l : List α} {b : B} (hl : l.length < 1000000)
    (h1 : ∀ (i : Nat) (x : α), l[i]? = some x → f (l, l, (l.length : Int), (i : Int), ()) = some (.again (l, l, (l.length : Int), ((i + 1 : Nat) : Int), ())))
    (h2 : f (l, l, (l.length : Int), (l.length : Int), ()) = some (.brk b)) : yy f (l, l, (l.length : Int), 0, ()) = some (.brk b) := by
  refine (uq (f := f) (fun a => ∃ i : Nat, a = (l, l, (l.length : Int), (i : Int), ()) ∧ i ≤ l.length) (fun a => l.length - a.2.2.2.1.toNat) (fun o => o = .brk b) ?_ (l, l, (l.length : Int), 0, ()) ⟨0, rfl, by omega⟩ (wQ (by dsimp only; omega))).elim fun o h => ?_
  rotate_left
  · rw [h.1, h.2]
  · rintro _ ⟨i, rfl, hi⟩
    rcases Nat.lt_or_ge i l.length with hlt | hge
    · refine ⟨_, h1 i _ (List.getElem?_eq_getElem hlt), ⟨i + 1, rfl, hlt⟩, ?_⟩
      show l.length - ((i + 1 : Nat) : Int).toNat < l.length - (i : Int).toNat
      omega
    · have : i = l.length := by omega
      subst this
      exact ⟨_, h2, rfl⟩
theorem xZ {l : List (Int)} (hl : l.length < 1000000) : yg l l = some (true, ()) := by
  rw [zdJ, yG, if_pos rfl, XK (b := ()) hl (fun i x hx => ?_) (by rw [X9]; simp)]
  · rfl
  · have hlt := vZ hx
    rw [X9, zn, if_pos hlt, wy hx, Option.bind_some, Option.bind_some, xM (by omega)]
    simp
theorem zar {l : List (BitVec 64)} (hl : l.length < 1000000) : Zg l l = some (true, ()) := by
  rw [zap, yG, if_pos rfl, XK (b := ()) hl (fun i x hx => ?_) (by rw [ZT]; simp)]
  · rfl
  · have hlt := vZ hx
    rw [ZT, zn, if_pos hlt, wy hx, Option.bind_some, Option.bind_some, xM (by omega)]
    simp
theorem zbb {l : List (Int)} (hl : l.length < 1000000) : ZG l l = some (true, ()) := by
  rw [zby, yG, if_pos rfl, XK (b := ()) hl (fun i x hx => ?_) (by rw [YG]; simp)]
  · rfl
  · have hlt := vZ hx
    rw [YG, zn, if_pos hlt, wy hx, Option.bind_some, Option.bind_some, xM (by omega)]
    simp
theorem UF {l : List (zi)} (hl : l.length < 1000000) : uN l l = some (true, ()) := by
  rw [UN, yG, if_pos rfl, XK (b := ()) hl (fun i x hx => ?_) (by rw [ZA]; simp)]
  · rfl
  · have hlt := vZ hx
    rw [ZA, zn, if_pos hlt, wy hx, Option.bind_some, Option.bind_some, xM (by omega)]
    simp
theorem VG {l : List (zk)} (hl : l.length < 1000000) : vP l l = some (true, ()) := by
  rw [Vu, yG, if_pos rfl, XK (b := ()) hl (fun i x hx => ?_) (by rw [uP]; simp)]
  · rfl
  · have hlt := vZ hx
    rw [uP, zn, if_pos hlt, wy hx, Option.bind_some, Option.bind_some, xM (by omega)]
    simp
theorem wx {l : List (List Int)} (hl : l.length < 1000000) (he : ∀ x ∈ l, x.length < 1000000) : zt l l = some (true, ()) := by
  rw [vW, yG, if_pos rfl, XK (b := ()) hl (fun i x hx => ?_) (by rw [xd]; simp)]
  · rfl
  · have hlt := vZ hx
    rw [xd, zn, if_pos hlt, wy hx, Option.bind_some, Option.bind_some, xZ (he x (List.mem_of_getElem? hx)), Option.bind_some, xM (by omega)]
    simp
theorem Zc {l : List (List zi)} (hl : l.length < 1000000) (he : ∀ x ∈ l, x.length < 1000000) : ya l l = some (true, ()) := by
  rw [xW, yG, if_pos rfl, XK (b := ()) hl (fun i x hx => ?_) (by rw [yE]; simp)]
  · rfl
  · have hlt := vZ hx
    rw [yE, zn, if_pos hlt, wy hx, Option.bind_some, Option.bind_some, UF (he x (List.mem_of_getElem? hx)), Option.bind_some, xM (by omega)]
    simp
theorem zrw {w : ze} (h : w.Batch.length < 1000000) : Vw w w = some (true, ()) := by
  rw [zg0, xZ h]; simp
theorem zq7 {m : zd} (h : m.Regs.length < 1000000 ∧ m.Buf.length < 1000000 ∧ m.Batch.length < 1000000) : WK m m = some (true, ()) := by
  rw [zfX, xZ h.1, xZ h.2.1, xZ h.2.2, zem]; simp
theorem vl {l : List (ze)} (hl : l.length < 1000000) (he : ∀ x ∈ l, x.Batch.length < 1000000) : z3 l l = some (true, ()) := by
  rw [xJ, yG, if_pos rfl, XK (b := ()) hl (fun i x hx => ?_) (by rw [yz]; simp)]
  · rfl
  · have hlt := vZ hx
    rw [yz, zn, if_pos hlt, wy hx, Option.bind_some, Option.bind_some, zrw (he x (List.mem_of_getElem? hx)), Option.bind_some, xM (by omega)]
    simp
theorem wV {l : List (zd)} (hl : l.length < 1000000) (he : ∀ x ∈ l, x.Regs.length < 1000000 ∧ x.Buf.length < 1000000 ∧ x.Batch.length < 1000000) : zS l l = some (true, ()) := by
  rw [xp, yG, if_pos rfl, XK (b := ()) hl (fun i x hx => ?_) (by rw [yu]; simp)]
  · rfl
  · have hlt := vZ hx
    rw [yu, zn, if_pos hlt, wy hx, Option.bind_some, Option.bind_some, zq7 (he x (List.mem_of_getElem? hx)), Option.bind_some, xM (by omega)]
    simp
theorem zoG {h : zo} (h1 : h.Objs.length < 1000000) (h2 : ∀ x ∈ h.Objs, x.length < 1000000) : uT h h = some (true, ()) := by
  rw [znr, wx h1 h2]; simp
theorem zs1 {s : za} (h : ZQ s) : zbe s s = some (true, ()) := by
  have hp : ZB s.P s.P = some (true, ()) := by
    rw [znn, zgx, zoG h.pobjs h.pobj, wx h.regs h.reg, Zc h.progs h.prog, VG h.picks]
    simp
  have hl : um s.L s.L = some (true, ()) := by
    rw [zlp, zbb h.bal]; simp
  have hm : Yu s.M s.M = some (true, ()) := by
    rw [zpg, zar h.m]; rfl
  rw [zme, hp, zoG h.objs h.obj, hm, wx h.bins h.bin, xZ h.acks, hl, vl h.ws h.w, wV h.ms h.mu]
  simp
end
end Go.Pe.G
namespace Go.Pe.G
open Go.Pe
noncomputable section
def goF {S : Type} (g : Nat → S → S) : Nat → Nat → S → S
  | _, 0, s => s
  | i, k + 1, s => goF g (i + 1) k (g i s)
theorem zun {S : Type} {g : Nat → S → S} {Inv : S → Prop} (hg : ∀ i s, Inv s → Inv (g i s)) : ∀ (k i : Nat) (s : S), Inv s → Inv (goF g i k s)
  | 0, _, _, h => h
  | k + 1, i, s, h => zun hg k (i + 1) _ (hg i s h)
theorem zwm {S σ B C : Type} {f : σ → Option (yY σ B C)} (A : Int → S → σ) (b : S → B) (n : Nat) (hn : n < 1000000) (g : Nat → S → S) (Inv : S → Prop) (hg : ∀ i s, Inv s → Inv (g i s))
    (h1 : ∀ (i : Nat) s, i < n → Inv s → f (A (i : Int) s) = some (.again (A ((i + 1 : Nat) : Int) (g i s)))) (h2 : ∀ s, Inv s → f (A (n : Int) s) = some (.brk (b s))) {s : S} (hs : Inv s) :
    yy f (A 0 s) = some (.brk (b (goF g 0 n s))) := by
  have key : ∀ (k i : Nat) (s : S), n - i = k → i ≤ n → Inv s → ∀ m, k < m → xr f m (A (i : Int) s) = some (.brk (b (goF g i k s))) := by
    intro k
    induction k with
    | zero =>
      intro i s hk hi hs m hm
      have : i = n := by omega
      subst this
      obtain ⟨m, rfl⟩ : ∃ x, m = x + 1 := ⟨m - 1, by omega⟩
      simp only [xr]
      rw [h2 s hs]; rfl
    | succ k ih =>
      intro i s hk hi hs m hm
      obtain ⟨m, rfl⟩ : ∃ x, m = x + 1 := ⟨m - 1, by omega⟩
      simp only [xr]
      rw [h1 i s (by omega) hs, Option.bind_some]
      exact ih (i + 1) _ (by omega) (by omega) (hg i s hs) m (by omega)
  have := key n 0 s (by omega) (by omega) hs uX (wQ (by omega))
  rw [XU]
  exact this
end
end Go.Pe.G
namespace Go.Pe.G
open Go.Pe
noncomputable section
def zd4 (m : List (BitVec 64)) (d : zg) : List (BitVec 64) × zg :=
  if d.PC < 0 ∨ 7 ≤ d.PC then (m, d)
  else if d.PC = 0 then (m, { d with B := ld m (wc (d.Base + 1)), PC := 1 })
  else if d.PC = 1 then (st m (wc (d.Base + 1)) (d.B - 1#64), { d with PC := 2 })
  else if d.PC = 2 then (m, { d with T := ld m d.Base, PC := if 0 < (ld m d.Base - (d.B - 1#64)).toInt then 5 else 3 })
  else if d.PC = 3 then (m, { d with X := (ld m (ZE d (d.B - 1#64))).toInt, PC := 4, Out := if d.T = d.B - 1#64 then d.Out else 1 })
  else if d.PC = 4 then ((sw m d.Base d.T (d.T + 1#64)).1, { d with PC := if (sw m d.Base d.T (d.T + 1#64)).2 then 6 else 5 })
  else if d.PC = 5 then (st m (wc (d.Base + 1)) d.B, { d with X := 0, Out := 2, PC := 6 })
  else (st m (wc (d.Base + 1)) d.B, { d with Out := 1, PC := 7 })
def Uw (m : List (BitVec 64)) (d : zg) : List (BitVec 64) × zg :=
  if d.PC < 0 ∨ 4 ≤ d.PC then (m, d)
  else if d.PC = 0 then (m, { d with T := ld m d.Base, PC := 1 })
  else if d.PC = 1 then (m, { d with B := ld m (wc (d.Base + 1)), PC := 2, Out := if 0 < (ld m (wc (d.Base + 1)) - d.T).toInt then d.Out else 2 })
  else if d.PC = 2 then (m, { d with X := (ld m (ZE d d.T)).toInt, PC := 3 })
  else ((sw m d.Base d.T (d.T + 1#64)).1, if (sw m d.Base d.T (d.T + 1#64)).2 then { d with Out := 1, PC := 4 } else { d with X := 0, Out := 4, PC := 4 })
def zN (m : List (BitVec 64)) (d : zg) : List (BitVec 64) × zg :=
  if d.Out ≠ 0 then (m, d) else if d.Kind = 1 then yK m d else if d.Kind = 2 then zd4 m d else if d.Kind = 3 then Uw m d else (m, d)
theorem zrV {m : List (BitVec 64)} {d : zg} (h : d.Kind = 1) : zN m d = yK m d := by
  unfold zN
  by_cases h0 : d.Out ≠ 0
  · rw [if_pos h0]; unfold yK; rw [if_pos (.inl h0)]
  · rw [if_neg h0, if_pos h]
theorem zsi {α : Type} {x y : Option α} {v : α} (h : x = some v) : Option.or x y = some v := by subst h; rfl
theorem zeI {α : Type} {x y z : Option α} (h : x = none) (h2 : y = z) : Option.or x y = z := by subst h; exact h2
theorem zvc : wc 1 = 1 ∧ wc 2 = 2 ∧ wc 3 = 3 ∧ wc 4 = 4 ∧ wc 5 = 5 ∧ wc 6 = 6 ∧ wc 7 = 7 := by decide
theorem zt1 : w64 5 = 5 ∧ w64 6 = 6 ∧ w64 7 = 7 := by
  refine ⟨?_, ?_, ?_⟩ <;> exact yh (by omega) (by omega)
theorem zsy {m : List (BitVec 64)} (hm : m.length < 4294967296) {d : zg} (hc : d.Cap < 1000) : V5 m d = some ((zN m d).1, (zN m d).2, ()) := by
  by_cases k1 : d.Kind = 1
  · rw [zrV k1]; exact zgv hm k1 hc
  obtain ⟨w0, w1, w2, w3, w4⟩ := zq2
  obtain ⟨w5, w6, w7⟩ := zt1
  obtain ⟨v1, v2, v3, v4, v5, v6, v7⟩ := zvc
  have hsb : ∀ d : zg, wF m d = some (m, { d with B := ld m (wc (d.Base + 1)) }, ()) := fun d => by
    rw [Xi, xq, ug, Option.bind_some, XM]; rfl
  have htk : ∀ d : zg, Yx m d = some ((sw m d.Base d.T (d.T + 1#64)).1, (sw m d.Base d.T (d.T + 1#64)).2, ()) := fun d => by
    obtain ⟨v, hv⟩ := znq hm d.Base d.T (d.T + 1#64)
    rw [zfT, ZD, Option.bind_some, hv]; rfl
  rw [zgh, zdS, zkF, zkx, zko]
  simp only [zn, yG, if_neg k1]
  unfold zN
  by_cases k2 : d.Kind = 2
  · refine zeI (by simp [k2]) (zsi ?_)
    rw [if_pos k2, Option.bind_some]
    by_cases g0 : d.Out = 0
    rotate_left
    · rw [if_neg g0, if_pos (show d.Out ≠ 0 from g0)]
    rw [if_pos g0, if_neg (show ¬ (d.Out ≠ 0) from fun e => e g0), if_neg k1, if_pos k2]
    unfold zd4
    by_cases g1 : d.PC < 0
    · rw [if_pos g1, if_pos (.inl g1)]
    rw [if_neg g1]
    by_cases g2 : 7 ≤ d.PC
    · rw [if_pos g2, if_pos (.inr g2)]
    rw [if_neg g2, if_neg (show ¬ (d.PC < 0 ∨ 7 ≤ d.PC) by omega)]
    have hpc : d.PC = 0 ∨ d.PC = 1 ∨ d.PC = 2 ∨ d.PC = 3 ∨ d.PC = 4 ∨ d.PC = 5 ∨ d.PC = 6 := by omega
    rcases hpc with h | h | h | h | h | h | h
    · simp [h, hsb, w1]
    · simp [h, zfG, xq, ug, U0 hm, v1, v2, v3, v4, v5, v6, v7]
    · rw [h, if_neg (by decide), if_neg (by decide), if_neg (by decide), if_neg (by decide), if_pos rfl, if_neg (by decide), if_neg (by decide), if_pos rfl]
      simp only [zbT, ZD, Option.bind_some, XM, ze3, zn]
      by_cases hs : 0 < (ld m d.Base - (d.B - 1#64)).toInt
      · simp only [if_pos hs, Option.bind_some, Int.reduceAdd, w5]
      · simp only [if_neg hs, Option.bind_some, h, Int.reduceAdd, w3]
    · simp only [h, zex, zgK hc, Option.bind_some, XM, yG, wo]
      by_cases hs : d.T = d.B - 1#64
      · simp [hs, w4, h]
      · simp [hs, w4, h]
    · simp only [h, zdF, htk, Option.bind_some]
      cases hs : (sw m d.Base d.T (d.T + 1#64)).2 with
      | true => simp [hs, w6, h]
      | false => simp [hs, w5, h]
    · simp [h, zdy, wo, k1, xq, ug, U0 hm, v1, v2, v3, v4, v5, v6, v7]
    · simp [h, zep, wo, xq, ug, U0 hm, v1, v2, v3, v4, v5, v6, v7]
  by_cases k3 : d.Kind = 3
  · refine zeI (by simp [k2, k3]) (zeI (by simp [k2, k3]) (zsi ?_))
    rw [if_neg k2, if_pos k3, Option.bind_some]
    by_cases g0 : d.Out = 0
    rotate_left
    · rw [if_neg g0, if_pos (show d.Out ≠ 0 from g0)]
    rw [if_pos g0, if_neg (show ¬ (d.Out ≠ 0) from fun e => e g0), if_neg k1, if_neg k2, if_pos k3]
    unfold Uw
    by_cases g1 : d.PC < 0
    · rw [if_pos g1, if_pos (.inl g1)]
    rw [if_neg g1]
    by_cases g2 : 4 ≤ d.PC
    · rw [if_pos g2, if_pos (.inr g2)]
    rw [if_neg g2, if_neg (show ¬ (d.PC < 0 ∨ 4 ≤ d.PC) by omega)]
    have hpc : d.PC = 0 ∨ d.PC = 1 ∨ d.PC = 2 ∨ d.PC = 3 := by omega
    rcases hpc with h | h | h | h
    · simp [h, zew, ZD, XM, w1]
    · rw [h, if_neg (by decide), if_neg (by decide), if_pos rfl, if_neg (by decide), if_pos rfl]
      simp only [zeu, xq, Option.bind_some, XM, ze3, yG, ug]
      by_cases hs : 0 < (ld m (wc (d.Base + 1)) - d.T).toInt
      · simp only [if_pos hs, Option.bind_some, Int.reduceAdd, v2, h]
      · simp only [if_neg hs, Option.bind_some, Int.reduceAdd, v2, h]
    · simp [h, zdI, zgK hc, XM, w3]
    · simp only [h, zcc, htk, Option.bind_some, wo]
      cases hs : (sw m d.Base d.T (d.T + 1#64)).2 with
      | true => simp [hs, w4, h]
      | false => simp [hs, w4, h, k1]
  · refine zeI (by simp [k2, k3]) (zeI (by simp [k2, k3]) (zeI (by simp [k2, k3]) ?_))
    rw [if_neg k2, if_neg k3, Option.bind_some]
    by_cases g0 : d.Out = 0
    · simp [g0, k1, k2, k3]
    · simp [g0]
theorem zsR (m : List (BitVec 64)) (d : zg) : (zd4 m d).1.length = m.length ∧ (zd4 m d).2.Kind = d.Kind ∧ (zd4 m d).2.Base = d.Base ∧ (zd4 m d).2.Cap = d.Cap := by
  unfold zd4 sw st
  split
  · exact ⟨rfl, rfl, rfl, rfl⟩
  split
  · exact ⟨rfl, rfl, rfl, rfl⟩
  split
  · refine ⟨?_, rfl, rfl, rfl⟩; dsimp only; split <;> simp
  split
  · exact ⟨rfl, rfl, rfl, rfl⟩
  split
  · exact ⟨rfl, rfl, rfl, rfl⟩
  split
  · refine ⟨?_, rfl, rfl, rfl⟩; dsimp only; split <;> (try split) <;> simp
  split <;> (refine ⟨?_, rfl, rfl, rfl⟩; dsimp only; split <;> simp)
theorem zpM (m : List (BitVec 64)) (d : zg) : (Uw m d).1.length = m.length ∧ (Uw m d).2.Kind = d.Kind ∧ (Uw m d).2.Base = d.Base ∧ (Uw m d).2.Cap = d.Cap := by
  unfold Uw sw st
  split
  · exact ⟨rfl, rfl, rfl, rfl⟩
  split
  · exact ⟨rfl, rfl, rfl, rfl⟩
  split
  · exact ⟨rfl, rfl, rfl, rfl⟩
  split
  · exact ⟨rfl, rfl, rfl, rfl⟩
  · refine ⟨?_, ?_, ?_, ?_⟩ <;> dsimp only <;> split <;> (try split) <;> simp
end
end Go.Pe.G
namespace Go.Pe.G
open Go.Pe
noncomputable section
def zO (h : zo) (o : Int) : List Int := h.Objs.getD (o - 1).toNat []
def Ui (h : zo) (o s : Int) : Bool := decide (1 ≤ o) && decide (o ≤ (h.Objs.length : Int)) && decide (0 ≤ s) && decide (s < ((zO h o).length : Int))
def xG (h : zo) (o s : Int) : Int := if Ui h o s then (zO h o).getD s.toNat 0 else 0
def yA (s : BitVec 64) (o : Int) : Bool := !(decide (s &&& bit o = 0#64))
def uj (t : zj) (o : Int) : Int := if yA (t.Marks &&& t.Black) o then 2 else if yA t.Marks o then 1 else 0
def u6 (t : zj) (o : Int) : zj := if uj t o = 1 then { t with Black := t.Black ||| bit o } else t
def zcG (l : zp) (who : Int) : zp :=
  if 1 ≤ who ∧ who ≤ (l.Bal.length : Int) then { l with Scanned := wc (l.Scanned + 1), Bal := l.Bal.set (who - 1).toNat (wc (l.Bal.getD (who - 1).toNat 0 + 1)) }
  else { l with Scanned := wc (l.Scanned + 1), Pool := wc (l.Pool + 1) }
def zbd (s : za) (b : Int) : List Int := s.Bins.getD b.toNat []
def zvo (p : zb) (h x : Int) : zy := ⟨2, 0, h, zD p, 0#64, x, 0, 0⟩
def zgg (p : zb) (h x : Int) : zy := ⟨1, 0, h, zD p, 0#64, x, 0, 0⟩
def onW (s : za) (slot : Int) : Int := if slot = s.H.Slots then 8 else 5
def Ub (p : zb) (w : Int) (x : ze) : ze := { x with PC := 0, Victim := w, D := ⟨2, 0, zI p w, p.Cap, 0#64, 0#64, 0, 0⟩ }
def zeD (n v : Int) : Int := if v < n then v + 1 else 1
def Yq (p : zb) (w : Int) (x : ze) : ze :=
  if zeD p.Workers x.Victim = w then { x with PC := 2, Victim := w, C := zvo p (z7 p) 0 }
  else { x with PC := 1, Victim := zeD p.Workers x.Victim, D := ⟨3, 0, zI p (zeD p.Workers x.Victim), p.Cap, 0#64, 0#64, 0, 0⟩ }
def zw (s : za) (w : Int) (x : ze) : za × ze :=
  if x.PC = 0 ∨ x.PC = 1 then
    ({ s with M := (zN s.M x.D).1 },
      if (zN s.M x.D).2.Out = 1 then { x with D := (zN s.M x.D).2, Victim := w, PC := 5, Obj := (zN s.M x.D).2.X, Slot := 0 }
      else if (zN s.M x.D).2.Out = 2 ∨ (zN s.M x.D).2.Out = 4 then Yq s.P w { x with D := (zN s.M x.D).2 } else { x with D := (zN s.M x.D).2 })
  else if x.PC = 2 then
    ({ s with M := (zm s.M x.C).1 },
      if (zm s.M x.C).2.Out = 1 then { x with C := (zm s.M x.C).2, Bin := (zm s.M x.C).2.X, PC := 3 }
      else if (zm s.M x.C).2.Out = 2 then Ub s.P w { x with C := (zm s.M x.C).2 } else { x with C := (zm s.M x.C).2 })
  else if x.PC = 3 then ({ s with Bins := s.Bins.set x.Bin.toNat [] }, { x with Batch := zbd s x.Bin, PC := 4, C := zgg s.P (zD s.P) x.Bin })
  else if x.PC = 4 then
    ({ s with M := (zm s.M x.C).1 }, if (zm s.M x.C).2.Out = 1 then { x with C := (zm s.M x.C).2, Bin := 0, PC := 7 } else { x with C := (zm s.M x.C).2 })
  else if x.PC = 5 then
    (s, if xG s.H x.Obj x.Slot = 0 then { x with Slot := wc (x.Slot + 1), PC := onW s (wc (x.Slot + 1)) } else { x with Slot := wc (x.Slot + 1), PC := 6, G := zdl 1 (xG s.H x.Obj x.Slot) w })
  else if x.PC = 6 then ((zF s x.G).1, if (zF s x.G).2.Out = 1 then { x with G := (zF s x.G).2, PC := onW s x.Slot } else { x with G := (zF s x.G).2 })
  else if x.PC = 7 then (s, match x.Batch with | [] => Ub s.P w x | o :: l => { x with Batch := l, PC := 5, Obj := o, Slot := 0 })
  else if x.PC = 8 then ({ s with T := u6 s.T x.Obj, L := zcG s.L 0 }, { x with PC := 9 })
  else if x.PC = 9 then ({ s with Work := wc (s.Work - 1) }, { x with Obj := 0, PC := 7 })
  else (s, x)
def zW (s : za) (w : Int) : za :=
  if s.Done = true ∨ w < 1 ∨ (s.Ws.length : Int) < w then s
  else match s.Ws[(w - 1).toNat]? with
    | some x => { (zw s w x).1 with Ws := s.Ws.set (w - 1).toNat (zw s w x).2 }
    | none => s
structure zs8 (p : zb) (nb : Nat) (hd : Int) (c : zy) : Prop where
  k : c.Kind = 2
  h : c.Head = hd
  n : c.Next = zD p
  v : 1 ≤ c.PC → 1 ≤ yo c.H ∧ yo c.H < nb
  y : 2 ≤ c.PC → 0 ≤ c.Y ∧ c.Y < nb
  o : c.Out ≠ 1
structure zqU (p : zb) (nb : Nat) (hd : Int) (c : zy) : Prop where
  k : c.Kind = 1
  h : c.Head = hd
  n : c.Next = zD p
  x : 1 ≤ c.X ∧ c.X < nb
  v : 1 ≤ c.PC → yo c.H < nb
theorem zrZ {p : zb} {nb : Nat} {hd x : Int} : zs8 p nb hd (zvo p hd x) :=
  ⟨rfl, rfl, rfl, fun e => absurd e (by show ¬ (1 : Int) ≤ 0; decide), fun e => absurd e (by show ¬ (2 : Int) ≤ 0; decide), by show (0 : Int) ≠ 1; decide⟩
theorem zrg {p : zb} {nb : Nat} {hd x : Int} (h : 1 ≤ x ∧ x < nb) : zqU p nb hd (zgg p hd x) :=
  ⟨rfl, rfl, rfl, h, fun e => absurd e (by show ¬ (1 : Int) ≤ 0; decide)⟩
structure WOk (p : zb) (nb : Nat) (w : Int) (x : ze) : Prop where
  pc : 0 ≤ x.PC ∧ x.PC ≤ 9
  vic : 1 ≤ x.Victim ∧ x.Victim ≤ p.Workers
  d0 : x.PC = 0 → x.D.Kind = 2 ∧ x.D.Base = zI p w ∧ x.D.Cap = p.Cap
  d1 : x.PC = 1 → x.D.Kind = 3 ∧ x.D.Base = zI p x.Victim ∧ x.D.Cap = p.Cap
  c2 : x.PC = 2 → zs8 p nb (z7 p) x.C
  b3 : x.PC = 3 → 1 ≤ x.Bin ∧ x.Bin < nb
  c4 : x.PC = 4 → zqU p nb (zD p) x.C
  g6 : x.PC = 6 → MOk p nb x.G ∧ (x.G.PC = 5 → x.G.C.Out ≠ 1) ∧ x.G.Mode = 1 ∧ x.G.PC ≠ 4
theorem WOk.plain {p : zb} {nb : Nat} {w : Int} {x : ze} (pc : x.PC = 5 ∨ x.PC = 7 ∨ x.PC = 8 ∨ x.PC = 9) (vic : 1 ≤ x.Victim ∧ x.Victim ≤ p.Workers) : WOk p nb w x :=
  ⟨by omega, vic, fun e => by omega, fun e => by omega, fun e => by omega, fun e => by omega, fun e => by omega, fun e => by omega⟩
theorem SOk.swLow {p : zb} {nb : Nat} {s : za} (h : zC p) (S : SOk p nb s) {a : Int} (ha : a < z7 p) (x v : BitVec 64) : SOk p nb { s with M := (sw s.M a x v).1 } := by
  unfold sw
  split
  · exact S.low h ha v
  · exact S
theorem zxD {p : zb} {nb : Nat} {s : za} (h : zC p) (S : SOk p nb s) {d : zg} {v : Int} (hv : 1 ≤ v ∧ v ≤ p.Workers) (hk : d.Kind = 2 ∨ d.Kind = 3) (hb : d.Base = zI p v) : SOk p nb { s with M := (zN s.M d).1 } := by
  have hd := Zy h hv.1 hv.2
  have hc := h.cap
  have hf := u9 h
  have e1 : wc (d.Base + 1) = d.Base + 1 := wO (by omega) (by omega)
  unfold zN
  split
  · exact S
  split
  · omega
  split
  · unfold zd4
    rw [e1]
    split
    · exact S
    split
    · exact S
    split
    · exact S.low h (by omega) _
    split
    · exact S
    split
    · exact S
    split
    · exact S.swLow h (by omega) _ _
    split <;> exact S.low h (by omega) _
  split
  · unfold Uw
    split
    · exact S
    split
    · exact S
    split
    · exact S
    split
    · exact S
    · exact S.swLow h (by omega) _ _
  · exact S
theorem zgG (m : List (BitVec 64)) (d : zg) : (zN m d).1.length = m.length ∧ (zN m d).2.Kind = d.Kind ∧ (zN m d).2.Base = d.Base ∧ (zN m d).2.Cap = d.Cap := by
  unfold zN
  split
  · exact ⟨rfl, rfl, rfl, rfl⟩
  split
  · unfold yK
    split
    · exact ⟨rfl, rfl, rfl, rfl⟩
    split
    · exact ⟨rfl, rfl, rfl, rfl⟩
    split
    · refine ⟨rfl, ?_, ?_, ?_⟩ <;> dsimp only <;> split <;> rfl
    split <;> exact ⟨u0 _ _ _, rfl, rfl, rfl⟩
  split
  · exact zsR m d
  split
  · exact zpM m d
  · exact ⟨rfl, rfl, rfl, rfl⟩
theorem zu1 {n v : Int} (h : 1 ≤ v ∧ v ≤ n) : 1 ≤ zeD n v ∧ zeD n v ≤ n := by unfold zeD; split <;> omega
theorem WOk.look {p : zb} {nb : Nat} {w : Int} {x : ze} (hw : 1 ≤ w ∧ w ≤ p.Workers) (vic : 1 ≤ x.Victim ∧ x.Victim ≤ p.Workers) : WOk p nb w (Yq p w x) := by
  have hn := zu1 vic
  unfold Yq
  split
  · exact ⟨⟨(by show (0 : Int) ≤ 2; decide), (by show (2 : Int) ≤ 9; decide)⟩, hw, fun e => (by cases e), fun e => (by cases e), fun _ => zrZ, fun e => (by cases e), fun e => (by cases e), fun e => (by cases e)⟩
  · exact ⟨⟨(by show (0 : Int) ≤ 1; decide), (by show (1 : Int) ≤ 9; decide)⟩, hn, fun e => (by cases e), fun _ => ⟨rfl, rfl, rfl⟩, fun e => (by cases e), fun e => (by cases e), fun e => (by cases e), fun e => (by cases e)⟩
theorem WOk.begin {p : zb} {nb : Nat} {w : Int} {x : ze} (hw : 1 ≤ w ∧ w ≤ p.Workers) : WOk p nb w (Ub p w x) :=
  ⟨⟨(by show (0 : Int) ≤ 0; decide), (by show (0 : Int) ≤ 9; decide)⟩, hw, fun _ => ⟨rfl, rfl, rfl⟩, fun e => (by cases e), fun e => (by cases e), fun e => (by cases e), fun e => (by cases e), fun e => (by cases e)⟩
theorem zsf (s : za) {g : zA} (h1 : g.Mode = 1) (h4 : g.PC ≠ 4) : (zF s g).2.PC ≠ 4 ∧ (zF s g).1.Flag = s.Flag := by
  have five : (5 : Int) ≠ 4 := by decide
  unfold zF
  split
  · exact ⟨h4, rfl⟩
  split
  · refine ⟨?_, rfl⟩; unfold zcv; dsimp only; split <;> exact h4
  split
  · exact ⟨(by show (7 : Int) ≠ 4; decide), rfl⟩
  split
  · refine ⟨?_, rfl⟩; unfold ziK; dsimp only
    split
    · show (6 : Int) ≠ 4; decide
    split
    · exact five
    · exact h4
  split
  · refine ⟨?_, rfl⟩; unfold zil; dsimp only
    split
    · exact h4
    split
    · exact five
    · exact h4
  split
  · exact ⟨h4, rfl⟩
  split
  · refine ⟨?_, rfl⟩; unfold ziy; dsimp only
    split
    · show (2 : Int) ≠ 4; decide
    · show (3 : Int) ≠ 4; decide
  · exact ⟨(by show (1 : Int) ≠ 4; decide), rfl⟩
theorem zjD (s : za) (i : Int) : onW s i = 5 ∨ onW s i = 8 := by unfold onW; split <;> simp
theorem SOk.keep {p : zb} {nb : Nat} {s s' : za} (S : SOk p nb s) (hP : s'.P = s.P) (hM : s'.M = s.M) (hB : s'.Bins.length = s.Bins.length) : SOk p nb s' :=
  ⟨hP.trans S.P, hB.trans S.bins, S.nbk, by rw [hM]; exact S.mem, by rw [hM]; exact S.cF, by rw [hM]; exact S.cE, by rw [hM]; exact S.cL⟩
theorem zr8 {p : zb} {nb : Nat} {s : za} {w : Int} {x : ze} (h : zC p) (hw : 1 ≤ w ∧ w ≤ p.Workers) (S : SOk p nb s) (W : WOk p nb w x) : SOk p nb (zw s w x).1 ∧ WOk p nb w (zw s w x).2 := by
  have hP := S.P
  unfold zw
  split
  · rename_i h01
    have hv : ∃ v, (1 ≤ v ∧ v ≤ p.Workers) ∧ (x.D.Kind = 2 ∨ x.D.Kind = 3) ∧ x.D.Base = zI p v := by
      rcases h01 with e | e
      · obtain ⟨a, b, c⟩ := W.d0 e; exact ⟨w, hw, .inl a, b⟩
      · obtain ⟨a, b, c⟩ := W.d1 e; exact ⟨x.Victim, W.vic, .inr a, b⟩
    obtain ⟨v, hv1, hv2, hv3⟩ := hv
    refine ⟨zxD h S hv1 hv2 hv3, ?_⟩
    obtain ⟨l1, l2, l3, l4⟩ := zgG s.M x.D
    dsimp only
    split
    · exact WOk.plain (.inl rfl) hw
    split
    · rw [hP]; exact WOk.look hw W.vic
    · refine ⟨W.pc, W.vic, fun e => ?_, fun e => ?_, fun e => by dsimp only at e; omega, fun e => by dsimp only at e; omega, fun e => by dsimp only at e; omega, fun e => by dsimp only at e; omega⟩
      · obtain ⟨a, b, c⟩ := W.d0 e; exact ⟨l2.trans a, l3.trans b, l4.trans c⟩
      · obtain ⟨a, b, c⟩ := W.d1 e; exact ⟨l2.trans a, l3.trans b, l4.trans c⟩
  split
  · rename_i h2
    have C := W.c2 h2
    obtain ⟨b1, b2, b3, b4, b5, b6⟩ := zp6 h S (.inl rfl) C.k C.h C.n C.v C.y C.o
    refine ⟨b1, ?_⟩
    dsimp only
    split
    · rename_i e1
      exact ⟨⟨(by show (0 : Int) ≤ 3; decide), (by show (3 : Int) ≤ 9; decide)⟩, W.vic, fun e => (by cases e), fun e => (by cases e), fun e => (by cases e), fun _ => b6 e1, fun e => (by cases e), fun e => (by cases e)⟩
    split
    · rw [hP]; exact WOk.begin hw
    · rename_i e1 e2
      exact ⟨W.pc, W.vic, fun e => (by dsimp only at e; omega), fun e => (by dsimp only at e; omega), fun _ => ⟨b2, b3, b4, (b5 e1 e2).1, (b5 e1 e2).2, e1⟩, fun e => (by dsimp only at e; omega), fun e => (by dsimp only at e; omega), fun e => (by dsimp only at e; omega)⟩
  split
  · rename_i h3
    have B := W.b3 h3
    refine ⟨S.keep rfl rfl (by simp), ?_⟩
    rw [hP]
    exact ⟨⟨(by show (0 : Int) ≤ 4; decide), (by show (4 : Int) ≤ 9; decide)⟩, W.vic, fun e => (by cases e), fun e => (by cases e), fun e => (by cases e), fun e => (by cases e), fun _ => zrg B, fun e => (by cases e)⟩
  split
  · rename_i h4
    have C := W.c4 h4
    obtain ⟨b1, b2, b3, b4, b5, b6⟩ := znC h S (.inr rfl) C.k C.h C.n C.x C.v
    refine ⟨b1, ?_⟩
    dsimp only
    split
    · exact WOk.plain (.inr (.inl rfl)) W.vic
    · exact ⟨W.pc, W.vic, fun e => (by dsimp only at e; omega), fun e => (by dsimp only at e; omega), fun e => (by dsimp only at e; omega), fun e => (by dsimp only at e; omega), fun _ => ⟨b2, b3, b4, b5, b6⟩, fun e => (by dsimp only at e; omega)⟩
  split
  · refine ⟨S, ?_⟩
    dsimp only
    split
    · rcases zjD s (wc (x.Slot + 1)) with e | e <;> rw [e]
      · exact WOk.plain (.inl rfl) W.vic
      · exact WOk.plain (.inr (.inr (.inl rfl))) W.vic
    · exact ⟨⟨(by show (0 : Int) ≤ 6; decide), (by show (6 : Int) ≤ 9; decide)⟩, W.vic, fun e => (by cases e), fun e => (by cases e), fun e => (by cases e), fun e => (by cases e), fun e => (by cases e), fun _ =>
        ⟨⟨fun _ => hw, fun e => (by cases e), fun e => (by cases e), fun e => (by cases e), fun e => (by cases e)⟩, fun e => (by cases e), rfl, by show (0 : Int) ≠ 4; decide⟩⟩
  split
  · rename_i h6
    obtain ⟨g1, g2, g3, g4⟩ := W.g6 h6
    obtain ⟨r1, r2, r3⟩ := zkj h S g1 g2
    refine ⟨r1, ?_⟩
    dsimp only
    split
    · rcases zjD s x.Slot with e | e <;> rw [e]
      · exact WOk.plain (.inl rfl) W.vic
      · exact WOk.plain (.inr (.inr (.inl rfl))) W.vic
    · exact ⟨W.pc, W.vic, fun e => (by dsimp only at e; omega), fun e => (by dsimp only at e; omega), fun e => (by dsimp only at e; omega), fun e => (by dsimp only at e; omega), fun e => (by dsimp only at e; omega), fun _ => ⟨r2, r3, (zfi s x.G).2.2.trans g3, (zsf s g3 g4).1⟩⟩
  split
  · refine ⟨S, ?_⟩
    dsimp only
    split
    · rw [hP]; exact WOk.begin hw
    · exact WOk.plain (.inl rfl) W.vic
  split
  · exact ⟨S.keep rfl rfl rfl, WOk.plain (.inr (.inr (.inr rfl))) W.vic⟩
  split
  · exact ⟨S.keep rfl rfl rfl, WOk.plain (.inr (.inl rfl)) W.vic⟩
  · have := W.pc
    omega
end
end Go.Pe.G
namespace Go.Pe.G
open Go.Pe
noncomputable section
def znN (h : zo) (o s v : Int) : zo :=
  if Ui h o s = true ∧ 0 ≤ v ∧ v ≤ (h.Objs.length : Int) then { h with Objs := h.Objs.set (o - 1).toNat ((zO h o).set s.toNat v) } else h
def zsr (h : zo) (most : Int) : Bool := decide ((h.Objs.length : Int) < most) && decide ((h.Objs.length : Int) < 64)
def zp9 (h : zo) : zo := { h with Objs := h.Objs ++ [List.replicate h.Slots.toNat 0] }
def zxd (t : zj) (o : Int) : zj := if (wn t o).2 = true then u6 (wn t o).1 o else t
def zpE (l : zp) (who : Int) : Int := l.Bal.getD (who - 1).toNat 0
def zug (l : zp) (who : Int) : Bool := decide (1 ≤ who) && decide (who ≤ (l.Bal.length : Int))
def zsd (l : zp) (who price limit : Int) : Bool := zug l who && decide (0 ≤ price) && decide (0 ≤ limit) && decide (price ≤ 1000000) && decide (limit ≤ 1000000)
def zxc (l : zp) (who price limit : Int) : Bool := zsd l who price limit && decide (wc (-limit) ≤ wc (zpE l who - price))
def zrd (l : zp) (who price : Int) : zp := { l with Spent := wc (l.Spent + price), Bal := l.Bal.set (who - 1).toNat (wc (zpE l who - price)) }
def ztE (l : zp) (who price limit : Int) : Int := if zsd l who price limit then (if zxc l who price limit then 0 else wc (wc (price - limit) - zpE l who)) else -1
def zs4 (a b : Int) : Int := if b < a then b else a
def zpu (l : zp) (who want : Int) : zp × Int :=
  if zug l who = true ∧ 0 < zs4 want l.Pool then ({ l with Pool := wc (l.Pool - zs4 want l.Pool), Bal := l.Bal.set (who - 1).toNat (wc (zpE l who + zs4 want l.Pool)) }, zs4 want l.Pool) else (l, 0)
def XP (p : zb) (m : Int) : List zi := p.Progs.getD (m - 1).toNat []
def opM (p : zb) (m : Int) (x : zd) : zi := (XP p m).getD x.IP.toNat ⟨0, 0, 0, 0⟩
def zqm (x : zd) (r : Int) : Int := x.Regs.getD r.toNat 0
def zpD (x : zd) : zd := { x with PC := 0, IP := wc (x.IP + 1) }
def setM (x : zd) (r v : Int) : zd := { x with PC := 0, IP := wc (x.IP + 1), Regs := x.Regs.set r.toNat v }
def onM (s : za) (slot : Int) : Int := if slot = s.H.Slots then 38 else 36
def zvM (s : za) (m : Int) (x : zd) : Int := xG s.H (zqm x (opM s.P m x).A) (opM s.P m x).S
def zjz (s : za) (m : Int) (x : zd) : zd :=
  if s.Acks.getD (m - 1).toNat 0 < s.Epoch then { x with PC := 1, Ret := 2, Want := s.Epoch }
  else if ((XP s.P m).length : Int) ≤ x.IP then x
  else if (opM s.P m x).Kind = 1 then { x with PC := 10 }
  else if (opM s.P m x).Kind = 2 then { x with PC := 20 }
  else if (opM s.P m x).Kind = 3 then { x with PC := 30 }
  else if (opM s.P m x).Kind = 4 then setM x (opM s.P m x).R (zqm x (opM s.P m x).A)
  else setM x (opM s.P m x).R 0
def mu0 (s : za) (m : Int) (x : zd) : za × zd :=
  (s, zjz s m x)
def mu1 (s : za) (m : Int) (x : zd) : za × zd :=
  (s, if x.Buf.length = 0 then { x with PC := x.Ret } else { x with PC := 3, Buf := x.Buf.take (x.Buf.length - 1), G := zdl 2 (x.Buf.getD (x.Buf.length - 1) 0) m })
def mu2 (s : za) (m : Int) (x : zd) : za × zd :=
  ({ s with Acks := s.Acks.set (m - 1).toNat x.Want }, { x with PC := 0 })
def mu3 (s : za) (m : Int) (x : zd) : za × zd :=
  ((zF s x.G).1, if (zF s x.G).2.Out = 1 then { x with PC := 1, G := (zF s x.G).2 } else { x with G := (zF s x.G).2 })
def zn4 (s : za) (m : Int) (x : zd) : za × zd :=
  (s, setM x (opM s.P m x).R (zvM s m x))
def zlQ (s : za) (m : Int) (x : zd) : za × zd :=
  (s, if zqm x (opM s.P m x).A = 0 then zpD x else { x with PC := 21, Old := zvM s m x })
def zlf (s : za) (m : Int) (x : zd) : za × zd :=
  (s, if x.Old = 0 ∨ uj s.T x.Old ≠ 0 then { x with PC := 23, Old := 0 } else { x with PC := 22 })
def zk8 (s : za) (m : Int) (x : zd) : za × zd :=
  (s, if s.P.Buf ≤ (x.Buf.length : Int) then { x with PC := 1, Ret := 22 } else { x with PC := 23, Old := 0, Buf := x.Buf ++ [x.Old] })
def zn7 (s : za) (m : Int) (x : zd) : za × zd :=
  ({ s with H := znN s.H (zqm x (opM s.P m x).A) (opM s.P m x).S (zqm x (opM s.P m x).R) }, zpD x)
def ziC (s : za) (m : Int) (x : zd) : za × zd :=
     if zxc s.L m s.P.Price s.P.Limit = true then
      if zsr s.H s.P.Most = true then ({ s with L := zrd s.L m s.P.Price, H := zp9 s.H, T := zxd s.T (wc (s.H.Objs.length + 1)) }, setM x (opM s.P m x).R (wc (s.H.Objs.length + 1)))
      else (s, zpD x)
    else (s, { x with PC := 31 })
def zlN (s : za) (m : Int) (x : zd) : za × zd :=
     ({ s with L := (zpu s.L m (ztE s.L m s.P.Price s.P.Limit)).1 }, if (zpu s.L m (ztE s.L m s.P.Price s.P.Limit)).2 = 0 then { x with PC := 32, C := zvo s.P (z7 s.P) x.Bin } else { x with PC := 0 })
def zlq (s : za) (m : Int) (x : zd) : za × zd :=
     ({ s with M := (zm s.M x.C).1 }, if (zm s.M x.C).2.Out = 1 then { x with PC := 33, Bin := (zm s.M x.C).2.X, C := (zm s.M x.C).2 }
      else if (zm s.M x.C).2.Out = 2 then { x with PC := 0, C := (zm s.M x.C).2 } else { x with C := (zm s.M x.C).2 })
def zn3 (s : za) (m : Int) (x : zd) : za × zd :=
  ({ s with Bins := s.Bins.set x.Bin.toNat [] }, { x with Batch := zbd s x.Bin, PC := 34, C := zgg s.P (zD s.P) x.Bin })
def zlU (s : za) (m : Int) (x : zd) : za × zd :=
     ({ s with M := (zm s.M x.C).1 }, if (zm s.M x.C).2.Out = 1 then { x with C := (zm s.M x.C).2, Bin := 0, PC := 35 } else { x with C := (zm s.M x.C).2 })
def zlE (s : za) (m : Int) (x : zd) : za × zd :=
  (s, match x.Batch with | [] => { x with PC := 0 } | o :: l => { x with PC := 36, Obj := o, Slot := 0, Batch := l })
def zlw (s : za) (m : Int) (x : zd) : za × zd :=
     (s, if xG s.H x.Obj x.Slot = 0 then { x with Slot := wc (x.Slot + 1), PC := onM s (wc (x.Slot + 1)) } else { x with Slot := wc (x.Slot + 1), PC := 37, G := zdl 3 (xG s.H x.Obj x.Slot) m })
def zlc (s : za) (m : Int) (x : zd) : za × zd :=
  ((zF s x.G).1, if (zF s x.G).2.Out = 1 then { x with G := (zF s x.G).2, PC := onM s x.Slot } else { x with G := (zF s x.G).2 })
def znO (s : za) (m : Int) (x : zd) : za × zd :=
  ({ s with T := u6 s.T x.Obj, L := zcG s.L m }, { x with PC := 39 })
def zoh (s : za) (m : Int) (x : zd) : za × zd :=
  ({ s with Work := wc (s.Work - 1) }, { x with Obj := 0, PC := 35 })
def yr (s : za) (m : Int) (x : zd) : za × zd :=
  if x.PC = 0 then mu0 s m x
  else if x.PC = 1 then mu1 s m x
  else if x.PC = 2 then mu2 s m x
  else if x.PC = 3 then mu3 s m x
  else if x.PC = 10 then zn4 s m x
  else if x.PC = 20 then zlQ s m x
  else if x.PC = 21 then zlf s m x
  else if x.PC = 22 then zk8 s m x
  else if x.PC = 23 then zn7 s m x
  else if x.PC = 30 then ziC s m x
  else if x.PC = 31 then zlN s m x
  else if x.PC = 32 then zlq s m x
  else if x.PC = 33 then zn3 s m x
  else if x.PC = 34 then zlU s m x
  else if x.PC = 35 then zlE s m x
  else if x.PC = 36 then zlw s m x
  else if x.PC = 37 then zlc s m x
  else if x.PC = 38 then znO s m x
  else if x.PC = 39 then zoh s m x
  else (s, x)
def wj (s : za) (m : Int) : za :=
  if s.Done = true ∨ m < 1 ∨ (s.Ms.length : Int) < m then s
  else match s.Ms[(m - 1).toNat]? with
    | some x => { (yr s m x).1 with Ms := s.Ms.set (m - 1).toNat (yr s m x).2 }
    | none => s
def zna (p : zb) (m : Int) : Nat := (p.Regs.getD (m - 1).toNat []).length
structure XOk (p : zb) (nb : Nat) (m : Int) (x : zd) : Prop where
  pc : (0 ≤ x.PC ∧ x.PC ≤ 3) ∨ x.PC = 10 ∨ (20 ≤ x.PC ∧ x.PC ≤ 23) ∨ (30 ≤ x.PC ∧ x.PC ≤ 39)
  regs : x.Regs.length = zna p m
  ip : 0 ≤ x.IP ∧ x.IP ≤ ((XP p m).length : Int)
  op : (10 ≤ x.PC ∧ x.PC ≤ 30) ∨ ((x.PC = 1 ∨ x.PC = 3) ∧ x.Ret = 22) → x.IP < ((XP p m).length : Int)
  ret : x.PC = 1 ∨ x.PC = 3 → x.Ret = 2 ∨ x.Ret = 22
  c32 : x.PC = 32 → zs8 p nb (z7 p) x.C
  b33 : x.PC = 33 → 1 ≤ x.Bin ∧ x.Bin < nb
  c34 : x.PC = 34 → zqU p nb (zD p) x.C
  bin : x.PC ≠ 33 → x.PC ≠ 34 → x.Bin = 0
  g : x.PC = 3 ∨ x.PC = 37 → MOk p nb x.G ∧ (x.G.PC = 5 → x.G.C.Out ≠ 1) ∧ x.G.Mode ≠ 1
  buf : (x.Buf.length : Int) ≤ p.Buf
theorem XOk.move {p : zb} {nb : Nat} {m : Int} {x y : zd} (X : XOk p nb m x) (h : x.PC ≠ 33 ∧ x.PC ≠ 34) (pc : y.PC = 0 ∨ y.PC = 2 ∨ y.PC = 10 ∨ (20 ≤ y.PC ∧ y.PC ≤ 23) ∨ y.PC = 30 ∨ y.PC = 31 ∨ y.PC = 35 ∨ y.PC = 36 ∨ y.PC = 38 ∨ y.PC = 39)
    (regs : y.Regs.length = x.Regs.length) (bin : y.Bin = x.Bin) (buf : (y.Buf.length : Int) ≤ p.Buf) (ip : 0 ≤ y.IP ∧ y.IP ≤ ((XP p m).length : Int)) (op : 10 ≤ y.PC ∧ y.PC ≤ 30 → y.IP < ((XP p m).length : Int)) : XOk p nb m y :=
  ⟨by omega, regs.trans X.regs, ip, fun e => op (by omega), fun e => by omega, fun e => by omega, fun e => by omega, fun e => by omega, fun _ _ => bin.trans (X.bin h.1 h.2), fun e => by omega, buf⟩
theorem zmj (s : za) (i : Int) : onM s i = 36 ∨ onM s i = 38 := by unfold onM; split <;> simp
theorem XOk.next {p : zb} {nb : Nat} {m : Int} {x : zd} (hp : ((XP p m).length : Int) ≤ 64) (X : XOk p nb m x) (h : x.PC ≠ 33 ∧ x.PC ≠ 34) (hi : x.IP < ((XP p m).length : Int)) : XOk p nb m (zpD x) := by
  have := X.ip
  have e : wc (x.IP + 1) = x.IP + 1 := wO (by omega) (by omega)
  refine X.move h (.inl rfl) rfl rfl X.buf ?_ (fun h => absurd h (by show ¬ ((10 : Int) ≤ 0 ∧ (0 : Int) ≤ 30); decide))
  show 0 ≤ wc (x.IP + 1) ∧ wc (x.IP + 1) ≤ _
  rw [e]; omega
theorem XOk.set {p : zb} {nb : Nat} {m : Int} {x : zd} (hp : ((XP p m).length : Int) ≤ 64) (X : XOk p nb m x) (h : x.PC ≠ 33 ∧ x.PC ≠ 34) (hi : x.IP < ((XP p m).length : Int)) (r v : Int) : XOk p nb m (setM x r v) := by
  have := X.ip
  have e : wc (x.IP + 1) = x.IP + 1 := wO (by omega) (by omega)
  refine X.move h (.inl rfl) (by simp [setM]) rfl X.buf ?_ (fun h => absurd h (by show ¬ ((10 : Int) ≤ 0 ∧ (0 : Int) ≤ 30); decide))
  show 0 ≤ wc (x.IP + 1) ∧ wc (x.IP + 1) ≤ _
  rw [e]; omega
theorem Z2 {motive : za × zd → Prop} (s : za) (m : Int) (x : zd) (h0 : x.PC = 0 → motive (mu0 s m x)) (h1 : x.PC = 1 → motive (mu1 s m x)) (h2 : x.PC = 2 → motive (mu2 s m x)) (h3 : x.PC = 3 → motive (mu3 s m x)) (h10 : x.PC = 10 → motive (zn4 s m x)) (h20 : x.PC = 20 → motive (zlQ s m x)) (h21 : x.PC = 21 → motive (zlf s m x)) (h22 : x.PC = 22 → motive (zk8 s m x)) (h23 : x.PC = 23 → motive (zn7 s m x)) (h30 : x.PC = 30 → motive (ziC s m x)) (h31 : x.PC = 31 → motive (zlN s m x)) (h32 : x.PC = 32 → motive (zlq s m x)) (h33 : x.PC = 33 → motive (zn3 s m x)) (h34 : x.PC = 34 → motive (zlU s m x)) (h35 : x.PC = 35 → motive (zlE s m x)) (h36 : x.PC = 36 → motive (zlw s m x)) (h37 : x.PC = 37 → motive (zlc s m x)) (h38 : x.PC = 38 → motive (znO s m x)) (h39 : x.PC = 39 → motive (zoh s m x)) (hn : motive (s, x)) : motive (yr s m x) := by
  unfold yr
  by_cases c0 : x.PC = 0
  · rw [if_pos c0]; exact h0 c0
  rw [if_neg c0]
  by_cases c1 : x.PC = 1
  · rw [if_pos c1]; exact h1 c1
  rw [if_neg c1]
  by_cases c2 : x.PC = 2
  · rw [if_pos c2]; exact h2 c2
  rw [if_neg c2]
  by_cases c3 : x.PC = 3
  · rw [if_pos c3]; exact h3 c3
  rw [if_neg c3]
  by_cases c10 : x.PC = 10
  · rw [if_pos c10]; exact h10 c10
  rw [if_neg c10]
  by_cases c20 : x.PC = 20
  · rw [if_pos c20]; exact h20 c20
  rw [if_neg c20]
  by_cases c21 : x.PC = 21
  · rw [if_pos c21]; exact h21 c21
  rw [if_neg c21]
  by_cases c22 : x.PC = 22
  · rw [if_pos c22]; exact h22 c22
  rw [if_neg c22]
  by_cases c23 : x.PC = 23
  · rw [if_pos c23]; exact h23 c23
  rw [if_neg c23]
  by_cases c30 : x.PC = 30
  · rw [if_pos c30]; exact h30 c30
  rw [if_neg c30]
  by_cases c31 : x.PC = 31
  · rw [if_pos c31]; exact h31 c31
  rw [if_neg c31]
  by_cases c32 : x.PC = 32
  · rw [if_pos c32]; exact h32 c32
  rw [if_neg c32]
  by_cases c33 : x.PC = 33
  · rw [if_pos c33]; exact h33 c33
  rw [if_neg c33]
  by_cases c34 : x.PC = 34
  · rw [if_pos c34]; exact h34 c34
  rw [if_neg c34]
  by_cases c35 : x.PC = 35
  · rw [if_pos c35]; exact h35 c35
  rw [if_neg c35]
  by_cases c36 : x.PC = 36
  · rw [if_pos c36]; exact h36 c36
  rw [if_neg c36]
  by_cases c37 : x.PC = 37
  · rw [if_pos c37]; exact h37 c37
  rw [if_neg c37]
  by_cases c38 : x.PC = 38
  · rw [if_pos c38]; exact h38 c38
  rw [if_neg c38]
  by_cases c39 : x.PC = 39
  · rw [if_pos c39]; exact h39 c39
  rw [if_neg c39]
  exact hn
theorem zw9 {p : zb} {nb : Nat} {s : za} {m : Int} {x : zd} (h : zC p) (hp : ((XP p m).length : Int) ≤ 64) (S : SOk p nb s) (X : XOk p nb m x) : SOk p nb (yr s m x).1 ∧ XOk p nb m (yr s m x).2 := by
  have hP := S.P
  have hip := X.ip
  have hbuf := X.buf
  have hb := h.buf
  have nop : ∀ y : Int, 31 ≤ y → ¬ (10 ≤ y ∧ y ≤ 30) := fun y h e => by omega
  refine Z2 (motive := fun r => SOk p nb r.1 ∧ XOk p nb m r.2) s m x ?_ ?_ ?_ ?_ ?_ ?_ ?_ ?_ ?_ ?_ ?_ ?_ ?_ ?_ ?_ ?_ ?_ ?_ ?_ ?_
  · intro c
    unfold mu0
    refine ⟨S, ?_⟩
    unfold zjz
    rw [hP]
    split
    · exact ⟨.inl ⟨(by show (0 : Int) ≤ 1; decide), (by show (1 : Int) ≤ 3; decide)⟩, X.regs, X.ip, fun e => by dsimp only at e; omega, fun _ => .inl rfl, fun e => (by cases e), fun e => (by cases e), fun e => (by cases e), fun _ _ => X.bin (by omega) (by omega), fun e => by dsimp only at e; omega, X.buf⟩
    split
    · exact X
    rename_i hlt
    have hlt : x.IP < ((XP p m).length : Int) := by omega
    split
    · exact X.move (by omega) (.inr (.inr (.inl rfl))) rfl rfl X.buf X.ip (fun _ => hlt)
    split
    · exact X.move (by omega) (.inr (.inr (.inr (.inl ⟨by show (20 : Int) ≤ 20; decide, by show (20 : Int) ≤ 23; decide⟩)))) rfl rfl X.buf X.ip (fun _ => hlt)
    split
    · exact X.move (by omega) (.inr (.inr (.inr (.inr (.inl rfl))))) rfl rfl X.buf X.ip (fun _ => hlt)
    split
    · exact X.set hp (by omega) hlt _ _
    · exact X.set hp (by omega) hlt _ _
  · intro c
    unfold mu1
    refine ⟨S, ?_⟩
    split
    · rcases X.ret (.inl c) with e | e
      · exact X.move (by omega) (.inr (.inl e)) rfl rfl X.buf X.ip (fun e2 => by dsimp only at e2; omega)
      · exact X.move (by omega) (.inr (.inr (.inr (.inl (by dsimp only; omega))))) rfl rfl X.buf X.ip (fun e2 => X.op (.inr ⟨.inl c, e⟩))
    · exact ⟨.inl ⟨(by show (0 : Int) ≤ 3; decide), (by show (3 : Int) ≤ 3; decide)⟩, X.regs, X.ip, fun e => X.op (.inr ⟨.inl c, by dsimp only at e; omega⟩), fun _ => X.ret (.inl c), fun e => (by cases e), fun e => (by cases e), fun e => (by cases e), fun _ _ => X.bin (by omega) (by omega),
        fun _ => ⟨⟨fun e => absurd e (by show ¬ (2 : Int) = 1; decide), fun e => (by cases e), fun e => (by cases e), fun e => (by cases e), fun e => (by cases e)⟩, fun e => (by cases e), by show (2 : Int) ≠ 1; decide⟩, by dsimp only; rw [List.length_take]; omega⟩
  · intro c
    unfold mu2
    exact ⟨S.keep rfl rfl rfl, X.move (by omega) (.inl rfl) rfl rfl X.buf X.ip (fun e => absurd e (by show ¬ ((10 : Int) ≤ 0 ∧ (0 : Int) ≤ 30); decide))⟩
  · intro c
    unfold mu3
    obtain ⟨g1, g2, g3⟩ := X.g (.inl c)
    obtain ⟨r1, r2, r3⟩ := zkj h S g1 g2
    refine ⟨r1, ?_⟩
    dsimp only
    split
    · exact ⟨.inl ⟨(by show (0 : Int) ≤ 1; decide), (by show (1 : Int) ≤ 3; decide)⟩, X.regs, X.ip, fun e => X.op (.inr ⟨.inr c, by dsimp only at e; omega⟩), fun _ => X.ret (.inr c), fun e => (by cases e), fun e => (by cases e), fun e => (by cases e), fun _ _ => X.bin (by omega) (by omega), fun e => by dsimp only at e; omega, X.buf⟩
    · exact ⟨X.pc, X.regs, X.ip, X.op, X.ret, fun e => by dsimp only at e; omega, fun e => by dsimp only at e; omega, fun e => by dsimp only at e; omega, X.bin, fun _ => ⟨r2, r3, by rw [(zfi s x.G).2.2]; exact g3⟩, X.buf⟩
  · intro c
    unfold zn4
    exact ⟨S, X.set hp (by omega) (X.op (.inl (by omega))) _ _⟩
  · intro c
    unfold zlQ
    refine ⟨S, ?_⟩
    split
    · exact X.next hp (by omega) (X.op (.inl (by omega)))
    · exact X.move (by omega) (.inr (.inr (.inr (.inl ⟨by show (20 : Int) ≤ 21; decide, by show (21 : Int) ≤ 23; decide⟩)))) rfl rfl X.buf X.ip (fun _ => X.op (.inl (by omega)))
  · intro c
    unfold zlf
    refine ⟨S, ?_⟩
    split
    · exact X.move (by omega) (.inr (.inr (.inr (.inl ⟨by show (20 : Int) ≤ 23; decide, by show (23 : Int) ≤ 23; decide⟩)))) rfl rfl X.buf X.ip (fun _ => X.op (.inl (by omega)))
    · exact X.move (by omega) (.inr (.inr (.inr (.inl ⟨by show (20 : Int) ≤ 22; decide, by show (22 : Int) ≤ 23; decide⟩)))) rfl rfl X.buf X.ip (fun _ => X.op (.inl (by omega)))
  · intro c
    unfold zk8
    have hi := X.op (.inl (by omega))
    refine ⟨S, ?_⟩
    rw [hP]
    split
    · exact ⟨.inl ⟨(by show (0 : Int) ≤ 1; decide), (by show (1 : Int) ≤ 3; decide)⟩, X.regs, X.ip, fun e => hi, fun _ => .inr rfl, fun e => (by cases e), fun e => (by cases e), fun e => (by cases e), fun _ _ => X.bin (by omega) (by omega), fun e => by dsimp only at e; omega, X.buf⟩
    · exact X.move (by omega) (.inr (.inr (.inr (.inl ⟨by show (20 : Int) ≤ 23; decide, by show (23 : Int) ≤ 23; decide⟩)))) rfl rfl (by simp; omega) X.ip (fun _ => hi)
  · intro c
    unfold zn7
    exact ⟨S.keep rfl rfl rfl, X.next hp (by omega) (X.op (.inl (by omega)))⟩
  · intro c
    unfold ziC
    have hi := X.op (.inl (by omega))
    split
    · split
      · exact ⟨S.keep rfl rfl rfl, X.set hp (by omega) hi _ _⟩
      · exact ⟨S, X.next hp (by omega) hi⟩
    · exact ⟨S, X.move (by omega) (.inr (.inr (.inr (.inr (.inr (.inl rfl)))))) rfl rfl X.buf X.ip (fun e => absurd e (by show ¬ ((10 : Int) ≤ 31 ∧ (31 : Int) ≤ 30); decide))⟩
  · intro c
    unfold zlN
    refine ⟨S.keep rfl rfl rfl, ?_⟩
    rw [hP]
    split
    · exact ⟨.inr (.inr (.inr ⟨(by show (30 : Int) ≤ 32; decide), (by show (32 : Int) ≤ 39; decide)⟩)), X.regs, X.ip, fun e => by dsimp only at e; omega, fun e => by dsimp only at e; omega, fun _ => zrZ, fun e => (by cases e), fun e => (by cases e), fun _ _ => X.bin (by omega) (by omega), fun e => by dsimp only at e; omega, X.buf⟩
    · exact X.move (by omega) (.inl rfl) rfl rfl X.buf X.ip (fun e => absurd e (by show ¬ ((10 : Int) ≤ 0 ∧ (0 : Int) ≤ 30); decide))
  · intro c
    unfold zlq
    have C := X.c32 c
    obtain ⟨b1, b2, b3, b4, b5, b6⟩ := zp6 h S (.inl rfl) C.k C.h C.n C.v C.y C.o
    refine ⟨b1, ?_⟩
    dsimp only
    split
    · rename_i e1
      exact ⟨.inr (.inr (.inr ⟨(by show (30 : Int) ≤ 33; decide), (by show (33 : Int) ≤ 39; decide)⟩)), X.regs, X.ip, fun e => by dsimp only at e; omega, fun e => by dsimp only at e; omega, fun e => (by cases e), fun _ => b6 e1, fun e => (by cases e), fun e => absurd rfl e, fun e => by dsimp only at e; omega, X.buf⟩
    split
    · exact X.move (by omega) (.inl rfl) rfl rfl X.buf X.ip (fun e => absurd e (by show ¬ ((10 : Int) ≤ 0 ∧ (0 : Int) ≤ 30); decide))
    · rename_i e1 e2
      exact ⟨X.pc, X.regs, X.ip, X.op, X.ret, fun _ => ⟨b2, b3, b4, (b5 e1 e2).1, (b5 e1 e2).2, e1⟩, fun e => by dsimp only at e; omega, fun e => by dsimp only at e; omega, X.bin, fun e => by dsimp only at e; omega, X.buf⟩
  · intro c
    unfold zn3
    have B := X.b33 c
    refine ⟨S.keep rfl rfl (by simp), ?_⟩
    rw [hP]
    exact ⟨.inr (.inr (.inr ⟨(by show (30 : Int) ≤ 34; decide), (by show (34 : Int) ≤ 39; decide)⟩)), X.regs, X.ip, fun e => by dsimp only at e; omega, fun e => by dsimp only at e; omega, fun e => (by cases e), fun e => (by cases e), fun _ => zrg B, fun _ e => absurd rfl e, fun e => by dsimp only at e; omega, X.buf⟩
  · intro c
    unfold zlU
    have C := X.c34 c
    obtain ⟨b1, b2, b3, b4, b5, b6⟩ := znC h S (.inr rfl) C.k C.h C.n C.x C.v
    refine ⟨b1, ?_⟩
    dsimp only
    split
    · exact ⟨.inr (.inr (.inr ⟨(by show (30 : Int) ≤ 35; decide), (by show (35 : Int) ≤ 39; decide)⟩)), X.regs, X.ip, fun e => by dsimp only at e; omega, fun e => by dsimp only at e; omega, fun e => (by cases e), fun e => (by cases e), fun e => (by cases e), fun _ _ => rfl, fun e => by dsimp only at e; omega, X.buf⟩
    · exact ⟨X.pc, X.regs, X.ip, X.op, X.ret, fun e => by dsimp only at e; omega, fun e => by dsimp only at e; omega, fun _ => ⟨b2, b3, b4, b5, b6⟩, X.bin, fun e => by dsimp only at e; omega, X.buf⟩
  · intro c
    unfold zlE
    refine ⟨S, ?_⟩
    dsimp only
    split
    · exact X.move (by omega) (.inl rfl) rfl rfl X.buf X.ip (fun e => absurd e (by show ¬ ((10 : Int) ≤ 0 ∧ (0 : Int) ≤ 30); decide))
    · exact X.move (by omega) (by simp) rfl rfl X.buf X.ip (fun e => absurd e (nop 36 (by omega)))
  · intro c
    unfold zlw
    refine ⟨S, ?_⟩
    dsimp only
    split
    · rcases zmj s (wc (x.Slot + 1)) with e | e <;> rw [e]
      · exact X.move (by omega) (by simp) rfl rfl X.buf X.ip (fun e => absurd e (nop 36 (by omega)))
      · exact X.move (by omega) (by simp) rfl rfl X.buf X.ip (fun e => absurd e (nop 38 (by omega)))
    · exact ⟨.inr (.inr (.inr ⟨(by show (30 : Int) ≤ 37; decide), (by show (37 : Int) ≤ 39; decide)⟩)), X.regs, X.ip, fun e => by dsimp only at e; omega, fun e => by dsimp only at e; omega, fun e => (by cases e), fun e => (by cases e), fun e => (by cases e), fun _ _ => X.bin (by omega) (by omega),
        fun _ => ⟨⟨fun e => absurd e (by show ¬ (3 : Int) = 1; decide), fun e => (by cases e), fun e => (by cases e), fun e => (by cases e), fun e => (by cases e)⟩, fun e => (by cases e), by show (3 : Int) ≠ 1; decide⟩, X.buf⟩
  · intro c
    unfold zlc
    obtain ⟨g1, g2, g3⟩ := X.g (.inr c)
    obtain ⟨r1, r2, r3⟩ := zkj h S g1 g2
    refine ⟨r1, ?_⟩
    dsimp only
    split
    · rcases zmj s x.Slot with e | e <;> rw [e]
      · exact X.move (by omega) (by simp) rfl rfl X.buf X.ip (fun e => absurd e (nop 36 (by omega)))
      · exact X.move (by omega) (by simp) rfl rfl X.buf X.ip (fun e => absurd e (nop 38 (by omega)))
    · exact ⟨X.pc, X.regs, X.ip, X.op, X.ret, fun e => by dsimp only at e; omega, fun e => by dsimp only at e; omega, fun e => by dsimp only at e; omega, X.bin, fun _ => ⟨r2, r3, by rw [(zfi s x.G).2.2]; exact g3⟩, X.buf⟩
  · intro c
    unfold znO
    exact ⟨S.keep rfl rfl rfl, X.move (by omega) (by simp) rfl rfl X.buf X.ip (fun e => absurd e (nop 39 (by omega)))⟩
  · intro c
    unfold zoh
    exact ⟨S.keep rfl rfl rfl, X.move (by omega) (by simp) rfl rfl X.buf X.ip (fun e => absurd e (nop 35 (by omega)))⟩
  · exact ⟨S, X⟩
end
end Go.Pe.G
namespace Go.Pe.G
open Go.Pe
noncomputable section
def zj9 (s : za) : za :=
  if s.Done = true then s
  else if s.D.PC = 0 then { s with Flag := false, D := { s.D with PC := 1 } }
  else if s.D.PC = 1 then (if s.Work = 0 then { s with D := { s.D with PC := 2 } } else s)
  else if s.D.PC = 2 then { s with Epoch := wc (s.Epoch + 1), D := ⟨if s.Ms.length = 0 then 4 else 3, 0⟩ }
  else if s.D.PC = 3 then (if s.Acks.getD s.D.I.toNat 0 < s.Epoch then s else { s with D := ⟨if wc (s.D.I + 1) = (s.Ms.length : Int) then 4 else 3, wc (s.D.I + 1)⟩ })
  else if s.D.PC = 4 then (if s.Work = 0 then { s with D := { s.D with PC := 5 } } else { s with Restarts := wc (s.Restarts + 1), D := { s.D with PC := 0 } })
  else if s.D.PC = 5 then (if s.Flag = true then { s with Restarts := wc (s.Restarts + 1), D := { s.D with PC := 0 } } else { s with D := { s.D with PC := 6 } })
  else if s.D.PC = 6 then { s with Done := true }
  else s
structure HOk (p : zb) (h : zo) : Prop where
  slots : h.Slots = p.H.Slots
  n : (p.H.Objs.length : Int) ≤ (h.Objs.length : Int) ∧ (h.Objs.length : Int) ≤ p.Most
  objs : ∀ o ∈ h.Objs, (o.length : Int) = h.Slots ∧ ∀ v ∈ o, 0 ≤ v ∧ v ≤ (h.Objs.length : Int)
structure EOk (p : zb) (nb : Nat) (s : za) : Prop where
  S : SOk p nb s
  wl : (s.Ws.length : Int) = p.Workers
  ml : (s.Ms.length : Int) = p.Mutators
  al : s.Acks.length = s.Ms.length
  W : ∀ (i : Nat) x, s.Ws[i]? = some x → WOk p nb ((i : Int) + 1) x
  X : ∀ (i : Nat) x, s.Ms[i]? = some x → XOk p nb ((i : Int) + 1) x
  H : HOk p s.H
  D : (0 ≤ s.D.PC ∧ s.D.PC ≤ 6) ∧ (s.D.PC = 3 → 0 ≤ s.D.I ∧ s.D.I < (s.Ms.length : Int))
  small : ZQ s
theorem zs6 {p : zb} (h : zC p) (m : Int) : ((XP p m).length : Int) ≤ 64 := by
  unfold XP
  have hr := h.regs
  have hp := h.progs
  rw [List.getD_eq_getElem?_getD]
  rcases Nat.lt_or_ge (m - 1).toNat p.Progs.length with hl | hl
  · rw [List.getElem?_eq_getElem hl]
    have hl2 : (m - 1).toNat < p.Regs.length := by omega
    have := (h.prog (m - 1).toNat _ _ (List.getElem?_eq_getElem hl2) (List.getElem?_eq_getElem hl)).1
    show ((p.Progs[(m - 1).toNat]).length : Int) ≤ 64
    omega
  · rw [List.getElem?_eq_none hl]; show (([] : List zi).length : Int) ≤ 64; simp
theorem zur {p : zb} (h : zC p) : EOk p (zX p + 1) (vg p) := by
  have hw := h.wk
  have hm := h.mt
  have hr := h.regs
  have hn := h.n
  have hmo := h.most
  have hb := h.buf
  refine ⟨zsc h, ?_, ?_, ?_, fun i x hx => ?_, fun i x hx => ?_, ⟨rfl, ⟨Int.le_refl _, hmo.1⟩, h.objs⟩, ⟨⟨by show (0 : Int) ≤ 0; decide, by show (0 : Int) ≤ 6; decide⟩, fun e => absurd e (by show ¬ (0 : Int) = 3; decide)⟩, zoZ h⟩
  · show (((List.range p.Workers.toNat).map (ux p)).length : Int) = _
    rw [List.length_map, List.length_range]; omega
  · show ((p.Regs.map vD).length : Int) = _
    rw [List.length_map]; exact hr
  · show (List.replicate p.Mutators.toNat (0 : Int)).length = (p.Regs.map vD).length
    rw [List.length_replicate, List.length_map]; omega
  · have hx : ((List.range p.Workers.toNat).map (ux p))[i]? = some x := hx
    rw [List.getElem?_map] at hx
    rcases Nat.lt_or_ge i p.Workers.toNat with hl | hl
    · rw [List.getElem?_range hl] at hx
      injection hx with hx
      subst hx
      exact ⟨⟨by show (0 : Int) ≤ 0; decide, by show (0 : Int) ≤ 9; decide⟩, by show 1 ≤ (i : Int) + 1 ∧ (i : Int) + 1 ≤ p.Workers; omega, fun _ => ⟨rfl, rfl, rfl⟩, fun e => (by cases e), fun e => (by cases e), fun e => (by cases e), fun e => (by cases e), fun e => (by cases e)⟩
    · rw [List.getElem?_eq_none (by rw [List.length_range]; exact hl)] at hx; cases hx
  · have hx : (p.Regs.map vD)[i]? = some x := hx
    rw [List.getElem?_map] at hx
    cases hq : p.Regs[i]? with
    | none => rw [hq] at hx; cases hx
    | some r =>
      rw [hq] at hx
      injection hx with hx
      subst hx
      refine ⟨.inl ⟨by show (0 : Int) ≤ 0; decide, by show (0 : Int) ≤ 3; decide⟩, ?_, ⟨by show (0 : Int) ≤ 0; decide, by show (0 : Int) ≤ _; omega⟩, fun e => absurd e ?_, fun e => absurd e ?_, fun e => (by cases e), fun e => (by cases e), fun e => (by cases e), fun _ _ => rfl, fun e => absurd e ?_, by show (0 : Int) ≤ p.Buf; omega⟩
      · show r.length = zna p ((i : Int) + 1)
        unfold zna
        rw [show ((i : Int) + 1 - 1).toNat = i by omega, List.getD_eq_getElem?_getD, hq]; rfl
      · intro e; simp [vD] at e
      · intro e; simp [vD] at e
      · intro e; simp [vD] at e
theorem zkP {s : za} (h : ZQ s) (b : Int) : (zbd s b).length < 1000000 := by
  unfold zbd
  rw [List.getD_eq_getElem?_getD]
  cases hq : s.Bins[b.toNat]? with
  | none => simp
  | some l => exact h.bin l (List.mem_of_getElem? hq)
theorem zoX (l : zp) (w : Int) : (zcG l w).Bal.length = l.Bal.length := by unfold zcG; split <;> simp
structure Xr (s s' : za) : Prop where
  P : s'.P = s.P
  m : s'.M.length = s.M.length
  bl : s'.Bins.length = s.Bins.length
  b : ∀ l ∈ s'.Bins, l ∈ s.Bins ∨ l.length ≤ 1
  bal : s'.L.Bal.length = s.L.Bal.length
  ac : s'.Acks.length = s.Acks.length
  ws : s'.Ws = s.Ws
  ms : s'.Ms = s.Ms
  done : s'.Done = s.Done
  d : s'.D = s.D
theorem Xr.refl (s : za) : Xr s s := ⟨rfl, rfl, rfl, fun l h => .inl h, rfl, rfl, rfl, rfl, rfl, rfl⟩
theorem zaF (s : za) (g : zA) : Xr s (zF s g).1 ∧ (zF s g).1.H = s.H := by
  obtain ⟨m, b, t, w, f, e, h1, h2, h3, _, _⟩ := XN s g
  rw [e]
  exact ⟨⟨rfl, h1, h2, fun l hl => (h3 l hl).imp id (fun e => by rw [e]; simp), rfl, rfl, rfl, rfl, rfl, rfl⟩, rfl⟩
theorem zsg {s : za} (b : Nat) : ∀ l ∈ s.Bins.set b [], l ∈ s.Bins ∨ l.length ≤ 1 := fun l hl => (List.mem_or_eq_of_mem_set hl).imp id (fun e => by rw [e]; simp)
theorem zoM (s : za) (w : Int) (x : ze) : Xr s (zw s w x).1 ∧ (zw s w x).1.H = s.H := by
  unfold zw
  split
  · exact ⟨⟨rfl, (zgG _ _).1, rfl, fun l h => .inl h, rfl, rfl, rfl, rfl, rfl, rfl⟩, rfl⟩
  split
  · exact ⟨⟨rfl, Uj _ _, rfl, fun l h => .inl h, rfl, rfl, rfl, rfl, rfl, rfl⟩, rfl⟩
  split
  · exact ⟨⟨rfl, rfl, by simp, zsg _, rfl, rfl, rfl, rfl, rfl, rfl⟩, rfl⟩
  split
  · exact ⟨⟨rfl, Uj _ _, rfl, fun l h => .inl h, rfl, rfl, rfl, rfl, rfl, rfl⟩, rfl⟩
  split
  · exact ⟨Xr.refl s, rfl⟩
  split
  · exact zaF s x.G
  split
  · exact ⟨Xr.refl s, rfl⟩
  split
  · exact ⟨⟨rfl, rfl, rfl, fun l h => .inl h, zoX _ _, rfl, rfl, rfl, rfl, rfl⟩, rfl⟩
  split
  · exact ⟨⟨rfl, rfl, rfl, fun l h => .inl h, rfl, rfl, rfl, rfl, rfl, rfl⟩, rfl⟩
  · exact ⟨Xr.refl s, rfl⟩
theorem zrl (p : zb) (w : Int) (x : ze) : (Yq p w x).Batch = x.Batch := by unfold Yq; split <;> rfl
theorem ztk {s : za} (h : ZQ s) (w : Int) {x : ze} (hx : x.Batch.length < 1000000) : (zw s w x).2.Batch.length < 1000000 := by
  unfold zw
  split
  · dsimp only
    split
    · exact hx
    split
    · rw [zrl]; exact hx
    · exact hx
  split
  · dsimp only
    split
    · exact hx
    split <;> exact hx
  split
  · exact zkP h _
  split
  · dsimp only
    split <;> exact hx
  split
  · dsimp only
    split <;> exact hx
  split
  · dsimp only
    split <;> exact hx
  split
  · dsimp only
    cases hb : x.Batch with
    | nil => show x.Batch.length < _; exact hx
    | cons o l => rw [hb] at hx; show l.length < _; simp at hx; omega
  split
  · exact hx
  split
  · exact hx
  · exact hx
theorem zsM (l : zp) (w p : Int) : (zrd l w p).Bal.length = l.Bal.length := by unfold zrd; simp
theorem ztD (l : zp) (w n : Int) : (zpu l w n).1.Bal.length = l.Bal.length := by unfold zpu; split <;> simp
theorem zu2 (s : za) (m : Int) (x : zd) : Xr s (yr s m x).1 := by
  have q : ∀ s' : za, s'.P = s.P → s'.M = s.M → s'.Bins = s.Bins → s'.L.Bal.length = s.L.Bal.length → s'.Acks.length = s.Acks.length → s'.Ws = s.Ws → s'.Ms = s.Ms → s'.Done = s.Done → s'.D = s.D → Xr s s' :=
    fun s' a b c d e f g h i => ⟨a, by rw [b], by rw [c], fun l hl => .inl (c ▸ hl), d, e, f, g, h, i⟩
  refine Z2 (motive := fun r => Xr s r.1) s m x ?_ ?_ ?_ ?_ ?_ ?_ ?_ ?_ ?_ ?_ ?_ ?_ ?_ ?_ ?_ ?_ ?_ ?_ ?_ ?_
  · intro c
    unfold mu0
    exact Xr.refl s
  · intro c
    unfold mu1
    exact Xr.refl s
  · intro c
    unfold mu2
    exact q _ rfl rfl rfl rfl (by simp) rfl rfl rfl rfl
  · intro c
    unfold mu3
    exact (zaF s x.G).1
  · intro c
    unfold zn4
    exact Xr.refl s
  · intro c
    unfold zlQ
    exact Xr.refl s
  · intro c
    unfold zlf
    exact Xr.refl s
  · intro c
    unfold zk8
    exact Xr.refl s
  · intro c
    unfold zn7
    exact q _ rfl rfl rfl rfl rfl rfl rfl rfl rfl
  · intro c
    unfold ziC
    split
    · split
      · exact q _ rfl rfl rfl (zsM _ _ _) rfl rfl rfl rfl rfl
      · exact Xr.refl s
    · exact Xr.refl s
  · intro c
    unfold zlN
    exact q _ rfl rfl rfl (ztD _ _ _) rfl rfl rfl rfl rfl
  · intro c
    unfold zlq
    exact ⟨rfl, Uj _ _, rfl, fun l h => .inl h, rfl, rfl, rfl, rfl, rfl, rfl⟩
  · intro c
    unfold zn3
    exact ⟨rfl, rfl, by simp, zsg _, rfl, rfl, rfl, rfl, rfl, rfl⟩
  · intro c
    unfold zlU
    exact ⟨rfl, Uj _ _, rfl, fun l h => .inl h, rfl, rfl, rfl, rfl, rfl, rfl⟩
  · intro c
    unfold zlE
    exact Xr.refl s
  · intro c
    unfold zlw
    exact Xr.refl s
  · intro c
    unfold zlc
    exact (zaF s x.G).1
  · intro c
    unfold znO
    exact q _ rfl rfl rfl (zoX _ _) rfl rfl rfl rfl rfl
  · intro c
    unfold zoh
    exact q _ rfl rfl rfl rfl rfl rfl rfl rfl rfl
  · exact Xr.refl s
theorem HOk.sm {p : zb} (hp : zC p) {h : zo} (H : HOk p h) : h.Objs.length < 1000000 ∧ ∀ x ∈ h.Objs, x.length < 1000000 := by
  have h1 := H.n
  have h2 := hp.most
  have h3 := hp.n
  have h4 := hp.slots
  have h5 := H.slots
  exact ⟨by omega, fun x hx => by have := (H.objs x hx).1; omega⟩
theorem ZQ.turn {p : zb} (hp : zC p) {s s' : za} (h : ZQ s) (T : Xr s s') (H : HOk p s'.H) : ZQ s' := by
  have hh := H.sm hp
  refine ⟨by rw [T.m]; exact h.m, by rw [T.bl]; exact h.bins, fun x hx => ?_, by rw [T.ac]; exact h.acks, by rw [T.bal]; exact h.bal, by rw [T.ws]; exact h.ws, by rw [T.ws]; exact h.w, by rw [T.ms]; exact h.ms, by rw [T.ms]; exact h.mu, hh.1, hh.2, by rw [T.P]; exact h.pobjs, by rw [T.P]; exact h.pobj, by rw [T.P]; exact h.regs, by rw [T.P]; exact h.reg, by rw [T.P]; exact h.progs, by rw [T.P]; exact h.prog, by rw [T.P]; exact h.picks⟩
  rcases T.b x hx with h' | h'
  · exact h.bin x h'
  · omega
theorem ZQ.setW {s : za} (h : ZQ s) {i : Nat} {x : ze} (hx : x.Batch.length < 1000000) : ZQ { s with Ws := s.Ws.set i x } :=
  ⟨h.m, h.bins, h.bin, h.acks, h.bal, by simp only [List.length_set]; exact h.ws, fun y hy => by
    rcases List.mem_or_eq_of_mem_set hy with hy | rfl
    · exact h.w y hy
    · exact hx, h.ms, h.mu, h.objs, h.obj, h.pobjs, h.pobj, h.regs, h.reg, h.progs, h.prog, h.picks⟩
theorem ZQ.setM {s : za} (h : ZQ s) {i : Nat} {x : zd} (hx : x.Regs.length < 1000000 ∧ x.Buf.length < 1000000 ∧ x.Batch.length < 1000000) : ZQ { s with Ms := s.Ms.set i x } :=
  ⟨h.m, h.bins, h.bin, h.acks, h.bal, h.ws, h.w, by simp only [List.length_set]; exact h.ms, fun y hy => by
    rcases List.mem_or_eq_of_mem_set hy with hy | rfl
    · exact h.mu y hy
    · exact hx, h.objs, h.obj, h.pobjs, h.pobj, h.regs, h.reg, h.progs, h.prog, h.picks⟩
theorem zr5 {α : Type} {l : List α} {i j : Nat} {x y : α} (h : (l.set i x)[j]? = some y) : (j = i ∧ y = x) ∨ l[j]? = some y := by
  rw [List.getElem?_set] at h
  split at h
  · rename_i e
    split at h
    · injection h with h; exact .inl ⟨e.symm, h.symm⟩
    · cases h
  · exact .inr h
theorem zlo {p : zb} {nb : Nat} {s : za} (h : zC p) (E : EOk p nb s) (w : Int) : EOk p nb (zW s w) := by
  unfold zW
  split
  · exact E
  rename_i hc
  cases hx : s.Ws[(w - 1).toNat]? with
  | none => exact E
  | some x =>
    have hw1 : ¬ w < 1 := fun e => hc (.inr (.inl e))
    have hw2 : ¬ (s.Ws.length : Int) < w := fun e => hc (.inr (.inr e))
    have hwl := E.wl
    have ei : (((w - 1).toNat : Nat) : Int) + 1 = w := by omega
    have hW := E.W _ x hx
    rw [ei] at hW
    obtain ⟨r1, r2⟩ := zr8 h (by omega) E.S hW
    obtain ⟨T, TH⟩ := zoM s w x
    have sm : ZQ (zw s w x).1 := E.small.turn h T (by rw [TH]; exact E.H)
    have hws : (zw s w x).1.Ws = s.Ws := T.ws
    refine ⟨r1.keep rfl rfl rfl, ?_, ?_, ?_, fun i y hy => ?_, fun i y hy => ?_, ?_, ?_, ?_⟩
    · show ((s.Ws.set _ _).length : Int) = _
      rw [List.length_set]; exact hwl
    · show ((zw s w x).1.Ms.length : Int) = _
      rw [T.ms]; exact E.ml
    · show (zw s w x).1.Acks.length = (zw s w x).1.Ms.length
      rw [T.ms, T.ac]; exact E.al
    · rcases zr5 hy with ⟨rfl, rfl⟩ | hy
      · rw [ei]; exact r2
      · exact E.W i y hy
    · have hy : (zw s w x).1.Ms[i]? = some y := hy
      rw [T.ms] at hy
      exact E.X i y hy
    · show HOk p (zw s w x).1.H
      rw [TH]; exact E.H
    · show (0 ≤ (zw s w x).1.D.PC ∧ (zw s w x).1.D.PC ≤ 6) ∧ ((zw s w x).1.D.PC = 3 → 0 ≤ (zw s w x).1.D.I ∧ (zw s w x).1.D.I < ((zw s w x).1.Ms.length : Int))
      rw [T.d, T.ms]; exact E.D
    · have := sm.setW (i := (w - 1).toNat) (ztk E.small w (E.small.w x (List.mem_of_getElem? hx)))
      rw [hws] at this
      exact this
theorem zxo {p : zb} {nb : Nat} {s : za} (h : zC p) (E : EOk p nb s) : EOk p nb (zj9 s) := by
  have key : ∀ s' : za, s'.P = s.P → s'.M = s.M → s'.Bins = s.Bins → s'.Ws = s.Ws → s'.Ms = s.Ms → s'.Acks = s.Acks → s'.H = s.H → s'.L = s.L → ((0 ≤ s'.D.PC ∧ s'.D.PC ≤ 6) ∧ (s'.D.PC = 3 → 0 ≤ s'.D.I ∧ s'.D.I < (s'.Ms.length : Int))) → EOk p nb s' := by
    intro s' e1 e2 e3 e4 e5 e6 e7 e8 e9
    have q := E.small
    refine ⟨E.S.keep e1 e2 (by rw [e3]), by rw [e4]; exact E.wl, by rw [e5]; exact E.ml, by rw [e5, e6]; exact E.al, by rw [e4]; exact E.W, by rw [e5]; exact E.X, by rw [e7]; exact E.H, e9, ?_⟩
    exact ⟨by rw [e2]; exact q.m, by rw [e3]; exact q.bins, by rw [e3]; exact q.bin, by rw [e6]; exact q.acks, by rw [e8]; exact q.bal, by rw [e4]; exact q.ws, by rw [e4]; exact q.w, by rw [e5]; exact q.ms, by rw [e5]; exact q.mu, by rw [e7]; exact q.objs, by rw [e7]; exact q.obj, by rw [e1]; exact q.pobjs, by rw [e1]; exact q.pobj, by rw [e1]; exact q.regs, by rw [e1]; exact q.reg, by rw [e1]; exact q.progs, by rw [e1]; exact q.prog, by rw [e1]; exact q.picks⟩
  have hm : ∀ n : Int, 0 ≤ n ∧ n ≤ 6 → n ≠ 3 → ∀ i, (0 ≤ (⟨n, i⟩ : zr).PC ∧ (⟨n, i⟩ : zr).PC ≤ 6) ∧ ((⟨n, i⟩ : zr).PC = 3 → 0 ≤ (⟨n, i⟩ : zr).I ∧ (⟨n, i⟩ : zr).I < (s.Ms.length : Int)) := fun n h1 h2 i => ⟨h1, fun e => absurd e h2⟩
  have hml := E.ml
  have hmt := h.mt
  unfold zj9
  split
  · exact E
  split
  · exact key _ rfl rfl rfl rfl rfl rfl rfl rfl (hm 1 (by decide) (by decide) _)
  split
  · split
    · exact key _ rfl rfl rfl rfl rfl rfl rfl rfl (hm 2 (by decide) (by decide) _)
    · exact E
  split
  · refine key _ rfl rfl rfl rfl rfl rfl rfl rfl ?_
    dsimp only
    split
    · exact hm 4 (by decide) (by decide) _
    · exact ⟨by decide, fun _ => by omega⟩
  split
  · rename_i c3
    have hi := E.D.2 c3
    split
    · exact E
    · refine key _ rfl rfl rfl rfl rfl rfl rfl rfl ?_
      dsimp only
      have e : wc (s.D.I + 1) = s.D.I + 1 := wO (by omega) (by omega)
      rw [e]
      split
      · exact hm 4 (by decide) (by decide) _
      · exact ⟨by decide, fun _ => by omega⟩
  split
  · split
    · exact key _ rfl rfl rfl rfl rfl rfl rfl rfl (hm 5 (by decide) (by decide) _)
    · exact key _ rfl rfl rfl rfl rfl rfl rfl rfl (hm 0 (by decide) (by decide) _)
  split
  · split
    · exact key _ rfl rfl rfl rfl rfl rfl rfl rfl (hm 0 (by decide) (by decide) _)
    · exact key _ rfl rfl rfl rfl rfl rfl rfl rfl (hm 6 (by decide) (by decide) _)
  split
  · exact key _ rfl rfl rfl rfl rfl rfl rfl rfl E.D
  · exact E
theorem HOk.put {p : zb} {h : zo} (H : HOk p h) (o s v : Int) : HOk p (znN h o s v) := by
  unfold znN
  split
  · rename_i c
    obtain ⟨c1, c2, c3⟩ := c
    unfold Ui at c1
    simp only [Bool.and_eq_true, decide_eq_true_eq] at c1
    refine ⟨H.slots, by simp only [List.length_set]; exact H.n, fun l hl => ?_⟩
    simp only [List.length_set]
    rcases List.mem_or_eq_of_mem_set hl with hl | rfl
    · exact H.objs l hl
    · have hm : zO h o ∈ h.Objs := by
        unfold zO
        rw [List.getD_eq_getElem?_getD, List.getElem?_eq_getElem (show (o - 1).toNat < h.Objs.length by omega)]
        exact List.getElem_mem _
      obtain ⟨a, b⟩ := H.objs _ hm
      refine ⟨by rw [List.length_set]; exact a, fun y hy => ?_⟩
      rcases List.mem_or_eq_of_mem_set hy with hy | rfl
      · exact b y hy
      · exact ⟨c2, c3⟩
  · exact H
theorem HOk.alloc {p : zb} (hp : zC p) {h : zo} (H : HOk p h) (hr : zsr h p.Most = true) : HOk p (zp9 h) := by
  unfold zsr at hr
  simp only [Bool.and_eq_true, decide_eq_true_eq] at hr
  have hs := hp.slots
  have hsl := H.slots
  have hn := H.n
  unfold zp9
  refine ⟨H.slots, by simp only [List.length_append, List.length_singleton]; omega, fun l hl => ?_⟩
  simp only [List.length_append, List.length_singleton]
  rcases List.mem_append.1 hl with hl | hl
  · obtain ⟨a, b⟩ := H.objs l hl
    exact ⟨a, fun v hv => by have := b v hv; omega⟩
  · rw [List.mem_singleton.1 hl]
    refine ⟨by rw [List.length_replicate]; omega, fun v hv => ?_⟩
    rw [(List.mem_replicate.1 hv).2]; omega
theorem zxG {p : zb} (hp : zC p) {s : za} (hP : s.P = p) (H : HOk p s.H) (m : Int) (x : zd) : HOk p (yr s m x).1.H := by
  refine Z2 (motive := fun r => HOk p r.1.H) s m x ?_ ?_ ?_ ?_ ?_ ?_ ?_ ?_ ?_ ?_ ?_ ?_ ?_ ?_ ?_ ?_ ?_ ?_ ?_ ?_
  · intro c
    unfold mu0
    exact H
  · intro c
    unfold mu1
    exact H
  · intro c
    unfold mu2
    exact H
  · intro c
    unfold mu3
    rw [(zaF s x.G).2]; exact H
  · intro c
    unfold zn4
    exact H
  · intro c
    unfold zlQ
    exact H
  · intro c
    unfold zlf
    exact H
  · intro c
    unfold zk8
    exact H
  · intro c
    unfold zn7
    exact H.put _ _ _
  · intro c
    unfold ziC
    split
    · split
      · rename_i hr
        rw [hP] at hr
        exact H.alloc hp hr
      · exact H
    · exact H
  · intro c
    unfold zlN
    exact H
  · intro c
    unfold zlq
    exact H
  · intro c
    unfold zn3
    exact H
  · intro c
    unfold zlU
    exact H
  · intro c
    unfold zlE
    exact H
  · intro c
    unfold zlw
    exact H
  · intro c
    unfold zlc
    rw [(zaF s x.G).2]; exact H
  · intro c
    unfold znO
    exact H
  · intro c
    unfold zoh
    exact H
  · exact H
theorem zp8 (s : za) (m : Int) (x : zd) : (zjz s m x).Batch = x.Batch := by
  unfold zjz
  repeat' split
  all_goals rfl
theorem zub {s : za} (h : ZQ s) (m : Int) {x : zd} (hx : x.Batch.length < 1000000) : (yr s m x).2.Batch.length < 1000000 := by
  refine Z2 (motive := fun r => r.2.Batch.length < 1000000) s m x ?_ ?_ ?_ ?_ ?_ ?_ ?_ ?_ ?_ ?_ ?_ ?_ ?_ ?_ ?_ ?_ ?_ ?_ ?_ ?_
  · intro c
    unfold mu0
    dsimp only; rw [zp8]; exact hx
  · intro c
    unfold mu1
    dsimp only; split <;> exact hx
  · intro c
    unfold mu2
    exact hx
  · intro c
    unfold mu3
    dsimp only; split <;> exact hx
  · intro c
    unfold zn4
    exact hx
  · intro c
    unfold zlQ
    dsimp only; split <;> exact hx
  · intro c
    unfold zlf
    dsimp only; split <;> exact hx
  · intro c
    unfold zk8
    dsimp only; split <;> exact hx
  · intro c
    unfold zn7
    exact hx
  · intro c
    unfold ziC
    split
    · split <;> exact hx
    · exact hx
  · intro c
    unfold zlN
    dsimp only; split <;> exact hx
  · intro c
    unfold zlq
    dsimp only
    split
    · exact hx
    split <;> exact hx
  · intro c
    unfold zn3
    exact zkP h _
  · intro c
    unfold zlU
    dsimp only; split <;> exact hx
  · intro c
    unfold zlE
    dsimp only
    cases hb : x.Batch with
    | nil => show ([] : List Int).length < 1000000; simp
    | cons o l => rw [hb] at hx; show l.length < _; simp at hx; omega
  · intro c
    unfold zlw
    dsimp only; split <;> exact hx
  · intro c
    unfold zlc
    dsimp only; split <;> exact hx
  · intro c
    unfold znO
    exact hx
  · intro c
    unfold zoh
    exact hx
  · exact hx
theorem zrD {p : zb} (h : zC p) (m : Int) : zna p m < 1000000 := by
  unfold zna
  rw [List.getD_eq_getElem?_getD]
  cases hq : p.Regs[(m - 1).toNat]? with
  | none => simp
  | some r => have := (h.reg r (List.mem_of_getElem? hq)).1; show r.length < _; omega
theorem ztG {p : zb} {nb : Nat} {s : za} (h : zC p) (E : EOk p nb s) (m : Int) : EOk p nb (wj s m) := by
  unfold wj
  split
  · exact E
  rename_i hc
  cases hx : s.Ms[(m - 1).toNat]? with
  | none => exact E
  | some x =>
    have hw1 : ¬ m < 1 := fun e => hc (.inr (.inl e))
    have hw2 : ¬ (s.Ms.length : Int) < m := fun e => hc (.inr (.inr e))
    have ei : (((m - 1).toNat : Nat) : Int) + 1 = m := by omega
    have hX := E.X _ x hx
    rw [ei] at hX
    obtain ⟨r1, r2⟩ := zw9 h (zs6 h m) E.S hX
    have T := zu2 s m x
    have TH := zxG h E.S.P E.H m x
    have sm : ZQ (yr s m x).1 := E.small.turn h T TH
    have hms : (yr s m x).1.Ms = s.Ms := T.ms
    have hb := h.buf
    refine ⟨r1.keep rfl rfl rfl, ?_, ?_, ?_, fun i y hy => ?_, fun i y hy => ?_, TH, ?_, ?_⟩
    · show ((yr s m x).1.Ws.length : Int) = _
      rw [T.ws]; exact E.wl
    · show ((s.Ms.set _ _).length : Int) = _
      rw [List.length_set]; exact E.ml
    · show (yr s m x).1.Acks.length = (s.Ms.set _ _).length
      rw [List.length_set, T.ac]; exact E.al
    · have hy : (yr s m x).1.Ws[i]? = some y := hy
      rw [T.ws] at hy
      exact E.W i y hy
    · rcases zr5 hy with ⟨rfl, rfl⟩ | hy
      · rw [ei]; exact r2
      · exact E.X i y hy
    · show (0 ≤ (yr s m x).1.D.PC ∧ (yr s m x).1.D.PC ≤ 6) ∧ ((yr s m x).1.D.PC = 3 → 0 ≤ (yr s m x).1.D.I ∧ (yr s m x).1.D.I < ((s.Ms.set _ _).length : Int))
      rw [T.d, List.length_set]; exact E.D
    · have q := E.small.mu x (List.mem_of_getElem? hx)
      have q1 := r2.regs
      have q2 := r2.buf
      have q3 := zrD h m
      have := sm.setM (i := (m - 1).toNat) (x := (yr s m x).2) ⟨by omega, by omega, zub E.small m q.2.2⟩
      rw [hms] at this
      exact this
end
end Go.Pe.G
namespace Go.Pe.G
open Go.Pe
noncomputable section
theorem zwb (t : zj) (o : Int) : zi8 t o = some (uj t o, ()) := by
  rw [zqO, zkd, Option.bind_some]
  show (bif yA (t.Marks &&& t.Black) o then _ else _) = _
  unfold uj
  cases h : yA (t.Marks &&& t.Black) o with
  | true => rfl
  | false =>
    rw [cond_false, zkd, Option.bind_some]
    show (bif yA t.Marks o then _ else _) = _
    cases h2 : yA t.Marks o <;> rfl
theorem zjP (t : zj) (o : Int) : Vn t o = some (u6 t o, decide (uj t o = 1), ()) := by
  rw [zoa, zwb, Option.bind_some, yG]
  unfold u6
  by_cases h : uj t o = 1
  · rw [if_pos h, if_pos h, zhf, Option.bind_some, decide_eq_true h]
  · rw [if_neg h, if_neg h, decide_eq_false h]
theorem zs0 {h : zo} (hl : h.Objs.length < 1000000) (o s : Int) : UI h o s = some (Ui h o s, ()) := by
  rw [zhY]
  simp only [zn]
  unfold Ui
  by_cases h1 : 1 ≤ o
  · rw [if_pos h1]
    by_cases h2 : o ≤ (h.Objs.length : Int)
    · rw [if_pos h2]
      by_cases h3 : 0 ≤ s
      · have e := List.getElem?_eq_getElem (show (o - 1).toNat < h.Objs.length by omega)
        rw [if_pos h3, yh (a := o - 1) (by omega) (by omega), Wz (by omega), e, Option.bind_some, decide_eq_true h1, decide_eq_true h2, decide_eq_true h3]
        unfold zO
        rw [List.getD_eq_getElem?_getD, e]; rfl
      · rw [if_neg h3, decide_eq_false h3, Bool.and_false]; rfl
    · rw [if_neg h2, decide_eq_false h2, Bool.and_false]; rfl
  · rw [if_neg h1, decide_eq_false h1]; rfl
theorem zuP {h : zo} (hl : h.Objs.length < 1000000) (o s : Int) : zhT h o s = some (xG h o s, Ui h o s, ()) := by
  rw [zo7, zs0 hl, Option.bind_some]
  unfold xG
  cases hs : Ui h o s with
  | false => rfl
  | true =>
    have hs' := hs
    unfold Ui at hs'
    simp only [Bool.and_eq_true, decide_eq_true_eq] at hs'
    obtain ⟨⟨⟨h1, h2⟩, h3⟩, h4⟩ := hs'
    have e := List.getElem?_eq_getElem (show (o - 1).toNat < h.Objs.length by omega)
    have es : zO h o = h.Objs[(o - 1).toNat]'(by omega) := by unfold zO; rw [List.getD_eq_getElem?_getD, e]; rfl
    rw [es] at h4
    have e2 := List.getElem?_eq_getElem (show s.toNat < (h.Objs[(o - 1).toNat]'(by omega)).length by omega)
    simp only [Bool.not_true, cond_false, if_true]
    rw [yh (a := o - 1) (by omega) (by omega), Wz (by omega), e, Option.bind_some, Wz h3, e2, Option.bind_some, es, List.getD_eq_getElem?_getD, e2]; rfl
theorem zqp (l : zp) (who : Int) : Ww l who = some (decide (1 ≤ who) && decide (who ≤ (l.Bal.length : Int)), ()) := by
  rw [zeP, zn]
  by_cases h1 : 1 ≤ who
  · rw [if_pos h1, decide_eq_true h1]; rfl
  · rw [if_neg h1, decide_eq_false h1]; rfl
theorem zry {l : zp} (hl : l.Bal.length < 1000000) (who : Int) : zad l who = some (zcG l who, ()) := by
  rw [zlR, ug, zqp, Option.bind_some]
  unfold zcG
  by_cases h : 1 ≤ who ∧ who ≤ (l.Bal.length : Int)
  · rw [if_pos h, decide_eq_true h.1, decide_eq_true (show who ≤ ((({ l with Scanned := wc (l.Scanned + 1) } : zp).Bal.length : Nat) : Int) from h.2)]
    have hn : ¬ l.Bal.isEmpty = true := by
      intro e
      have : l.Bal = [] := by simpa using e
      rw [this] at h
      simp at h
      omega
    have hn : l.Bal.isEmpty = false := by simpa using hn
    have e := List.getElem?_eq_getElem (show (who - 1).toNat < l.Bal.length by omega)
    rw [Bool.true_and, Bool.not_true, cond_false, Wx]
    simp only [decide_true, cond_true, zfx (n := (l.Bal.length : Int)) (by omega) (by omega), Option.bind_some, List.length_replicate, Int.toNat_natCast, hn, cond_false, ug]
    rw [wO (a := who - 1) (by omega) (by omega), Xw (l := l.Bal) (by omega) (by omega), Option.bind_some, e, Option.bind_some, zjC, Option.bind_some, Option.bind_some, Option.bind_some, ug, List.getD_eq_getElem?_getD, e]
    rfl
  · rw [if_neg h]
    have e : (decide (1 ≤ who) && decide (who ≤ ((({ l with Scanned := wc (l.Scanned + 1) } : zp).Bal.length : Nat) : Int))) = false := by
      by_cases h1 : 1 ≤ who
      · rw [decide_eq_true h1, decide_eq_false (fun e => h ⟨h1, e⟩)]; rfl
      · rw [decide_eq_false h1]; rfl
    rw [e]; rfl
theorem zqZ {α : Type} (o : α) (l : List α) : cut (o :: l) 1 (((o :: l).length : Nat) : Int) = some l := by
  unfold cut
  rw [decide_eq_true (show (0 : Int) ≤ 1 by decide), decide_eq_true (show (1 : Int) ≤ (((o :: l).length : Nat) : Int) by simp; omega), decide_eq_true (Int.le_refl _)]
  simp
end
end Go.Pe.G
namespace Go.Pe.G
open Go.Pe
noncomputable section
theorem zvA {m : List ze} (h : m.length < 4294967296) : wH m = some (m, ()) := by
  rw [XQ, List.nil_append, vJ h, Option.bind_some]
  cases m with
  | nil => simp [zgl]
  | cons a l => simp
theorem zu9 {n v : Int} (h : 1 ≤ v ∧ v ≤ n) (hn : n < 1000000) : w64 (v.tmod n + 1) = zeD n v := by
  unfold zeD
  rw [Int.tmod_eq_emod_of_nonneg (by omega)]
  by_cases hv : v < n
  · rw [if_pos hv, Int.emod_eq_of_lt (by omega) hv, yh (by omega) (by omega)]
  · have : v = n := by omega
    rw [if_neg hv, this, Int.emod_self, yh (by omega) (by omega)]
    rfl
theorem zrU {p : zb} (h : zC p) {s : za} (hP : s.P = p) (hl : (s.Ws.length : Int) = p.Workers) {x : ze} (hv : 1 ≤ x.Victim ∧ x.Victim ≤ p.Workers) (w : Int) :
    YA ⟨x, s, w⟩ = some (⟨Yq p w x, s, w⟩, ()) := by
  have hw := h.wk
  rw [zfR]
  simp only [zn, hl]
  rw [if_neg (show ¬ p.Workers = 0 by omega), zu9 hv (by omega)]
  unfold Yq
  by_cases e : zeD p.Workers x.Victim = w
  · rw [if_pos e, if_pos e, zea, Option.bind_some, zbs]
    simp only [za6, Option.bind_some, WY, e, hP]
    rfl
  · rw [if_neg e, if_neg e, zdc]
    simp only [zcw, Option.bind_some, WT, hP]
theorem zj4 {p : zb} {s : za} (hP : s.P = p) (x : ze) (w : Int) : vq ⟨x, s, w⟩ = some (⟨Ub p w x, s, w⟩, ()) := by
  rw [zfv, zdc]
  simp only [zcw, Option.bind_some, WT, hP]
  rfl
theorem zoD (s : za) (x : ze) (w : Int) : XH ⟨x, s, w⟩ = some (onW s x.Slot, ()) := by
  rw [zi9, zn]
  unfold onW
  split <;> rfl
theorem zkW {s : za} (hm : s.M.length < 4294967296) (x : ze) (w : Int) : vH ⟨x, s, w⟩ = some ((zm s.M x.C).2.Out, ⟨{ x with C := (zm s.M x.C).2 }, { s with M := (zm s.M x.C).1 }, w⟩, ()) := by
  rw [zfO]
  simp only [ziz hm, Option.bind_some]
theorem zmu {p : zb} (h : zC p) {s : za} (hP : s.P = p) (hm : s.M.length < 4294967296) (hl : (s.Ws.length : Int) = p.Workers) {x : ze} (hv : 1 ≤ x.Victim ∧ x.Victim ≤ p.Workers) (hc : x.D.Cap < 1000) {w : Int} (h01 : x.PC = 0 ∨ x.PC = 1) :
    Xb ⟨x, s, w⟩ = some (⟨(zw s w x).2, (zw s w x).1, w⟩, ()) := by
  unfold zw
  rw [if_pos h01, zgU]
  simp only [zsy hm hc, Option.bind_some, zn]
  by_cases o1 : (zN s.M x.D).2.Out = 1
  · rw [if_pos o1, if_pos o1, UC]; rfl
  · rw [if_neg o1, if_neg o1]
    have hk := fun (x' : ze) (e : x'.Victim = x.Victim) => zrU h (s := { s with M := (zN s.M x.D).1 }) hP hl (x := x') (by rw [e]; exact hv) w
    by_cases o4 : (zN s.M x.D).2.Out = 4
    · rw [if_pos o4, if_pos (.inr o4), hk { x with D := (zN s.M x.D).2 } rfl, Option.bind_some, hP]
    · rw [if_neg o4]
      by_cases o2 : (zN s.M x.D).2.Out = 2
      · rw [if_pos o2, if_pos (.inl o2), hk { x with D := (zN s.M x.D).2 } rfl, Option.bind_some, hP]
      · rw [if_neg o2, if_neg (by omega)]
theorem zs2 {p : zb} {nb : Nat} (h : zC p) {s : za} {x : ze} {w : Int} (S : SOk p nb s) (W : WOk p nb w x) (hl : (s.Ws.length : Int) = p.Workers) (sm : ZQ s) :
    W4 ⟨x, s, w⟩ = some (⟨(zw s w x).2, (zw s w x).1, w⟩, ()) := by
  have hP := S.P
  have hm : s.M.length < 4294967296 := by have := S.mem; omega
  have hc := h.cap
  rw [zfZ]
  simp only [zn]
  by_cases c0 : x.PC = 0
  · rw [if_pos c0, if_pos c0, zmu h hP hm hl W.vic (by have := (W.d0 c0).2.2; omega) (.inl c0), Option.bind_some]
  rw [if_neg c0]
  by_cases c1 : x.PC = 1
  · rw [if_pos c1, zmu h hP hm hl W.vic (by have := (W.d1 c1).2.2; omega) (.inr c1), Option.bind_some]
  rw [if_neg c1]
  unfold zw
  rw [if_neg (show ¬ (x.PC = 0 ∨ x.PC = 1) by omega)]
  by_cases c2 : x.PC = 2
  · rw [if_pos c2, if_pos c2, zkW hm, Option.bind_some]
    simp only [zj4 (s := { s with M := (zm s.M x.C).1 }) hP]
    by_cases o1 : (zm s.M x.C).2.Out = 1
    · rw [if_pos o1, if_pos o1]
    · rw [if_neg o1, if_neg o1]
      by_cases o2 : (zm s.M x.C).2.Out = 2
      · rw [if_pos o2, if_pos o2, Option.bind_some, hP]
      · rw [if_neg o2, if_neg o2]
  rw [if_neg c2, if_neg c2]
  by_cases c3 : x.PC = 3
  · have B := W.b3 c3
    have hb := S.bins
    have hnb := S.nbk
    have e := List.getElem?_eq_getElem (show x.Bin.toNat < s.Bins.length by omega)
    rw [if_pos c3, if_pos c3, zfP]
    dsimp only
    rw [Wz (by omega), e, Option.bind_some, zl3 (by omega), Option.bind_some, Xw (l := s.Bins) (by omega) (by omega), Option.bind_some, zcF, Option.bind_some, zbs]
    simp only [za6, Option.bind_some, WY]
    unfold zbd
    rw [List.getD_eq_getElem?_getD, e]; rfl
  rw [if_neg c3, if_neg c3]
  by_cases c4 : x.PC = 4
  · rw [if_pos c4, if_pos c4, zkW hm, Option.bind_some]
    dsimp only
    by_cases o1 : (zm s.M x.C).2.Out = 1
    · rw [if_pos o1, if_pos o1]
    · rw [if_neg o1, if_neg o1]
  rw [if_neg c4, if_neg c4]
  by_cases c5 : x.PC = 5
  · rw [if_pos c5, if_pos c5, zfN]
    simp only [zuP sm.objs, Option.bind_some, zn, zoD, zsW, ug]
    by_cases v : xG s.H x.Obj x.Slot = 0
    · rw [if_pos v, if_pos v]; rfl
    · rw [if_neg v, if_neg v]; rfl
  rw [if_neg c5, if_neg c5]
  by_cases c6 : x.PC = 6
  · obtain ⟨g1, g2, g3, g4⟩ := W.g6 c6
    rw [if_pos c6, if_pos c6]
    simp only [zuc (S.gok h g1), Option.bind_some, zoD]
    have eH : (zF s x.G).1.H = s.H := (zaF s x.G).2
    by_cases o1 : (zF s x.G).2.Out = 1
    · rw [if_pos o1, if_pos o1]
      unfold onW
      rw [eH]
    · rw [if_neg o1, if_neg o1]
  rw [if_neg c6, if_neg c6]
  by_cases c7 : x.PC = 7
  · rw [if_pos c7, if_pos c7]
    cases hb : x.Batch with
    | nil => rw [if_pos (by simp), zj4 hP, Option.bind_some, hP]
    | cons o l =>
      rw [if_neg (by simp; omega), Wz (by omega)]
      simp only [Int.toNat_zero, List.getElem?_cons_zero, Option.bind_some, UC, hb]
      rw [zqZ]; rfl
  rw [if_neg c7, if_neg c7]
  by_cases c8 : x.PC = 8
  · rw [if_pos c8, if_pos c8]
    simp only [zjP, Option.bind_some, zry sm.bal]
  rw [if_neg c8, if_neg c8]
  by_cases c9 : x.PC = 9
  · rw [if_pos c9, if_pos c9, ug]
  · rw [if_neg c9, if_neg c9]
theorem zgD {p : zb} {nb : Nat} {s : za} (h : zC p) (E : EOk p nb s) (w : Int) : Xy s w = some (zW s w, ()) := by
  rw [zlF]
  simp only [zn]
  unfold zW
  cases hd : s.Done with
  | true => rw [cond_true, if_pos (.inl rfl)]
  | false =>
    rw [cond_false]
    by_cases h1 : w < 1
    · rw [if_pos h1, if_pos (.inr (.inl h1))]
    rw [if_neg h1]
    by_cases h2 : (s.Ws.length : Int) < w
    · rw [if_pos h2, if_pos (.inr (.inr h2))]
    have hwl := E.wl
    have hwk := h.wk
    have e := List.getElem?_eq_getElem (show (w - 1).toNat < s.Ws.length by omega)
    have ei : (((w - 1).toNat : Nat) : Int) + 1 = w := by omega
    have hW := E.W _ _ e
    rw [ei] at hW
    obtain ⟨T, TH⟩ := zoM s w (s.Ws[(w - 1).toNat]'(by omega))
    rw [if_neg h2, if_neg (fun e => e.elim (fun h => by cases h) (fun e => e.elim h1 h2)), yh (a := w - 1) (by omega) (by omega), Wz (by omega), e, Option.bind_some, zs2 h E.S hW hwl E.small, Option.bind_some]
    simp only [T.ws, zvA (show s.Ws.length < 4294967296 by omega), Option.bind_some, Xw (l := s.Ws) (show 0 ≤ w - 1 by omega) (show w - 1 < (s.Ws.length : Int) by omega)]
end
end Go.Pe.G
namespace Go.Pe.G
open Go.Pe
noncomputable section
def u5 (p : zb) (w : Int) (i : Nat) : Int := zI p w + 2 + ((i % p.Cap.toNat : Nat) : Int)
structure DQ (p : zb) (m : List (BitVec 64)) (w : Int) (t : Nat) (l : List Int) (c : Nat) : Prop where
  top : ld m (zI p w) = BitVec.ofNat 64 t
  bot : ld m (zI p w + 1) = BitVec.ofNat 64 (t + l.length - c)
  c1 : c ≤ 1
  t1 : 1 ≤ t
  cap : l.length ≤ p.Cap.toNat
  small : t + l.length < 4294967296
  cell : ∀ (i : Nat) (hi : i < l.length), (ld m (u5 p w (t + i))).toInt = l[i]
theorem DQ.keep {p : zb} (h : zC p) {m m' : List (BitVec 64)} {w : Int} {t c : Nat} {l : List Int} (D : DQ p m w t l c) (hm : ∀ a, zI p w ≤ a → a < zI p w + p.Cap + 2 → ld m' a = ld m a) : DQ p m' w t l c := by
  have hc := h.cap
  refine ⟨by rw [hm _ (by omega) (by omega)]; exact D.top, by rw [hm _ (by omega) (by omega)]; exact D.bot, D.c1, D.t1, D.cap, D.small, fun i hi => ?_⟩
  have := Nat.mod_lt (t + i) (show 0 < p.Cap.toNat by omega)
  rw [hm _ (by unfold u5; omega) (by unfold u5; omega)]
  exact D.cell i hi
theorem uE {n : Nat} (h : n < 18446744073709551616) : (BitVec.ofNat 64 n).toNat = n := by rw [BitVec.toNat_ofNat]; omega
theorem zay {a b : Nat} (h : b ≤ a) (h2 : a < 18446744073709551616) : BitVec.ofNat 64 a - BitVec.ofNat 64 b = BitVec.ofNat 64 (a - b) := by
  apply BitVec.eq_of_toNat_eq
  rw [BitVec.toNat_sub, uE h2, uE (by omega), uE (by omega)]
  omega
theorem zaH {a b : Nat} (h2 : a + b < 18446744073709551616) : BitVec.ofNat 64 a + BitVec.ofNat 64 b = BitVec.ofNat 64 (a + b) := by
  apply BitVec.eq_of_toNat_eq
  rw [BitVec.toNat_add, uE (by omega), uE (by omega), uE (by omega)]
  omega
theorem ztL {a b : Nat} (h : a < 18446744073709551616) (h2 : b < 18446744073709551616) (e : BitVec.ofNat 64 a = BitVec.ofNat 64 b) : a = b := by
  have := congrArg BitVec.toNat e
  rwa [uE h, uE h2] at this
theorem zda {a b : Nat} (h : a < 4294967296) (h2 : b < 4294967296) : 0 < (BitVec.ofNat 64 a - BitVec.ofNat 64 b).toInt ↔ b < a := by
  rw [BitVec.toInt_eq_toNat_cond, BitVec.toNat_sub, uE (by omega), uE (by omega)]
  omega
theorem zwh {t i n c : Nat} (hi : i < n) (hn : n < t + c) (ht : t ≤ i) (e : i % c = n % c) : False := by
  have h1 := Nat.div_add_mod i c
  have h2 := Nat.div_add_mod n c
  have hc : 0 < c := by omega
  rw [e] at h1
  have h3 : c * (n / c) = c * (i / c) + (n - i) := by omega
  rcases Nat.lt_or_ge (i / c) (n / c) with h | h
  · have : c * (i / c) + c ≤ c * (n / c) := by
      have := Nat.mul_le_mul_left c h
      rw [Nat.succ_eq_add_one, Nat.mul_add, Nat.mul_one] at this
      exact this
    omega
  · have := Nat.mul_le_mul_left c h
    omega
theorem zax {p : zb} (h : zC p) {d : zg} {w : Int} (hw : 1 ≤ w ∧ w ≤ p.Workers) (hb : d.Base = zI p w) (hc : d.Cap = p.Cap) {i : Nat} (hi : i < 4294967296) : ZE d (BitVec.ofNat 64 i) = u5 p w i := by
  rw [(zk0 h hw.1 hw.2 hb hc _).1, uE (by omega), hb]; rfl
structure DK (p : zb) (m : List (BitVec 64)) (w : Int) (t : Nat) (l : List Int) (c : Nat) (d : zg) : Prop where
  kind : d.Kind = 1
  base : d.Base = zI p w
  size : d.Cap = p.Cap
  out : d.Out = 0
  c0 : c = 0
  pc : 0 ≤ d.PC ∧ d.PC ≤ 3
  b : 1 ≤ d.PC → d.B = BitVec.ofNat 64 (t + l.length)
  r : 2 ≤ d.PC → l.length < p.Cap.toNat
  x : 3 ≤ d.PC → (ld m (u5 p w (t + l.length))).toInt = d.X
structure PK (p : zb) (m : List (BitVec 64)) (w : Int) (t : Nat) (l : List Int) (c : Nat) (d : zg) : Prop where
  kind : d.Kind = 2
  base : d.Base = zI p w
  size : d.Cap = p.Cap
  out : d.Out = 0
  pc : 0 ≤ d.PC ∧ d.PC ≤ 6
  c0 : d.PC ≤ 1 → c = 0
  c1 : d.PC = 2 ∨ 4 ≤ d.PC → c = 1
  b : d.PC = 1 ∨ d.PC = 2 ∨ 4 ≤ d.PC ∨ (d.PC = 3 ∧ d.T = d.B - 1#64) → d.B = BitVec.ofNat 64 (t + l.length)
  c3 : d.PC = 3 → d.T = d.B - 1#64 → c = 1
  n3 : d.PC = 3 → d.T ≠ d.B - 1#64 → c = 0 ∧ d.B = BitVec.ofNat 64 (t + l.length + 1) ∧ t + l.length + 1 < 4294967296 ∧ l.length + 1 ≤ p.Cap.toNat
  t3 : d.PC = 3 ∨ d.PC = 4 → d.T.toNat ≤ t
  t4 : d.PC = 4 → d.T = d.B - 1#64
  x4 : d.PC = 4 → d.T.toNat = t → l = [d.X]
  e5 : 5 ≤ d.PC → l = []
def Yg (m : List (BitVec 64)) (d : zg) : List Int :=
  if d.PC = 3 ∧ d.T ≠ d.B - 1#64 then [(ld m (ZE d (d.B - 1#64))).toInt] else if d.PC = 6 then [d.X] else []
structure TK (p : zb) (m : List (BitVec 64)) (w : Int) (t : Nat) (l : List Int) (d : zg) : Prop where
  kind : d.Kind = 3
  base : d.Base = zI p w
  size : d.Cap = p.Cap
  out : d.Out = 0
  pc : 0 ≤ d.PC ∧ d.PC ≤ 3
  le : 1 ≤ d.PC → d.T.toNat ≤ t
  ne : 2 ≤ d.PC → d.T.toNat = t → l ≠ []
  hd : d.PC = 3 → d.T.toNat = t → l.head? = some d.X
structure Dv (t : Nat) (l : List Int) (t' : Nat) (l' : List Int) : Prop where
  le : t ≤ t'
  hd : t' = t → l ≠ [] → l' ≠ [] ∧ l'.head? = l.head?
theorem Dv.refl (t : Nat) (l : List Int) : Dv t l t l := ⟨Nat.le_refl _, fun _ h => ⟨h, rfl⟩⟩
theorem TK.dv {p : zb} {m m' : List (BitVec 64)} {w : Int} {t t' : Nat} {l l' : List Int} {d : zg} (K : TK p m w t l d) (V : Dv t l t' l') : TK p m' w t' l' d := by
  have h1 := V.le
  refine ⟨K.kind, K.base, K.size, K.out, K.pc, fun h => Nat.le_trans (K.le h) h1, fun h e => ?_, fun h e => ?_⟩
  · have := K.le (by omega)
    have et : t' = t := by omega
    exact (V.hd et (K.ne h (by omega))).1
  · have := K.le (by omega)
    have et : t' = t := by omega
    rw [(V.hd et (K.ne (by omega) (by omega))).2]
    exact K.hd h (by omega)
theorem ztg {p : zb} (h : zC p) {m : List (BitVec 64)} {w : Int} {t c : Nat} {l : List Int} {d : zg} (hw : 1 ≤ w ∧ w ≤ p.Workers) (hlen : z7 p ≤ m.length) (D : DQ p m w t l c) (K : TK p m w t l d) :
    ((zN m d).1 = m ∧ (((zN m d).2.Out = 0 ∧ TK p m w t l (zN m d).2) ∨ (zN m d).2.Out = 2 ∨ (zN m d).2.Out = 4)) ∨
    (∃ x l', l = x :: l' ∧ (zN m d).2.Out = 1 ∧ (zN m d).2.X = x ∧ DQ p (zN m d).1 w (t + 1) l' c ∧ (∀ a, a ≠ zI p w → ld (zN m d).1 a = ld m a)) := by
  have hc := h.cap
  have hd := Zy h hw.1 hw.2
  have hf := u9 h
  have hpc := K.pc
  have hsm := D.small
  have ht1 := D.t1
  have hc1 := D.c1
  have eb : wc (d.Base + 1) = zI p w + 1 := by rw [K.base, wO (by omega) (by omega)]
  have k := K.kind
  unfold zN
  rw [if_neg (by have := K.out; omega), if_neg (by omega), if_neg (by omega), if_pos k]
  unfold Uw
  rw [if_neg (by omega), eb]
  by_cases c0 : d.PC = 0
  · rw [if_pos c0]
    exact .inl ⟨rfl, .inl ⟨K.out, ⟨k, K.base, K.size, K.out, ⟨by dsimp only; omega, by dsimp only; omega⟩, fun _ => by dsimp only; rw [K.base, D.top, uE (by omega)]; exact Nat.le_refl _, fun e => by dsimp only at e; omega, fun e => by dsimp only at e; omega⟩⟩⟩
  rw [if_neg c0]
  have hT := K.le (by omega)
  by_cases c1 : d.PC = 1
  · rw [if_pos c1]
    left
    refine ⟨rfl, ?_⟩
    by_cases hs : 0 < (ld m (zI p w + 1) - d.T).toInt
    · left
      dsimp only
      rw [if_pos hs]
      refine ⟨K.out, ⟨k, K.base, K.size, K.out, ⟨by dsimp only; omega, by dsimp only; omega⟩, fun _ => hT, fun _ e => ?_, fun e => by dsimp only at e; omega⟩⟩
      have e : d.T.toNat = t := e
      have eT : d.T = BitVec.ofNat 64 t := by apply BitVec.eq_of_toNat_eq; rw [uE (by omega)]; exact e
      rw [D.bot, eT] at hs
      have := (zda (by omega) (by omega)).1 hs
      intro el
      rw [el] at this
      simp at this
      omega
    · right; left
      dsimp only
      rw [if_neg hs]
  rw [if_neg c1]
  by_cases c2 : d.PC = 2
  · rw [if_pos c2]
    left
    refine ⟨rfl, .inl ⟨K.out, ⟨k, K.base, K.size, K.out, ⟨by dsimp only; omega, by dsimp only; omega⟩, fun _ => hT, fun _ e => K.ne (by omega) e, fun _ e => ?_⟩⟩⟩
    have e : d.T.toNat = t := e
    have eT : d.T = BitVec.ofNat 64 t := by apply BitVec.eq_of_toNat_eq; rw [uE (by omega)]; exact e
    have hn := K.ne (by omega) e
    cases l with
    | nil => exact absurd rfl hn
    | cons x l =>
      have := D.cell 0 (by simp)
      dsimp only
      rw [eT, zax h hw K.base K.size (by omega)]
      rw [Nat.add_zero] at this
      rw [this]; rfl
  rw [if_neg c2]
  have c3 : d.PC = 3 := by omega
  by_cases hs : ld m d.Base = d.T
  · right
    have eT : d.T.toNat = t := by rw [← hs, K.base, D.top, uE (by omega)]
    have eT' : d.T = BitVec.ofNat 64 t := by rw [← hs, K.base, D.top]
    have hx := K.hd c3 eT
    have hn := K.ne (by omega) eT
    have hsw : sw m d.Base d.T (d.T + 1#64) = (st m d.Base (d.T + 1#64), true) := by unfold sw; rw [if_pos ⟨by rw [K.base]; omega, by rw [K.base]; omega, hs⟩]
    rw [hsw]
    cases l with
    | nil => exact absurd rfl hn
    | cons x l =>
      have hx : x = d.X := by simpa using hx
      have hmod : ∀ i, zI p w + 2 ≤ u5 p w i := fun i => by unfold u5; omega
      have hlc := D.cap
      rw [List.length_cons] at hlc hsm
      refine ⟨x, l, rfl, rfl, hx.symm, ⟨?_, ?_, hc1, by omega, by omega, by omega, fun i hi => ?_⟩, fun a ha => ?_⟩
      · dsimp only
        rw [K.base, Y9, if_pos ⟨rfl, by omega, by omega⟩, eT']
        exact zaH (by omega)
      · dsimp only
        rw [K.base, yp (by omega), D.bot, List.length_cons]
        congr 1
        omega
      · dsimp only
        have := hmod (t + 1 + i)
        rw [K.base, yp (by omega)]
        have := D.cell (i + 1) (by simp; omega)
        rw [show t + (i + 1) = t + 1 + i by omega] at this
        simpa using this
      · dsimp only
        rw [K.base, yp (fun e => ha e.symm)]
  · left
    have hsw : sw m d.Base d.T (d.T + 1#64) = (m, false) := by unfold sw; rw [if_neg (fun e => hs e.2.2)]
    rw [hsw]
    exact ⟨rfl, .inr (.inr rfl)⟩
theorem w9 {m : List (BitVec 64)} {d : zg} (h : d.PC ≠ 3 ∨ d.T = d.B - 1#64) (h2 : d.PC ≠ 6) : Yg m d = [] := by
  unfold Yg
  rw [if_neg (fun e => h.elim (fun f => f e.1) (fun f => e.2 f)), if_neg h2]
theorem zqV {p : zb} (h : zC p) {m : List (BitVec 64)} {w : Int} {t c : Nat} {l : List Int} {d : zg} (hw : 1 ≤ w ∧ w ≤ p.Workers) (hlen : z7 p ≤ m.length) (D : DQ p m w t l c) (K : PK p m w t l c d) :
    ∃ t' l' c', DQ p (zN m d).1 w t' l' c' ∧ (∀ a, a ≠ zI p w → a ≠ zI p w + 1 → ld (zN m d).1 a = ld m a) ∧ Dv t l t' l' ∧ t' + l'.length ≤ t + l.length ∧
      (((zN m d).2.Out = 0 ∧ PK p (zN m d).1 w t' l' c' (zN m d).2 ∧ List.Perm (l' ++ Yg (zN m d).1 (zN m d).2) (l ++ Yg m d)) ∨
       ((zN m d).2.Out = 1 ∧ c' = 0 ∧ List.Perm (l' ++ [(zN m d).2.X]) (l ++ Yg m d)) ∨
       ((zN m d).2.Out = 2 ∧ c' = 0 ∧ l' = [] ∧ l = [] ∧ Yg m d = [])) := by
  have hc := h.cap
  have hd := Zy h hw.1 hw.2
  have hf := u9 h
  have hpc := K.pc
  have hsm := D.small
  have ht1 := D.t1
  have hc1 := D.c1
  have eb : wc (d.Base + 1) = zI p w + 1 := by rw [K.base, wO (by omega) (by omega)]
  have k := K.kind
  have one : (1#64 : BitVec 64) = BitVec.ofNat 64 1 := rfl
  have hmod : ∀ i, zI p w + 2 ≤ u5 p w i ∧ u5 p w i < zI p w + p.Cap + 2 := fun i => by
    have := Nat.mod_lt i (show 0 < p.Cap.toNat by omega)
    unfold u5; omega
  have stb : ∀ (c' : Nat) (v : BitVec 64), c' ≤ 1 → v = BitVec.ofNat 64 (t + l.length - c') → DQ p (st m (zI p w + 1) v) w t l c' ∧ (∀ a, a ≠ zI p w → a ≠ zI p w + 1 → ld (st m (zI p w + 1) v) a = ld m a) := by
    intro c' v h1 h2
    refine ⟨⟨by rw [yp (by omega)]; exact D.top, by rw [Y9, if_pos ⟨rfl, by omega, by omega⟩]; exact h2, h1, ht1, D.cap, hsm, fun i hi => by rw [yp (by have := hmod (t + i); omega)]; exact D.cell i hi⟩, fun a _ h2 => yp (fun e => h2 e.symm)⟩
  unfold zN
  rw [if_neg (by have := K.out; omega), if_neg (by omega), if_pos k]
  unfold zd4
  rw [if_neg (by omega), eb]
  by_cases p0 : d.PC = 0
  · rw [if_pos p0]
    have hc0 := K.c0 (by omega)
    refine ⟨t, l, c, D, fun _ _ _ => rfl, Dv.refl _ _, Nat.le_refl _, .inl ⟨K.out, ⟨k, K.base, K.size, K.out, ⟨by dsimp only; omega, by dsimp only; omega⟩, fun _ => hc0, fun e => by dsimp only at e; omega, fun _ => ?_, fun e => by dsimp only at e; omega, fun e => by dsimp only at e; omega, fun e => by dsimp only at e; omega, fun e => by dsimp only at e; omega, fun e => by dsimp only at e; omega, fun e => by dsimp only at e; omega⟩, ?_⟩⟩
    · dsimp only; rw [D.bot, hc0]; rfl
    · rw [w9 (.inl (by dsimp only; omega)) (by dsimp only; omega), w9 (.inl (by omega)) (by omega)]
  rw [if_neg p0]
  by_cases p1 : d.PC = 1
  · rw [if_pos p1]
    have hB := K.b (.inl p1)
    have eB : d.B - 1#64 = BitVec.ofNat 64 (t + l.length - 1) := by rw [hB, one, zay (by omega) (by omega)]
    obtain ⟨D', hm⟩ := stb 1 (d.B - 1#64) (by omega) eB
    refine ⟨t, l, 1, D', hm, Dv.refl _ _, Nat.le_refl _, .inl ⟨K.out, ⟨k, K.base, K.size, K.out, ⟨by dsimp only; omega, by dsimp only; omega⟩, fun e => by dsimp only at e; omega, fun _ => rfl, fun _ => hB, fun e => by dsimp only at e; omega, fun e => by dsimp only at e; omega, fun e => by dsimp only at e; omega, fun e => by dsimp only at e; omega, fun e => by dsimp only at e; omega, fun e => by dsimp only at e; omega⟩, ?_⟩⟩
    rw [w9 (.inl (by dsimp only; omega)) (by dsimp only; omega), w9 (.inl (by omega)) (by omega)]
  rw [if_neg p1]
  by_cases p2 : d.PC = 2
  · rw [if_pos p2]
    have hB := K.b (.inr (.inl p2))
    have hc' := K.c1 (.inl p2)
    have eB : d.B - 1#64 = BitVec.ofNat 64 (t + l.length - 1) := by rw [hB, one, zay (by omega) (by omega)]
    have eT : ld m d.Base = BitVec.ofNat 64 t := by rw [K.base]; exact D.top
    rw [w9 (d := d) (.inl (by omega)) (by omega), List.append_nil]
    by_cases hs : 0 < (ld m d.Base - (d.B - 1#64)).toInt
    · have hs' := hs
      rw [eT, eB] at hs'
      have := (zda (by omega) (by omega)).1 hs'
      have el : l = [] := by cases l with | nil => rfl | cons a l => rw [List.length_cons] at this; omega
      rw [if_pos hs]
      refine ⟨t, l, c, D, fun _ _ _ => rfl, Dv.refl _ _, Nat.le_refl _, .inl ⟨K.out, ⟨k, K.base, K.size, K.out, ⟨by dsimp only; omega, by dsimp only; omega⟩, fun e => by dsimp only at e; omega, fun _ => hc', fun _ => hB, fun e => by dsimp only at e; omega, fun e => by dsimp only at e; omega, fun e => by dsimp only at e; omega, fun e => by dsimp only at e; omega, fun e => by dsimp only at e; omega, fun _ => el⟩, ?_⟩⟩
      rw [w9 (.inl (by dsimp only; omega)) (by dsimp only; omega), List.append_nil]
    · have hs' := hs
      rw [eT, eB] at hs'
      have hle : ¬ (t + l.length - 1 < t) := fun e => hs' ((zda (by omega) (by omega)).2 e)
      rw [if_neg hs]
      by_cases h1 : l.length = 1
      · have e3 : ld m d.Base = d.B - 1#64 := by rw [eT, eB]; congr 1; omega
        refine ⟨t, l, c, D, fun _ _ _ => rfl, Dv.refl _ _, Nat.le_refl _, .inl ⟨K.out, ⟨k, K.base, K.size, K.out, ⟨by dsimp only; omega, by dsimp only; omega⟩, fun e => by dsimp only at e; omega, fun e => by dsimp only at e; omega, fun _ => hB, fun _ _ => hc', fun _ e => absurd e3 e, fun _ => by dsimp only; rw [eT, uE (by omega)]; exact Nat.le_refl _, fun e => by dsimp only at e; omega, fun e => by dsimp only at e; omega, fun e => by dsimp only at e; omega⟩, ?_⟩⟩
        rw [w9 (.inr e3) (by dsimp only; omega), List.append_nil]
      · -- the last one is the owner's
        have h2 : 2 ≤ l.length := by omega
        have e3 : ld m d.Base ≠ d.B - 1#64 := by
          rw [eT, eB]
          intro e
          have := ztL (by omega) (by omega) e
          omega
        have hne : l ≠ [] := fun e => by rw [e] at h2; simp at h2
        have hdl : l.dropLast.length = l.length - 1 := List.length_dropLast
        refine ⟨t, l.dropLast, 0, ⟨D.top, ?_, by omega, ht1, by have := D.cap; omega, by omega, fun i hi => ?_⟩, fun _ _ _ => rfl, ⟨Nat.le_refl _, fun _ _ => ⟨fun e => ?_, ?_⟩⟩, by omega, .inl ⟨K.out, ⟨k, K.base, K.size, K.out, ⟨by dsimp only; omega, by dsimp only; omega⟩, fun e => by dsimp only at e; omega, fun e => by dsimp only at e; omega, fun e => ?_, fun _ e => absurd e e3, fun _ _ => ⟨rfl, ?_, by omega, by have := D.cap; omega⟩, fun _ => by dsimp only; rw [eT, uE (by omega)]; exact Nat.le_refl _, fun e => by dsimp only at e; omega, fun e => by dsimp only at e; omega, fun e => by dsimp only at e; omega⟩, ?_⟩⟩
        · rw [D.bot, hc', hdl]; congr 1; omega
        · rw [D.cell i (by omega)]
          exact (List.getElem_dropLast ..).symm
        · have := congrArg List.length e; rw [hdl] at this; simp at this; omega
        · cases l with
          | nil => exact absurd rfl hne
          | cons a l => cases l with
            | nil => simp at h2
            | cons b l => rfl
        · rcases e with e | e | e | ⟨_, e⟩
          · dsimp only at e; omega
          · dsimp only at e; omega
          · dsimp only at e; omega
          · exact absurd e e3
        · dsimp only; rw [hB, hdl]; congr 1; omega
        · unfold Yg
          rw [if_pos ⟨rfl, e3⟩]
          dsimp only
          have ep : ZE { d with T := ld m d.Base, PC := 3 } (d.B - 1#64) = u5 p w (t + (l.length - 1)) := by
            rw [eB]
            have := zax h (d := { d with T := ld m d.Base, PC := 3 }) hw K.base K.size (i := t + l.length - 1) (by omega)
            rw [this]; congr 1; omega
          rw [ep, D.cell (l.length - 1) (by omega)]
          have := List.dropLast_concat_getLast hne
          rw [List.getLast_eq_getElem] at this
          rw [this]
  rw [if_neg p2]
  by_cases p3 : d.PC = 3
  · rw [if_pos p3]
    by_cases e3 : d.T = d.B - 1#64
    · rw [if_pos e3]
      have hB := K.b (.inr (.inr (.inr ⟨p3, e3⟩)))
      have hc' := K.c3 p3 e3
      have eB : d.B - 1#64 = BitVec.ofNat 64 (t + l.length - 1) := by rw [hB, one, zay (by omega) (by omega)]
      refine ⟨t, l, c, D, fun _ _ _ => rfl, Dv.refl _ _, Nat.le_refl _, .inl ⟨K.out, ⟨k, K.base, K.size, K.out, ⟨by dsimp only; omega, by dsimp only; omega⟩, fun e => by dsimp only at e; omega, fun _ => hc', fun _ => hB, fun e => by dsimp only at e; omega, fun e => by dsimp only at e; omega, fun _ => K.t3 (.inl p3), fun _ => e3, fun _ e => ?_, fun e => by dsimp only at e; omega⟩, ?_⟩⟩
      · have e : d.T.toNat = t := e
        rw [e3, eB, uE (by omega)] at e
        have h1 : l.length = 1 := by omega
        have := D.cell 0 (by omega)
        dsimp only
        rw [eB, zax h hw K.base K.size (by omega), show t + l.length - 1 = t + 0 by omega, this]
        match l, h1 with
        | [a], _ => rfl
      · rw [w9 (.inl (by dsimp only; omega)) (by dsimp only; omega), w9 (.inr e3) (by omega)]
    · rw [if_neg e3]
      obtain ⟨a1, a2, a3, a4⟩ := K.n3 p3 e3
      refine ⟨t, l, c, D, fun _ _ _ => rfl, Dv.refl _ _, Nat.le_refl _, .inr (.inl ⟨rfl, a1, ?_⟩)⟩
      unfold Yg
      rw [if_pos ⟨p3, e3⟩]
  rw [if_neg p3]
  by_cases p4 : d.PC = 4
  · rw [if_pos p4]
    have hB := K.b (.inr (.inr (.inl (by omega))))
    have hc' := K.c1 (.inr (by omega))
    have e3 := K.t4 p4
    have ht := K.t3 (.inr p4)
    have eB : d.B - 1#64 = BitVec.ofNat 64 (t + l.length - 1) := by rw [hB, one, zay (by omega) (by omega)]
    have eT : d.T.toNat = t + l.length - 1 := by rw [e3, eB, uE (by omega)]
    rw [w9 (d := d) (.inl (by omega)) (by omega), List.append_nil]
    by_cases hs : ld m d.Base = d.T
    · have hsw : sw m d.Base d.T (d.T + 1#64) = (st m d.Base (d.T + 1#64), true) := by unfold sw; rw [if_pos ⟨by rw [K.base]; omega, by rw [K.base]; omega, hs⟩]
      have et : d.T.toNat = t := by rw [← hs, K.base, D.top, uE (by omega)]
      have el := K.x4 p4 et
      rw [hsw]
      have eT' : d.T = BitVec.ofNat 64 t := by rw [← hs, K.base, D.top]
      have hl1 : l.length = 1 := by rw [el]; rfl
      refine ⟨t + 1, [], 1, ⟨?_, ?_, by omega, by omega, by simp, by simp; omega, fun i hi => by simp at hi⟩, fun a h1 _ => ?_, ⟨by omega, fun e => by omega⟩, by simp; omega, .inl ⟨K.out, ⟨k, K.base, K.size, K.out, ⟨by dsimp only; simp, by dsimp only; simp⟩, fun e => by simp at e, fun _ => rfl, fun _ => ?_, fun e => by simp at e, fun e => by simp at e, fun e => by simp at e, fun e => by simp at e, fun e => by simp at e, fun _ => rfl⟩, ?_⟩⟩
      · dsimp only
        rw [K.base, Y9, if_pos ⟨rfl, by omega, by omega⟩, eT']
        exact zaH (by omega)
      · dsimp only
        rw [K.base, yp (by omega), D.bot, hc', hl1]; rfl
      · dsimp only
        rw [K.base, yp (fun e => h1 e.symm)]
      · dsimp only; rw [hB, hl1]; rfl
      · unfold Yg
        rw [if_neg (fun e => by simp at e), if_pos (by simp)]
        rw [el]; exact List.Perm.refl _
    · have hsw : sw m d.Base d.T (d.T + 1#64) = (m, false) := by unfold sw; rw [if_neg (fun e => hs e.2.2)]
      rw [hsw]
      have hne : d.T.toNat ≠ t := fun e => hs (by rw [K.base, D.top]; apply BitVec.eq_of_toNat_eq; rw [uE (by omega)]; exact e.symm)
      have el : l = [] := by cases l with | nil => rfl | cons a l => rw [List.length_cons] at eT; omega
      refine ⟨t, l, c, D, fun _ _ _ => rfl, Dv.refl _ _, Nat.le_refl _, .inl ⟨K.out, ⟨k, K.base, K.size, K.out, ⟨by dsimp only; simp, by dsimp only; simp⟩, fun e => by simp at e, fun _ => hc', fun _ => hB, fun e => by simp at e, fun e => by simp at e, fun e => by simp at e, fun e => by simp at e, fun e => by simp at e, fun _ => el⟩, ?_⟩⟩
      rw [w9 (.inl (by simp)) (by simp), List.append_nil]
  rw [if_neg p4]
  have hB := K.b (.inr (.inr (.inl (by omega))))
  have el := K.e5 (by omega)
  obtain ⟨D', hm⟩ := stb 0 d.B (by omega) (by rw [hB]; rfl)
  by_cases p5 : d.PC = 5
  · rw [if_pos p5]
    exact ⟨t, l, 0, D', hm, Dv.refl _ _, Nat.le_refl _, .inr (.inr ⟨rfl, rfl, el, el, w9 (.inl (by omega)) (by omega)⟩)⟩
  · rw [if_neg p5]
    refine ⟨t, l, 0, D', hm, Dv.refl _ _, Nat.le_refl _, .inr (.inl ⟨rfl, rfl, ?_⟩)⟩
    unfold Yg
    rw [if_neg (fun e => p3 e.1), if_pos (show d.PC = 6 by omega)]
theorem PK.stolen {p : zb} {m m' : List (BitVec 64)} (h : zC p) {w : Int} (hw : 1 ≤ w ∧ w ≤ p.Workers) {t c : Nat} {x : Int} {l : List Int} {d : zg} (K : PK p m w t (x :: l) c d) : PK p m' w (t + 1) l c d := by
  have e : t + (x :: l).length = t + 1 + l.length := by rw [List.length_cons]; omega
  refine ⟨K.kind, K.base, K.size, K.out, K.pc, K.c0, K.c1, fun q => by rw [← e]; exact K.b q, K.c3, fun a b => ?_, fun a => Nat.le_succ_of_le (K.t3 a), K.t4, fun a b => ?_, fun a => ?_⟩
  · have := K.n3 a b
    rw [e] at this
    rw [List.length_cons] at this
    exact ⟨this.1, this.2.1, this.2.2.1, by omega⟩
  · have := K.t3 (.inr a); omega
  · have := K.e5 a; cases this
theorem DK.stolen {p : zb} {m m' : List (BitVec 64)} {w : Int} {t c : Nat} {x : Int} {l : List Int} {d : zg} (K : DK p m w t (x :: l) c d) (hm : ∀ a, a ≠ zI p w → ld m' a = ld m a) (h : zC p) : DK p m' w (t + 1) l c d := by
  have e : t + (x :: l).length = t + 1 + l.length := by rw [List.length_cons]; omega
  refine ⟨K.kind, K.base, K.size, K.out, K.c0, K.pc, fun q => by rw [← e]; exact K.b q, fun q => by have := K.r q; rw [List.length_cons] at this; omega, fun q => ?_⟩
  rw [← e, hm _ (by unfold u5; omega)]
  exact K.x q
theorem PK.keep {p : zb} {m m' : List (BitVec 64)} {w : Int} {t c : Nat} {l : List Int} {d : zg} (K : PK p m w t l c d) : PK p m' w t l c d :=
  ⟨K.kind, K.base, K.size, K.out, K.pc, K.c0, K.c1, K.b, K.c3, K.n3, K.t3, K.t4, K.x4, K.e5⟩
theorem DK.keep {p : zb} (h : zC p) {m m' : List (BitVec 64)} {w : Int} {t c : Nat} {l : List Int} {d : zg} (K : DK p m w t l c d) (hm : ∀ a, zI p w + 1 < a → a < zI p w + p.Cap + 2 → ld m' a = ld m a) : DK p m' w t l c d := by
  have hc := h.cap
  have := Nat.mod_lt (t + l.length) (show 0 < p.Cap.toNat by omega)
  exact ⟨K.kind, K.base, K.size, K.out, K.c0, K.pc, K.b, K.r, fun q => by rw [hm _ (by unfold u5; omega) (by unfold u5; omega)]; exact K.x q⟩
theorem zpr {p : zb} (h : zC p) {m : List (BitVec 64)} {w : Int} {t c : Nat} {l : List Int} {d : zg} (hw : 1 ≤ w ∧ w ≤ p.Workers) (hlen : z7 p ≤ m.length) (D : DQ p m w t l c) (K : DK p m w t l c d) (hs : t + l.length + 1 < 4294967296) (hX : -9223372036854775808 ≤ d.X ∧ d.X < 9223372036854775808) :
    (∀ a, (a < zI p w ∨ zI p w + p.Cap + 2 ≤ a) → ld (yK m d).1 a = ld m a) ∧ (yK m d).2.X = d.X ∧
    (((yK m d).2.Out = 0 ∧ DQ p (yK m d).1 w t l 0 ∧ DK p (yK m d).1 w t l 0 (yK m d).2) ∨
     ((yK m d).2.Out = 3 ∧ DQ p (yK m d).1 w t l 0) ∨
     ((yK m d).2.Out = 1 ∧ DQ p (yK m d).1 w t (l ++ [d.X]) 0)) := by
  have hc := h.cap
  have hd := Zy h hw.1 hw.2
  have hf := u9 h
  have hmod : ∀ i, zI p w + 2 ≤ u5 p w i ∧ u5 p w i < zI p w + p.Cap + 2 := fun i => by
    have := Nat.mod_lt i (show 0 < p.Cap.toNat by omega)
    unfold u5; omega
  have hpc := K.pc
  have c00 := K.c0
  subst c00
  have ht1 := D.t1
  have hsm := D.small
  have eb : wc (d.Base + 1) = zI p w + 1 := by rw [K.base, wO (by omega) (by omega)]
  unfold yK
  rw [if_neg (by have := K.out; omega), eb]
  by_cases c0 : d.PC = 0
  · rw [if_pos c0]
    exact ⟨fun _ _ => rfl, rfl, .inl ⟨K.out, D, ⟨K.kind, K.base, K.size, K.out, rfl, ⟨by dsimp only; omega, by dsimp only; omega⟩, fun _ => D.bot, fun e => by dsimp only at e; omega, fun e => by dsimp only at e; omega⟩⟩⟩
  rw [if_neg c0]
  by_cases c1 : d.PC = 1
  · rw [if_pos c1]
    refine ⟨fun _ _ => rfl, by dsimp only; split <;> rfl, ?_⟩
    have hB := K.b (by omega)
    have es : (Yl d).toNat = p.Cap.toNat := by
      unfold Yl
      rw [K.size, if_neg (by omega), BitVec.toNat_ofInt]
      omega
    have ed : (d.B - ld m d.Base).toNat = l.length := by
      rw [hB, K.base, D.top, BitVec.toNat_sub, uE (by omega), uE (by omega)]
      omega
    split
    · right; left
      exact ⟨rfl, D⟩
    · rename_i hlt
      left
      have hr : l.length < p.Cap.toNat := by
        have : ¬ (Yl d).toNat ≤ (d.B - ld m d.Base).toNat := fun e => hlt (BitVec.le_def.2 e)
        omega
      exact ⟨K.out, D, ⟨K.kind, K.base, K.size, K.out, rfl, ⟨by dsimp only; omega, by dsimp only; omega⟩, fun _ => hB, fun _ => hr, fun e => by dsimp only at e; omega⟩⟩
  rw [if_neg c1]
  have hB := K.b (by omega)
  have hr := K.r (by omega)
  by_cases c2 : d.PC = 2
  · rw [if_pos c2]
    have ep : ZE d d.B = u5 p w (t + l.length) := by rw [hB]; exact zax h hw K.base K.size (by omega)
    rw [ep]
    have hm := hmod (t + l.length)
    refine ⟨fun a ha => yp (by omega), rfl, .inl ⟨K.out, ⟨?_, ?_, D.c1, ht1, D.cap, D.small, fun i hi => ?_⟩, ⟨K.kind, K.base, K.size, K.out, rfl, ⟨by dsimp only; omega, by dsimp only; omega⟩, fun _ => hB, fun _ => hr, fun _ => ?_⟩⟩⟩
    · dsimp only; rw [yp (by omega)]; exact D.top
    · dsimp only; rw [yp (by omega)]; exact D.bot
    · dsimp only
      rw [yp (fun e => zwh (t := t) (i := t + i) (n := t + l.length) (c := p.Cap.toNat) (by omega) (by omega) (by omega) (by unfold u5 at e; omega))]
      exact D.cell i hi
    · dsimp only
      rw [Y9, if_pos ⟨rfl, by omega, by omega⟩, BitVec.toInt_ofInt, Int.bmod_def]
      omega
  · rw [if_neg c2]
    have hx := K.x (by omega)
    refine ⟨fun a ha => yp (by omega), rfl, .inr (.inr ⟨rfl, ⟨?_, ?_, by omega, ht1, ?_, ?_, fun i hi => ?_⟩⟩)⟩
    · dsimp only; rw [yp (by omega)]; exact D.top
    · dsimp only
      rw [Y9, if_pos ⟨rfl, by omega, by omega⟩, hB, List.length_append]
      exact zaH (by omega)
    · rw [List.length_append]; show l.length + 1 ≤ _; omega
    · rw [List.length_append]; show t + (l.length + 1) < _; omega
    · dsimp only
      have hi' : i < l.length + 1 := by rw [List.length_append] at hi; exact hi
      have hm := hmod (t + i)
      rw [yp (by omega)]
      rcases Nat.lt_or_ge i l.length with g | g
      · rw [List.getElem_append_left g]; exact D.cell i g
      · have : i = l.length := by omega
        subst this
        rw [List.getElem_append_right (by omega)]
        simp only [Nat.sub_self, List.getElem_cons_zero]
        exact hx
end
end Go.Pe.G
namespace Go.Pe.G
open Go.Pe
noncomputable section
def yR (h : BitVec 64) : Nat := h.toNat / 4294967296
theorem zxS (h : BitVec 64) : yR h < 4294967296 := by unfold yR; have := h.isLt; omega
theorem zmx (v : BitVec 64) {n : Int} (h : 0 ≤ n) (h2 : n < 4294967296) : (yU v n).toNat = (v.toNat % 4294967296) * 4294967296 + n.toNat := by
  unfold yU
  have e3 : (BitVec.ofInt 64 n).toNat &&& (4294967295#64).toNat = n.toNat := by
    have : (BitVec.ofInt 64 n).toNat = n.toNat := by rw [BitVec.toNat_ofInt]; omega
    rw [this]
    exact (Nat.and_two_pow_sub_one_eq_mod n.toNat 32).trans (Nat.mod_eq_of_lt (by omega))
  rw [BitVec.toNat_or, BitVec.toNat_and, e3, BitVec.toNat_shiftLeft]
  have h2' : v.toNat <<< 32 % 2 ^ 64 = (v.toNat % 4294967296) <<< 32 := by rw [Nat.shiftLeft_eq, Nat.shiftLeft_eq]; omega
  rw [h2', ← Nat.shiftLeft_add_eq_or_of_lt (show n.toNat < 2 ^ 32 by omega), Nat.shiftLeft_eq]
theorem zqI (h : BitVec 64) {n : Int} (h1 : 0 ≤ n) (h2 : n < 4294967296) (hv : yR h + 1 < 4294967296) : yR (yU ((h >>> 32) + 1#64) n) = yR h + 1 := by
  have e : ((h >>> 32) + 1#64).toNat = yR h + 1 := by
    rw [BitVec.toNat_add, BitVec.toNat_ushiftRight, Nat.shiftRight_eq_div_pow]
    show (h.toNat / 4294967296 + 1) % 2 ^ 64 = _
    unfold yR at hv ⊢
    omega
  unfold yR
  rw [zmx _ h1 h2, e]
  unfold yR at hv ⊢
  omega
def Chn (m : List (BitVec 64)) (N : Int) (nb : Nat) : Int → List Int → Prop
  | h, [] => h = 0
  | h, x :: l => h = x ∧ 1 ≤ x ∧ x < nb ∧ Chn m N nb (ld m (N + x)).toInt l
theorem Chn.mem {m : List (BitVec 64)} {N : Int} {nb : Nat} : ∀ {l : List Int} {h : Int}, Chn m N nb h l → ∀ x ∈ l, 1 ≤ x ∧ x < nb
  | y :: l, h, c, x, hx => by
    rcases List.mem_cons.1 hx with rfl | hx
    · exact ⟨c.2.1, c.2.2.1⟩
    · exact Chn.mem c.2.2.2 x hx
theorem Chn.st {m : List (BitVec 64)} {N : Int} {nb : Nat} {a : Int} {v : BitVec 64} : ∀ {l : List Int} {h : Int}, Chn m N nb h l → (∀ x ∈ l, a ≠ N + x) → Chn (st m a v) N nb h l
  | [], h, c, _ => c
  | y :: l, h, c, hn => ⟨c.1, c.2.1, c.2.2.1, by
    rw [yp (hn y (by simp))]
    exact Chn.st c.2.2.2 (fun x hx => hn x (List.mem_cons_of_mem _ hx))⟩
theorem Chn.head {m : List (BitVec 64)} {N : Int} {nb : Nat} {l : List Int} {h : Int} (c : Chn m N nb h l) (hh : h ≠ 0) : ∃ t, l = h :: t ∧ 1 ≤ h ∧ h < nb ∧ Chn m N nb (ld m (N + h)).toInt t := by
  cases l with
  | nil => exact absurd c hh
  | cons x t =>
    obtain ⟨rfl, h1, h2, h3⟩ := c
    exact ⟨t, rfl, h1, h2, h3⟩
theorem Chn.empty {m : List (BitVec 64)} {N : Int} {nb : Nat} {l : List Int} (c : Chn m N nb 0 l) : l = [] := by
  cases l with
  | nil => rfl
  | cons x t => have := c.1; have := c.2.1; omega
def zj8 (nb : Nat) : List Int := (List.range (nb - 1)).map (fun (i : Nat) => (i : Int) + 1)
theorem zkM (nb : Nat) : (zj8 nb).Nodup := by
  unfold zj8
  rw [List.Nodup, List.pairwise_map]
  exact List.nodup_range.imp (fun h e => h (by omega))
theorem zuj {nb : Nat} {x : Int} : x ∈ zj8 nb ↔ 1 ≤ x ∧ x < nb := by
  unfold zj8
  rw [List.mem_map]
  constructor
  · rintro ⟨i, hi, rfl⟩
    have := List.mem_range.1 hi
    omega
  · rintro ⟨h1, h2⟩
    exact ⟨(x - 1).toNat, List.mem_range.2 (by omega), by omega⟩
structure LI (p : zb) (nb : Nat) (m : List (BitVec 64)) (h1 h2 : Int) (F E own : List Int) : Prop where
  hs : (h1 = z7 p ∧ h2 = zD p) ∨ (h1 = zD p ∧ h2 = z7 p)
  cF : Chn m (zD p) nb (yo (ld m h1)) F
  cE : Chn m (zD p) nb (yo (ld m h2)) E
  all : List.Perm (F ++ E ++ own) (zj8 nb)
  len : zD p + nb ≤ m.length
theorem LI.nodup {p : zb} {nb : Nat} {m : List (BitVec 64)} {h1 h2 : Int} {F E own : List Int} (h : LI p nb m h1 h2 F E own) : (F ++ E ++ own).Nodup := h.all.nodup_iff.2 (zkM nb)
theorem LI.notF {p : zb} {nb : Nat} {m : List (BitVec 64)} {h1 h2 : Int} {F E own : List Int} (h : LI p nb m h1 h2 F E own) {x : Int} (hx : x ∈ own) : x ∉ F ∧ x ∉ E := by
  have := List.nodup_append.1 h.nodup
  exact ⟨fun e => this.2.2 x (List.mem_append_left _ e) x hx rfl, fun e => this.2.2 x (List.mem_append_right _ e) x hx rfl⟩
theorem LI.own_in {p : zb} {nb : Nat} {m : List (BitVec 64)} {h1 h2 : Int} {F E own : List Int} (h : LI p nb m h1 h2 F E own) {x : Int} (hx : x ∈ own) : 1 ≤ x ∧ x < nb := zuj.1 (h.all.subset (List.mem_append_right _ hx))
structure CK (p : zb) (m : List (BitVec 64)) (c : zy) : Prop where
  v : 1 ≤ c.PC → yR c.H ≤ yR (ld m c.Head)
  y : c.PC = 2 → c.Kind = 2 → ld m c.Head = c.H → c.Y = (ld m (zD p + yo c.H)).toInt
  l : c.PC = 2 → c.Kind = 1 → ld m (zD p + c.X) = BitVec.ofInt 64 (yo c.H)
structure Mv (p : zb) (nb : Nat) (X : List Int) (m m' : List (BitVec 64)) : Prop where
  hd : ∀ h, h = z7 p ∨ h = zD p → yR (ld m h) ≤ yR (ld m' h) ∧ (ld m' h = ld m h ∨ yR (ld m h) < yR (ld m' h))
  nx : ∀ x : Int, 1 ≤ x → x < nb → x ∉ X → ld m' (zD p + x) = ld m (zD p + x)
theorem Mv.refl (p : zb) (nb : Nat) (X : List Int) (m : List (BitVec 64)) : Mv p nb X m m := ⟨fun h _ => ⟨Nat.le_refl _, .inl rfl⟩, fun _ _ _ _ => rfl⟩
theorem CK.mv {p : zb} {nb : Nat} {m m' : List (BitVec 64)} {h1 h2 : Int} {F E own X : List Int} {c : zy} (k : CK p m c) (L : LI p nb m h1 h2 F E own) (M : Mv p nb X m m') (hX : ∀ x ∈ X, x ∈ own)
    (hh : c.Head = h1 ∨ c.Head = h2) (hn : 1 ≤ c.PC → c.Kind = 2 → 1 ≤ yo c.H ∧ yo c.H < nb) (hx : c.Kind = 1 → 1 ≤ c.X ∧ c.X < nb ∧ c.X ∉ X) : CK p m' c := by
  obtain ⟨m1, m2⟩ := M.hd c.Head (by rcases L.hs with g | g <;> rcases hh with hh | hh <;> rw [hh] <;> simp [g])
  refine ⟨fun h => Nat.le_trans (k.v h) m1, fun h2 hk e => ?_, fun h2 hk => ?_⟩
  · have hv := k.v (by omega)
    have e' : ld m c.Head = c.H := by
      rcases m2 with m2 | m2
      · rw [← m2]; exact e
      · rw [e] at m2; omega
    obtain ⟨n1, n2⟩ := hn (by omega) hk
    rw [M.nx _ n1 n2 (fun hmem => ?_)]
    · exact k.y h2 hk e'
    · obtain ⟨f1, f2⟩ := L.notF (hX _ hmem)
      rcases hh with hh | hh
      · obtain ⟨t, ht, _⟩ := L.cF.head (by rw [← hh, e']; omega)
        rw [← hh, e'] at ht
        exact f1 (by rw [ht]; simp)
      · obtain ⟨t, ht, _⟩ := L.cE.head (by rw [← hh, e']; omega)
        rw [← hh, e'] at ht
        exact f2 (by rw [ht]; simp)
  · obtain ⟨x1, x2, x3⟩ := hx hk
    rw [M.nx _ x1 x2 x3]
    exact k.l h2 hk
theorem LI.swap {p : zb} {nb : Nat} {m : List (BitVec 64)} {h1 h2 : Int} {F E own : List Int} (h : LI p nb m h1 h2 F E own) : LI p nb m h2 h1 E F own :=
  ⟨by rcases h.hs with g | g
      · exact .inr ⟨g.2, g.1⟩
      · exact .inl ⟨g.2, g.1⟩, h.cE, h.cF, (List.perm_append_comm.append_right own).trans h.all, h.len⟩
theorem zjd {p : zb} (hp : zC p) {m : List (BitVec 64)} {a x : Int} {v : BitVec 64} (ha : a = z7 p ∨ a = zD p) (hx : 1 ≤ x) : ld (st m a v) (zD p + x) = ld m (zD p + x) := by
  have := wm hp
  exact yp (by omega)
theorem Chn.st_head {p : zb} (hp : zC p) {m : List (BitVec 64)} {nb : Nat} {a h : Int} {l : List Int} {v : BitVec 64} (ha : a = z7 p ∨ a = zD p) (c : Chn m (zD p) nb h l) : Chn (Go.Pe.G.st m a v) (zD p) nb h l := by
  have := wm hp
  exact c.st (fun x hx => by have := (c.mem x hx).1; omega)
theorem Mv.head {p : zb} (hp : zC p) {nb : Nat} {X : List Int} {m : List (BitVec 64)} {a : Int} {v : BitVec 64} (ha : a = z7 p ∨ a = zD p) (hv : yR (ld m a) < yR v) : Mv p nb X m (st m a v) := by
  refine ⟨fun h hh => ?_, fun x hx _ _ => zjd hp ha hx⟩
  by_cases e : a = h
  · subst e
    rw [Y9]
    split
    · exact ⟨by omega, .inr hv⟩
    · exact ⟨Nat.le_refl _, .inl rfl⟩
  · rw [yp e]; exact ⟨Nat.le_refl _, .inl rfl⟩
theorem zqi {p : zb} (hp : zC p) {nb : Nat} (hnb : nb < 1000) {m : List (BitVec 64)} {h1 h2 : Int} {F E own : List Int} (L : LI p nb m h1 h2 F E own) {c : zy}
    (hk : c.Kind = 2) (hh : c.Head = h1) (hN : c.Next = zD p) (ho : c.Out = 0) (hpc : 0 ≤ c.PC ∧ c.PC ≤ 2) (K : CK p m c) (hn : 1 ≤ c.PC → 1 ≤ yo c.H ∧ yo c.H < nb) (hv : yR (ld m h1) + 1 < 4294967296) :
    ((zm m c).1 = m ∧ (zm m c).2.Out ≠ 1 ∧ ((zm m c).2.Out = 2 → F = []) ∧ CK p m (zm m c).2) ∨
    (∃ x F', F = x :: F' ∧ (zm m c).2.Out = 1 ∧ (zm m c).2.X = x ∧ LI p nb (zm m c).1 h1 h2 F' E (x :: own) ∧ Mv p nb [] m (zm m c).1 ∧ yR (ld (zm m c).1 h1) = yR (ld m h1) + 1 ∧ ld (zm m c).1 h2 = ld m h2) := by
  have hE := wm hp
  have hF := u9 hp
  have hd : h1 = z7 p ∨ h1 = zD p := by rcases L.hs with g | g <;> simp [g]
  unfold zm
  rw [if_neg (by omega)]
  by_cases c0 : c.PC = 0
  · rw [if_pos c0]
    left
    split
    · rename_i e
      refine ⟨rfl, (by show (2 : Int) ≠ 1; decide), fun _ => ?_, ⟨fun _ => by rw [hh]; exact Nat.le_refl _, fun e2 => (by cases e2), fun e2 => (by cases e2)⟩⟩
      have := L.cF
      rw [hh] at e
      rw [e.2] at this
      exact this.empty
    · refine ⟨rfl, by dsimp only; omega, fun e => by dsimp only at e; omega, ⟨fun _ => by rw [hh]; exact Nat.le_refl _, fun e2 => (by cases e2), fun e2 => (by cases e2)⟩⟩
  · rw [if_neg c0]
    by_cases c1 : c.PC = 1
    · rw [if_pos c1, if_pos hk]
      left
      refine ⟨rfl, by dsimp only; omega, fun e => by dsimp only at e; omega, ⟨fun _ => K.v (by omega), fun _ _ _ => ?_, fun _ e => by dsimp only at e; omega⟩⟩
      have := hn (by omega)
      dsimp only
      rw [hN, wO (by omega) (by omega)]
    · rw [if_neg c1]
      have c2 : c.PC = 2 := by omega
      simp only [if_pos hk]
      by_cases hs : 0 ≤ c.Head ∧ c.Head < m.length ∧ ld m c.Head = c.H
      · right
        have n := hn (by omega)
        have hsw : sw m c.Head c.H (yU (c.H >>> 32 + 1#64) c.Y) = (st m c.Head (yU (c.H >>> 32 + 1#64) c.Y), true) := by unfold sw; rw [if_pos hs]
        rw [hsw]
        have hc := L.cF
        rw [← hh, hs.2.2] at hc
        obtain ⟨t, ht, _, _, hct⟩ := hc.head (by omega)
        have hy := K.y c2 hk hs.2.2
        have hct' := hct
        rw [← hy] at hct'
        have y0 : 0 ≤ c.Y ∧ c.Y < nb := by
          cases t with
          | nil => have e : c.Y = 0 := hct'; omega
          | cons z t => have := hct'.1; have := hct'.2.1; have := hct'.2.2.1; omega
        have vp : yR (yU (c.H >>> 32 + 1#64) c.Y) = yR c.H + 1 := zqI c.H y0.1 (by omega) (by rw [← hs.2.2, hh]; exact hv)
        have hcH : yR c.H = yR (ld m h1) := by rw [← hs.2.2, hh]
        have ld1 : ld (st m h1 (yU (c.H >>> 32 + 1#64) c.Y)) h1 = yU (c.H >>> 32 + 1#64) c.Y := by rw [Y9, if_pos ⟨rfl, by rw [← hh]; exact hs.1, by rw [← hh]; exact hs.2.1⟩]
        have h12 : h1 ≠ h2 := by rcases L.hs with g | g <;> omega
        refine ⟨yo c.H, t, ht, rfl, rfl, ?_, ?_, ?_, ?_⟩
        · rw [hh]
          refine ⟨L.hs, ?_, ?_, ?_, by rw [u0]; exact L.len⟩
          · rw [ld1, zaG _ y0.1 (by omega)]
            exact hct'.st_head hp hd
          · rw [yp h12]
            exact L.cE.st_head hp hd
          · refine List.Perm.trans ?_ L.all
            rw [ht]
            show List.Perm (t ++ E ++ yo c.H :: own) (yo c.H :: (t ++ E ++ own))
            exact List.perm_middle
        · rw [hh]
          exact Mv.head hp hd (by rw [vp, hcH]; omega)
        · rw [hh, ld1, vp, hcH]
        · rw [hh, yp h12]
      · left
        have hsw : sw m c.Head c.H (yU (c.H >>> 32 + 1#64) c.Y) = (m, false) := by unfold sw; rw [if_neg hs]
        rw [hsw]
        refine ⟨rfl, by dsimp only; simp; omega, fun e => by simp at e; omega, ⟨fun e => by simp at e, fun e => by simp at e, fun e => by simp at e⟩⟩
theorem zrA {n : Int} (h : 0 ≤ n) (h2 : n < 4294967296) : (BitVec.ofInt 64 n).toInt = n := toInt_ofInt h h2
theorem zhH {N a b : Int} (h : N + a = N + b) : b = a := by omega
theorem zoI {p : zb} (hp : zC p) {nb : Nat} (hnb : nb < 1000) {m : List (BitVec 64)} {h1 h2 b : Int} {F E o1 o2 : List Int} (L : LI p nb m h1 h2 F E (o1 ++ b :: o2)) {c : zy}
    (hk : c.Kind = 1) (hh : c.Head = h1) (hN : c.Next = zD p) (hX : c.X = b) (ho : c.Out = 0) (hpc : 0 ≤ c.PC ∧ c.PC ≤ 2) (K : CK p m c) (hn : 1 ≤ c.PC → yo c.H < nb) (hv : yR (ld m h1) + 1 < 4294967296) :
    ((zm m c).2.Out = 0 ∧ LI p nb (zm m c).1 h1 h2 F E (o1 ++ b :: o2) ∧ Mv p nb [b] m (zm m c).1 ∧ CK p (zm m c).1 (zm m c).2 ∧ (∀ a, a ≤ zD p → ld (zm m c).1 a = ld m a)) ∨
    ((zm m c).2.Out = 1 ∧ LI p nb (zm m c).1 h1 h2 (b :: F) E (o1 ++ o2) ∧ Mv p nb [] m (zm m c).1 ∧ yR (ld (zm m c).1 h1) = yR (ld m h1) + 1 ∧ (∀ a, a ≤ zD p → a ≠ h1 → ld (zm m c).1 a = ld m a)) := by
  have hE := wm hp
  have hF := u9 hp
  have hd : h1 = z7 p ∨ h1 = zD p := by rcases L.hs with g | g <;> simp [g]
  have hd2 : h2 = z7 p ∨ h2 = zD p := by rcases L.hs with g | g <;> simp [g]
  have hb : 1 ≤ b ∧ b < nb := L.own_in (List.mem_append_right _ (by simp))
  have hbn := L.notF (x := b) (List.mem_append_right _ (by simp))
  have hlen := L.len
  have hk2 : ¬ c.Kind = 2 := by omega
  unfold zm
  rw [if_neg (by omega)]
  by_cases c0 : c.PC = 0
  · rw [if_pos c0, if_neg (fun e => hk2 e.1)]
    left
    exact ⟨ho, L, Mv.refl _ _ _ _, ⟨fun _ => by rw [hh]; exact Nat.le_refl _, fun e2 => (by cases e2), fun e2 => (by cases e2)⟩, fun _ _ => rfl⟩
  · rw [if_neg c0]
    by_cases c1 : c.PC = 1
    · rw [if_pos c1, if_neg hk2]
      left
      have nn := zf7 c.H
      have ea : wc (c.Next + c.X) = zD p + b := by rw [hN, hX, wO (by omega) (by omega)]
      rw [ea]
      have hne : ∀ h, h = z7 p ∨ h = zD p → ld (st m (zD p + b) (BitVec.ofInt 64 (yo c.H))) h = ld m h := fun h hh => yp (by omega)
      refine ⟨ho, ⟨L.hs, ?_, ?_, L.all, by dsimp only; rw [u0]; exact hlen⟩, ⟨fun h hh => ?_, fun x x1 x2 x3 => ?_⟩, ⟨fun _ => ?_, fun _ e => absurd e hk2, fun _ _ => ?_⟩, fun a ha => ?_⟩
      · dsimp only
        rw [hne _ hd]
        exact L.cF.st (fun x hx e => hbn.1 (zhH e ▸ hx))
      · dsimp only
        rw [hne _ hd2]
        exact L.cE.st (fun x hx e => hbn.2 (zhH e ▸ hx))
      · dsimp only
        rw [hne _ hh]; exact ⟨Nat.le_refl _, .inl rfl⟩
      · dsimp only
        exact yp (fun e => x3 (List.mem_singleton.2 (zhH e)))
      · dsimp only
        rw [hh, hne _ hd, ← hh]; exact K.v (by omega)
      · dsimp only
        rw [hX, Y9, if_pos ⟨rfl, by omega, by omega⟩]
      · dsimp only
        exact yp (by omega)
    · rw [if_neg c1]
      have c2 : c.PC = 2 := by omega
      simp only [if_neg hk2]
      by_cases hs : 0 ≤ c.Head ∧ c.Head < m.length ∧ ld m c.Head = c.H
      · right
        have n := hn (by omega)
        have nn := zf7 c.H
        have hsw : sw m c.Head c.H (yU (c.H >>> 32 + 1#64) c.X) = (st m c.Head (yU (c.H >>> 32 + 1#64) c.X), true) := by unfold sw; rw [if_pos hs]
        rw [hsw]
        have hl := K.l c2 hk
        rw [hX] at hl
        have vp : yR (yU (c.H >>> 32 + 1#64) c.X) = yR c.H + 1 := zqI c.H (by omega) (by omega) (by rw [← hs.2.2, hh]; exact hv)
        have hcH : yR c.H = yR (ld m h1) := by rw [← hs.2.2, hh]
        have ld1 : ld (st m h1 (yU (c.H >>> 32 + 1#64) c.X)) h1 = yU (c.H >>> 32 + 1#64) c.X := by rw [Y9, if_pos ⟨rfl, by rw [← hh]; exact hs.1, by rw [← hh]; exact hs.2.1⟩]
        have h12 : h1 ≠ h2 := by rcases L.hs with g | g <;> omega
        refine ⟨rfl, ?_, ?_, ?_, fun a ha hne => ?_⟩
        · rw [hh]
          refine ⟨L.hs, ?_, ?_, ?_, by dsimp only; rw [u0]; exact hlen⟩
          · dsimp only
            rw [ld1, zaG _ (by omega) (by omega), hX]
            refine ⟨rfl, hb.1, hb.2, ?_⟩
            rw [zjd hp hd hb.1, hl, zrA nn.1 nn.2]
            have := L.cF
            rw [← hh, hs.2.2] at this
            rw [← hX, ← hh] at *
            exact this.st_head hp hd
          · dsimp only
            rw [yp h12]
            exact L.cE.st_head hp hd
          · refine List.Perm.trans ?_ L.all
            show List.Perm (b :: (F ++ E ++ (o1 ++ o2))) (F ++ E ++ (o1 ++ b :: o2))
            rw [← List.append_assoc (F ++ E) o1 o2, ← List.append_assoc (F ++ E) o1 (b :: o2)]
            exact List.perm_middle.symm
        · rw [hh]
          exact Mv.head hp hd (by rw [vp, hcH]; omega)
        · rw [hh]
          dsimp only
          rw [ld1, vp, hcH]
        · rw [hh]
          exact yp (fun e => hne e.symm)
      · left
        have hsw : sw m c.Head c.H (yU (c.H >>> 32 + 1#64) c.X) = (m, false) := by unfold sw; rw [if_neg hs]
        rw [hsw]
        exact ⟨ho, L, Mv.refl _ _ _ _, ⟨fun e => (by simp at e), fun e => (by simp at e), fun e => (by simp at e)⟩, fun _ _ => rfl⟩
end
end Go.Pe.G
namespace Go.Pe.G
open Go.Pe
noncomputable section
structure Gh where
  F : List Int
  E : List Int
  D : Int → List Int
  t : Int → Nat
  c : Int → Nat
def un (s : za) (b : Int) : List Int := (s.Bins[b.toNat]?).getD []
def wb (p : zb) (s : za) (g : Gh) : List Int := g.F.flatMap (un s) ++ (List.range p.Workers.toNat).flatMap (fun i : Nat => g.D ((i : Int) + 1))
structure SX (p : zb) (nb : Nat) (s : za) (g : Gh) (own : List Int) (k : Nat) : Prop where
  S : SOk p nb s
  L : LI p nb s.M (z7 p) (zD p) g.F g.E own
  D : ∀ w, 1 ≤ w → w ≤ p.Workers → DQ p s.M w (g.t w) (g.D w) (g.c w)
  v : yR (ld s.M (z7 p)) ≤ k ∧ yR (ld s.M (zD p)) ≤ k
  dk : ∀ w, 1 ≤ w → w ≤ p.Workers → g.t w + (g.D w).length ≤ k + 1000
inductive DFr (p : zb) (m m' : List (BitVec 64)) (g g' : Gh) (w : Int) : Prop
  | same (e1 : g'.t w = g.t w) (e2 : g'.D w = g.D w) (e3 : g'.c w = g.c w) (e4 : ∀ a, zI p w ≤ a → a < zI p w + p.Cap + 2 → ld m' a = ld m a) : DFr p m m' g g' w
  | stolen (x : Int) (e1 : g'.t w = g.t w + 1) (e2 : g.D w = x :: g'.D w) (e3 : g'.c w = g.c w) (e4 : ∀ a, zI p w < a → a < zI p w + p.Cap + 2 → ld m' a = ld m a) : DFr p m m' g g' w
structure FX (p : zb) (nb : Nat) (X : List Int) (O : Int → Prop) (s s' : za) (g g' : Gh) : Prop where
  mv : Mv p nb X s.M s'.M
  bn : ∀ b, 1 ≤ b → b ∉ X → s'.Bins[b.toNat]? = s.Bins[b.toNat]?
  dq : ∀ w, 1 ≤ w → w ≤ p.Workers → DFr p s.M s'.M g g' w ∨ (O w ∧ Dv (g.t w) (g.D w) (g'.t w) (g'.D w))
theorem DFr.dv {p : zb} {m m' : List (BitVec 64)} {g g' : Gh} {w : Int} (h : DFr p m m' g g' w) : Dv (g.t w) (g.D w) (g'.t w) (g'.D w) := by
  cases h with
  | same t l c m => rw [t, l]; exact Dv.refl _ _
  | stolen x t l c m => exact ⟨by omega, fun e => by omega⟩
theorem FX.dv {p : zb} {nb : Nat} {X : List Int} {O : Int → Prop} {s s' : za} {g g' : Gh} (h : FX p nb X O s s' g g') {w : Int} (h1 : 1 ≤ w) (h2 : w ≤ p.Workers) : Dv (g.t w) (g.D w) (g'.t w) (g'.D w) := by
  rcases h.dq w h1 h2 with h | h
  · exact h.dv
  · exact h.2
theorem FX.tk {p : zb} {nb : Nat} {X : List Int} {O : Int → Prop} {s s' : za} {g g' : Gh} (h : FX p nb X O s s' g g') {w : Int} (h1 : 1 ≤ w) (h2 : w ≤ p.Workers) {d : zg} (K : TK p s.M w (g.t w) (g.D w) d) : TK p s'.M w (g'.t w) (g'.D w) d := K.dv (h.dv h1 h2)
theorem FX.pk {p : zb} (hp : zC p) {nb : Nat} {X : List Int} {O : Int → Prop} {s s' : za} {g g' : Gh} (h : FX p nb X O s s' g g') {w : Int} (h1 : 1 ≤ w) (h2 : w ≤ p.Workers) (ho : ¬ O w) {d : zg} (K : PK p s.M w (g.t w) (g.D w) (g.c w) d) : PK p s'.M w (g'.t w) (g'.D w) (g'.c w) d := by
  rcases h.dq w h1 h2 with h | h
  · cases h with
    | same t l c m => rw [t, l, c]; exact K.keep
    | stolen x t l c m => rw [l] at K; rw [t, c]; exact K.stolen hp ⟨h1, h2⟩
  · exact absurd h.1 ho
theorem FX.dk {p : zb} (hp : zC p) {nb : Nat} {X : List Int} {O : Int → Prop} {s s' : za} {g g' : Gh} (h : FX p nb X O s s' g g') {w : Int} (h1 : 1 ≤ w) (h2 : w ≤ p.Workers) (ho : ¬ O w) {d : zg} (K : DK p s.M w (g.t w) (g.D w) (g.c w) d) : DK p s'.M w (g'.t w) (g'.D w) (g'.c w) d := by
  have hc := hp.cap
  rcases h.dq w h1 h2 with h | h
  · cases h with
    | same t l c m => rw [t, l, c]; exact K.keep hp (fun a h1 h2 => m a (by omega) h2)
    | stolen x t l c m =>
      rw [l] at K
      have K' : DK p s'.M w (g.t w) (x :: g'.D w) (g.c w) d := K.keep hp (fun a h1 h2 => m a (by omega) h2)
      rw [t, c]
      exact K'.stolen (m' := s'.M) (fun _ _ => rfl) hp
  · exact absurd h.1 ho
def w8 (g : zA) : List Int := if g.Out = 0 ∧ (g.PC = 6 ∨ g.PC = 7) then [g.Bin] else []
def wp (g : zA) : List Int := if g.Out = 0 ∧ 3 ≤ g.PC ∧ g.PC ≤ 7 then [g.Obj] else []
structure GX (p : zb) (s : za) (gh : Gh) (g : zA) : Prop where
  o : g.Out = 0 ∨ g.Out = 1
  pc : 0 ≤ g.PC ∧ g.PC ≤ 7
  md : 1 ≤ g.Mode ∧ g.Mode ≤ 3
  ob : 1 ≤ g.Obj ∧ g.Obj ≤ 64
  c0 : g.Mode = 1 → g.Out = 0 → gh.c g.Who = 0
  c5 : g.PC = 5 → g.Out = 0 → g.C.Out = 0 ∧ (0 ≤ g.C.PC ∧ g.C.PC ≤ 2) ∧ CK p s.M g.C
  c7 : g.PC = 7 → g.Out = 0 → g.C.Out = 0 ∧ (0 ≤ g.C.PC ∧ g.C.PC ≤ 2) ∧ g.C.X = g.Bin ∧ CK p s.M g.C ∧ s.Bins[g.Bin.toNat]? = some [g.Obj]
  d3 : g.PC = 3 → g.Out = 0 → g.Mode = 1 ∧ g.D.X = g.Obj ∧ DK p s.M g.Who (gh.t g.Who) (gh.D g.Who) (gh.c g.Who) g.D
theorem GX.other {p : zb} (hp : zC p) {nb k : Nat} {s s' : za} {gh gh' : Gh} {X R : List Int} {O : Int → Prop} {o : zA} (Y : SX p nb s gh (X ++ R) k) (Fx : FX p nb X O s s' gh gh') (G : GX p s gh o) (M : MOk p nb o)
    (hR : ∀ x ∈ w8 o, x ∈ R) (apart : o.Mode = 1 → ¬ O o.Who) : GX p s' gh' o := by
  have hsub : ∀ x ∈ X, x ∈ X ++ R := fun x hx => List.mem_append_left _ hx
  have hnd := (List.nodup_append.1 Y.L.nodup).2.1
  have hnot : ∀ x, x ∈ w8 o → x ∉ X := fun x hx hg => (List.nodup_append.1 hnd).2.2 x hg x (hR x hx) rfl
  refine ⟨G.o, G.pc, G.md, G.ob, fun h1 h0 => ?_, fun h5 h0 => ?_, fun h7 h0 => ?_, fun h3 h0 => ?_⟩
  · have hw := M.who h1
    rcases Fx.dq o.Who hw.1 hw.2 with h | h
    · cases h with
      | same t l c m => rw [c]; exact G.c0 h1 h0
      | stolen x t l c m => rw [c]; exact G.c0 h1 h0
    · exact absurd h.1 (apart h1)
  · obtain ⟨a, b, c⟩ := G.c5 h5 h0
    obtain ⟨m1, m2, m3, m4, m5⟩ := M.c5 h5
    exact ⟨a, b, c.mv Y.L Fx.mv hsub (.inr m2) (fun h _ => m4 h) (fun e => by omega)⟩
  · obtain ⟨a, b, c, d, e⟩ := G.c7 h7 h0
    obtain ⟨m1, m2, m3, m4, m5⟩ := M.c7 h7
    have hown : o.Bin ∈ w8 o := by unfold w8; rw [if_pos ⟨h0, .inr h7⟩]; simp
    have hno := hnot _ hown
    exact ⟨a, b, c, d.mv Y.L Fx.mv hsub (.inl m2) (fun _ e => by omega) (fun _ => ⟨m4.1, m4.2, by rw [c]; exact hno⟩), by rw [Fx.bn o.Bin (by rw [← c]; exact m4.1) hno]; exact e⟩
  · obtain ⟨a, b, c⟩ := G.d3 h3 h0
    have hw := M.who a
    exact ⟨a, b, Fx.dk hp hw.1 hw.2 (apart a) c⟩
theorem zet (m : List (BitVec 64)) {c : zy} (h : c.Out = 0) (hpc : 0 ≤ c.PC ∧ c.PC ≤ 2) (hk : c.Kind = 1 ∨ c.Kind = 2) :
    ((zm m c).2.Out = 0 ∧ 0 ≤ (zm m c).2.PC ∧ (zm m c).2.PC ≤ 2) ∨ (zm m c).2.Out = 1 ∨ ((zm m c).2.Out = 2 ∧ c.Kind = 2) := by
  unfold zm
  rw [if_neg (by omega)]
  split
  · dsimp only
    split
    · rename_i e; exact .inr (.inr ⟨rfl, e.1⟩)
    · exact .inl ⟨h, by show (0 : Int) ≤ 1; decide, by show (1 : Int) ≤ 2; decide⟩
  split
  · split <;> exact .inl ⟨h, by show (0 : Int) ≤ 2; decide, by show (2 : Int) ≤ 2; decide⟩
  · dsimp only
    generalize sw m c.Head c.H _ = r
    split
    · split <;> exact .inr (.inl rfl)
    · exact .inl ⟨h, by show (0 : Int) ≤ 0; decide, by show (0 : Int) ≤ 2; decide⟩
theorem zkI (m : List (BitVec 64)) (c : zy) : (zm m c).2.Kind = c.Kind ∧ (zm m c).2.Head = c.Head ∧ (zm m c).2.Next = c.Next ∧ (c.Kind = 1 → (zm m c).2.X = c.X) := by
  unfold zm
  split
  · exact ⟨rfl, rfl, rfl, fun _ => rfl⟩
  split
  · dsimp only; split <;> exact ⟨rfl, rfl, rfl, fun _ => rfl⟩
  split
  · split <;> exact ⟨rfl, rfl, rfl, fun _ => rfl⟩
  · dsimp only
    generalize sw m c.Head c.H _ = r
    split
    · split
      · rename_i e; exact ⟨rfl, rfl, rfl, fun e2 => by omega⟩
      · exact ⟨rfl, rfl, rfl, fun _ => rfl⟩
    · exact ⟨rfl, rfl, rfl, fun _ => rfl⟩
theorem SX.quiet {p : zb} {nb k : Nat} {s s' : za} {g : Gh} {own : List Int} (X : SX p nb s g own k) (S' : SOk p nb s') (hm : s'.M = s.M) : SX p nb s' g own (k + 1) :=
  ⟨S', by rw [hm]; exact X.L, by rw [hm]; exact X.D, by rw [hm]; exact ⟨Nat.le_succ_of_le X.v.1, Nat.le_succ_of_le X.v.2⟩, fun w h1 h2 => by have := X.dk w h1 h2; omega⟩
theorem FX.quiet {p : zb} {nb : Nat} {X : List Int} {O : Int → Prop} {s s' : za} {g : Gh} (hm : s'.M = s.M) (hb : ∀ b, 1 ≤ b → b ∉ X → s'.Bins[b.toNat]? = s.Bins[b.toNat]?) : FX p nb X O s s' g g :=
  ⟨by rw [hm]; exact Mv.refl _ _ _ _, hb, fun _ _ _ => .inl (.same rfl rfl rfl (fun _ _ _ => by rw [hm]))⟩
theorem WI {p : zb} {s s' : za} {g : Gh} (hb : s'.Bins = s.Bins) : wb p s' g = wb p s g := by
  unfold wb un; rw [hb]
theorem vY {g : zA} (h : g.Out ≠ 0 ∨ (g.PC ≠ 6 ∧ g.PC ≠ 7)) : w8 g = [] := by unfold w8; rw [if_neg (by omega)]
theorem zfw {g : zA} (h : g.Out = 0) (h2 : g.PC = 6 ∨ g.PC = 7) : w8 g = [g.Bin] := by unfold w8; rw [if_pos ⟨h, h2⟩]
theorem YH {g : zA} (h : g.Out ≠ 0 ∨ g.PC < 3 ∨ 7 < g.PC) : wp g = [] := by unfold wp; rw [if_neg (by omega)]
theorem ve {g : zA} (h : g.Out = 0) (h2 : 3 ≤ g.PC) (h3 : g.PC ≤ 7) : wp g = [g.Obj] := by unfold wp; rw [if_pos ⟨h, h2, h3⟩]
theorem GX.ask {p : zb} {s : za} {gh : Gh} {g : zA} (o : g.Out = 0) (md : 1 ≤ g.Mode ∧ g.Mode ≤ 3) (ob : 1 ≤ g.Obj ∧ g.Obj ≤ 64) (c0 : g.Mode = 1 → gh.c g.Who = 0) (q : zb) : GX p s gh (ziM q g) :=
  ⟨.inl o, ⟨by show (0 : Int) ≤ 5; decide, by show (5 : Int) ≤ 7; decide⟩, md, ob, fun h _ => c0 h,
    fun _ _ => ⟨rfl, ⟨by show (0 : Int) ≤ 0; decide, by show (0 : Int) ≤ 2; decide⟩, ⟨fun e => absurd e (by show ¬ (1 : Int) ≤ 0; decide), fun e => absurd e (by show ¬ (0 : Int) = 2; decide), fun e => absurd e (by show ¬ (0 : Int) = 2; decide)⟩⟩,
    fun e => absurd e (by show ¬ (5 : Int) = 7; decide), fun e => absurd e (by show ¬ (5 : Int) = 3; decide)⟩
theorem GX.plain {p : zb} {s : za} {gh : Gh} {g : zA} (o : g.Out = 0 ∨ g.Out = 1) (pc : 0 ≤ g.PC ∧ g.PC ≤ 7) (md : 1 ≤ g.Mode ∧ g.Mode ≤ 3) (ob : 1 ≤ g.Obj ∧ g.Obj ≤ 64) (c0 : g.Mode = 1 → g.Out = 0 → gh.c g.Who = 0) (h : g.Out ≠ 0 ∨ (g.PC ≠ 3 ∧ g.PC ≠ 5 ∧ g.PC ≠ 7)) : GX p s gh g :=
  ⟨o, pc, md, ob, c0, fun e e2 => by omega, fun e e2 => by omega, fun e e2 => by omega⟩
def zpA (g : zA) (w : Int) : Prop := g.Mode = 1 ∧ w = g.Who
def zke (p : zb) (nb k : Nat) (R : List Int) (gh : Gh) (s : za) (g : zA) (s' : za) (g' : zA) : Prop :=
  ∃ gh', SX p nb s' gh' (w8 g' ++ R) (k + 1) ∧ GX p s' gh' g' ∧ FX p nb (w8 g) (zpA g) s s' gh gh' ∧ (g.Mode = 1 → g.Out = 0 → gh'.c g.Who = 0) ∧ (∀ b ∈ gh'.F, b ∈ gh.F ∨ un s' b ≠ []) ∧
    ∃ N, List.Perm (wb p s' gh' ++ wp g') (N ++ (wb p s gh ++ wp g)) ∧
      ((N = [] ∧ s'.T = s.T) ∨ (N = [g.Obj] ∧ ¬ (s.T.Marks ||| bit g.Obj = s.T.Marks) ∧ s'.T = { s.T with Marks := s.T.Marks ||| bit g.Obj }))
theorem zke.quiet {p : zb} {nb k : Nat} {R : List Int} {gh : Gh} {s s' : za} {g g' : zA} (X : SX p nb s gh (w8 g ++ R) k) (S' : SOk p nb s') (hm : s'.M = s.M) (hb : s'.Bins = s.Bins) (hT : s'.T = s.T)
    (ho : w8 g' = w8 g) (hh : wp g' = wp g) (c0 : g.Mode = 1 → g.Out = 0 → gh.c g.Who = 0) (G' : GX p s' gh g') : zke p nb k R gh s g s' g' :=
  ⟨gh, by rw [ho]; exact X.quiet S' hm, G', FX.quiet hm (fun _ _ _ => by rw [hb]), c0, fun _ h => .inl h, [], by rw [WI hb, hh]; exact List.Perm.refl _, .inl ⟨rfl, hT⟩⟩
theorem zjN (m : List (BitVec 64)) {c : zy} (hk : c.Kind = 2) {a : Int} (ha : a ≠ c.Head) : ld (zm m c).1 a = ld m a := by
  unfold zm
  split
  · rfl
  split
  · rfl
  split
  · rfl
  · dsimp only
    unfold sw
    split
    · exact yp (fun e => ha e.symm)
    · rfl
theorem Chn.congr {m m' : List (BitVec 64)} {N : Int} {nb : Nat} (hm : ∀ x : Int, 1 ≤ x → ld m' (N + x) = ld m (N + x)) : ∀ {l : List Int} {h : Int}, Chn m N nb h l → Chn m' N nb h l
  | [], h, c => c
  | y :: l, h, c => ⟨c.1, c.2.1, c.2.2.1, by rw [hm y c.2.1]; exact Chn.congr hm c.2.2.2⟩
theorem LI.low {p : zb} (hp : zC p) {nb : Nat} {m m' : List (BitVec 64)} {h1 h2 : Int} {F E own : List Int} (L : LI p nb m h1 h2 F E own) (hl : m'.length = m.length) (hm : ∀ a, z7 p ≤ a → ld m' a = ld m a) : LI p nb m' h1 h2 F E own := by
  have hE := wm hp
  have h : h1 = z7 p ∨ h1 = zD p := by rcases L.hs with g | g <;> simp [g]
  have h' : h2 = z7 p ∨ h2 = zD p := by rcases L.hs with g | g <;> simp [g]
  exact ⟨L.hs, by rw [hm h1 (by omega)]; exact L.cF.congr (fun x hx => hm _ (by omega)), by rw [hm h2 (by omega)]; exact L.cE.congr (fun x hx => hm _ (by omega)), L.all, by rw [hl]; exact L.len⟩
theorem Mv.low {p : zb} (hp : zC p) {nb : Nat} {X : List Int} {m m' : List (BitVec 64)} (hm : ∀ a, z7 p ≤ a → ld m' a = ld m a) : Mv p nb X m m' := by
  have hE := wm hp
  exact ⟨fun h hh => by rw [hm h (by omega)]; exact ⟨Nat.le_refl _, .inl rfl⟩, fun x hx _ _ => hm _ (by omega)⟩
theorem zrz {p : zb} (hp : zC p) {v w : Int} (hv : 1 ≤ v ∧ v ≤ p.Workers) (hw : 1 ≤ w ∧ w ≤ p.Workers) (h : v ≠ w) : zI p v + p.Cap + 2 ≤ zI p w ∨ zI p w + p.Cap + 2 ≤ zI p v := by
  have hk := hp.wk
  have hc := hp.cap
  have h1 := (Zy hp hv.1 hv.2).1
  have h2 := (Zy hp hw.1 hw.2).1
  have hx : v = 1 ∨ v = 2 ∨ v = 3 := by omega
  have hy : w = 1 ∨ w = 2 ∨ w = 3 := by omega
  rw [h1, h2]
  rcases hx with rfl | rfl | rfl <;> rcases hy with rfl | rfl | rfl <;> omega
theorem znP {p : zb} (hp : zC p) {w : Int} (hw : 1 ≤ w ∧ w ≤ p.Workers) {m m' : List (BitVec 64)} (hm : ∀ a, (a < zI p w ∨ zI p w + p.Cap + 2 ≤ a) → ld m' a = ld m a) : (∀ a, z7 p ≤ a → ld m' a = ld m a) ∧
    ∀ v, 1 ≤ v → v ≤ p.Workers → v ≠ w → ∀ a, zI p v ≤ a → a < zI p v + p.Cap + 2 → ld m' a = ld m a := by
  have hd := Zy hp hw.1 hw.2
  refine ⟨fun a ha => hm a (by omega), fun v h1 h2 hne a h3 h4 => hm a ?_⟩
  have := zrz hp ⟨h1, h2⟩ hw hne
  omega
def Xl (g : Gh) (w : Int) (t : Nat) (l : List Int) (c : Nat) : Gh := { g with D := fun v => if v = w then l else g.D v, t := fun v => if v = w then t else g.t v, c := fun v => if v = w then c else g.c v }
theorem ZR {g : Gh} {w v : Int} {t c : Nat} {l : List Int} (h : v ≠ w) : (Xl g w t l c).D v = g.D v ∧ (Xl g w t l c).t v = g.t v ∧ (Xl g w t l c).c v = g.c v := by
  unfold Xl; dsimp only; rw [if_neg h, if_neg h, if_neg h]; exact ⟨rfl, rfl, rfl⟩
theorem xY {g : Gh} {w : Int} {t c : Nat} {l : List Int} : (Xl g w t l c).D w = l ∧ (Xl g w t l c).t w = t ∧ (Xl g w t l c).c w = c := by
  unfold Xl; dsimp only; rw [if_pos rfl, if_pos rfl, if_pos rfl]; exact ⟨rfl, rfl, rfl⟩
theorem SX.dq {p : zb} (hp : zC p) {nb k : Nat} {s s' : za} {g : Gh} {own : List Int} (X : SX p nb s g own k) (S' : SOk p nb s') (hl : s'.M.length = s.M.length) {w : Int} (hw : 1 ≤ w ∧ w ≤ p.Workers)
    (hm : ∀ a, (a < zI p w ∨ zI p w + p.Cap + 2 ≤ a) → ld s'.M a = ld s.M a) {t c : Nat} {l : List Int} (D : DQ p s'.M w t l c) (hk : t + l.length ≤ k + 1 + 1000) : SX p nb s' (Xl g w t l c) own (k + 1) := by
  obtain ⟨h1, h2⟩ := znP hp hw hm
  have hE := wm hp
  refine ⟨S', X.L.low hp hl h1, fun v a b => ?_, ?_, fun v a b => ?_⟩
  · by_cases e : v = w
    · subst e
      rw [xY.1, xY.2.1, xY.2.2]; exact D
    · rw [(ZR e).1, (ZR e).2.1, (ZR e).2.2]
      exact (X.D v a b).keep hp (h2 v a b e)
  · rw [h1 _ (by omega), h1 _ (by omega)]
    exact ⟨Nat.le_succ_of_le X.v.1, Nat.le_succ_of_le X.v.2⟩
  · by_cases e : v = w
    · subst e
      rw [xY.1, xY.2.1]; exact hk
    · rw [(ZR e).1, (ZR e).2.1]
      have := X.dk v a b; omega
theorem FX.own {p : zb} (hp : zC p) {nb : Nat} {Y : List Int} {O : Int → Prop} {s s' : za} {g : Gh} {w : Int} (hw : 1 ≤ w ∧ w ≤ p.Workers)
    (hm : ∀ a, (a < zI p w ∨ zI p w + p.Cap + 2 ≤ a) → ld s'.M a = ld s.M a) (hb : s'.Bins = s.Bins) {t c : Nat} {l : List Int} (hO : O w) (V : Dv (g.t w) (g.D w) t l) : FX p nb Y O s s' g (Xl g w t l c) := by
  obtain ⟨h1, h2⟩ := znP hp hw hm
  refine ⟨Mv.low hp h1, fun b _ _ => by rw [hb], fun v a b => ?_⟩
  by_cases e : v = w
  · subst e
    right
    rw [xY.1, xY.2.1]; exact ⟨hO, V⟩
  · exact .inl (.same (ZR e).2.1 (ZR e).1 (ZR e).2.2 (h2 v a b e))
theorem YD {α β : Type} {f g : α → List β} : ∀ {l : List α}, (∀ x ∈ l, f x = g x) → l.flatMap f = l.flatMap g
  | [], _ => rfl
  | a :: l, h => by rw [List.flatMap_cons, List.flatMap_cons, h a (by simp), YD (fun x hx => h x (List.mem_cons_of_mem _ hx))]
theorem zrC {n : Nat} {i : Nat} (h : i < n) : ∃ a b, List.range n = a ++ i :: b ∧ i ∉ a ∧ i ∉ b := by
  refine ⟨List.range i, (List.range (n - i - 1)).map (fun j => i + 1 + j), ?_, by simp, by simp; omega⟩
  have : n = i + (1 + (n - i - 1)) := by omega
  rw [this, List.range_add, List.range_add]
  simp [List.range_succ, Nat.add_assoc, Function.comp_def]
theorem zi6 {p : zb} {s s' : za} {g : Gh} (hb : s'.Bins = s.Bins) {w : Int} (hw : 1 ≤ w ∧ w ≤ p.Workers) {t c : Nat} {l : List Int} : ∃ a b, wb p s g = a ++ g.D w ++ b ∧ wb p s' (Xl g w t l c) = a ++ l ++ b := by
  obtain ⟨a, b, e, ha, hb'⟩ := zrC (n := p.Workers.toNat) (i := (w - 1).toNat) (by omega)
  have ew : (((w - 1).toNat : Nat) : Int) + 1 = w := by omega
  have ne : ∀ j : Nat, j ≠ (w - 1).toNat → (j : Int) + 1 ≠ w := fun j hj e => hj (by omega)
  refine ⟨g.F.flatMap (un s) ++ a.flatMap (fun i : Nat => g.D ((i : Int) + 1)), b.flatMap (fun i : Nat => g.D ((i : Int) + 1)), ?_, ?_⟩
  · unfold wb
    rw [e, List.flatMap_append, List.flatMap_cons, ew]
    simp [List.append_assoc]
  · unfold wb un
    rw [hb, e, List.flatMap_append, List.flatMap_cons, ew, xY.1]
    have h1 : a.flatMap (fun i : Nat => (Xl g w t l c).D ((i : Int) + 1)) = a.flatMap (fun i : Nat => g.D ((i : Int) + 1)) := by
      refine YD (fun j hj => ?_); exact (ZR (ne j (fun e => ha (e ▸ hj)))).1
    have h2 : b.flatMap (fun i : Nat => (Xl g w t l c).D ((i : Int) + 1)) = b.flatMap (fun i : Nat => g.D ((i : Int) + 1)) := by
      refine YD (fun j hj => ?_); exact (ZR (ne j (fun e => hb' (e ▸ hj)))).1
    rw [h1, h2]
    have hF : (Xl g w t l c).F = g.F := rfl
    rw [hF]
    simp [List.append_assoc]
theorem Mv.weak {p : zb} {nb : Nat} {m m' : List (BitVec 64)} (M : Mv p nb [] m m') (Y : List Int) : Mv p nb Y m m' := ⟨M.hd, fun x a b _ => M.nx x a b (by simp)⟩
theorem Mv.grow {p : zb} {nb : Nat} {X Y : List Int} {m m' : List (BitVec 64)} (M : Mv p nb X m m') (h : ∀ x ∈ X, x ∈ Y) : Mv p nb Y m m' := ⟨M.hd, fun x a b c => M.nx x a b (fun e => c (h x e))⟩
theorem SX.chain {p : zb} (hp : zC p) {nb k : Nat} {s s' : za} {g : Gh} {own own' F E : List Int} (X : SX p nb s g own k) (S' : SOk p nb s') (hlow : ∀ a, a < z7 p → ld s'.M a = ld s.M a) (L' : LI p nb s'.M (z7 p) (zD p) F E own')
    (hv : yR (ld s'.M (z7 p)) ≤ k + 1 ∧ yR (ld s'.M (zD p)) ≤ k + 1) : SX p nb s' { g with F := F, E := E } own' (k + 1) :=
  ⟨S', L', fun w h1 h2 => (X.D w h1 h2).keep hp (fun a h3 h4 => hlow a (by have := Zy hp h1 h2; omega)), hv, fun w h1 h2 => by have := X.dk w h1 h2; show g.t w + (g.D w).length ≤ _; omega⟩
theorem FX.chain {p : zb} (hp : zC p) {nb : Nat} {Y : List Int} {O : Int → Prop} {s s' : za} {g : Gh} {F E : List Int} (M : Mv p nb Y s.M s'.M) (hb : s'.Bins = s.Bins) (hlow : ∀ a, a < z7 p → ld s'.M a = ld s.M a) : FX p nb Y O s s' g { g with F := F, E := E } :=
  ⟨M, fun _ _ _ => by rw [hb], fun w h1 h2 => .inl (.same rfl rfl rfl (fun a h3 h4 => hlow a (by have := Zy hp h1 h2; omega)))⟩
theorem SX.popE {p : zb} (hp : zC p) {nb k : Nat} {s : za} {g : Gh} {own : List Int} (X : SX p nb s g own k) (hk : k < 4294960000) {c : zy} (kd : c.Kind = 2) (hh : c.Head = zD p) (hN : c.Next = zD p) (ho : c.Out = 0) (hpc : 0 ≤ c.PC ∧ c.PC ≤ 2) (K : CK p s.M c)
    (hn : 1 ≤ c.PC → 1 ≤ yo c.H ∧ yo c.H < nb) (S' : SOk p nb { s with M := (zm s.M c).1 }) :
    ((zm s.M c).1 = s.M ∧ (zm s.M c).2.Out ≠ 1 ∧ CK p s.M (zm s.M c).2 ∧ ((zm s.M c).2.Out = 2 → g.E = [])) ∨
    (∃ x l, g.E = x :: l ∧ (zm s.M c).2.Out = 1 ∧ (zm s.M c).2.X = x ∧ SX p nb { s with M := (zm s.M c).1 } { g with E := l } (x :: own) (k + 1) ∧ ∀ Y O, FX p nb Y O s { s with M := (zm s.M c).1 } g { g with E := l }) := by
  have hE := wm hp
  have hnb := X.S.nbk
  have hv := X.v
  have hcells := fun a (ha : a ≠ c.Head) => zjN s.M kd ha
  rcases zqi hp hnb.2 (L := X.L.swap) kd hh hN ho hpc K hn (by omega) with ⟨a, b, e, d⟩ | ⟨x, l, a, b, e, d, f, v1, v2⟩
  · exact .inl ⟨a, b, d, e⟩
  · refine .inr ⟨x, l, a, b, e, X.chain hp S' (fun a ha => hcells a (by omega)) d.swap ?_, fun Y O => FX.chain hp (f.weak Y) rfl (fun a ha => hcells a (by omega))⟩
    rw [v2, v1]; omega
theorem SX.popF {p : zb} (hp : zC p) {nb k : Nat} {s : za} {g : Gh} {own : List Int} (X : SX p nb s g own k) (hk : k < 4294960000) {c : zy} (kd : c.Kind = 2) (hh : c.Head = z7 p) (hN : c.Next = zD p) (ho : c.Out = 0) (hpc : 0 ≤ c.PC ∧ c.PC ≤ 2) (K : CK p s.M c)
    (hn : 1 ≤ c.PC → 1 ≤ yo c.H ∧ yo c.H < nb) (S' : SOk p nb { s with M := (zm s.M c).1 }) :
    ((zm s.M c).1 = s.M ∧ (zm s.M c).2.Out ≠ 1 ∧ CK p s.M (zm s.M c).2 ∧ ((zm s.M c).2.Out = 2 → g.F = [])) ∨
    (∃ x l, g.F = x :: l ∧ (zm s.M c).2.Out = 1 ∧ (zm s.M c).2.X = x ∧ SX p nb { s with M := (zm s.M c).1 } { g with F := l } (x :: own) (k + 1) ∧ ∀ Y O, FX p nb Y O s { s with M := (zm s.M c).1 } g { g with F := l }) := by
  have hE := wm hp
  have hnb := X.S.nbk
  have hv := X.v
  have hcells := fun a (ha : a ≠ c.Head) => zjN s.M kd ha
  rcases zqi hp hnb.2 (L := X.L) kd hh hN ho hpc K hn (by omega) with ⟨a, b, e, d⟩ | ⟨x, l, a, b, e, d, f, v1, v2⟩
  · exact .inl ⟨a, b, d, e⟩
  · refine .inr ⟨x, l, a, b, e, X.chain hp S' (fun a ha => hcells a (by omega)) d ?_, fun Y O => FX.chain hp (f.weak Y) rfl (fun a ha => hcells a (by omega))⟩
    rw [v2, v1]; omega
theorem SX.pushF {p : zb} (hp : zC p) {nb k : Nat} {s : za} {g : Gh} {o1 o2 : List Int} {b : Int} (X : SX p nb s g (o1 ++ b :: o2) k) (hk : k < 4294960000) {c : zy} (kd : c.Kind = 1) (hh : c.Head = z7 p) (hN : c.Next = zD p) (hX : c.X = b) (ho : c.Out = 0) (hpc : 0 ≤ c.PC ∧ c.PC ≤ 2) (K : CK p s.M c)
    (hn : 1 ≤ c.PC → yo c.H < nb) (S' : SOk p nb { s with M := (zm s.M c).1 }) :
    ((zm s.M c).2.Out = 0 ∧ SX p nb { s with M := (zm s.M c).1 } g (o1 ++ b :: o2) (k + 1) ∧ CK p (zm s.M c).1 (zm s.M c).2 ∧ (∀ Y O, b ∈ Y → FX p nb Y O s { s with M := (zm s.M c).1 } g g)) ∨
    ((zm s.M c).2.Out = 1 ∧ SX p nb { s with M := (zm s.M c).1 } { g with F := b :: g.F } (o1 ++ o2) (k + 1) ∧ (∀ Y O, FX p nb Y O s { s with M := (zm s.M c).1 } g { g with F := b :: g.F })) := by
  have hE := wm hp
  have hnb := X.S.nbk
  have hv := X.v
  rcases zoI hp hnb.2 (L := X.L) kd hh hN hX ho hpc K hn (by omega) with ⟨a, l, d, e, f⟩ | ⟨a, l, d, e, f⟩
  · refine .inl ⟨a, X.chain hp S' (fun a ha => f a (by omega)) l ?_, e, fun Y O hb => FX.chain hp (d.grow (fun x hx => by rw [List.mem_singleton.1 hx]; exact hb)) rfl (fun a ha => f a (by omega))⟩
    show yR (ld (zm s.M c).1 (z7 p)) ≤ _ ∧ yR (ld (zm s.M c).1 (zD p)) ≤ _
    rw [f _ (by omega), f _ (by omega)]; omega
  · refine .inr ⟨a, X.chain hp S' (fun a ha => f a (by omega) (by omega)) l ?_, fun Y O => FX.chain hp (d.weak Y) rfl (fun a ha => f a (by omega) (by omega))⟩
    show yR (ld (zm s.M c).1 (z7 p)) ≤ _ ∧ yR (ld (zm s.M c).1 (zD p)) ≤ _
    have f' := f (zD p) (by omega) (by omega)
    rw [f']; omega
theorem SX.pushE {p : zb} (hp : zC p) {nb k : Nat} {s : za} {g : Gh} {o1 o2 : List Int} {b : Int} (X : SX p nb s g (o1 ++ b :: o2) k) (hk : k < 4294960000) {c : zy} (kd : c.Kind = 1) (hh : c.Head = zD p) (hN : c.Next = zD p) (hX : c.X = b) (ho : c.Out = 0) (hpc : 0 ≤ c.PC ∧ c.PC ≤ 2) (K : CK p s.M c)
    (hn : 1 ≤ c.PC → yo c.H < nb) (S' : SOk p nb { s with M := (zm s.M c).1 }) :
    ((zm s.M c).2.Out = 0 ∧ SX p nb { s with M := (zm s.M c).1 } g (o1 ++ b :: o2) (k + 1) ∧ CK p (zm s.M c).1 (zm s.M c).2 ∧ (∀ Y O, b ∈ Y → FX p nb Y O s { s with M := (zm s.M c).1 } g g)) ∨
    ((zm s.M c).2.Out = 1 ∧ SX p nb { s with M := (zm s.M c).1 } { g with E := b :: g.E } (o1 ++ o2) (k + 1) ∧ (∀ Y O, FX p nb Y O s { s with M := (zm s.M c).1 } g { g with E := b :: g.E })) := by
  have hE := wm hp
  have hnb := X.S.nbk
  have hv := X.v
  rcases zoI hp hnb.2 (L := X.L.swap) kd hh hN hX ho hpc K hn (by omega) with ⟨a, l, d, e, f⟩ | ⟨a, l, d, e, f⟩
  · refine .inl ⟨a, X.chain hp S' (fun a ha => f a (by omega)) l.swap ?_, e, fun Y O hb => FX.chain hp (d.grow (fun x hx => by rw [List.mem_singleton.1 hx]; exact hb)) rfl (fun a ha => f a (by omega))⟩
    show yR (ld (zm s.M c).1 (z7 p)) ≤ _ ∧ yR (ld (zm s.M c).1 (zD p)) ≤ _
    rw [f _ (by omega), f _ (by omega)]; omega
  · refine .inr ⟨a, X.chain hp S' (fun a ha => f a (by omega) (by omega)) l.swap ?_, fun Y O => FX.chain hp (d.weak Y) rfl (fun a ha => f a (by omega) (by omega))⟩
    show yR (ld (zm s.M c).1 (z7 p)) ≤ _ ∧ yR (ld (zm s.M c).1 (zD p)) ≤ _
    have f' := f (z7 p) (by omega) (by omega)
    rw [f']; omega
end
end Go.Pe.G
