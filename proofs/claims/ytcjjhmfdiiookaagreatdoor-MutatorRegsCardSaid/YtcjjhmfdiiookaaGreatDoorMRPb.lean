/- Own work of this seat: PLaw16. -/
import Derived.Test.YtcjjhmfdiiookaaGreatDoorMRPa
set_option linter.unusedVariables false
set_option linter.unusedSimpArgs false
set_option linter.unnecessarySimpa false
set_option linter.unusedSectionVars false
set_option linter.deprecated false
set_option maxRecDepth 20000
namespace Go.Pe.G
open Go.Pe
noncomputable section
namespace B16
def VZ (n : Nat) (s : zb) : zb := goF (fun _ s => z8 s 1) 0 n s
theorem zaw {p : zd} {nb : Nat} (h : zL p) {s : zb} (E : EOk p nb s) {n : Nat} (hn : n < 1000000) : yp s 1 (n : Int) = some (VZ n s, ()) := by
  have e := zp6 (f := uj) (fun i s => (1, (n : Int), i, s, 0, 0, 0, 0, 0, 0, 0, 0, 0, 0#64, 0, zt.mk 0#64 0#64, 0, 0, false, false, 0, 0, 0, 0, zr.mk 0 0, ([] : List (List Int)), ([] : List (List Int)), ([] : List (List zg)), ([] : List zi), ([] : List (List Int)), ([] : List (BitVec 64)), ([] : List (List Int)), ([] : List Int), ([] : List Int), ([] : List zj), ([] : List zc), ())) (fun s => (s, 0, 0, 0, 0, 0, 0, 0, 0, 0, 0#64, 0, zt.mk 0#64 0#64, 0, 0, false, false, 0, 0, 0, 0, zr.mk 0 0, ([] : List (List Int)), ([] : List (List Int)), ([] : List (List zg)), ([] : List zi), ([] : List (List Int)), ([] : List (BitVec 64)), ([] : List (List Int)), ([] : List Int), ([] : List Int), ([] : List zj), ([] : List zc), ())) n hn (fun _ s => z8 s 1) (EOk p nb) (fun _ s E => zhx h E 1)
    (fun i s hi E => by
      show uj (1, (n : Int), (i : Int), s, 0, 0, 0, 0, 0, 0, 0, 0, 0, 0#64, 0, zt.mk 0#64 0#64, 0, 0, false, false, 0, 0, 0, 0, zr.mk 0 0, ([] : List (List Int)), ([] : List (List Int)), ([] : List (List zg)), ([] : List zi), ([] : List (List Int)), ([] : List (BitVec 64)), ([] : List (List Int)), ([] : List Int), ([] : List Int), ([] : List zj), ([] : List zc), ()) = _
      rw [V9, zo, if_pos (by omega), zf1 h E, Option.bind_some, yX (by omega)])
    (fun s E => by
      show uj (1, (n : Int), (n : Int), s, 0, 0, 0, 0, 0, 0, 0, 0, 0, 0#64, 0, zt.mk 0#64 0#64, 0, 0, false, false, 0, 0, 0, 0, zr.mk 0 0, ([] : List (List Int)), ([] : List (List Int)), ([] : List (List zg)), ([] : List zi), ([] : List (List Int)), ([] : List (BitVec 64)), ([] : List (List Int)), ([] : List Int), ([] : List Int), ([] : List zj), ([] : List zc), ()) = _
      rw [V9, zo, if_neg (by omega)]) E
  rw [ziU]
  exact congrArg (fun o => Option.bind o _) e
theorem zxO {p : zd} {nb : Nat} (h : zL p) {s : zb} (E : EOk p nb s) (n : Nat) : EOk p nb (VZ n s) := zqs (Inv := EOk p nb) (g := fun _ s => z8 s 1) (fun _ s E => zhx h E 1) n 0 s E
def zkb (l : List zg) : zd := ⟨1, 1, 2, 1, 1, 4, 2, 2, ⟨1, [[2], [0], [0]]⟩, 1#64, [[1, 0]], [l], []⟩
theorem zse (l : List zg) : Xy [l] = some (zkb l, ()) := by
  rw [ziT, zr4 (by rw [V4, zo, if_pos (by simp), we (by simp), Option.bind_some, vH (by decide)]; simp only [Int.toNat_zero, List.getElem?_cons_zero, Option.bind_some]; rw [we (by simp), Option.bind_some, z3 (by decide) (by decide)]) (by rw [V4, zo, if_neg (by simp)])]; rfl
theorem zqg {l : List zg} (hl : (l.length : Int) ≤ 7) (ho : ∀ o ∈ l, zbr o 2 1) : zL (zkb l) := by
  constructor
  case objs => intro o ho; simp [zkb] at ho ⊢; rcases ho with rfl | rfl | rfl <;> simp
  case roots => exact ⟨1, by decide, by simp [zkb], by show (1#64 : BitVec 64) = bit 1; decide⟩
  case reg => intro r hr; simp [zkb] at hr ⊢; subst hr; simp
  case prog =>
    intro k r ops hr hp
    cases k with
    | zero => injection hr with hr; injection hp with hp; subst hr; subst hp; exact ⟨hl, ho⟩
    | succ k => cases hp
  all_goals first | rfl | (simp [zkb]; done) | (simp [zkb]; omega)
abbrev pA : zd := zkb [⟨1, 1, 0, 0⟩, ⟨5, 1, 0, 0⟩, ⟨2, 1, 0, 0⟩]
abbrev pB : zd := zkb [⟨3, 1, 0, 0⟩, ⟨3, 1, 0, 0⟩]
theorem zaN : zL pA := zqg (by decide) (fun o ho => by simp at ho; rcases ho with rfl | rfl | rfl <;> (unfold zbr; decide))
theorem ziS : zL pB := zqg (by decide) (fun o ho => by simp at ho; subst ho; unfold zbr; decide)
theorem zu7 {s : zb} (x : zc) (hx : s.Ms = [x]) (hp : x.PC = 0) (ha : ¬ s.Acks.getD 0 0 < s.Epoch) (hi : ((wi s.P 1).length : Int) ≤ x.IP) : z8 s 1 = s := by
  unfold z8
  rw [hx]
  split
  · rfl
  show { (zP s 1 x).1 with Ms := [(zP s 1 x).2] } = s
  have e : zP s 1 x = (s, x) := by
    unfold zP
    rw [if_pos hp]
    unfold mu0 zba
    rw [if_neg (show ¬ s.Acks.getD (1 - 1 : Int).toNat 0 < s.Epoch from ha), if_pos hi]
  rw [e, ← hx]
theorem zx4 {l : List zc} (h : l.length = 1) : ∃ x, l = [x] := List.length_eq_one_iff.1 h
theorem zq8 : WK = some (true, ()) := by
  have E0 := zsh zaN
  have E1 := zsh ziS
  have a2 : yp (vw pA) 1 2 = some (VZ 2 (vw pA), ()) := zaw zaN E0 (n := 2) (by decide)
  have a7 : yp (vw pA) 1 7 = some (VZ 7 (vw pA), ()) := zaw zaN E0 (n := 7) (by decide)
  have a8 : yp (vw pA) 1 8 = some (VZ 8 (vw pA), ()) := zaw zaN E0 (n := 8) (by decide)
  have a99 : yp (vw pA) 1 99 = some (VZ 99 (vw pA), ()) := zaw zaN E0 (n := 99) (by decide)
  have b2 : yp (vw pB) 1 2 = some (VZ 2 (vw pB), ()) := zaw ziS E1 (n := 2) (by decide)
  have b5 : yp (vw pB) 1 5 = some (VZ 5 (vw pB), ()) := zaw ziS E1 (n := 5) (by decide)
  have b60 : yp (vw pB) 1 60 = some (VZ 60 (vw pB), ()) := zaw ziS E1 (n := 60) (by decide)
  have h99 : z8 (VZ 99 (vw pA)) 1 = VZ 99 (vw pA) := by
    obtain ⟨x, hx⟩ := zx4 (l := (VZ 99 (vw pA)).Ms) (by decide +kernel)
    have g : (VZ 99 (vw pA)).Ms.all (fun x => decide (x.PC = 0) && decide (((wi (VZ 99 (vw pA)).P 1).length : Int) ≤ x.IP)) = true := by decide +kernel
    rw [hx] at g
    simp only [List.all_cons, List.all_nil, Bool.and_true, Bool.and_eq_true, decide_eq_true_eq] at g
    exact zu7 x hx g.1 (by decide +kernel) g.2
  have E99 := zxO zaN E0 99
  have s99 := zf1 zaN E99 1
  have t7 := zlj (h := (VZ 7 (vw pA)).H) (by decide +kernel)
  have t8 := zlj (h := (VZ 8 (vw pA)).H) (by decide +kernel)
  have u2 := zlj (h := (VZ 2 (vw pB)).H) (by decide +kernel)
  rw [zgs, zse]
  simp only [Option.bind_some, zse, zkZ zaN, zkZ ziS, a2, a7, a8, a99, b2, b5, b60, t7, t8, u2, s99, h99, zuQ E99.small, zkF, xu]
  decide +kernel
def kOf (s : zb) (b : BitVec 8) : Int := 1 + (b.toNat : Int).tmod (s.Ms.length : Int)
theorem zyf {s : zb} (h : s.Ms.length ≠ 0) (b : BitVec 8) : 1 ≤ kOf s b ∧ kOf s b ≤ (s.Ms.length : Int) := by
  have := wU (b := (b.toNat : Int)) (k := (s.Ms.length : Int)) (by omega) (by omega)
  unfold kOf
  omega
theorem zxk {p : zd} {nb : Nat} {s : zb} (h : zL p) (E : EOk p nb s) (hm : s.Ms.length ≠ 0) (b : BitVec 8) : UO s b = some (z8 s (kOf s b), kOf s b, ()) := by
  have hk := zyf hm b
  have hml := E.ml
  have hmt := h.mt
  have e : w64 (1 + (b.toNat : Int).tmod (s.Ms.length : Int)) = kOf s b := by
    unfold kOf at hk ⊢
    exact z3 (by omega) (by omega)
  rw [zjG, zo, if_neg (by omega), e, zf1 h E, Option.bind_some]
theorem zy3 (s : zb) (m : Int) : (z8 s m).Ms.length = s.Ms.length := by
  unfold z8
  split
  · rfl
  split
  · simp
  · rfl
theorem zy4 {s : zb} (h : s.Ms.length = 0) (m : Int) : z8 s m = s := by
  unfold z8
  rw [if_pos]
  rw [h]
  by_cases c : m < 1
  · exact .inr (.inl c)
  · exact .inr (.inr (by omega))
theorem zwO {p : zd} {s : zb} {a : BitVec 64} {r : List Int} (hl : r.length < 1000000) (h : ∀ v ∈ r, v = 0 ∨ yK a v = true) (ord : List (BitVec 8)) (lv : BitVec 64) (i k : Int) :
    yj xB (ord, true, lv, i, a, k, r, (r.length : Int), 0, p, s, ()) = some (.brk (ord, true, lv, i, a, k, p, s, ())) := by
  refine zp6 (f := xB) (fun j (_ : Unit) => (ord, true, lv, i, a, k, r, (r.length : Int), j, p, s, ())) (fun _ => (ord, true, lv, i, a, k, p, s, ())) r.length hl (fun _ _ => ()) (fun _ => True) (fun _ _ _ => trivial) ?_ ?_ (s := ()) trivial
  · intro j _ hj _
    have hx := List.getElem?_eq_getElem hj
    show xB (ord, true, lv, i, a, k, r, (r.length : Int), (j : Int), p, s, ()) = _
    rw [Y6, zo, if_pos (by omega), xL hx, Option.bind_some, yi, yX (by omega)]
    split
    · rfl
    · rename_i h0
      have hb := (h _ (List.getElem_mem hj)).resolve_left h0
      rw [zje, Option.bind_some, show (!(decide (a &&& bit r[j] = 0#64))) = true from hb]
      rfl
  · intro _ _
    show xB (ord, true, lv, i, a, k, r, (r.length : Int), (r.length : Int), p, s, ()) = _
    rw [Y6, zo, if_neg (by omega)]
theorem zv8 {p : zd} {s : zb} {a : BitVec 64} (hl : s.Ms.length < 1000000) (h : ∀ x ∈ s.Ms, x.Regs.length < 1000000 ∧ ∀ v ∈ x.Regs, v = 0 ∨ yK a v = true) (ord : List (BitVec 8)) (lv : BitVec 64) (i : Int) :
    yj xC (ord, true, lv, i, a, 0, p, s, ()) = some (.brk (ord, true, lv, i, p, s, ())) := by
  refine zp6 (f := xC) (fun j (_ : Unit) => (ord, true, lv, i, a, j, p, s, ())) (fun _ => (ord, true, lv, i, p, s, ())) s.Ms.length hl (fun _ _ => ()) (fun _ => True) (fun _ _ _ => trivial) ?_ ?_ (s := ()) trivial
  · intro j _ hj _
    have hx := List.getElem?_eq_getElem hj
    have hh := h _ (List.getElem_mem hj)
    show xC (ord, true, lv, i, a, (j : Int), p, s, ()) = _
    rw [Y8, zo, if_pos (by omega), xL hx, Option.bind_some, zwO hh.1 hh.2, Option.bind_some]
    dsimp only
    rw [yX (by omega)]
  · intro _ _
    show xC (ord, true, lv, i, a, (s.Ms.length : Int), p, s, ()) = _
    rw [Y8, zo, if_neg (by omega)]
theorem mutatorRegs_plain (l ord : List (BitVec 8)) : vo l ord = some (true, ()) := by
  obtain ⟨p, ep, h⟩ := zxB l
  have E0 := zsh h
  rw [zd1, zq8]
  simp only [Option.bind_some, Bool.not_true, cond_false, ep, zkZ h, zvL h]
  obtain ⟨o, e, rfl⟩ := ue (f := ZC) (fun a => ∃ (i : Nat) (s : zb), i ≤ 250 ∧ a = (ord, true, zoC p, (i : Int), p, s, ()) ∧ EOk p (xO p + 1) s ∧ RgI p s) (fun a => 250 - (Int.toNat a.2.2.2.1))
    (fun o => o = .brk (true, ())) (by
    rintro _ ⟨i, s, hi, rfl, E, I⟩
    rw [zbG, zo, zo, zo]
    by_cases c1 : (i : Int) < (ord.length : Int)
    · rw [if_pos c1]
      by_cases c2 : (i : Int) < 250
      · rw [if_pos c2]
        by_cases c3 : (0 : Int) < (s.Ms.length : Int)
        · have hx := List.getElem?_eq_getElem (show i < ord.length by omega)
          rw [if_pos c3, xL hx, Option.bind_some, zxk h E (by omega), Option.bind_some]
          generalize kOf s (ord[i]'(by omega)) = k
          have E' := zhx h E k
          have I' := I.step h E k
          generalize z8 s k = t at E' I'
          have hN := E'.H.n
          have hM := h.most
          have hn := h.n
          dsimp only
          rw [zhv _ (by omega), Option.bind_some, zhv _ (by omega), Option.bind_some]
          dsimp only
          rw [zv8 E'.small.ms (fun x hx => ⟨(E'.small.mu x hx).1, fun v hv => (I'.rg x hx v hv).imp id (fun L => ?_)⟩), Option.bind_some]
          · dsimp only
            rw [z3 (a := (i : Int) + 1) (by omega) (by omega)]
            refine ⟨_, rfl, ⟨i + 1, t, by omega, rfl, E', I'⟩, ?_⟩
            show 250 - ((i : Int) + 1).toNat < 250 - (i : Int).toNat
            omega
          · rw [znj]
            rcases L with L | L
            · exact .inl L
            · have b1 := (zeV (n := t.H.Objs.length) (by omega) v).2 (by omega)
              have b2 : ¬ yK (wC (p.H.Objs.length : Int)) v = true := fun e => by
                have := (zeV (n := p.H.Objs.length) (by omega) v).1 e
                omega
              exact .inr ((zke _ _ v).2 ⟨b1, (zwt _ (by omega)).2 b2⟩)
        · rw [if_neg c3]; exact ⟨_, rfl, rfl⟩
      · rw [if_neg c2]; exact ⟨_, rfl, rfl⟩
    · rw [if_neg c1]; exact ⟨_, rfl, rfl⟩) (ord, true, zoC p, 0, p, vw p, ()) ⟨0, vw p, by omega, rfl, E0, zxZ h⟩ (by show 250 - 0 < 18446744073709551616; decide)
  refine (congrArg (fun o => Option.bind o _) e).trans rfl
end B16
end
end Go.Pe.G
