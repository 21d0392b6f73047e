/- Own work of this seat: PWstep, PBits, PWAll, PLists, PWNew, PHeld, PCnt, PWOnce, PGTwo, PRem, PAlone, POnce14, PLaw14. -/
import Derived.Test.YtlnbfkbgfngkeaaGreatDoorGOPa
set_option linter.unusedVariables false
set_option linter.unusedSimpArgs false
set_option linter.unnecessarySimpa false
set_option linter.unusedSectionVars false
set_option linter.deprecated false
set_option maxRecDepth 20000
namespace Go.Pe.G
open Go.Pe
noncomputable section
def xd (x : zi) : List Int := if x.PC = 3 ∨ x.PC = 4 then [x.Bin] else if x.PC = 6 then yI x.G else []
def Z6 (s : za) (x : zi) : List Int := if x.PC = 0 then ug s.M x.D else if x.PC = 3 then yY s x.Bin else if x.PC = 5 ∨ x.PC = 8 then [x.Obj] else if x.PC = 6 then x.Obj :: yg x.G else []
def zP (s : za) (x : zi) : List Int := x.Batch ++ Z6 s x
structure WX (p : zb) (s : za) (gh : Gh) (w : Int) (x : zi) : Prop where
  c0 : x.PC ≠ 0 → gh.c w = 0
  bt : x.PC ≤ 3 → x.Batch = []
  p0 : x.PC = 0 → PK p s.M w (gh.t w) (gh.D w) (gh.c w) x.D
  p1 : x.PC = 1 → TK p s.M x.Victim (gh.t x.Victim) (gh.D x.Victim) x.D
  p2 : x.PC = 2 → x.C.Out = 0 ∧ (0 ≤ x.C.PC ∧ x.C.PC ≤ 2) ∧ CK p s.M x.C
  p4 : x.PC = 4 → x.C.Out = 0 ∧ (0 ≤ x.C.PC ∧ x.C.PC ≤ 2) ∧ x.C.X = x.Bin ∧ CK p s.M x.C
  p6 : x.PC = 6 → GX p s gh x.G ∧ x.G.Mode = 1 ∧ x.G.Who = w ∧ x.G.Out = 0
theorem WX.plain {p : zb} {s : za} {gh : Gh} {w : Int} {x : zi} (h : x.PC = 5 ∨ x.PC = 7 ∨ x.PC = 8 ∨ x.PC = 9) (c : gh.c w = 0) : WX p s gh w x :=
  ⟨fun _ => c, fun e => by omega, fun e => by omega, fun e => by omega, fun e => by omega, fun e => by omega, fun e => by omega⟩
theorem CK.start {p : zb} {m : List (BitVec 64)} {k h x : Int} : CK p m ⟨k, 0, h, zv p, 0#64, x, 0, 0⟩ :=
  ⟨fun e => absurd e (by show ¬ (1 : Int) ≤ 0; decide), fun e => absurd e (by show ¬ (0 : Int) = 2; decide), fun e => absurd e (by show ¬ (0 : Int) = 2; decide)⟩
theorem WX.begin {p : zb} {s : za} {gh : Gh} {w : Int} {x : zi} (c : gh.c w = 0) (hb : x.Batch = []) : WX p s gh w (Xp p w x) := by
  refine ⟨fun e => absurd rfl e, fun _ => hb, fun _ => ⟨rfl, rfl, rfl, rfl, ⟨by show (0 : Int) ≤ 0; decide, by show (0 : Int) ≤ 6; decide⟩, fun _ => c, ?_, ?_, ?_, ?_, ?_, ?_, ?_, ?_⟩, fun e => (by cases e), fun e => (by cases e), fun e => (by cases e), fun e => (by cases e)⟩
  all_goals (intro e; first | (exact absurd e (by show ¬ ((0 : Int) = 2 ∨ (4 : Int) ≤ 0); decide)) | (exact absurd e (by show ¬ (0 : Int) = 3; decide)) | (exact absurd e (by show ¬ (0 : Int) = 4; decide)) | (exact absurd e (by show ¬ ((0 : Int) = 3 ∨ (0 : Int) = 4); decide)) | (exact absurd e (by show ¬ (5 : Int) ≤ 0; decide)) | skip)
  rcases e with e | e | e | e
  · exact absurd e (by show ¬ (0 : Int) = 1; decide)
  · exact absurd e (by show ¬ (0 : Int) = 2; decide)
  · exact absurd e (by show ¬ (4 : Int) ≤ 0; decide)
  · exact absurd e.1 (by show ¬ (0 : Int) = 3; decide)
theorem zbi {p : zb} {s : za} {w : Int} {x : zi} : Z6 s (Xp p w x) = [] := by
  unfold Z6
  rw [if_pos (show (Xp p w x).PC = 0 from rfl)]
  exact xB (.inl (by show (0 : Int) ≠ 3; decide)) (by show (0 : Int) ≠ 6; decide)
theorem WX.look {p : zb} {s : za} {gh : Gh} {w : Int} {x : zi} (c : gh.c w = 0) (hb : x.Batch = []) : WX p s gh w (ZC p w x) ∧ Z6 s (ZC p w x) = [] ∧ xd (ZC p w x) = [] := by
  unfold ZC
  split
  · refine ⟨⟨fun _ => c, fun _ => hb, fun e => (by cases e), fun e => (by cases e), fun _ => ⟨rfl, ⟨by show (0 : Int) ≤ 0; decide, by show (0 : Int) ≤ 2; decide⟩, CK.start⟩, fun e => (by cases e), fun e => (by cases e)⟩, ?_, ?_⟩
    · unfold Z6; rw [if_neg (by show ¬ (2 : Int) = 0; decide), if_neg (by show ¬ (2 : Int) = 3; decide), if_neg (by show ¬ ((2 : Int) = 5 ∨ (2 : Int) = 8); decide), if_neg (by show ¬ (2 : Int) = 6; decide)]
    · unfold xd; rw [if_neg (by show ¬ ((2 : Int) = 3 ∨ (2 : Int) = 4); decide), if_neg (by show ¬ (2 : Int) = 6; decide)]
  · refine ⟨⟨fun _ => c, fun _ => hb, fun e => (by cases e), fun _ => ⟨rfl, rfl, rfl, rfl, ⟨by show (0 : Int) ≤ 0; decide, by show (0 : Int) ≤ 3; decide⟩, fun e => absurd e (by show ¬ (1 : Int) ≤ 0; decide), fun e => absurd e (by show ¬ (2 : Int) ≤ 0; decide), fun e => absurd e (by show ¬ (0 : Int) = 3; decide)⟩, fun e => (by cases e), fun e => (by cases e), fun e => (by cases e)⟩, ?_, ?_⟩
    · unfold Z6; rw [if_neg (by show ¬ (1 : Int) = 0; decide), if_neg (by show ¬ (1 : Int) = 3; decide), if_neg (by show ¬ ((1 : Int) = 5 ∨ (1 : Int) = 8); decide), if_neg (by show ¬ (1 : Int) = 6; decide)]
    · unfold xd; rw [if_neg (by show ¬ ((1 : Int) = 3 ∨ (1 : Int) = 4); decide), if_neg (by show ¬ (1 : Int) = 6; decide)]
theorem WX.other {p : zb} (hp : zr p) {nb k : Nat} {s s' : za} {gh gh' : Gh} {X R : List Int} {O : Int → Prop} {w : Int} {x : zi} (hw : 1 ≤ w ∧ w ≤ p.Workers) (Y : SX p nb s gh (X ++ R) k) (Fx : FX p nb X O s s' gh gh') (K : WX p s gh w x) (W : WOk p nb w x)
    (hR : ∀ b ∈ xd x, b ∈ R) (apart : ¬ O w) : WX p s' gh' w x ∧ zP s' x = zP s x := by
  have hsub : ∀ b ∈ X, b ∈ X ++ R := fun b hb => List.mem_append_left _ hb
  have hnd := (List.nodup_append.1 Y.L.nodup).2.1
  have hnot : ∀ b, b ∈ xd x → b ∉ X := fun b hb hg => (List.nodup_append.1 hnd).2.2 b hg b (hR b hb) rfl
  have hc : gh'.c w = gh.c w := by
    rcases Fx.dq w hw.1 hw.2 with h | h
    · cases h with
      | same e1 e2 e3 e4 => exact e3
      | stolen y e1 e2 e3 e4 => exact e3
    · exact absurd h.1 apart
  have hcell : ∀ a, zB p w < a → a < zB p w + p.Cap + 2 → ld s'.M a = ld s.M a := by
    rcases Fx.dq w hw.1 hw.2 with h | h
    · cases h with
      | same e1 e2 e3 e4 => exact fun a h1 h2 => e4 a (by omega) h2
      | stolen y e1 e2 e3 e4 => exact e4
    · exact absurd h.1 apart
  refine ⟨⟨fun e => hc.trans (K.c0 e), K.bt, fun e => Fx.pk hp hw.1 hw.2 apart (K.p0 e), fun e => Fx.tk W.vic.1 W.vic.2 (K.p1 e), fun e => ?_, fun e => ?_, fun e => ?_⟩, ?_⟩
  · obtain ⟨a, b, c⟩ := K.p2 e
    have C := W.c2 e
    exact ⟨a, b, c.mv Y.L Fx.mv hsub (.inl C.h) (fun h _ => C.v h) (fun e2 => by have := C.k; omega)⟩
  · obtain ⟨a, b, c, d⟩ := K.p4 e
    have C := W.c4 e
    have hno := hnot x.Bin (by unfold xd; rw [if_pos (.inr e)]; simp)
    exact ⟨a, b, c, d.mv Y.L Fx.mv hsub (.inr C.h) (fun _ e2 => by have := C.k; omega) (fun _ => ⟨C.x.1, C.x.2, by rw [c]; exact hno⟩)⟩
  · obtain ⟨a, b, c, d⟩ := K.p6 e
    have M := (W.g6 e).1
    refine ⟨a.other hp Y Fx M (fun y hy => hR y ?_) (fun _ => by rw [c]; exact apart), b, c, d⟩
    unfold xd; rw [if_neg (by omega), if_pos e]; exact hy
  · unfold zP Z6
    congr 1
    by_cases e0 : x.PC = 0
    · rw [if_pos e0, if_pos e0]
      have P := K.p0 e0
      unfold ug
      have hpl := (zhC hp hw.1 hw.2 P.base P.size (x.D.B - 1#64)).2
      rw [hcell _ (by rw [P.base] at hpl; omega) (by rw [P.base] at hpl; omega)]
    · rw [if_neg e0, if_neg e0]
      by_cases e3 : x.PC = 3
      · rw [if_pos e3, if_pos e3]
        have hb := W.b3 e3
        have hno := hnot x.Bin (by unfold xd; rw [if_pos (.inl e3)]; simp)
        unfold yY
        rw [Fx.bn x.Bin hb.1 hno]
      · rw [if_neg e3, if_neg e3]
theorem zqn (s : za) (b : Int) : U9 s b = yY s b := by unfold U9 yY; rw [List.getD_eq_getElem?_getD]
theorem FX.mono {p : zb} {nb : Nat} {X : List Int} {O O' : Int → Prop} {s s' : za} {g g' : Gh} (h : FX p nb X O s s' g g') (i : ∀ v, O v → O' v) : FX p nb X O' s s' g g' :=
  ⟨h.mv, h.bn, fun v a b => (h.dq v a b).imp id (fun e => ⟨i v e.1, e.2⟩)⟩
theorem xx {x : zi} (h3 : x.PC ≠ 3) (h4 : x.PC ≠ 4) (h6 : x.PC ≠ 6) : xd x = [] := by unfold xd; rw [if_neg (by omega), if_neg h6]
theorem zb8 {x : zi} (h : x.PC = 3 ∨ x.PC = 4) : xd x = [x.Bin] := by unfold xd; rw [if_pos h]
theorem zmK {x : zi} (h : x.PC = 6) : xd x = yI x.G := by unfold xd; rw [if_neg (by omega), if_pos h]
theorem zpW {s : za} {x : zi} (h : x.PC = 0) : Z6 s x = ug s.M x.D := by unfold Z6; rw [if_pos h]
theorem zpA {s : za} {x : zi} (h : x.PC = 3) : Z6 s x = yY s x.Bin := by unfold Z6; rw [if_neg (by omega), if_pos h]
theorem Xx {s : za} {x : zi} (h : x.PC = 5 ∨ x.PC = 8) : Z6 s x = [x.Obj] := by unfold Z6; rw [if_neg (by omega), if_neg (by omega), if_pos h]
theorem zl6 {s : za} {x : zi} (h : x.PC = 6) : Z6 s x = x.Obj :: yg x.G := by unfold Z6; rw [if_neg (by omega), if_neg (by omega), if_neg (by omega), if_pos h]
theorem vw {s : za} {x : zi} (h : x.PC = 1 ∨ x.PC = 2 ∨ x.PC = 4 ∨ x.PC = 7 ∨ x.PC = 9) : Z6 s x = [] := by unfold Z6; rw [if_neg (by omega), if_neg (by omega), if_neg (by omega), if_neg (by omega)]
def zb6 (p : zb) (nb k : Nat) (R : List Int) (gh : Gh) (s : za) (w : Int) (x : zi) (s' : za) (x' : zi) : Prop :=
  ∃ gh', SX p nb s' gh' (xd x' ++ R) (k + 1) ∧ WX p s' gh' w x' ∧ FX p nb (xd x) (fun v => v = w) s s' gh gh' ∧
    ∃ N B, List.Perm (yu p s' gh' ++ zP s' x' ++ B) (N ++ (yu p s gh ++ zP s x)) ∧
      ((N = [] ∧ B = [] ∧ s'.T = s.T) ∨ (N = [x.G.Obj] ∧ B = [] ∧ x.PC = 6 ∧ ¬ (s.T.Marks ||| bit x.G.Obj = s.T.Marks) ∧ s'.T = { s.T with Marks := s.T.Marks ||| bit x.G.Obj }) ∨ (N = [] ∧ B = [x.Obj] ∧ x.PC = 8 ∧ s'.T = U6 s.T x.Obj))
theorem zb6.quiet {p : zb} {nb k : Nat} {R : List Int} {gh : Gh} {s s' : za} {w : Int} {x x' : zi} (X : SX p nb s gh (xd x ++ R) k) (S' : SOk p nb s') (hm : s'.M = s.M) (hb : s'.Bins = s.Bins) (hT : s'.T = s.T)
    (ho : xd x' = xd x) (hh : List.Perm (zP s' x') (zP s x)) (W' : WX p s' gh w x') : zb6 p nb k R gh s w x s' x' :=
  ⟨gh, by rw [ho]; exact X.quiet S' hm, W', FX.quiet hm (fun _ _ _ => by rw [hb]), [], [], by rw [Yj hb, List.append_nil]; exact List.Perm.append_left _ hh, .inl ⟨rfl, rfl, hT⟩⟩
theorem nz8 {x : Int} : (5 : Int) ≠ 3 ∧ (5 : Int) ≠ 4 ∧ (5 : Int) ≠ 6 := by decide
theorem zsV {p : zb} (hp : zr p) {nb k : Nat} {R : List Int} {gh : Gh} {s : za} {w : Int} {x : zi} (hk : k < 4294960000) (hw : 1 ≤ w ∧ w ≤ p.Workers) (X : SX p nb s gh (xd x ++ R) k) (W : WOk p nb w x) (K : WX p s gh w x)
    (hH : ∀ o i, 0 ≤ we s.H o i ∧ we s.H o i ≤ 64) : zb6 p nb k R gh s w x (zC s w x).1 (zC s w x).2 := by
  have S' := (znY hp hw X.S W).1
  have hP := X.S.P
  have eL : ∀ y, ZC s.P w y = ZC p w y := fun y => by rw [hP]
  have eB : ∀ y, Xp s.P w y = Xp p w y := fun y => by rw [hP]
  have eC : zdo s.P (zv s.P) x.Bin = zdo p (zv p) x.Bin := by rw [hP]
  have hpc := W.pc
  have hlen := X.L.len
  have hE := yM hp
  revert S'
  unfold zC
  by_cases p01 : x.PC = 0 ∨ x.PC = 1
  · rw [if_pos p01]
    intro S'
    have S' : SOk p nb { s with M := (zK s.M x.D).1 } := S'
    have hl := (zdv s.M x.D).1
    have eo : xd x = [] := xx (by omega) (by omega) (by omega)
    have hbt := K.bt (by omega)
    rw [eo] at X
    dsimp only
    by_cases p0 : x.PC = 0
    · have K0 := K.p0 p0
      have D0 := X.D w hw.1 hw.2
      have hdk := X.dk w hw.1 hw.2
      obtain ⟨t', l', c', D', hm, V, hle, r⟩ := zmk hp hw (by omega) D0 K0
      have hc := hp.cap
      have hm' : ∀ a, (a < zB p w ∨ zB p w + p.Cap + 2 ≤ a) → ld (zK s.M x.D).1 a = ld s.M a := fun a ha => hm a (by omega) (by omega)
      have X' := X.dq hp S' hl hw hm' D' (by omega)
      have Fx : FX p nb (xd x) (fun v => v = w) s { s with M := (zK s.M x.D).1 } gh (Zk gh w t' l' c') := FX.own (O := fun v => v = w) (s := s) (s' := { s with M := (zK s.M x.D).1 }) (g := gh) hp hw hm' rfl rfl V
      obtain ⟨u, v, f1, f2⟩ := zgd (p := p) (s := s) (s' := { s with M := (zK s.M x.D).1 }) (g := gh) rfl hw (t := t') (c := c') (l := l')
      have fin : ∀ x' : zi, xd x' = [] → WX p { s with M := (zK s.M x.D).1 } (Zk gh w t' l' c') w x' → List.Perm (l' ++ zP { s with M := (zK s.M x.D).1 } x') (gh.D w ++ zP s x) → zb6 p nb k R gh s w x { s with M := (zK s.M x.D).1 } x' := by
        intro x' a b c
        refine ⟨_, by rw [a]; exact X', b, Fx, [], [], ?_, .inl ⟨rfl, rfl, rfl⟩⟩
        rw [f1, f2, List.append_nil, List.nil_append]
        simp only [List.append_assoc]
        refine List.Perm.append_left _ ?_
        refine (List.perm_append_comm_assoc l' v _).trans (List.Perm.trans ?_ (List.perm_append_comm_assoc v (gh.D w) _))
        exact List.Perm.append_left _ c
      have hh : zP s x = ug s.M x.D := by unfold zP; rw [hbt, zpW p0, List.nil_append]
      rw [hh] at fin
      rcases r with ⟨r1, r2, r3⟩ | ⟨r1, r2, r3⟩ | ⟨r1, r2, r3, r4, r5⟩
      · rw [r1, if_neg (by decide), if_neg (by decide)]
        refine fin _ (xx (by show x.PC ≠ 3; omega) (by show x.PC ≠ 4; omega) (by show x.PC ≠ 6; omega)) ⟨fun e => absurd p0 e, fun _ => hbt, fun _ => ?_, fun e => by have e : x.PC = 1 := e; omega, fun e => by have e : x.PC = 2 := e; omega, fun e => by have e : x.PC = 4 := e; omega, fun e => by have e : x.PC = 6 := e; omega⟩ ?_
        · rw [yP.1, yP.2.1, yP.2.2]; exact r2
        · unfold zP
          rw [zpW (x := { x with D := (zK s.M x.D).2 }) p0]
          show List.Perm (l' ++ (x.Batch ++ ug (zK s.M x.D).1 (zK s.M x.D).2)) _
          rw [hbt, List.nil_append]; exact r3
      · rw [r1, if_pos rfl]
        refine fin _ (xx (by show (5 : Int) ≠ 3; decide) (by show (5 : Int) ≠ 4; decide) (by show (5 : Int) ≠ 6; decide)) (WX.plain (.inl rfl) (by rw [yP.2.2]; exact r2)) ?_
        unfold zP
        rw [Xx (.inl rfl)]
        show List.Perm (l' ++ (x.Batch ++ [(zK s.M x.D).2.X])) _
        rw [hbt, List.nil_append]; exact r3
      · rw [r1, if_neg (by decide), if_pos (.inl rfl), eL]
        obtain ⟨a, b, c⟩ := WX.look (p := p) (s := { s with M := (zK s.M x.D).1 }) (gh := Zk gh w t' l' c') (w := w) (x := { x with D := (zK s.M x.D).2 }) (by rw [yP.2.2]; exact r2) hbt
        refine fin _ c a ?_
        unfold zP
        rw [b, r3, r4, r5, show (ZC p w { x with D := (zK s.M x.D).2 }).Batch = x.Batch by unfold ZC; split <;> rfl, hbt]
        exact List.Perm.refl _
    · have p1 : x.PC = 1 := by omega
      have K1 := K.p1 p1
      have hv := W.vic
      have hc0 := K.c0 p0
      have D0 := X.D x.Victim hv.1 hv.2
      have hdk := X.dk x.Victim hv.1 hv.2
      have hh : zP s x = [] := by unfold zP; rw [hbt, vw (.inl p1)]; rfl
      rcases zoc hp hv (by omega) D0 K1 with ⟨hm, r⟩ | ⟨y, l', e1, e2, e3, e4, e5⟩
      · have S2 := S'
        have q : ∀ x' : zi, xd x' = [] → zP { s with M := (zK s.M x.D).1 } x' = [] → WX p { s with M := (zK s.M x.D).1 } gh w x' → zb6 p nb k R gh s w x { s with M := (zK s.M x.D).1 } x' :=
          fun x' a b c => .quiet (by rw [eo]; exact X) S' hm rfl rfl (by rw [a, eo]) (by rw [b, hh]) c
        rcases r with ⟨r1, r2⟩ | r
        · rw [r1, if_neg (by decide), if_neg (by decide)]
          refine q _ (xx (by show x.PC ≠ 3; omega) (by show x.PC ≠ 4; omega) (by show x.PC ≠ 6; omega)) ?_ ⟨fun _ => hc0, fun _ => hbt, fun e => absurd e p0, fun _ => ?_, fun e => by have e : x.PC = 2 := e; omega, fun e => by have e : x.PC = 4 := e; omega, fun e => by have e : x.PC = 6 := e; omega⟩
          · unfold zP
            rw [vw (x := { x with D := (zK s.M x.D).2 }) (.inl p1)]
            show x.Batch ++ [] = []
            rw [hbt]; rfl
          · show TK p (zK s.M x.D).1 _ _ _ _
            rw [hm]; exact r2
        · rw [if_neg (by omega), if_pos r, eL]
          obtain ⟨a, b, c⟩ := WX.look (p := p) (s := { s with M := (zK s.M x.D).1 }) (gh := gh) (w := w) (x := { x with D := (zK s.M x.D).2 }) hc0 hbt
          refine q _ c ?_ a
          unfold zP
          rw [b, show (ZC p w { x with D := (zK s.M x.D).2 }).Batch = x.Batch by unfold ZC; split <;> rfl, hbt]; rfl
      · have hc := hp.cap
        have hm' : ∀ a, (a < zB p x.Victim ∨ zB p x.Victim + p.Cap + 2 ≤ a) → ld (zK s.M x.D).1 a = ld s.M a := fun a ha => e5 a (by omega)
        have X' := X.dq hp S' hl hv hm' e4 (by rw [e1] at hdk; simp at hdk; omega)
        obtain ⟨h1, h2⟩ := zko hp hv hm'
        obtain ⟨u, v, f1, f2⟩ := zgd (p := p) (s := s) (s' := { s with M := (zK s.M x.D).1 }) (g := gh) rfl hv (t := gh.t x.Victim + 1) (c := gh.c x.Victim) (l := l')
        rw [e2, if_pos rfl]
        refine ⟨Zk gh x.Victim (gh.t x.Victim + 1) l' (gh.c x.Victim), by rw [xx (by show (5 : Int) ≠ 3; decide) (by show (5 : Int) ≠ 4; decide) (by show (5 : Int) ≠ 6; decide)]; exact X', WX.plain (.inl rfl) ?_, ⟨Mv.low hp h1, fun _ _ _ => rfl, fun v' a b => .inl ?_⟩, [], [], ?_, .inl ⟨rfl, rfl, rfl⟩⟩
        · by_cases e : w = x.Victim
          · rw [e, yP.2.2, ← e]; exact hc0
          · rw [(vY e).2.2]; exact hc0
        · by_cases e : v' = x.Victim
          · subst e
            exact .stolen y yP.2.1 (by rw [yP.1]; exact e1) yP.2.2 (fun a h1 _ => e5 a (by omega))
          · exact .same (vY e).2.1 (vY e).1 (vY e).2.2 (h2 v' a b e)
        · rw [f1, f2, hh, List.append_nil, List.append_nil, List.nil_append, e1]
          unfold zP
          rw [Xx (.inl rfl)]
          show List.Perm (u ++ l' ++ v ++ (x.Batch ++ [(zK s.M x.D).2.X])) _
          rw [hbt, List.nil_append, e3]
          simp only [List.append_assoc]
          refine List.Perm.append_left _ ?_
          show List.Perm (l' ++ (v ++ [y])) (y :: (l' ++ v))
          rw [← List.append_assoc]
          exact List.perm_append_comm
  rw [if_neg p01]
  have hc0 := K.c0 (by omega)
  by_cases p2 : x.PC = 2
  · rw [if_pos p2]
    intro S'
    have S' : SOk p nb { s with M := (zl s.M x.C).1 } := S'
    have C := W.c2 p2
    obtain ⟨c1, c2, c3⟩ := K.p2 p2
    have hbt := K.bt (by omega)
    have eo : xd x = [] := xx (by omega) (by omega) (by omega)
    have hh : zP s x = [] := by unfold zP; rw [hbt, vw (.inr (.inl p2))]; rfl
    dsimp only
    rcases SX.popF hp X hk C.k C.h C.n c1 c2 c3 C.v S' with ⟨a, b, c, d⟩ | ⟨y, l, a, b, c, d, e⟩
    · rw [if_neg b]
      have hout := XB s.M c1 c2 (.inr C.k)
      by_cases o2 : (zl s.M x.C).2.Out = 2
      · rw [if_pos o2, eB]
        refine .quiet X S' a rfl rfl ?_ ?_ (WX.begin hc0 hbt)
        · rw [eo]; exact xx (by show (0 : Int) ≠ 3; decide) (by show (0 : Int) ≠ 4; decide) (by show (0 : Int) ≠ 6; decide)
        · unfold zP
          rw [zbi, show (Xp p w { x with C := (zl s.M x.C).2 }).Batch = x.Batch from rfl]
          rw [hbt, vw (.inr (.inl p2))]
      · rw [if_neg o2]
        have hpc' : (zl s.M x.C).2.Out = 0 ∧ 0 ≤ (zl s.M x.C).2.PC ∧ (zl s.M x.C).2.PC ≤ 2 := by omega
        refine .quiet X S' a rfl rfl ?_ ?_ ⟨fun _ => hc0, fun _ => hbt, fun e => by have e : x.PC = 0 := e; omega, fun e => by have e : x.PC = 1 := e; omega, fun _ => ⟨hpc'.1, hpc'.2, ?_⟩, fun e => by have e : x.PC = 4 := e; omega, fun e => by have e : x.PC = 6 := e; omega⟩
        · rw [eo]; exact xx (by show x.PC ≠ 3; omega) (by show x.PC ≠ 4; omega) (by show x.PC ≠ 6; omega)
        · unfold zP
          rw [vw (x := { x with C := (zl s.M x.C).2 }) (.inr (.inl p2)), vw (.inr (.inl p2))]
        · rw [show ({ s with M := (zl s.M x.C).1 } : za).M = s.M from a]; exact c
    · rw [if_pos b]
      have e1 : xd { x with C := (zl s.M x.C).2, Bin := (zl s.M x.C).2.X, PC := 3 } = [y] := by rw [← c]; exact zb8 (x := { x with C := (zl s.M x.C).2, Bin := (zl s.M x.C).2.X, PC := 3 }) (.inl rfl)
      refine ⟨{ gh with F := l }, by rw [e1]; rw [eo] at d; exact d, ⟨fun _ => hc0, fun _ => hbt, fun e => (by cases e), fun e => (by cases e), fun e => (by cases e), fun e => (by cases e), fun e => (by cases e)⟩, e _ _, [], [], ?_, .inl ⟨rfl, rfl, rfl⟩⟩
      rw [hh, List.append_nil, List.append_nil, List.nil_append]
      unfold zP
      rw [zpA (x := { x with C := (zl s.M x.C).2, Bin := (zl s.M x.C).2.X, PC := 3 }) rfl]
      show List.Perm (yu p s { gh with F := l } ++ (x.Batch ++ yY s (zl s.M x.C).2.X)) _
      rw [hbt, List.nil_append, c]
      have : yu p s gh = yY s y ++ yu p s { gh with F := l } := by unfold yu; rw [a]; simp [List.append_assoc]
      rw [this]
      exact List.perm_append_comm
  rw [if_neg p2]
  by_cases p3 : x.PC = 3
  · rw [if_pos p3]
    intro S'
    have hb := W.b3 p3
    have hbt := K.bt (by omega)
    have eo : xd x = [x.Bin] := zb8 (.inl p3)
    rw [eC]
    have e1 : xd { x with Batch := U9 s x.Bin, PC := 4, C := zdo p (zv p) x.Bin } = [x.Bin] := zb8 (x := { x with Batch := U9 s x.Bin, PC := 4, C := zdo p (zv p) x.Bin }) (.inr rfl)
    have hget : ∀ b, 1 ≤ b → b ∉ xd x → (s.Bins.set x.Bin.toNat [])[b.toNat]? = s.Bins[b.toNat]? := fun b b1 b2 => by
      rw [List.getElem?_set_ne]
      intro e
      rw [eo] at b2
      exact b2 (by rw [show b = x.Bin by omega]; simp)
    refine ⟨gh, by rw [e1, ← eo]; exact X.quiet S' rfl, ⟨fun _ => hc0, fun e => absurd e (by show ¬ (4 : Int) ≤ 3; decide), fun e => (by cases e), fun e => (by cases e), fun e => (by cases e), fun _ => ⟨rfl, ⟨by show (0 : Int) ≤ 0; decide, by show (0 : Int) ≤ 2; decide⟩, rfl, CK.start⟩, fun e => (by cases e)⟩, FX.quiet rfl hget, [], [], ?_, .inl ⟨rfl, rfl, rfl⟩⟩
    have hbag : yu p { s with Bins := s.Bins.set x.Bin.toNat [] } gh = yu p s gh := by
      unfold yu
      congr 1
      refine vD (fun b hb => ?_)
      have hm := X.L.cF.mem b hb
      have hno := (X.L.notF (x := x.Bin) (by rw [eo]; simp)).1
      unfold yY
      rw [show ({ s with Bins := s.Bins.set x.Bin.toNat [] } : za).Bins = s.Bins.set x.Bin.toNat [] from rfl, hget b hm.1 (by rw [eo]; intro e; rw [List.mem_singleton.1 e] at hb; exact hno hb)]
    rw [hbag, List.append_nil, List.nil_append]
    unfold zP
    rw [zpA p3, vw (x := { x with Batch := U9 s x.Bin, PC := 4, C := zdo p (zv p) x.Bin }) (.inr (.inr (.inl rfl)))]
    show List.Perm (yu p s gh ++ (U9 s x.Bin ++ [])) _
    rw [hbt, List.append_nil, List.nil_append, zqn]
  rw [if_neg p3]
  by_cases p4 : x.PC = 4
  · rw [if_pos p4]
    intro S'
    have S' : SOk p nb { s with M := (zl s.M x.C).1 } := S'
    have C := W.c4 p4
    obtain ⟨c1, c2, c3, c4⟩ := K.p4 p4
    have eo : xd x = [x.Bin] := zb8 (.inr p4)
    have hh : zP s x = x.Batch := by unfold zP; rw [vw (.inr (.inr (.inl p4))), List.append_nil]
    rw [eo] at X
    dsimp only
    rcases SX.pushE hp (o1 := []) (o2 := R) (b := x.Bin) X hk C.k C.h C.n c3 c1 c2 c4 C.v S' with ⟨a, b, c, d⟩ | ⟨a, b, d⟩
    · rw [a, if_neg (by decide)]
      have hout := XB s.M c1 c2 (.inl C.k)
      have hsame := zha s.M x.C
      have hpc' : 0 ≤ (zl s.M x.C).2.PC ∧ (zl s.M x.C).2.PC ≤ 2 := by omega
      have e1 : xd { x with C := (zl s.M x.C).2 } = [x.Bin] := zb8 (x := { x with C := (zl s.M x.C).2 }) (.inr p4)
      refine ⟨gh, by rw [e1]; exact b, ⟨fun _ => hc0, fun e => by have e : x.PC ≤ 3 := e; omega, fun e => by have e : x.PC = 0 := e; omega, fun e => by have e : x.PC = 1 := e; omega, fun e => by have e : x.PC = 2 := e; omega, fun _ => ⟨a, hpc', (hsame.2.2.2 C.k).trans c3, c⟩, fun e => by have e : x.PC = 6 := e; omega⟩, by rw [eo]; exact d _ _ (by simp), [], [], ?_, .inl ⟨rfl, rfl, rfl⟩⟩
      rw [Yj rfl, hh, List.append_nil]
      unfold zP
      rw [vw (x := { x with C := (zl s.M x.C).2 }) (.inr (.inr (.inl p4))), List.append_nil]
      exact List.Perm.refl _
    · rw [a, if_pos rfl]
      refine ⟨{ gh with E := x.Bin :: gh.E }, by rw [xx (by show (7 : Int) ≠ 3; decide) (by show (7 : Int) ≠ 4; decide) (by show (7 : Int) ≠ 6; decide)]; exact b, WX.plain (.inr (.inl rfl)) hc0, by rw [eo]; exact d _ _, [], [], ?_, .inl ⟨rfl, rfl, rfl⟩⟩
      rw [hh, List.append_nil]
      unfold zP
      rw [vw (.inr (.inr (.inr (.inl rfl)))), List.append_nil]
      exact List.Perm.refl _
  rw [if_neg p4]
  by_cases p5 : x.PC = 5
  · rw [if_pos p5]
    intro S'
    have eo : xd x = [] := xx (by omega) (by omega) (by omega)
    have hv := hH x.Obj x.Slot
    dsimp only
    split
    · rcases zf4 s (wc (x.Slot + 1)) with e | e <;> rw [e]
      · refine .quiet X S' rfl rfl rfl (by rw [eo]; exact xx (by show (5 : Int) ≠ 3; decide) (by show (5 : Int) ≠ 4; decide) (by show (5 : Int) ≠ 6; decide)) ?_ (WX.plain (.inl rfl) hc0)
        unfold zP
        rw [Xx (.inl p5), Xx (.inl rfl)]
      · refine .quiet X S' rfl rfl rfl (by rw [eo]; exact xx (by show (8 : Int) ≠ 3; decide) (by show (8 : Int) ≠ 4; decide) (by show (8 : Int) ≠ 6; decide)) ?_ (WX.plain (.inr (.inr (.inl rfl))) hc0)
        unfold zP
        rw [Xx (.inl p5), Xx (.inr rfl)]
    · rename_i hne
      have e0 : (yX 1 (we s.H x.Obj x.Slot) w).PC = 0 := rfl
      refine .quiet X S' rfl rfl rfl ?_ ?_ ⟨fun _ => hc0, fun e => absurd e (by show ¬ (6 : Int) ≤ 3; decide), fun e => (by cases e), fun e => (by cases e), fun e => (by cases e), fun e => (by cases e), fun _ => ⟨GX.plain (.inl rfl) ⟨by show (0 : Int) ≤ 0; decide, by show (0 : Int) ≤ 7; decide⟩ ⟨by show (1 : Int) ≤ 1; decide, by show (1 : Int) ≤ 3; decide⟩ ⟨by show 1 ≤ we s.H x.Obj x.Slot; omega, hv.2⟩ (fun _ _ => hc0) (.inr ⟨by show (0 : Int) ≠ 3; decide, by show (0 : Int) ≠ 5; decide, by show (0 : Int) ≠ 7; decide⟩), rfl, rfl, rfl⟩⟩
      · rw [eo, zmK (x := { x with Slot := wc (x.Slot + 1), PC := 6, G := yX 1 (we s.H x.Obj x.Slot) w }) rfl]
        exact xF (.inr ⟨by show (0 : Int) ≠ 6; decide, by show (0 : Int) ≠ 7; decide⟩)
      · unfold zP
        rw [Xx (.inl p5), zl6 (x := { x with Slot := wc (x.Slot + 1), PC := 6, G := yX 1 (we s.H x.Obj x.Slot) w }) rfl]
        rw [vO (g := yX 1 (we s.H x.Obj x.Slot) w) (.inr (.inl (by show (0 : Int) < 3; decide)))]
  rw [if_neg p5]
  by_cases p6 : x.PC = 6
  · rw [if_pos p6]
    intro S'
    obtain ⟨G, gm, gw, g0⟩ := K.p6 p6
    obtain ⟨M, h5o, _, hn4⟩ := W.g6 p6
    have eo : xd x = yI x.G := zmK p6
    have hh : zP s x = x.Batch ++ x.Obj :: yg x.G := by unfold zP; rw [zl6 p6]
    rw [eo] at X
    obtain ⟨gh', X', G', Fx, hc', hFb, N, hN, hT⟩ := zrp hp hk X M h5o G
    have so := ZI s x.G
    have Fx' : FX p nb (xd x) (fun v => v = w) s (zm s x.G).1 gh gh' := by
      rw [eo]
      exact Fx.mono (fun v e => e.2.trans gw)
    have hcw : gh'.c w = 0 := by have := hc' gm g0; rwa [gw] at this
    dsimp only
    have hT' : (N = [] ∧ ([] : List Int) = [] ∧ (zm s x.G).1.T = s.T) ∨ (N = [x.G.Obj] ∧ ([] : List Int) = [] ∧ x.PC = 6 ∧ ¬ (s.T.Marks ||| bit x.G.Obj = s.T.Marks) ∧ (zm s x.G).1.T = { s.T with Marks := s.T.Marks ||| bit x.G.Obj }) ∨ (N = [] ∧ ([] : List Int) = [x.Obj] ∧ x.PC = 8 ∧ (zm s x.G).1.T = U6 s.T x.Obj) := by
      rcases hT with ⟨a, b⟩ | ⟨a, b, c⟩
      · exact .inl ⟨a, rfl, b⟩
      · exact .inr (.inl ⟨a, rfl, p6, b, c⟩)
    have perm : ∀ H' : List Int, H' = x.Batch ++ x.Obj :: yg (zm s x.G).2 → List.Perm (yu p (zm s x.G).1 gh' ++ H' ++ []) (N ++ (yu p s gh ++ zP s x)) := by
      intro H' e
      rw [e, hh, List.append_nil]
      have a1 : List.Perm (yu p (zm s x.G).1 gh' ++ (x.Batch ++ x.Obj :: yg (zm s x.G).2)) ((x.Batch ++ [x.Obj]) ++ (yu p (zm s x.G).1 gh' ++ yg (zm s x.G).2)) := by
        rw [show x.Batch ++ x.Obj :: yg (zm s x.G).2 = (x.Batch ++ [x.Obj]) ++ yg (zm s x.G).2 by simp]
        exact List.perm_append_comm_assoc _ _ _
      have a2 : List.Perm (N ++ (yu p s gh ++ (x.Batch ++ x.Obj :: yg x.G))) ((x.Batch ++ [x.Obj]) ++ (N ++ (yu p s gh ++ yg x.G))) := by
        rw [show x.Batch ++ x.Obj :: yg x.G = (x.Batch ++ [x.Obj]) ++ yg x.G by simp]
        exact (List.Perm.append_left N (List.perm_append_comm_assoc _ _ _)).trans (List.perm_append_comm_assoc _ _ _)
      exact a1.trans ((List.Perm.append_left _ hN).trans a2.symm)
    split
    · rename_i o1
      have n1 : yI (zm s x.G).2 = [] := xF (.inl (by omega))
      have n2 : yg (zm s x.G).2 = [] := vO (.inl (by omega))
      rw [n1] at X'
      rcases zf4 s x.Slot with e | e <;> rw [e]
      · refine ⟨gh', by rw [xx (by show (5 : Int) ≠ 3; decide) (by show (5 : Int) ≠ 4; decide) (by show (5 : Int) ≠ 6; decide)]; exact X', WX.plain (.inl rfl) hcw, Fx', N, [], perm _ ?_, hT'⟩
        unfold zP; rw [Xx (.inl rfl), n2]
      · refine ⟨gh', by rw [xx (by show (8 : Int) ≠ 3; decide) (by show (8 : Int) ≠ 4; decide) (by show (8 : Int) ≠ 6; decide)]; exact X', WX.plain (.inr (.inr (.inl rfl))) hcw, Fx', N, [], perm _ ?_, hT'⟩
        unfold zP; rw [Xx (.inr rfl), n2]
    · rename_i o1
      have o0 : (zm s x.G).2.Out = 0 := by have := G'.o; omega
      refine ⟨gh', by rw [zmK (x := { x with G := (zm s x.G).2 }) p6]; exact X', ⟨fun _ => hcw, fun e => by have e : x.PC ≤ 3 := e; omega, fun e => by have e : x.PC = 0 := e; omega, fun e => by have e : x.PC = 1 := e; omega, fun e => by have e : x.PC = 2 := e; omega, fun e => by have e : x.PC = 4 := e; omega, fun _ => ⟨G', so.2.2.trans gm, so.2.1.trans gw, o0⟩⟩, Fx', N, [], perm _ ?_, hT'⟩
      unfold zP; rw [zl6 (x := { x with G := (zm s x.G).2 }) p6]
  rw [if_neg p6]
  have eo : xd x = [] := xx (by omega) (by omega) (by omega)
  by_cases p7 : x.PC = 7
  · rw [if_pos p7]
    intro S'
    dsimp only
    split
    · rename_i hb
      rw [eB]
      refine .quiet X S' rfl rfl rfl (by rw [eo]; exact xx (by show (0 : Int) ≠ 3; decide) (by show (0 : Int) ≠ 4; decide) (by show (0 : Int) ≠ 6; decide)) ?_ (WX.begin hc0 hb)
      unfold zP
      rw [zbi, vw (.inr (.inr (.inr (.inl p7))))]
      exact List.Perm.refl _
    · rename_i o l hb
      refine .quiet X S' rfl rfl rfl (by rw [eo]; exact xx (by show (5 : Int) ≠ 3; decide) (by show (5 : Int) ≠ 4; decide) (by show (5 : Int) ≠ 6; decide)) ?_ (WX.plain (.inl rfl) hc0)
      unfold zP
      rw [Xx (.inl rfl), vw (.inr (.inr (.inr (.inl p7)))), hb, List.append_nil]
      exact List.perm_append_comm
  rw [if_neg p7]
  by_cases p8 : x.PC = 8
  · rw [if_pos p8]
    intro S'
    refine ⟨gh, by rw [xx (by show (9 : Int) ≠ 3; decide) (by show (9 : Int) ≠ 4; decide) (by show (9 : Int) ≠ 6; decide)]; rw [eo] at X; exact X.quiet S' rfl, WX.plain (.inr (.inr (.inr rfl))) hc0, FX.quiet rfl (fun _ _ _ => rfl), [], [x.Obj], ?_, .inr (.inr ⟨rfl, rfl, p8, rfl⟩)⟩
    rw [Yj rfl, List.nil_append]
    unfold zP
    rw [Xx (.inr p8), vw (.inr (.inr (.inr (.inr rfl)))), List.append_nil, List.append_assoc]
    exact List.Perm.refl _
  rw [if_neg p8]
  have p9 : x.PC = 9 := by omega
  rw [if_pos p9]
  intro S'
  refine .quiet X S' rfl rfl rfl (by rw [eo]; exact xx (by show (7 : Int) ≠ 3; decide) (by show (7 : Int) ≠ 4; decide) (by show (7 : Int) ≠ 6; decide)) ?_ (WX.plain (.inr (.inl rfl)) hc0)
  unfold zP
  rw [vw (.inr (.inr (.inr (.inr p9)))), vw (.inr (.inr (.inr (.inl rfl))))]
end
end Go.Pe.G
namespace Go.Pe.G
open Go.Pe
noncomputable section
theorem zjW {o : Int} (h : 1 ≤ o ∧ o ≤ 64) (j : Nat) : (bit o).getLsbD j = decide ((o - 1).toNat = j) := by
  unfold bit
  rw [if_pos h, ← BitVec.twoPow_eq, BitVec.getLsbD_twoPow, decide_eq_true (by omega : (o - 1).toNat < 64), Bool.true_and]
theorem xn (s : BitVec 64) (o : Int) : yn s o = true ↔ 1 ≤ o ∧ o ≤ 64 ∧ s.getLsbD (o - 1).toNat = true := by
  unfold yn
  rw [Bool.not_eq_true', decide_eq_false_iff_not]
  by_cases h : 1 ≤ o ∧ o ≤ 64
  · constructor
    · intro h1
      refine ⟨h.1, h.2, Classical.byContradiction (fun h2 => h1 ?_)⟩
      apply BitVec.eq_of_getLsbD_eq
      intro j hj
      rw [BitVec.getLsbD_and, zjW h, BitVec.getLsbD_zero]
      by_cases e : (o - 1).toNat = j
      · rw [← e]; simp only [Bool.not_eq_true] at h2; rw [h2]; rfl
      · rw [decide_eq_false e, Bool.and_false]
    · rintro ⟨_, _, h1⟩ h2
      have := congrArg (fun v => BitVec.getLsbD v (o - 1).toNat) h2
      simp only [BitVec.getLsbD_and, zjW h, h1, BitVec.getLsbD_zero] at this
      simp at this
  · constructor
    · intro h1
      exact absurd (by unfold bit; rw [if_neg h, BitVec.and_zero]) h1
    · rintro ⟨a, b, _⟩; exact absurd ⟨a, b⟩ h
theorem vy (s : BitVec 64) {o : Int} (h : 1 ≤ o ∧ o ≤ 64) (q : Int) : yn (s ||| bit o) q = true ↔ yn s q = true ∨ q = o := by
  rw [xn, xn, BitVec.getLsbD_or, zjW h]
  simp only [Bool.or_eq_true, decide_eq_true_eq]
  constructor
  · rintro ⟨a, b, c | c⟩
    · exact .inl ⟨a, b, c⟩
    · exact .inr (by omega)
  · rintro (⟨a, b, c⟩ | rfl)
    · exact ⟨a, b, .inl c⟩
    · exact ⟨h.1, h.2, .inr rfl⟩
theorem zbP (s t : BitVec 64) (q : Int) : yn (s &&& t) q = true ↔ yn s q = true ∧ yn t q = true := by
  rw [xn, xn, xn, BitVec.getLsbD_and]
  simp only [Bool.and_eq_true]
  constructor
  · rintro ⟨a, b, c, d⟩; exact ⟨⟨a, b, c⟩, a, b, d⟩
  · rintro ⟨⟨a, b, c⟩, _, _, d⟩; exact ⟨a, b, c, d⟩
theorem W8 (q : Int) : ¬ yn 0#64 q = true := by
  rw [xn, BitVec.getLsbD_zero]; exact fun h => by cases h.2.2
theorem zgB {s t : BitVec 64} (h : ∀ o, yn s o = true ↔ yn t o = true) : s = t := by
  apply BitVec.eq_of_getLsbD_eq
  intro j hj
  have := h ((j : Int) + 1)
  rw [xn, xn, show ((j : Int) + 1 - 1).toNat = j by omega] at this
  rw [Bool.eq_iff_iff]
  exact ⟨fun e => (this.1 ⟨by omega, by omega, e⟩).2.2, fun e => (this.2 ⟨by omega, by omega, e⟩).2.2⟩
theorem Vr {m : BitVec 64} {o : Int} (h : 1 ≤ o ∧ o ≤ 64) : ¬ (m ||| bit o = m) ↔ ¬ yn m o = true := by
  constructor
  · intro h1 h2
    refine h1 (zgB (fun q => ?_))
    rw [vy _ h]
    exact ⟨fun e => e.elim id (fun e => by rw [e]; exact h2), .inl⟩
  · intro h1 h2
    refine h1 ?_
    rw [← h2, vy _ h]; exact .inr rfl
theorem XR (t : zo) (o : Int) : wP t o = 1 ↔ yn t.Marks o = true ∧ ¬ yn t.Black o = true := by
  unfold wP
  by_cases h1 : yn (t.Marks &&& t.Black) o = true
  · rw [if_pos h1]
    rw [zbP] at h1
    exact ⟨fun e => (by cases e), fun e => absurd h1.2 e.2⟩
  · rw [if_neg h1]
    rw [zbP] at h1
    by_cases h2 : yn t.Marks o = true
    · rw [if_pos h2]; exact ⟨fun _ => ⟨h2, fun e => h1 ⟨h2, e⟩⟩, fun _ => rfl⟩
    · rw [if_neg h2]; exact ⟨fun e => (by cases e), fun e => absurd e.1 h2⟩
end
end Go.Pe.G
namespace Go.Pe.G
open Go.Pe
noncomputable section
theorem zqM {α : Type} {l : List α} {i : Nat} {x : α} (h : l[i]? = some x) : ∃ a b, l = a ++ x :: b ∧ (∀ y, l.set i y = a ++ y :: b) ∧ (∀ z ∈ a ++ b, ∃ j, j ≠ i ∧ l[j]? = some z) ∧
    (∀ j z, j ≠ i → l[j]? = some z → z ∈ a ++ b) := by
  obtain ⟨hi, e⟩ := List.getElem?_eq_some_iff.1 h
  have hl : (l.take i).length = i := by rw [List.length_take]; omega
  have el : l = l.take i ++ x :: l.drop (i + 1) := by
    conv => lhs; rw [← List.take_append_drop i l, List.drop_eq_getElem_cons hi, e]
  refine ⟨l.take i, l.drop (i + 1), el, fun y => ?_, fun z hz => ?_, fun j z hj hz => ?_⟩
  · rw [List.set_eq_take_append_cons_drop, if_pos hi]
  · rcases List.mem_append.1 hz with hz | hz
    · obtain ⟨j, hj⟩ := List.mem_iff_getElem?.1 hz
      obtain ⟨hj1, hj2⟩ := List.getElem?_eq_some_iff.1 hj
      have hj3 : j < i := by omega
      exact ⟨j, by omega, by rw [List.getElem?_take_of_lt hj3] at hj; exact hj⟩
    · obtain ⟨j, hj⟩ := List.mem_iff_getElem?.1 hz
      exact ⟨i + 1 + j, by omega, by rw [List.getElem?_drop] at hj; exact hj⟩
  · rw [el] at hz
    rcases Nat.lt_or_ge j i with h1 | h1
    · rw [List.getElem?_append_left (by omega)] at hz
      exact List.mem_append_left _ (List.mem_of_getElem? hz)
    · rw [List.getElem?_append_right (by omega), hl] at hz
      rw [show j - i = (j - i - 1) + 1 by omega, List.getElem?_cons_succ] at hz
      exact List.mem_append_right _ (List.mem_of_getElem? hz)
theorem zbn {α β : Type} {f : α → List β} {a b : List α} {x : α} : List.Perm ((a ++ x :: b).flatMap f) (f x ++ (a ++ b).flatMap f) := by
  rw [List.flatMap_append, List.flatMap_cons, List.flatMap_append]
  exact List.perm_append_comm_assoc _ _ _
theorem SX.perm {p : zb} {nb k : Nat} {s : za} {g : Gh} {o o' : List Int} (X : SX p nb s g o k) (h : List.Perm o' o) : SX p nb s g o' k :=
  ⟨X.S, ⟨X.L.hs, X.L.cF, X.L.cE, (List.Perm.append_left _ h).trans X.L.all, X.L.len⟩, X.D, X.v, X.dk⟩
theorem SX.state {p : zb} {nb k : Nat} {s s' : za} {g : Gh} {o : List Int} (X : SX p nb s g o k) (S' : SOk p nb s') (hm : s'.M = s.M) : SX p nb s' g o k :=
  ⟨S', by rw [hm]; exact X.L, by rw [hm]; exact X.D, by rw [hm]; exact X.v, X.dk⟩
theorem GX.state {p : zb} {s s' : za} {gh : Gh} {g : zd} (G : GX p s gh g) (hm : s'.M = s.M) (hb : s'.Bins = s.Bins) : GX p s' gh g :=
  ⟨G.o, G.pc, G.md, G.ob, G.c0, by rw [hm]; exact G.c5, by rw [hm, hb]; exact G.c7, by rw [hm]; exact G.d3⟩
theorem WX.state {p : zb} {s s' : za} {gh : Gh} {w : Int} {x : zi} (W : WX p s gh w x) (hm : s'.M = s.M) (hb : s'.Bins = s.Bins) : WX p s' gh w x :=
  ⟨W.c0, W.bt, by rw [hm]; exact W.p0, by rw [hm]; exact W.p1, by rw [hm]; exact W.p2, by rw [hm]; exact W.p4, fun e => ⟨(W.p6 e).1.state hm hb, (W.p6 e).2⟩⟩
theorem zng {s s' : za} {x : zi} (hm : s'.M = s.M) (hb : s'.Bins = s.Bins) : zP s' x = zP s x := by
  unfold zP Z6 yY; rw [hm, hb]
def zdA (p : zb) (s : za) (g : Gh) : List Int := yu p s g ++ s.Ws.flatMap (zP s)
structure XD (B : List Int) (t : zo) : Prop where
  blk : ∀ o, yn t.Black o = true → yn t.Marks o = true
  nd : B.Nodup
  gr : ∀ o, o ∈ B ↔ wP t o = 1
theorem zbo {t : zo} {o : Int} (h : wP t o = 1) : 1 ≤ o ∧ o ≤ 64 := by
  have := (xn _ _).1 ((XR t o).1 h).1
  exact ⟨this.1, this.2.1⟩
theorem XD.more {B B' : List Int} {t : zo} {o : Int} (K : XD B t) (ho : 1 ≤ o ∧ o ≤ 64) (hn : ¬ (t.Marks ||| bit o = t.Marks)) (h : List.Perm B' (o :: B)) : XD B' { t with Marks := t.Marks ||| bit o } := by
  have hn := (Vr ho).1 hn
  have hnb : ¬ yn t.Black o = true := fun e => hn (K.blk o e)
  have hno : o ∉ B := fun e => hn ((XR t o).1 ((K.gr o).1 e)).1
  refine ⟨fun q hq => (vy _ ho q).2 (.inl (K.blk q hq)), h.nodup_iff.2 (List.nodup_cons.2 ⟨hno, K.nd⟩), fun q => ?_⟩
  rw [h.mem_iff, List.mem_cons, K.gr, XR, XR]
  show q = o ∨ _ ↔ yn (t.Marks ||| bit o) q = true ∧ ¬ yn t.Black q = true
  rw [vy _ ho]
  constructor
  · rintro (rfl | ⟨a, b⟩)
    · exact ⟨.inr rfl, hnb⟩
    · exact ⟨.inl a, b⟩
  · rintro ⟨a | a, b⟩
    · exact .inr ⟨a, b⟩
    · exact .inl a
theorem XD.less {B B' : List Int} {t : zo} {o : Int} (K : XD B t) (h : List.Perm (B' ++ [o]) B) : XD B' (U6 t o) ∧ (U6 t o).Marks = t.Marks ∧ wP t o = 1 ∧ ∀ q, yn (U6 t o).Black q = true ↔ yn t.Black q = true ∨ q = o := by
  have ho : wP t o = 1 := (K.gr o).1 (h.mem_iff.1 (by simp))
  have hr := zbo ho
  have hm := ((XR t o).1 ho)
  have hnd := h.nodup_iff.2 K.nd
  have hnd := List.nodup_append.1 hnd
  unfold U6
  rw [if_pos ho]
  refine ⟨⟨fun q hq => ?_, hnd.1, fun q => ?_⟩, rfl, ho, fun q => vy _ hr q⟩
  · rcases (vy _ hr q).1 hq with e | e
    · exact K.blk q e
    · rw [e]; exact hm.1
  · have e1 : q ∈ B ↔ q ∈ B' ∨ q = o := by rw [← h.mem_iff, List.mem_append, List.mem_singleton]
    rw [K.gr, XR] at e1
    rw [XR]
    show _ ↔ yn t.Marks q = true ∧ ¬ yn (t.Black ||| bit o) q = true
    rw [vy _ hr]
    constructor
    · intro hq
      have := e1.2 (.inl hq)
      exact ⟨this.1, fun e => e.elim this.2 (fun e => hnd.2.2 q hq o (by simp) e)⟩
    · rintro ⟨a, b⟩
      rcases e1.1 ⟨a, fun e => b (.inl e)⟩ with e | e
      · exact e
      · exact absurd (.inr e) b
theorem HOk.get {p : zb} (hp : zr p) {h : zG} (H : HOk p h) (o i : Int) : 0 ≤ we h o i ∧ we h o i ≤ 64 := by
  have h1 := H.n
  have h2 : p.Most ≤ 64 := by have := hp.most; have := hp.n; omega
  unfold we
  split
  · unfold yV
    rw [List.getD_eq_getElem?_getD, List.getD_eq_getElem?_getD]
    cases hx : h.Objs[(o - 1).toNat]? with
    | none => show 0 ≤ (([] : List Int)[i.toNat]?).getD 0 ∧ _; simp
    | some l =>
      show 0 ≤ (l[i.toNat]?).getD 0 ∧ (l[i.toNat]?).getD 0 ≤ 64
      cases hv : l[i.toNat]? with
      | none => show (0 : Int) ≤ 0 ∧ (0 : Int) ≤ 64; decide
      | some v =>
        have := (H.objs l (List.mem_of_getElem? hx)).2 v (List.mem_of_getElem? hv)
        show 0 ≤ v ∧ v ≤ 64; omega
  · exact ⟨by decide, by decide⟩
structure WG (p : zb) (nb k : Nat) (s : za) (gh : Gh) : Prop where
  E : EOk p nb s
  X : SX p nb s gh (s.Ws.flatMap xd) k
  W : ∀ (i : Nat) x, s.Ws[i]? = some x → WX p s gh ((i : Int) + 1) x
  B : XD (zdA p s gh) s.T
def zro (s s' : za) (w : Int) : Prop :=
  s'.T = s.T ∨ (∃ x o, s.Ws[(w - 1).toNat]? = some x ∧ x.PC = 6 ∧ o = x.G.Obj ∧ (1 ≤ o ∧ o ≤ 64) ∧ ¬ yn s.T.Marks o = true ∧ s'.T = { s.T with Marks := s.T.Marks ||| bit o }) ∨
    (∃ x, s.Ws[(w - 1).toNat]? = some x ∧ x.PC = 8 ∧ wP s.T x.Obj = 1 ∧ s'.T = { s.T with Black := s.T.Black ||| bit x.Obj })
theorem WG.step {p : zb} (hp : zr p) {nb k : Nat} {s : za} {gh : Gh} (hk : k < 4294960000) (G : WG p nb k s gh) {w : Int} (hw : 1 ≤ w ∧ w ≤ p.Workers) (hd : s.Done = false) : ∃ gh', WG p nb (k + 1) (ZA s w) gh' ∧ zro s (ZA s w) w := by
  have hE := zri hp G.E w
  have hwl := G.E.wl
  have e0 : ¬ (s.Done = true ∨ w < 1 ∨ (s.Ws.length : Int) < w) := by rw [hd]; rintro (e | e | e) <;> first | cases e | omega
  revert hE
  unfold ZA
  rw [if_neg e0]
  have hi : (w - 1).toNat < s.Ws.length := by omega
  have hx := List.getElem?_eq_getElem hi
  generalize s.Ws[(w - 1).toNat] = x at hx
  rw [hx]
  dsimp only
  intro hE
  obtain ⟨a, b, el, es, hab, hba⟩ := zqM hx
  have ei : (((w - 1).toNat : Nat) : Int) + 1 = w := by omega
  have hWX := G.W _ x hx
  have hWO := G.E.W _ x hx
  rw [ei] at hWX hWO
  have X0 : SX p nb s gh (xd x ++ (a ++ b).flatMap xd) k := G.X.perm (by rw [el]; exact zbn.symm)
  obtain ⟨gh', X', W', Fx, N, C, hN, hT⟩ := zsV hp hk hw X0 hWO hWX (fun o i => G.E.H.get hp o i)
  have hoth : ∀ (j : Nat) y, j ≠ (w - 1).toNat → s.Ws[j]? = some y → WX p (zC s w x).1 gh' ((j : Int) + 1) y ∧ zP (zC s w x).1 y = zP s y := by
    intro j y hj hy
    have hjl := (List.getElem?_eq_some_iff.1 hy).1
    exact WX.other hp (w := (j : Int) + 1) (by omega) X0 Fx (G.W j y hy) (G.E.W j y hy) (fun z hz => List.mem_flatMap.2 ⟨y, hba j y hj hy, hz⟩) (fun e => hj (by omega))
  have hbag : List.Perm (zdA p { (zC s w x).1 with Ws := s.Ws.set (w - 1).toNat (zC s w x).2 } gh' ++ C) (N ++ zdA p s gh) := by
    unfold zdA
    have q1 : yu p { (zC s w x).1 with Ws := s.Ws.set (w - 1).toNat (zC s w x).2 } gh' = yu p (zC s w x).1 gh' := rfl
    have q2 : (s.Ws.set (w - 1).toNat (zC s w x).2).flatMap (zP { (zC s w x).1 with Ws := s.Ws.set (w - 1).toNat (zC s w x).2 }) = (a ++ (zC s w x).2 :: b).flatMap (zP (zC s w x).1) := by
      rw [es]; exact vD (fun y _ => zng rfl rfl)
    have q3 : (a ++ b).flatMap (zP (zC s w x).1) = (a ++ b).flatMap (zP s) := vD (fun y hy => by
      obtain ⟨j, hj, hjy⟩ := hab y hy
      exact (hoth j y hj hjy).2)
    rw [q1]
    show List.Perm (yu p (zC s w x).1 gh' ++ (s.Ws.set (w - 1).toNat (zC s w x).2).flatMap (zP { (zC s w x).1 with Ws := s.Ws.set (w - 1).toNat (zC s w x).2 }) ++ C) _
    rw [q2]
    have r1 : List.Perm (yu p (zC s w x).1 gh' ++ (a ++ (zC s w x).2 :: b).flatMap (zP (zC s w x).1) ++ C) ((a ++ b).flatMap (zP s) ++ (yu p (zC s w x).1 gh' ++ zP (zC s w x).1 (zC s w x).2 ++ C)) := by
      refine ((List.Perm.append_left _ zbn).append_right C).trans ?_
      rw [q3, List.append_assoc, List.append_assoc, List.append_assoc]
      refine (List.perm_append_comm_assoc _ _ _).trans ?_
      refine (List.Perm.append_left _ (List.perm_append_comm_assoc _ _ _)).trans ?_
      refine (List.perm_append_comm_assoc _ _ _).trans (List.Perm.append_left _ ?_)
      exact List.perm_append_comm_assoc _ _ _
    have r2 : List.Perm (N ++ (yu p s gh ++ s.Ws.flatMap (zP s))) ((a ++ b).flatMap (zP s) ++ (N ++ (yu p s gh ++ zP s x))) := by
      conv => lhs; rw [el]
      refine (List.Perm.append_left _ (List.Perm.append_left _ zbn)).trans ?_
      refine (List.Perm.append_left _ ?_).trans (List.perm_append_comm_assoc _ _ _)
      rw [← List.append_assoc]
      exact List.perm_append_comm
    exact r1.trans ((List.Perm.append_left _ hN).trans r2.symm)
  have fin : XD (zdA p { (zC s w x).1 with Ws := s.Ws.set (w - 1).toNat (zC s w x).2 } gh') (zC s w x).1.T → WG p nb (k + 1) { (zC s w x).1 with Ws := s.Ws.set (w - 1).toNat (zC s w x).2 } gh' := by
    intro hB
    refine ⟨hE, ?_, fun j y hy => ?_, hB⟩
    · refine (X'.state hE.S rfl).perm ?_
      show List.Perm ((s.Ws.set (w - 1).toNat (zC s w x).2).flatMap xd) _
      rw [es]; exact zbn
    · have hy : (s.Ws.set (w - 1).toNat (zC s w x).2)[j]? = some y := hy
      by_cases hj : j = (w - 1).toNat
      · subst hj
        rw [List.getElem?_set_self hi] at hy
        injection hy with hy
        rw [← hy, ei]
        exact W'.state rfl rfl
      · rw [List.getElem?_set_ne (fun e => hj e.symm)] at hy
        exact (hoth j y hj hy).1.state rfl rfl
  refine ⟨gh', ?_⟩
  rcases hT with ⟨rfl, rfl, t1⟩ | ⟨rfl, rfl, t1, t2, t3⟩ | ⟨rfl, rfl, t1, t2⟩
  · rw [List.append_nil, List.nil_append] at hbag
    refine ⟨fin ⟨?_, hbag.nodup_iff.2 G.B.nd, fun o => ?_⟩, .inl t1⟩
    · rw [t1]; exact G.B.blk
    · rw [t1, hbag.mem_iff]; exact G.B.gr o
  · have ho := ((hWX.p6 t1).1).ob
    rw [List.append_nil] at hbag
    refine ⟨fin ?_, .inr (.inl ⟨x, x.G.Obj, hx, t1, rfl, ho, (Vr ho).1 t2, t3⟩)⟩
    rw [t3]
    exact G.B.more ho t2 hbag
  · rw [List.nil_append] at hbag
    obtain ⟨b1, b2, b3, b4⟩ := G.B.less hbag
    refine ⟨fin ?_, .inr (.inr ⟨x, hx, t1, b3, ?_⟩)⟩
    · rw [t2]; exact b1
    · show (zC s w x).1.T = _
      rw [t2]; unfold U6; rw [if_pos b3]
end
end Go.Pe.G
namespace Go.Pe.G
open Go.Pe
noncomputable section
theorem zfj {N : Int} {nb : Nat} (hN : 0 ≤ N ∧ N < 1000) (hnb : nb < 1000) : ∀ (l : List Int) (m : List (BitVec 64)) (a : Int), (∀ x ∈ l, 1 ≤ x ∧ x < nb) → (∀ x ∈ l, a ≠ N + x) → ld (links m N l) a = ld m a
  | [], m, a, _, _ => rfl
  | [x], m, a, h, h2 => by
    have := h x (by simp)
    have := h2 x (by simp)
    rw [links, xk (by omega) (by omega)]
    exact zY (by omega)
  | x :: y :: l, m, a, h, h2 => by
    have := h x (by simp)
    have := h2 x (by simp)
    rw [links, zfj hN hnb (y :: l) _ a (fun z hz => h z (List.mem_cons_of_mem _ hz)) (fun z hz => h2 z (List.mem_cons_of_mem _ hz)), xk (by omega) (by omega)]
    exact zY (by omega)
theorem zfS {N : Int} {nb : Nat} (hN : 0 ≤ N ∧ N < 1000) (hnb : nb < 1000) : ∀ (l : List Int) (m : List (BitVec 64)), (∀ x ∈ l, 1 ≤ x ∧ x < nb) → l.Nodup → N + nb ≤ m.length → Chn (links m N l) N nb (l.headD 0) l
  | [], m, _, _, _ => rfl
  | [x], m, h, _, hl => by
    have := h x (by simp)
    refine ⟨rfl, this.1, this.2, ?_⟩
    rw [links, xk (by omega) (by omega), u7, if_pos ⟨rfl, by omega, by omega⟩]
    rfl
  | x :: y :: l, m, h, hd, hl => by
    have hx := h x (by simp)
    have hy := h y (by simp)
    have hd := List.nodup_cons.1 hd
    refine ⟨rfl, hx.1, hx.2, ?_⟩
    have ih := zfS hN hnb (y :: l) (st m (wc (N + x)) (BitVec.ofInt 64 y)) (fun z hz => h z (List.mem_cons_of_mem _ hz)) hd.2 (by rw [wS]; exact hl)
    rw [links, zfj hN hnb (y :: l) _ (N + x) (fun z hz => h z (List.mem_cons_of_mem _ hz)) (fun z hz e => hd.1 (by rw [zd8 e] at hz; exact hz)), xk (by omega) (by omega), u7, if_pos ⟨rfl, by omega, by omega⟩, toInt_ofInt (by omega) (by omega)]
    rw [xk (by omega) (by omega)] at ih
    exact ih
theorem Chn.links {N : Int} {nb : Nat} (hN : 0 ≤ N ∧ N < 1000) (hnb : nb < 1000) {l r : List Int} {h : Int} {m : List (BitVec 64)} (hr : ∀ x ∈ r, 1 ≤ x ∧ x < nb) (hd : ∀ x ∈ l, x ∉ r) (c : Chn m N nb h l) : Chn (Go.Pe.G.links m N r) N nb h l := by
  induction l generalizing h with
  | nil => exact c
  | cons y l ih =>
    refine ⟨c.1, c.2.1, c.2.2.1, ?_⟩
    rw [zfj hN hnb r m (N + y) hr (fun z hz e => hd y (by simp) (by rw [zd8 e] at hz; exact hz))]
    exact ih (fun x hx => hd x (List.mem_cons_of_mem _ hx)) c.2.2.2
theorem ztc (k : Nat) : yt k = zdg (k + 1) := rfl
theorem zmY {l : List Int} {nb : Nat} (h : ∀ x ∈ l, 1 ≤ x ∧ x < nb) (hnb : nb < 1000) : 0 ≤ l.headD 0 ∧ l.headD 0 < 4294967296 := by
  cases l with
  | nil => exact ⟨by decide, by decide⟩
  | cons a r => have := h a (by simp); show 0 ≤ a ∧ a < 4294967296; omega
theorem zpM {p : zb} (h : zr p) : LI p (zF p + 1) (z8 p).M (zN p) (zv p) ((yt (zF p)).take (yi p).length) ((yt (zF p)).drop (yi p).length) [] ∧ yp (ld (z8 p).M (zN p)) = 0 ∧ yp (ld (z8 p).M (zv p)) = 0 := by
  have hb := WQ h
  have hF := wC h
  have hE := yM h
  have hcl := Yy p p.Workers.toNat
  have hw := h.wk
  have hc := h.cap
  have hfe : zN p = ((p.Workers.toNat * (p.Cap.toNat + 2) : Nat) : Int) := by
    rw [hF.1]
    have e1 : p.Workers = ((p.Workers.toNat : Nat) : Int) := by omega
    have e2 : p.Cap + 2 = ((p.Cap.toNat + 2 : Nat) : Int) := by omega
    rw [e2, Int.natCast_mul]
    rw [← e1]
  have hN : 0 ≤ zv p ∧ zv p < 1000 := by omega
  have hnb : zF p + 1 < 1000 := by omega
  generalize hk : (yi p).length = k
  have t1 : ∀ x ∈ (yt (zF p)).take k, 1 ≤ x ∧ x < ((zF p + 1 : Nat) : Int) := fun x hx => by have := Uh (List.mem_of_mem_take hx); omega
  have t2 : ∀ x ∈ (yt (zF p)).drop k, 1 ≤ x ∧ x < ((zF p + 1 : Nat) : Int) := fun x hx => by have := Uh (List.mem_of_mem_drop hx); omega
  have nd : ((yt (zF p)).take k ++ (yt (zF p)).drop k).Nodup := by rw [List.take_append_drop]; exact zhb (zF p + 1)
  have nd3 := List.nodup_append.1 nd
  have eM : (z8 p).M = WS (WS (vG p p.Workers.toNat ++ List.replicate (2 + zF p) 0#64) (zN p) (zv p) ((yt (zF p)).take k)) (zv p) (zv p) ((yt (zF p)).drop k) := by rw [← hk]; rfl
  rw [eM]
  generalize hm0 : vG p p.Workers.toNat ++ List.replicate (2 + zF p) 0#64 = m0
  have l0 : zv p + ((zF p + 1 : Nat) : Int) ≤ m0.length := by
    rw [← hm0, List.length_append, hcl, List.length_replicate]; omega
  have p1 := zmY t1 hnb
  have p2 := zmY t2 hnb
  have v0 : ∀ n : Int, 0 ≤ n → n < 4294967296 → yp (yh 0#64 n) = 0 := fun n h1 h2 => by
    unfold yp; rw [ziP _ h1 h2]; show (0 * 4294967296 + n.toNat) / 4294967296 = 0; omega
  have c1 := zfS hN hnb _ m0 t1 nd3.1 l0
  generalize hm1 : links m0 (zv p) ((yt (zF p)).take k) = m1 at c1
  have l1 : m1.length = m0.length := by rw [← hm1, Vc]
  have c1' := (c1.st_head h (a := zN p) (v := yh 0#64 (((yt (zF p)).take k).headD 0)) (.inl rfl)).links hN hnb t2 (fun x hx hx2 => nd3.2.2 x hx x hx2 rfl)
  have c2 := zfS hN hnb _ (st m1 (zN p) (yh 0#64 (((yt (zF p)).take k).headD 0))) t2 nd3.2.1 (by rw [wS, l1]; exact l0)
  have hd1 : ld (links (st m1 (zN p) (yh 0#64 (((yt (zF p)).take k).headD 0))) (zv p) ((yt (zF p)).drop k)) (zN p) = yh 0#64 (((yt (zF p)).take k).headD 0) := by
    rw [zfj hN hnb _ _ _ t2 (fun x hx => by have := t2 x hx; omega), u7, if_pos ⟨rfl, by omega, by omega⟩]
  unfold WS
  rw [hm1]
  generalize hm2 : links (st m1 (zN p) (yh 0#64 (((yt (zF p)).take k).headD 0))) (zv p) ((yt (zF p)).drop k) = m2 at c1' c2 hd1
  have l2 : m2.length = m0.length := by rw [← hm2, Vc, wS, l1]
  have g1 : ld (st m2 (zv p) (yh 0#64 (((yt (zF p)).drop k).headD 0))) (zN p) = yh 0#64 (((yt (zF p)).take k).headD 0) := by rw [zY (by omega), hd1]
  have g2 : ld (st m2 (zv p) (yh 0#64 (((yt (zF p)).drop k).headD 0))) (zv p) = yh 0#64 (((yt (zF p)).drop k).headD 0) := by rw [u7, if_pos ⟨rfl, by omega, by omega⟩]
  refine ⟨⟨.inl ⟨rfl, rfl⟩, ?_, ?_, ?_, by rw [wS, l2]; exact l0⟩, ?_, ?_⟩
  · rw [g1, W4 _ p1.1 p1.2]
    exact c1'.st_head h (.inr rfl)
  · rw [g2, W4 _ p2.1 p2.2]
    exact c2.st_head h (.inr rfl)
  · rw [List.append_nil, List.take_append_drop]
    exact List.Perm.refl _
  · rw [g1]; exact v0 _ p1.1 p1.2
  · rw [g2]; exact v0 _ p2.1 p2.2
end
end Go.Pe.G
namespace Go.Pe.G
open Go.Pe
noncomputable section
theorem zf9 {N : Int} (hN : 0 ≤ N ∧ N < 1000) : ∀ (l : List Int) (m : List (BitVec 64)) (a : Int), (∀ x ∈ l, 1 ≤ x ∧ x < 1000) → a ≤ N → ld (links m N l) a = ld m a
  | [], m, a, _, _ => rfl
  | [x], m, a, h, h2 => by
    have := h x (by simp)
    rw [links, xk (by omega) (by omega)]
    exact zY (by omega)
  | x :: y :: l, m, a, h, h2 => by
    have := h x (by simp)
    rw [links, zf9 hN (y :: l) _ a (fun z hz => h z (List.mem_cons_of_mem _ hz)) h2, xk (by omega) (by omega)]
    exact zY (by omega)
theorem zrP {p : zb} (h : zr p) {a : Int} (ha : a < zN p) : ld (z8 p).M a = ld (vG p p.Workers.toNat ++ List.replicate (2 + zF p) 0#64) a := by
  have hb := WQ h
  have hF := wC h
  have hE := yM h
  have t1 : ∀ x ∈ (yt (zF p)).take (yi p).length, 1 ≤ x ∧ x < 1000 := fun x hx => by have := Uh (List.mem_of_mem_take hx); omega
  have t2 : ∀ x ∈ (yt (zF p)).drop (yi p).length, 1 ≤ x ∧ x < 1000 := fun x hx => by have := Uh (List.mem_of_mem_drop hx); omega
  show ld (WS (WS _ (zN p) (zv p) _) (zv p) (zv p) _) a = _
  unfold WS
  rw [zY (by omega), zf9 (by omega) _ _ _ t2 (by omega), zY (by omega), zf9 (by omega) _ _ _ t1 (by omega)]
theorem zkV (p : zb) : ∀ (k i j : Nat), i < k → j < p.Cap.toNat + 2 → (vG p k)[i * (p.Cap.toNat + 2) + j]? = (zal p.Cap)[j]?
  | 0, i, j, h, _ => by omega
  | k + 1, i, j, h, hj => by
    rw [zdL]
    have hl := Yy p k
    rcases Nat.lt_or_ge i k with h1 | h1
    · have h2 := Nat.mul_le_mul_right (p.Cap.toNat + 2) (show i + 1 ≤ k from h1)
      rw [Nat.succ_mul] at h2
      rw [List.getElem?_append_left (by omega)]
      exact zkV p k i j h1 hj
    · have : i = k := by omega
      subst this
      rw [List.getElem?_append_right (by omega), hl, show i * (p.Cap.toNat + 2) + j - i * (p.Cap.toNat + 2) = j by omega]
theorem zlC {p : zb} (h : zr p) {w : Int} (hw : 1 ≤ w ∧ w ≤ p.Workers) {j : Nat} (hj : j < 2) : ld (z8 p).M (zB p w + j) = 1#64 := by
  have hd := vz h hw.1 hw.2
  have hc := h.cap
  have hl := Yy p p.Workers.toNat
  have hlt : (w - 1).toNat < p.Workers.toNat := by omega
  have e1 : (zB p w + j).toNat = (w - 1).toNat * (p.Cap.toNat + 2) + j := by
    obtain ⟨n, hn⟩ : ∃ n : Nat, w - 1 = (n : Int) := ⟨(w - 1).toNat, by omega⟩
    have e2 : p.Cap + 2 = ((p.Cap.toNat + 2 : Nat) : Int) := by omega
    rw [hd.1, hn, e2, ← Int.natCast_mul, Int.toNat_natCast]
    omega
  have h2 := Nat.mul_le_mul_right (p.Cap.toNat + 2) (show (w - 1).toNat + 1 ≤ p.Workers.toNat from hlt)
  rw [Nat.succ_mul] at h2
  rw [zrP h (by omega)]
  unfold ld
  rw [if_pos (by omega), e1, List.getD_eq_getElem?_getD, List.getElem?_append_left (by omega), zkV p _ _ _ hlt (by omega)]
  unfold zal
  match j, hj with
  | 0, _ => rfl
  | 1, _ => rfl
theorem zhf (n : Nat) (hn : 1 ≤ n) : ∀ (f : Nat) (l : List Int), l.length ≤ f → (xw n f l).flatten = l
  | 0, l, h => by
    have : l = [] := List.length_eq_zero_iff.1 (by omega)
    subst this; simp [xw]
  | f + 1, [], _ => by simp [xw]
  | f + 1, x :: l, h => by
    have := zhf n hn f ((x :: l).drop n) (by rw [List.length_drop]; simp at h ⊢; omega)
    simp only [xw, List.flatten_cons] at this ⊢
    rw [this, List.take_append_drop]
theorem zqa {α : Type} (l : List (List α)) : (List.range l.length).flatMap (fun i : Nat => (l[i]?).getD []) = l.flatten := by
  rw [List.flatMap_def]
  congr 1
  apply List.ext_getElem
  · simp
  · intro i h1 h2
    simp [List.getElem?_eq_getElem h2]
def gh0 (p : zb) : Gh := ⟨(yt (zF p)).take (yi p).length, (yt (zF p)).drop (yi p).length, fun _ => [], fun _ => 1, fun _ => 0⟩
theorem Um {α β : Type} {f : α → List β} : ∀ {l : List α}, (∀ x ∈ l, f x = []) → l.flatMap f = []
  | [], _ => rfl
  | a :: l, h => by rw [List.flatMap_cons, h a (by simp), Um (fun x hx => h x (List.mem_cons_of_mem _ hx))]; rfl
theorem zrV {p : zb} (h : zr p) : yu p (z8 p) (gh0 p) = Yu (ww p) := by
  have hb := h.bin
  have hfl := zeC h
  have hbs := WQ h
  have hmost := h.most
  have hw := h.wk
  have hm := h.mt
  have e1 : yu p (z8 p) (gh0 p) = ((yt (zF p)).take (yi p).length).flatMap (yY (z8 p)) := by
    show ((yt (zF p)).take (yi p).length).flatMap (yY (z8 p)) ++ (List.range p.Workers.toNat).flatMap (fun _ => ([] : List Int)) = _
    rw [Um (f := fun _ => ([] : List Int)) (fun _ _ => rfl), List.append_nil]
  have e2 : (yt (zF p)).take (yi p).length = (List.range (yi p).length).map (fun i : Nat => (i : Int) + 1) := by
    unfold yt
    rw [← List.map_take, List.take_range, Nat.min_eq_left (by omega)]
  rw [e1, e2, List.flatMap_map]
  have e3 : (List.range (yi p).length).flatMap (fun i : Nat => yY (z8 p) ((i : Int) + 1)) = (List.range (yi p).length).flatMap (fun i : Nat => ((yi p)[i]?).getD []) := by
    refine vD (fun i hi => ?_)
    have hi := List.mem_range.1 hi
    unfold yY
    show (([[]] ++ yi p ++ List.replicate (zF p - (yi p).length) [])[((i : Int) + 1).toNat]?).getD [] = _
    rw [show ((i : Int) + 1).toNat = i + 1 by omega, List.append_assoc]
    show ((yi p ++ List.replicate (zF p - (yi p).length) [])[i]?).getD [] = _
    rw [List.getElem?_append_left hi]
  rw [e3, zqa]
  exact zhf _ (by omega) _ _ (Nat.le_refl _)
theorem zni (s : BitVec 64) : (Yu s).Nodup := by
  unfold Yu
  rw [List.Nodup, List.pairwise_map]
  exact (List.nodup_range.filter _).imp (fun h e => h (by omega))
theorem zfc {s : BitVec 64} (h : s &&& ~~~63#64 = 0#64) {j : Nat} (hs : s.getLsbD j = true) : j < 6 := by
  have hj : j < 64 := BitVec.lt_of_getLsbD hs
  have := congrArg (fun x => x.getLsbD j) h
  simp only [BitVec.getLsbD_and, BitVec.getLsbD_not, hs, hj, decide_true, Bool.true_and, BitVec.getLsbD_zero] at this
  have h63 : (63#64).getLsbD j = decide (j < 6) := by
    have : ∀ j : Fin 64, (63#64).getLsbD j.1 = decide (j.1 < 6) := by decide
    exact this ⟨j, hj⟩
  rw [h63] at this
  by_cases e : j < 6
  · exact e
  · rw [decide_eq_false e] at this; cases this
theorem zpi {s : BitVec 64} (h : s &&& ~~~63#64 = 0#64) (o : Int) : o ∈ Yu s ↔ yn s o = true := by
  unfold Yu
  rw [xn, List.mem_map]
  constructor
  · rintro ⟨i, hi, rfl⟩
    obtain ⟨h1, h2⟩ := List.mem_filter.1 hi
    have := List.mem_range.1 h1
    exact ⟨by omega, by omega, by rw [show ((i : Int) + 1 - 1).toNat = i by omega]; exact h2⟩
  · rintro ⟨h1, h2, h3⟩
    exact ⟨(o - 1).toNat, List.mem_filter.2 ⟨List.mem_range.2 (zfc h h3), h3⟩, by omega⟩
theorem zsF {p : zb} (h : zr p) : WG p (zF p + 1) 0 (z8 p) (gh0 p) := by
  have hE := zsa h
  obtain ⟨L, v1, v2⟩ := zpM h
  have hc := h.cap
  have hws : ∀ x ∈ (z8 p).Ws, ∃ i : Nat, x = xR p i := fun x hx => by
    obtain ⟨i, _, rfl⟩ := List.mem_map.1 (show x ∈ (List.range p.Workers.toNat).map (xR p) from hx)
    exact ⟨i, rfl⟩
  have hb : ∀ i : Nat, xR p i = Xp p ((i : Int) + 1) (xR p i) := fun i => rfl
  have own : (z8 p).Ws.flatMap xd = [] := Um (fun x hx => by
    obtain ⟨i, rfl⟩ := hws x hx
    exact xx (by show (0 : Int) ≠ 3; decide) (by show (0 : Int) ≠ 4; decide) (by show (0 : Int) ≠ 6; decide))
  have hold : (z8 p).Ws.flatMap (zP (z8 p)) = [] := Um (fun x hx => by
    obtain ⟨i, rfl⟩ := hws x hx
    unfold zP
    rw [hb i, zbi]; rfl)
  refine ⟨hE, ⟨hE.S, by rw [own]; exact L, fun w h1 h2 => ?_, ?_, fun w _ _ => by show 1 + 0 ≤ 0 + 1000; decide⟩, fun i x hx => ?_, ?_⟩
  · have c0 := zlC h ⟨h1, h2⟩ (j := 0) (by decide)
    have c1 := zlC h ⟨h1, h2⟩ (j := 1) (by decide)
    rw [show zB p w + ((0 : Nat) : Int) = zB p w by omega] at c0
    exact ⟨c0, c1, by show (0 : Nat) ≤ 1; decide, by show (1 : Nat) ≤ 1; decide, Nat.zero_le _, by show 1 + 0 < 4294967296; decide, fun i hi => absurd hi (Nat.not_lt_zero _)⟩
  · rw [v1, v2]; exact ⟨Nat.le_refl _, Nat.le_refl _⟩
  · have hx : ((List.range p.Workers.toNat).map (xR p))[i]? = some x := hx
    rw [List.getElem?_map] at hx
    cases hr : (List.range p.Workers.toNat)[i]? with
    | none => rw [hr] at hx; cases hx
    | some j =>
      rw [hr] at hx
      injection hx with hx
      obtain ⟨h1, h2⟩ := List.getElem?_eq_some_iff.1 hr
      rw [List.getElem_range] at h2
      subst h2
      rw [← hx, hb i]
      exact WX.begin rfl rfl
  · have hs := YR h
    unfold zdA
    rw [hold, List.append_nil, zrV h]
    refine ⟨fun o ho => absurd ho (W8 o), zni _, fun o => ?_⟩
    rw [zpi hs, XR]
    exact ⟨fun e => ⟨e, W8 o⟩, fun e => e.1⟩
end
end Go.Pe.G
namespace Go.Pe.G
open Go.Pe
noncomputable section
def noD (base cap : Int) : zg := ⟨0, 0, base, cap, 0#64, 0#64, 0, 0⟩
def zbG (o : zg) : Prop := o.Kind = 2 ∧ o.Out = 0 ∧ (o.PC = 2 ∨ o.PC = 4 ∨ o.PC = 5 ∨ (o.PC = 3 ∧ o.T = o.B - 1#64))
instance (o : zg) : Decidable (zbG o) := by unfold zbG; infer_instance
def zdW (m : List (BitVec 64)) (base : Int) (o : zg) : BitVec 64 := if zbG o then ld m (wc (base + 1)) + 1#64 else ld m (wc (base + 1))
def zps (m : List (BitVec 64)) (base cap : Int) (top : BitVec 64) (n : Nat) : List Int := (List.range n).map (fun j : Nat => (ld m (vH (noD base cap) (top + BitVec.ofNat 64 j))).toInt)
def Xe (m : List (BitVec 64)) (base cap : Int) (o : zg) : List Int :=
  if ¬ 0 < (zdW m base o - ld m base).toInt ∨ (min (uo (noD base cap)).toNat 64) < (zdW m base o - ld m base).toNat then []
  else zps m base cap (ld m base) (zdW m base o - ld m base).toNat
theorem zrr {p : zb} (h : zr p) (b : Int) : (uo (noD b p.Cap)).toNat = p.Cap.toNat := by
  have hc := h.cap
  have hx : p.Cap = 1 ∨ p.Cap = 2 ∨ p.Cap = 3 := by omega
  unfold uo noD
  rcases hx with e | e | e <;> simp only [e] <;> decide
theorem znD {a b : Nat} (h : b ≤ a) (h2 : a < 4294967296) : BitVec.ofNat 64 a - BitVec.ofNat 64 b = BitVec.ofNat 64 (a - b) := W5 h (by omega)
theorem zhG {p : zb} (h : zr p) {m : List (BitVec 64)} {w : Int} {t c : Nat} {l : List Int} {o : zg} (hw : 1 ≤ w ∧ w ≤ p.Workers) (D : DQ p m w t l c) (he : zdW m (zB p w) o = BitVec.ofNat 64 (t + l.length)) : Xe m (zB p w) p.Cap o = l := by
  have hs := D.small
  have hcap := D.cap
  have hc := h.cap
  have ed : zdW m (zB p w) o - ld m (zB p w) = BitVec.ofNat 64 l.length := by
    rw [he, D.top, znD (by omega) hs]; congr 1; omega
  unfold Xe
  rw [ed, wI (by omega), zrr h]
  by_cases hl : l = []
  · subst hl
    rw [if_pos (.inl (by decide))]
  · have hpos : 0 < l.length := List.length_pos_iff.2 hl
    have : 0 < (BitVec.ofNat 64 l.length).toInt := by
      have := (zan (a := t + l.length) (b := t) hs (by omega)).2 (by omega)
      rw [znD (by omega) hs] at this
      rwa [show t + l.length - t = l.length by omega] at this
    rw [if_neg (by omega)]
    unfold zps
    apply List.ext_getElem
    · simp
    · intro i h1 h2
      rw [List.getElem_map, List.getElem_range, D.top, W7 (by omega), W9 h hw rfl rfl (by omega), D.cell i h2]
theorem zpa {p : zb} (h : zr p) {m : List (BitVec 64)} {w : Int} {t c : Nat} {o : zg} (D : DQ p m w t [] c) (he : zdW m (zB p w) o = BitVec.ofNat 64 (t - 1)) : Xe m (zB p w) p.Cap o = [] := by
  have hs := D.small
  unfold Xe
  refine if_pos (.inl (fun e => ?_))
  rw [he, D.top] at e
  have := (zan (by have : t + 0 < 4294967296 := hs; omega) (by have : t + 0 < 4294967296 := hs; omega)).1 e
  omega
theorem zif {p : zb} (h : zr p) {w : Int} (hw : 1 ≤ w ∧ w ≤ p.Workers) : wc (zB p w + 1) = zB p w + 1 := by
  have hd := vz h hw.1 hw.2
  have hf := wC h
  have hc := h.cap
  exact xk (by omega) (by omega)
theorem zeU {p : zb} (h : zr p) {m : List (BitVec 64)} {w : Int} {t : Nat} {l : List Int} {o : zg} (hw : 1 ≤ w ∧ w ≤ p.Workers) (D : DQ p m w t l 0) (ho : ¬ zbG o) : Xe m (zB p w) p.Cap o = l := by
  refine zhG h hw D ?_
  unfold zdW
  rw [if_neg ho, zif h hw, D.bot]; rfl
theorem zp1 {p : zb} (h : zr p) {m : List (BitVec 64)} {w : Int} {t c : Nat} {l : List Int} {o : zg} (hw : 1 ≤ w ∧ w ≤ p.Workers) (D : DQ p m w t l c) (K : PK p m w t l c o) : Xe m (zB p w) p.Cap o = l := by
  have hs := D.small
  have ht := D.t1
  have hpc := K.pc
  by_cases h1 : zbG o
  · have hc : c = 1 := by
      rcases h1.2.2 with e | e | e | ⟨e, e2⟩
      · exact K.c1 (.inl e)
      · exact K.c1 (.inr (by omega))
      · exact K.c1 (.inr (by omega))
      · exact K.c3 e e2
    subst hc
    refine zhG h hw D ?_
    unfold zdW
    rw [if_pos h1, zif h hw, D.bot, show (1#64 : BitVec 64) = BitVec.ofNat 64 1 from rfl, W7 (by omega)]
    congr 1; omega
  · have hn : ¬ (o.PC = 2 ∨ o.PC = 4 ∨ o.PC = 5 ∨ (o.PC = 3 ∧ o.T = o.B - 1#64)) := fun e => h1 ⟨K.kind, K.out, e⟩
    by_cases h6 : o.PC = 6
    · have hl := K.e5 (by omega)
      have hc := K.c1 (.inr (by omega))
      subst hl; subst hc
      refine zpa h D ?_
      unfold zdW
      rw [if_neg h1, zif h hw, D.bot]; rfl
    · have hc : c = 0 := by
        by_cases h3 : o.PC = 3
        · exact (K.n3 h3 (fun e => hn (.inr (.inr (.inr ⟨h3, e⟩))))).1
        · exact K.c0 (by omega)
      subst hc
      exact zeU h hw D h1
def zlW (l : List Int) : List Int := l.drop (l.length - 1)
def zqv : zg := ⟨2, 2, 0, 0, 0#64, 0#64, 0, 0⟩
theorem zn8 {p : zb} (h : zr p) {m : List (BitVec 64)} {w : Int} {t c : Nat} {l : List Int} {o : zg} (hw : 1 ≤ w ∧ w ≤ p.Workers) (D : DQ p m w t l c) (K : PK p m w t l c o) (h3 : o.PC = 3) (hT : o.T ≠ o.B - 1#64) :
    zlW (Xe m (zB p w) p.Cap zqv) = [(ld m (vH o (o.B - 1#64))).toInt] := by
  obtain ⟨n1, n2, n3, n4⟩ := K.n3 h3 hT
  subst n1
  have hcp := h.cap
  have eB : o.B - 1#64 = BitVec.ofNat 64 (t + l.length) := by
    rw [n2, show (1#64 : BitVec 64) = BitVec.ofNat 64 1 from rfl, W5 (by omega) (by omega)]; rfl
  have D' : DQ p m w t (l ++ [(ld m (vH o (o.B - 1#64))).toInt]) 1 := by
    refine ⟨D.top, ?_, Nat.le_refl _, D.t1, by rw [List.length_append, List.length_singleton]; omega, by rw [List.length_append, List.length_singleton]; omega, fun i hi => ?_⟩
    · rw [D.bot, List.length_append, List.length_singleton]; congr 1
    · rw [List.length_append, List.length_singleton] at hi
      by_cases hl : i < l.length
      · rw [List.getElem_append_left hl]; exact D.cell i hl
      · have : i = l.length := by omega
        subst this
        rw [List.getElem_append_right (by omega)]
        simp only [Nat.sub_self, List.getElem_cons_zero]
        rw [eB, W9 h hw K.base K.size (by omega)]
  rw [zhG h hw D' ?_]
  · unfold zlW
    rw [List.length_append, List.length_singleton, Nat.add_sub_cancel, List.drop_left]
  · have hl : (l ++ [(ld m (vH o (o.B - 1#64))).toInt]).length = l.length + 1 := by rw [List.length_append, List.length_singleton]
    unfold zdW
    rw [if_pos (show zbG zqv from ⟨rfl, rfl, .inl rfl⟩), zif h hw, D'.bot, hl, show (1#64 : BitVec 64) = BitVec.ofNat 64 1 from rfl, W7 (by omega)]
    congr 1
def zlY (x : zi) : zg := if x.PC = 0 then x.D else if x.PC = 6 ∧ x.G.PC = 3 then x.G.D else ⟨0, 0, 0, 0, 0#64, 0#64, 0, 0⟩
def zo1 (p : zb) (s : za) (w : Int) (x : zi) : List Int :=
  if x.PC = 0 then (if x.D.PC = 3 ∧ x.D.T ≠ x.D.B - 1#64 then zlW (Xe s.M (zB p w) p.Cap zqv) else []) ++ (if x.D.PC = 6 then [x.D.X] else [])
  else if x.PC = 3 then yY s x.Bin
  else if x.PC = 5 ∨ x.PC = 8 then [x.Obj]
  else if x.PC = 6 then x.Obj :: (if x.G.Out = 0 ∧ 3 ≤ x.G.PC ∧ x.G.PC ≤ 7 then [x.G.Obj] else [])
  else []
def zoo (p : zb) (s : za) (w : Int) (x : zi) : List Int := x.Batch ++ zo1 p s w x ++ Xe s.M (zB p w) p.Cap (zlY x)
theorem zrt {p : zb} (h : zr p) {nb k : Nat} {s : za} {gh : Gh} {own : List Int} {w : Int} {x : zi} (hw : 1 ≤ w ∧ w ≤ p.Workers) (X : SX p nb s gh own k) (W : WX p s gh w x) (O : WOk p nb w x) : zoo p s w x = zP s x ++ gh.D w := by
  have D := X.D w hw.1 hw.2
  have e1 : zo1 p s w x = Z6 s x := by
    unfold zo1 Z6
    by_cases p0 : x.PC = 0
    · rw [if_pos p0, if_pos p0]
      have K := W.p0 p0
      unfold ug
      by_cases e : x.D.PC = 3 ∧ x.D.T ≠ x.D.B - 1#64
      · rw [if_pos e, if_pos e, zn8 h hw D K e.1 e.2, if_neg (by omega), List.append_nil]
      · rw [if_neg e, if_neg e, List.nil_append]
    · rw [if_neg p0, if_neg p0]
      rfl
  have e2 : Xe s.M (zB p w) p.Cap (zlY x) = gh.D w := by
    unfold zlY
    by_cases p0 : x.PC = 0
    · rw [if_pos p0]; exact zp1 h hw D (W.p0 p0)
    · have hc := W.c0 p0
      rw [hc] at D
      rw [if_neg p0]
      by_cases p6 : x.PC = 6 ∧ x.G.PC = 3
      · rw [if_pos p6]
        obtain ⟨G, g1, g2, g3⟩ := W.p6 p6.1
        have := (G.d3 p6.2 g3).2.2.kind
        exact zeU h hw D (fun e => by have := e.1; omega)
      · rw [if_neg p6]
        exact zeU h hw D (fun e => absurd e.1 (by show ¬ (0 : Int) = 2; decide))
  unfold zoo zP
  rw [e1, e2]
end
end Go.Pe.G
namespace Go.Pe.G
open Go.Pe
noncomputable section
theorem zrd : ∀ (t : Fin 512) (k : Fin 9), BitVec.ofNat 64 t.1 ||| bit ((k.1 : Int) + 1) = BitVec.ofNat 64 t.1 ∨ cnt (BitVec.ofNat 64 t.1 ||| bit ((k.1 : Int) + 1)) = cnt (BitVec.ofNat 64 t.1) + 1 := by decide +kernel
theorem zpb {s : BitVec 64} (h : ∀ o, yn s o = true → o ≤ 9) : ∃ t : Fin 512, s = BitVec.ofNat 64 t.1 := by
  have h2 : s = s &&& 511#64 := by
    apply BitVec.eq_of_getLsbD_eq
    intro j hj
    rw [BitVec.getLsbD_and]
    have h63 : (511#64).getLsbD j = decide (j < 9) := by
      have : ∀ j : Fin 64, (511#64).getLsbD j.1 = decide (j.1 < 9) := by decide
      exact this ⟨j, hj⟩
    rw [h63]
    cases hs : s.getLsbD j with
    | false => rfl
    | true =>
      have := h ((j : Int) + 1) ((xn _ _).2 ⟨by omega, by omega, by rw [show ((j : Int) + 1 - 1).toNat = j by omega]; exact hs⟩)
      rw [decide_eq_true (by omega : j < 9)]; rfl
  have h3 : s.toNat < 512 := by
    rw [h2, BitVec.toNat_and]
    exact Nat.lt_of_le_of_lt Nat.and_le_right (by decide)
  exact ⟨⟨s.toNat, h3⟩, by rw [BitVec.ofNat_toNat, BitVec.setWidth_eq]⟩
theorem zst {s : BitVec 64} (h : ∀ o, yn s o = true → o ≤ 9) {o : Int} (ho : 1 ≤ o ∧ o ≤ 9) (hn : ¬ yn s o = true) : cnt (s ||| bit o) = cnt s + 1 := by
  obtain ⟨t, rfl⟩ := zpb h
  have := zrd t ⟨(o - 1).toNat, by omega⟩
  rw [show (((o - 1).toNat : Nat) : Int) + 1 = o by omega] at this
  rcases this with e | e
  · exact absurd e ((Vr ⟨ho.1, by omega⟩).2 hn)
  · exact e
theorem zlU : ∀ (l : List Int) (s : BitVec 64) (q : Int), (∀ o ∈ l, 1 ≤ o ∧ o ≤ 64) → (yn (l.foldl (fun s o => s ||| bit o) s) q = true ↔ yn s q = true ∨ q ∈ l)
  | [], s, q, _ => by simp
  | a :: l, s, q, h => by
    rw [List.foldl_cons, zlU l _ q (fun o ho => h o (List.mem_cons_of_mem _ ho)), vy _ (h a (by simp)), List.mem_cons, or_assoc]
theorem zmv : ∀ (l : List Int) (s : BitVec 64), (∀ o ∈ l, 1 ≤ o ∧ o ≤ 9) → (∀ o, yn s o = true → o ≤ 9) → l.Nodup → (∀ o ∈ l, ¬ yn s o = true) → cnt (l.foldl (fun s o => s ||| bit o) s) = cnt s + (l.length : Int)
  | [], s, _, _, _, _ => by simp
  | a :: l, s, h, hs, hd, hn => by
    have ha := h a (by simp)
    have hd := List.nodup_cons.1 hd
    have ha64 : 1 ≤ a ∧ a ≤ 64 := by omega
    rw [List.foldl_cons, zmv l _ (fun o ho => h o (List.mem_cons_of_mem _ ho)) (fun o ho => ?_) hd.2 (fun o ho e => ?_), zst hs ha (hn a (by simp)), List.length_cons]
    · omega
    · rcases (vy _ ha64 o).1 ho with e | e
      · exact hs o e
      · omega
    · rcases (vy _ ha64 o).1 e with e | e
      · exact hn o (List.mem_cons_of_mem _ ho) e
      · exact hd.1 (e ▸ ho)
theorem zn9 : ∀ t : Fin 512, cnt (BitVec.ofNat 64 t.1) ≤ 9 := by decide +kernel
theorem ztg {s : BitVec 64} (h : ∀ o, yn s o = true → o ≤ 9) : cnt s ≤ 9 := by
  obtain ⟨t, rfl⟩ := zpb h
  exact zn9 t
theorem zqt : cnt 0#64 = 0 := by decide +kernel
theorem znI {l : List Int} (h : ∀ o ∈ l, 1 ≤ o ∧ o ≤ 9) (hd : l.Nodup) : cnt (XO l) = (l.length : Int) ∧ ∀ q, yn (XO l) q = true ↔ q ∈ l := by
  refine ⟨?_, fun q => ?_⟩
  · unfold XO
    rw [zmv l _ h (fun o e => absurd e (W8 o)) hd (fun o _ => W8 o), zqt, Int.zero_add]
  · unfold XO
    rw [zlU l _ q (fun o ho => by have := h o ho; omega)]
    exact ⟨fun e => e.resolve_left (W8 q), .inr⟩
theorem ze7 (s : BitVec 64) {q : Int} (h : 1 ≤ q ∧ q ≤ 64) : yn (~~~s) q = true ↔ ¬ yn s q = true := by
  rw [xn, xn, BitVec.getLsbD_not]
  simp only [show (q - 1).toNat < 64 by omega, decide_true, Bool.true_and, Bool.not_eq_true']
  constructor
  · rintro ⟨_, _, e⟩ ⟨_, _, e2⟩; rw [e] at e2; cases e2
  · intro e
    refine ⟨h.1, h.2, ?_⟩
    cases hs : s.getLsbD (q - 1).toNat with
    | false => rfl
    | true => exact absurd ⟨h.1, h.2, hs⟩ e
end
end Go.Pe.G
namespace Go.Pe.G
open Go.Pe
noncomputable section
structure zmd (s : za) : Prop where
  mks : ∀ o, yn s.T.Marks o = true → o ≤ 9
  ob : ∀ (i : Nat) x, s.Ws[i]? = some x → x.PC = 6 → x.G.Obj ≤ 9
theorem HOk.get9 {p : zb} (hp : zr p) {h : zG} (H : HOk p h) (o i : Int) : we h o i ≤ 9 := by
  have h1 := H.n
  have h2 : p.Most ≤ 9 := by have := hp.most; have := hp.n; omega
  unfold we
  split
  · unfold yV
    rw [List.getD_eq_getElem?_getD, List.getD_eq_getElem?_getD]
    cases hx : h.Objs[(o - 1).toNat]? with
    | none => show (([] : List Int)[i.toNat]?).getD 0 ≤ 9; simp
    | some l =>
      show (l[i.toNat]?).getD 0 ≤ 9
      cases hv : l[i.toNat]? with
      | none => show (0 : Int) ≤ 9; decide
      | some v =>
        have := (H.objs l (List.mem_of_getElem? hx)).2 v (List.mem_of_getElem? hv)
        show v ≤ 9; omega
  · decide
theorem zq7 (s : za) (w : Int) (x : zi) (h : (zC s w x).2.PC = 6) : (x.PC = 6 ∧ (zC s w x).2.G.Obj = x.G.Obj) ∨ (x.PC = 5 ∧ (zC s w x).2.G.Obj = we s.H x.Obj x.Slot) := by
  revert h
  have hon : ∀ i, onW s i ≠ 6 := fun i e => by rcases zf4 s i with h | h <;> omega
  have hlk : ∀ y : zi, (ZC s.P w y).PC ≠ 6 := fun y e => by unfold ZC at e; split at e <;> cases e
  unfold zC
  split
  · rename_i h0
    dsimp only
    split
    · exact fun e => by cases e
    split
    · exact fun e => absurd e (hlk _)
    · exact fun e => by have e : x.PC = 6 := e; omega
  split
  · dsimp only
    split
    · exact fun e => by cases e
    split
    · exact fun e => by cases e
    · exact fun e => by have e : x.PC = 6 := e; omega
  split
  · exact fun e => by cases e
  split
  · dsimp only
    split
    · exact fun e => by cases e
    · exact fun e => by have e : x.PC = 6 := e; omega
  split
  · rename_i h5
    dsimp only
    split
    · exact fun e => absurd e (hon _)
    · exact fun _ => .inr ⟨h5, rfl⟩
  split
  · rename_i h6
    dsimp only
    split
    · exact fun e => absurd e (hon _)
    · exact fun _ => .inl ⟨h6, (ZI s x.G).1⟩
  split
  · dsimp only
    split
    · exact fun e => by cases e
    · exact fun e => by cases e
  split
  · exact fun e => by cases e
  split
  · exact fun e => by cases e
  · exact fun e => .inl ⟨e, rfl⟩
theorem zmd.step {p : zb} (hp : zr p) {nb k : Nat} {s : za} {gh : Gh} (L : zmd s) (G : WG p nb k s gh) {w : Int} (hw : 1 ≤ w ∧ w ≤ p.Workers) (hd : s.Done = false) (T : zro s (ZA s w) w) : zmd (ZA s w) := by
  have hwl := G.E.wl
  refine ⟨fun o ho => ?_, fun i y hy h6 => ?_⟩
  · rcases T with e | ⟨x, q, hx, h6, rfl, hr, hn, e⟩ | ⟨x, hx, h8, h1, e⟩
    · rw [e] at ho; exact L.mks o ho
    · rw [e] at ho
      rcases (vy _ hr o).1 ho with e | e
      · exact L.mks o e
      · rw [e]; exact L.ob _ x hx h6
    · rw [e] at ho; exact L.mks o ho
  · have e0 : ¬ (s.Done = true ∨ w < 1 ∨ (s.Ws.length : Int) < w) := by rw [hd]; rintro (e | e | e) <;> first | cases e | omega
    have hi : (w - 1).toNat < s.Ws.length := by omega
    have hx := List.getElem?_eq_getElem hi
    generalize s.Ws[(w - 1).toNat] = x at hx
    unfold ZA at hy
    rw [if_neg e0, hx] at hy
    have hy : (s.Ws.set (w - 1).toNat (zC s w x).2)[i]? = some y := hy
    by_cases hj : i = (w - 1).toNat
    · subst hj
      rw [List.getElem?_set_self hi] at hy
      injection hy with hy
      subst hy
      rcases zq7 s w x h6 with ⟨a, b⟩ | ⟨a, b⟩
      · rw [b]; exact L.ob _ x hx a
      · rw [b]; exact G.E.H.get9 hp _ _
    · rw [List.getElem?_set_ne (fun e => hj e.symm)] at hy
      exact L.ob i y hy h6
theorem ztu {p : zb} (h : zr p) : zmd (z8 p) := by
  refine ⟨fun o ho => ?_, fun i x hx h6 => ?_⟩
  · have hs := YR h
    obtain ⟨a, b, c⟩ := (xn _ _).1 (show yn (ww p) o = true from ho)
    have := zfc hs c
    omega
  · have hx := List.mem_of_getElem? hx
    obtain ⟨j, _, rfl⟩ := List.mem_map.1 (show x ∈ (List.range p.Workers.toNat).map (xR p) from hx)
    exact absurd h6 (by show ¬ (0 : Int) = 6; decide)
def zjL (p : zb) (s : za) (n : Nat) : List Int := (List.range n).flatMap (fun i : Nat => (s.Ws[i]?).elim [] (zoo p s ((i : Int) + 1)))
theorem zkN {α β : Type} {f g : α → List β} : ∀ (l : List α), List.Perm (l.flatMap (fun x => f x ++ g x)) (l.flatMap f ++ l.flatMap g)
  | [] => List.Perm.refl _
  | a :: l => by
    rw [List.flatMap_cons, List.flatMap_cons, List.flatMap_cons]
    refine (List.Perm.append_left _ (zkN l)).trans ?_
    simp only [List.append_assoc]
    exact List.Perm.append_left _ (List.perm_append_comm_assoc _ _ _)
theorem zog {α β : Type} {f : α → List β} (l : List α) : (List.range l.length).flatMap (fun i : Nat => (l[i]?).elim [] f) = l.flatMap f := by
  rw [List.flatMap_def, List.flatMap_def]
  congr 1
  apply List.ext_getElem
  · simp
  · intro i h1 h2
    have hi : i < l.length := by simpa using h2
    simp [List.getElem?_eq_getElem hi]
theorem zti {p : zb} (h : zr p) {nb k : Nat} {s : za} {gh : Gh} (G : WG p nb k s gh) : List.Perm (gh.F.flatMap (yY s) ++ zjL p s s.Ws.length) (zdA p s gh) := by
  have hwl := G.E.wl
  have hw := h.wk
  have e : zjL p s s.Ws.length = (List.range s.Ws.length).flatMap (fun i : Nat => (s.Ws[i]?).elim [] (zP s) ++ gh.D ((i : Int) + 1)) := by
    unfold zjL
    refine vD (fun i hi => ?_)
    have hi := List.mem_range.1 hi
    have hx := List.getElem?_eq_getElem hi
    rw [hx]
    exact zrt h (by omega) G.X (G.W i _ hx) (G.E.W i _ hx)
  rw [e]
  unfold zdA yu
  have en : p.Workers.toNat = s.Ws.length := by omega
  rw [en, List.append_assoc]
  refine List.Perm.append_left _ ?_
  refine (zkN (List.range s.Ws.length) (f := fun i : Nat => (s.Ws[i]?).elim [] (zP s)) (g := fun i : Nat => gh.D ((i : Int) + 1))).trans ?_
  rw [zog (f := zP s) s.Ws]
  exact List.perm_append_comm
theorem zth {p : zb} {nb k : Nat} {s : za} {gh : Gh} (G : WG p nb k s gh) (L : zmd s) {B : List Int} (h : List.Perm B (zdA p s gh)) : cnt (XO B) = (B.length : Int) ∧ XO B = s.T.Marks &&& ~~~s.T.Black := by
  have hm : ∀ o, o ∈ B ↔ wP s.T o = 1 := fun o => by rw [h.mem_iff]; exact G.B.gr o
  have hr : ∀ o ∈ B, 1 ≤ o ∧ o ≤ 9 := fun o ho => ⟨(zbo ((hm o).1 ho)).1, L.mks o ((XR _ _).1 ((hm o).1 ho)).1⟩
  obtain ⟨e1, e2⟩ := znI hr (h.nodup_iff.2 G.B.nd)
  refine ⟨e1, zgB (fun o => ?_)⟩
  rw [e2, hm, XR, zbP]
  constructor
  · rintro ⟨a, b⟩
    have := (xn _ _).1 a
    exact ⟨a, (ze7 _ ⟨this.1, this.2.1⟩).2 b⟩
  · rintro ⟨a, b⟩
    have := (xn _ _).1 a
    exact ⟨a, (ze7 _ ⟨this.1, this.2.1⟩).1 b⟩
end
end Go.Pe.G
namespace Go.Pe.G
open Go.Pe
noncomputable section
structure GG (p : zb) (nb k : Nat) (s : za) (a b : zd) (gh : Gh) : Prop where
  X : SX p nb s gh (yI a ++ yI b) k
  A : GX p s gh a
  B : GX p s gh b
  MA : MOk p nb a
  MB : MOk p nb b
  oA : a.PC = 5 → a.C.Out ≠ 1
  oB : b.PC = 5 → b.C.Out ≠ 1
  apart : ¬ (a.Mode = 1 ∧ b.Mode = 1 ∧ a.Who = b.Who)
  bag : XD (yu p s gh ++ (yg a ++ yg b)) s.T
  cz : ∀ w, 1 ≤ w → w ≤ p.Workers → gh.c w = 0
  mks : ∀ o, yn s.T.Marks o = true → o ≤ (p.H.Objs.length : Int)
  la : a.Obj ≤ (p.H.Objs.length : Int)
  lb : b.Obj ≤ (p.H.Objs.length : Int)
  ne : ∀ y ∈ gh.F, yY s y ≠ []
theorem XD.perm {B B' : List Int} {t : zo} (K : XD B t) (h : List.Perm B' B) : XD B' t :=
  ⟨K.blk, h.nodup_iff.2 K.nd, fun o => by rw [h.mem_iff]; exact K.gr o⟩
theorem GG.swap {p : zb} {nb k : Nat} {s : za} {a b : zd} {gh : Gh} (g : GG p nb k s a b gh) : GG p nb k s b a gh :=
  ⟨g.X.perm List.perm_append_comm, g.B, g.A, g.MB, g.MA, g.oB, g.oA, fun e => g.apart ⟨e.2.1, e.1, e.2.2.symm⟩, g.bag.perm (List.Perm.append_left _ List.perm_append_comm), g.cz, g.mks, g.lb, g.la, g.ne⟩
theorem zrb (s : za) (g : zd) (y : Int) (h : yY s y ≠ []) : yY (zm s g).1 y ≠ [] := by
  unfold zm
  split
  · exact h
  split
  · exact h
  split
  · unfold zc8 yY
    show ((s.Bins.set g.Bin.toNat [g.Obj])[y.toNat]?).getD [] ≠ []
    by_cases e : g.Bin.toNat = y.toNat
    · rw [e]
      by_cases hl : y.toNat < s.Bins.length
      · rw [List.getElem?_set_self hl]; exact List.cons_ne_nil _ _
      · rw [List.set_eq_of_length_le (by omega)]; exact h
    · rw [List.getElem?_set_ne e]; exact h
  split
  · exact h
  split
  · exact h
  split
  · exact h
  split
  · exact h
  split
  · exact h
  · exact h
theorem GG.left {p : zb} (hp : zr p) {nb k : Nat} (hk : k < 4294960000) {s : za} {a b : zd} {gh : Gh} (g : GG p nb k s a b gh) : ∃ gh', GG p nb (k + 1) (zm s a).1 (zm s a).2 b gh' := by
  by_cases ha : a.Out = 0
  rotate_left
  · have e : zm s a = (s, a) := by unfold zm; rw [if_pos (.inl ha)]
    rw [e]
    exact ⟨gh, g.X.quiet g.X.S rfl, g.A, g.B, g.MA, g.MB, g.oA, g.oB, g.apart, g.bag, g.cz, g.mks, g.la, g.lb, g.ne⟩
  obtain ⟨gh', X', G', Fx, hc, hFb, N, hN, hT⟩ := zrp hp hk g.X g.MA g.oA g.A
  obtain ⟨r1, r2, r3⟩ := zbH hp g.X.S g.MA g.oA
  obtain ⟨s1, s2, s3⟩ := ZI s a
  have B' : GX p (zm s a).1 gh' b := GX.other hp g.X Fx g.B g.MB (fun _ h => h) (fun hb h => g.apart ⟨h.1, hb, h.2.symm⟩)
  have hbag : List.Perm (yu p (zm s a).1 gh' ++ (yg (zm s a).2 ++ yg b)) (N ++ (yu p s gh ++ (yg a ++ yg b))) := by
    rw [← List.append_assoc, ← List.append_assoc (yu p s gh), ← List.append_assoc N]
    exact hN.append_right _
  have hcz : ∀ w, 1 ≤ w → w ≤ p.Workers → gh'.c w = 0 := fun w h1 h2 => by
    rcases Fx.dq w h1 h2 with h | h
    · cases h with
      | same e1 e2 e3 e4 => rw [e3]; exact g.cz w h1 h2
      | stolen y e1 e2 e3 e4 => rw [e3]; exact g.cz w h1 h2
    · have := hc h.1.1 ha
      rw [← h.1.2] at this; exact this
  have hne : ∀ y ∈ gh'.F, yY (zm s a).1 y ≠ [] := fun y hy => (hFb y hy).elim (fun h => zrb s a y (g.ne y h)) id
  rcases hT with ⟨rfl, t⟩ | ⟨rfl, t1, t2⟩
  · rw [List.nil_append] at hbag
    refine ⟨gh', X', G', B', r2, g.MB, r3, g.oB, by rw [s2, s3]; exact g.apart, ?_, hcz, by rw [t]; exact g.mks, by rw [s1]; exact g.la, g.lb, hne⟩
    rw [t]; exact g.bag.perm hbag
  · refine ⟨gh', X', G', B', r2, g.MB, r3, g.oB, by rw [s2, s3]; exact g.apart, ?_, hcz, fun o ho => ?_, by rw [s1]; exact g.la, g.lb, hne⟩
    · rw [t2]; exact g.bag.more g.A.ob t1 hbag
    · rw [t2] at ho
      rcases (vy _ g.A.ob o).1 ho with e | e
      · exact g.mks o e
      · rw [e]; exact g.la
theorem zsz {p : zb} (h : zr p) : SX p (zF p + 1) (z8 p) (gh0 p) [] 0 ∧ XD (yu p (z8 p) (gh0 p)) (z8 p).T := by
  have W := zsF h
  have hws : ∀ x ∈ (z8 p).Ws, ∃ i : Nat, x = xR p i := fun x hx => by
    obtain ⟨i, _, rfl⟩ := List.mem_map.1 (show x ∈ (List.range p.Workers.toNat).map (xR p) from hx)
    exact ⟨i, rfl⟩
  have own : (z8 p).Ws.flatMap xd = [] := Um (fun x hx => by
    obtain ⟨i, rfl⟩ := hws x hx
    exact xx (by show (0 : Int) ≠ 3; decide) (by show (0 : Int) ≠ 4; decide) (by show (0 : Int) ≠ 6; decide))
  have hold : (z8 p).Ws.flatMap (zP (z8 p)) = [] := Um (fun x hx => by
    obtain ⟨i, rfl⟩ := hws x hx
    unfold zP
    rw [show xR p i = Xp p ((i : Int) + 1) (xR p i) from rfl, zbi]; rfl)
  have X := W.X
  have B := W.B
  rw [own] at X
  unfold zdA at B
  rw [hold, List.append_nil] at B
  exact ⟨X, B⟩
theorem zk3 (n : Nat) (hn : 1 ≤ n) : ∀ (f : Nat) (l c : List Int), c ∈ xw n f l → c ≠ []
  | 0, l, c, h => by simp [xw] at h
  | f + 1, [], c, h => by simp [xw] at h
  | f + 1, x :: l, c, h => by
    simp only [xw, List.mem_cons] at h
    rcases h with h | h
    · rw [h]
      match n, hn with
      | m + 1, _ => exact List.cons_ne_nil _ _
    · exact zk3 n hn f _ c h
theorem zsC {p : zb} (h : zr p) : ∀ y ∈ (gh0 p).F, yY (z8 p) y ≠ [] := by
  intro y hy
  have hb := h.bin
  have hfl := zeC h
  have hbs := WQ h
  have hmost := h.most
  have hw := h.wk
  have hm := h.mt
  have hy : y ∈ (yt (zF p)).take (yi p).length := hy
  have e2 : (yt (zF p)).take (yi p).length = (List.range (yi p).length).map (fun i : Nat => (i : Int) + 1) := by
    unfold yt
    rw [← List.map_take, List.take_range, Nat.min_eq_left (by omega)]
  rw [e2] at hy
  obtain ⟨i, hi, rfl⟩ := List.mem_map.1 hy
  have hi := List.mem_range.1 hi
  unfold yY
  show (([[]] ++ yi p ++ List.replicate (zF p - (yi p).length) [])[((i : Int) + 1).toNat]?).getD [] ≠ []
  rw [show ((i : Int) + 1).toNat = i + 1 by omega, List.append_assoc]
  show ((yi p ++ List.replicate (zF p - (yi p).length) [])[i]?).getD [] ≠ []
  rw [List.getElem?_append_left hi, List.getElem?_eq_getElem hi]
  exact zk3 _ (by omega) _ _ _ (List.getElem_mem hi)
theorem zqZ {p : zb} (h : zr p) {o : Int} (ho : yn (ww p) o = true) : o ≤ (p.H.Objs.length : Int) := by
  have hn := h.n
  obtain ⟨a, b, c⟩ := (xn _ _).1 ho
  have hs := YR h
  have h6 := zfc hs c
  have hu := zdM h
  have key : ∀ (n : Fin 7) (j : Fin 6), (YJ (n.1 : Int)).getLsbD j.1 = decide (j.1 < n.1) := by decide
  have k := key ⟨p.H.Objs.length, by omega⟩ ⟨(o - 1).toNat, h6⟩
  have := congrArg (fun x => x.getLsbD (o - 1).toNat) hu
  simp only [BitVec.getLsbD_and, BitVec.getLsbD_not, c, Bool.true_and, BitVec.getLsbD_zero, show (o - 1).toNat < 64 by omega, decide_true] at this
  have k' : (YJ (p.H.Objs.length : Int)).getLsbD (o - 1).toNat = decide ((o - 1).toNat < p.H.Objs.length) := k
  rw [k'] at this
  by_cases e : (o - 1).toNat < p.H.Objs.length
  · omega
  · rw [decide_eq_false e] at this; cases this
theorem GX.start {p : zb} {s : za} {gh : Gh} {mode obj who : Int} (hm : 1 ≤ mode ∧ mode ≤ 3) (ho : 1 ≤ obj ∧ obj ≤ 64) (hc : gh.c who = 0) : GX p s gh (yX mode obj who) :=
  GX.plain (.inl rfl) ⟨by show (0 : Int) ≤ 0; decide, by show (0 : Int) ≤ 7; decide⟩ hm ho (fun _ _ => hc) (.inr ⟨by show (0 : Int) ≠ 3; decide, by show (0 : Int) ≠ 5; decide, by show (0 : Int) ≠ 7; decide⟩)
theorem zso {p : zb} (h : zr p) {ma oa wa mb ob wb : Int} (hma : 1 ≤ ma ∧ ma ≤ 3) (hoa : 1 ≤ oa ∧ oa ≤ (p.H.Objs.length : Int)) (hwa : 1 ≤ wa ∧ wa ≤ p.Workers) (hmb : 1 ≤ mb ∧ mb ≤ 3) (hob : 1 ≤ ob ∧ ob ≤ (p.H.Objs.length : Int)) (hwb : 1 ≤ wb ∧ wb ≤ p.Workers)
    (hap : ¬ (ma = 1 ∧ mb = 1 ∧ wa = wb)) : GG p (zF p + 1) 0 (z8 p) (yX ma oa wa) (yX mb ob wb) (gh0 p) := by
  obtain ⟨X, B⟩ := zsz h
  have hn := h.n
  have o0 : ∀ m o w : Int, yI (yX m o w) = [] := fun m o w => xF (.inr ⟨by show (0 : Int) ≠ 6; decide, by show (0 : Int) ≠ 7; decide⟩)
  have h0 : ∀ m o w : Int, yg (yX m o w) = [] := fun m o w => vO (.inr (.inl (by show (0 : Int) < 3; decide)))
  have mk : ∀ m o w : Int, 1 ≤ w ∧ w ≤ p.Workers → MOk p (zF p + 1) (yX m o w) := fun m o w hw => ⟨fun _ => hw, fun e => (by cases e), fun e => (by cases e), fun e => (by cases e), fun e => (by cases e)⟩
  refine ⟨by rw [o0, o0]; exact X, GX.start hma (by omega) rfl, GX.start hmb (by omega) rfl, mk _ _ _ hwa, mk _ _ _ hwb, fun e => (by cases e), fun e => (by cases e), hap, ?_, fun _ _ _ => rfl, fun o ho => zqZ h (show yn (ww p) o = true from ho), hoa.2, hob.2, zsC h⟩
  rw [h0, h0, List.append_nil, List.append_nil]; exact B
def zn6 (p : zb) (s : za) (n : Nat) : List Int := (List.range n).flatMap (fun i : Nat => Xe s.M (zB p ((i : Int) + 1)) p.Cap (⟨0, 0, 0, 0, 0#64, 0#64, 0, 0⟩))
theorem GG.told {p : zb} (h : zr p) {nb k : Nat} {s : za} {a b : zd} {gh : Gh} (g : GG p nb k s a b gh) :
    List.Perm (zn6 p s p.Workers.toNat ++ gh.F.flatMap (yY s) ++ yg a ++ yg b) (yu p s gh ++ (yg a ++ yg b)) := by
  have e : zn6 p s p.Workers.toNat = (List.range p.Workers.toNat).flatMap (fun i : Nat => gh.D ((i : Int) + 1)) := by
    unfold zn6
    refine vD (fun i hi => ?_)
    have hi := List.mem_range.1 hi
    have D := g.X.D ((i : Int) + 1) (by omega) (by omega)
    rw [g.cz _ (by omega) (by omega)] at D
    exact zeU h (by omega) D (fun e => absurd e.1 (by show ¬ (0 : Int) = 2; decide))
  rw [e, List.append_assoc]
  unfold yu
  exact List.perm_append_comm.append_right _
theorem GG.once {p : zb} (hp : zr p) {nb k : Nat} {s : za} {a b : zd} {gh : Gh} (g : GG p nb k s a b gh) {B : List Int} (h : List.Perm B (yu p s gh ++ (yg a ++ yg b))) : cnt (XO B) = (B.length : Int) ∧ XO B = s.T.Marks &&& ~~~s.T.Black := by
  have K := g.bag.perm h
  have hn := hp.n
  have hr : ∀ o ∈ B, 1 ≤ o ∧ o ≤ 9 := fun o ho => ⟨(zbo ((K.gr o).1 ho)).1, by have := g.mks o ((XR _ _).1 ((K.gr o).1 ho)).1; omega⟩
  obtain ⟨e1, e2⟩ := znI hr K.nd
  refine ⟨e1, zgB (fun o => ?_)⟩
  rw [e2, K.gr, XR, zbP]
  constructor
  · rintro ⟨a, b⟩
    have := (xn _ _).1 a
    exact ⟨a, (ze7 _ ⟨this.1, this.2.1⟩).2 b⟩
  · rintro ⟨a, b⟩
    have := (xn _ _).1 a
    exact ⟨a, (ze7 _ ⟨this.1, this.2.1⟩).1 b⟩
end
end Go.Pe.G
namespace Go.Pe.G
open Go.Pe
noncomputable section
def Vw (m : List (BitVec 64)) (c : zp) : Nat := if c.PC = 0 then 3 else if ld m c.Head = c.H then (3 - c.PC).toNat else (6 - c.PC).toNat
theorem zlO {m : List (BitVec 64)} {c : zp} (h : 0 ≤ c.PC ∧ c.PC ≤ 2) : 1 ≤ Vw m c := by
  unfold Vw
  split
  · omega
  split <;> omega
theorem zid {m : List (BitVec 64)} {c : zp} (ho : c.Out = 0) (hpc : 0 ≤ c.PC ∧ c.PC ≤ 2) (hk : c.Kind = 1 ∨ c.Kind = 2) (hh : 0 ≤ c.Head ∧ c.Head < m.length) (hn : c.Kind = 1 → wc (c.Next + c.X) ≠ c.Head) :
    (zl m c).2.Out ≠ 0 ∨ Vw (zl m c).1 (zl m c).2 < Vw m c := by
  unfold zl
  rw [if_neg (by omega)]
  by_cases c0 : c.PC = 0
  · rw [if_pos c0]
    split
    · exact .inl (by show (2 : Int) ≠ 0; decide)
    · right
      unfold Vw
      dsimp only
      rw [if_neg (by decide), if_pos rfl, if_pos c0]
      decide
  rw [if_neg c0]
  by_cases c1 : c.PC = 1
  · rw [if_pos c1]
    right
    split
    · unfold Vw
      dsimp only
      rw [if_neg (by decide), if_neg c0, c1]
      split <;> decide
    · rename_i h2
      unfold Vw
      dsimp only
      rw [if_neg (by decide), if_neg c0, c1, zY (hn (by omega))]
      split <;> decide
  rw [if_neg c1]
  have c2 : c.PC = 2 := by omega
  dsimp only
  by_cases e : ld m c.Head = c.H
  · have hsw : (sw m c.Head c.H (yh ((c.H >>> 32) + 1#64) (if c.Kind = 2 then c.Y else c.X))).2 = true := by unfold sw; rw [if_pos ⟨hh.1, hh.2, e⟩]
    rw [hsw, if_pos rfl]
    left
    split <;> (show (1 : Int) ≠ 0; decide)
  · have hsw : sw m c.Head c.H (yh ((c.H >>> 32) + 1#64) (if c.Kind = 2 then c.Y else c.X)) = (m, false) := by unfold sw; rw [if_neg (fun x => e x.2.2)]
    rw [hsw]
    right
    rw [if_neg (show ¬ ((m, false) : List (BitVec 64) × Bool).2 = true from Bool.false_ne_true)]
    unfold Vw
    dsimp only
    rw [if_pos rfl, if_neg c0, if_neg e, c2]
    decide
def u0 (m : List (BitVec 64)) (g : zd) : Nat :=
  if g.PC = 7 then Vw m g.C else if g.PC = 6 then 4 else if g.PC = 5 then 4 + Vw m g.C else if g.PC = 4 then 8 else if g.PC = 3 then 7 + (4 - g.D.PC).toNat else if g.PC = 2 then 1 else if g.PC = 1 then 12 else 13
theorem znG (m : List (BitVec 64)) {c : zp} (h : 0 ≤ c.PC) : Vw m c ≤ 5 := by
  unfold Vw
  split
  · omega
  split <;> omega
theorem zho (p : zb) (m : List (BitVec 64)) (g : zd) : u0 m (Y2 p g) = 7 := by
  unfold u0 Y2 Vw
  dsimp only
  simp
theorem zol {m : List (BitVec 64)} {d : zg} (ho : d.Out = 0) (hpc : 0 ≤ d.PC ∧ d.PC ≤ 3) : (z7 m d).2.PC = d.PC + 1 := by
  unfold z7
  rw [if_neg (by omega)]
  split
  · show (1 : Int) = _; omega
  split
  · split <;> (show (2 : Int) = _; omega)
  split
  · show (3 : Int) = _; omega
  · show (4 : Int) = _; omega
theorem zpC {p : zb} (hp : zr p) {nb k : Nat} {s : za} {g : zd} {gh : Gh} {own : List Int} (X : SX p nb s gh own k) (G : GX p s gh g) (M : MOk p nb g) (h0 : g.Out = 0) (hE : g.PC = 5 → (zl s.M g.C).2.Out ≠ 2) :
    (zm s g).2.Out ≠ 0 ∨ u0 (zm s g).1.M (zm s g).2 < u0 s.M g := by
  have hF := wC hp
  have hEm := yM hp
  have hlen := X.L.len
  have hpc := G.pc
  have hmd := G.md
  have hnb := X.S.nbk
  unfold zm
  rw [if_neg (by omega)]
  by_cases p7 : g.PC = 7
  · rw [if_pos p7]
    obtain ⟨c1, c2, c3, c4, c5⟩ := G.c7 p7 h0
    obtain ⟨m1, m2, m3, m4, m5⟩ := M.c7 p7
    have r := zid (m := s.M) c1 c2 (.inl m1) (by omega) (fun _ => by rw [m3, xk (by omega) (by omega)]; omega)
    unfold uU
    dsimp only
    split
    · exact .inl (by show (1 : Int) ≠ 0; decide)
    · rename_i e
      have hout := XB s.M c1 c2 (.inl m1)
      right
      unfold u0
      dsimp only
      rw [if_pos p7, if_pos p7]
      rcases r with r | r
      · omega
      · exact r
  rw [if_neg p7]
  by_cases p6 : g.PC = 6
  · rw [if_pos p6]
    right
    unfold zc8 u0 Vw
    dsimp only
    rw [if_pos rfl, if_pos rfl, if_neg p7, if_pos p6]
    decide
  rw [if_neg p6]
  by_cases p5 : g.PC = 5
  · rw [if_pos p5]
    obtain ⟨c1, c2, c3⟩ := G.c5 p5 h0
    obtain ⟨m1, m2, m3, m4, m5⟩ := M.c5 p5
    have r := zid (m := s.M) c1 c2 (.inr m1) (by omega) (fun e => by omega)
    have hpos := zlO (m := s.M) c2
    have hout := XB s.M c1 c2 (.inr m1)
    have he := hE p5
    unfold XP
    dsimp only
    right
    by_cases e1 : (zl s.M g.C).2.Out = 1
    · rw [if_pos e1]
      unfold u0
      dsimp only
      rw [if_neg (by decide), if_pos rfl, if_neg p7, if_neg p6, if_pos p5]
      omega
    · rw [if_neg e1, if_neg he]
      unfold u0
      dsimp only
      rw [if_neg p7, if_neg p6, if_pos p5, if_neg p7, if_neg p6, if_pos p5]
      rcases r with r | r
      · omega
      · omega
  rw [if_neg p5]
  by_cases p4 : g.PC = 4
  · rw [if_pos p4]
    right
    dsimp only
    rw [zho]
    unfold u0
    rw [if_neg p7, if_neg p6, if_neg p5, if_pos p4]
    decide
  rw [if_neg p4]
  by_cases p3 : g.PC = 3
  · rw [if_pos p3]
    obtain ⟨c1, c2, c3⟩ := G.d3 p3 h0
    have hd := c3.pc
    have hr := zol (m := s.M) c3.out hd
    have e0 : u0 s.M g = 7 + (4 - g.D.PC).toNat := by unfold u0; rw [if_neg p7, if_neg p6, if_neg p5, if_neg p4, if_pos p3]
    rw [e0]
    unfold XS
    dsimp only
    split
    · exact .inl (by show (1 : Int) ≠ 0; decide)
    right
    split
    · rw [zho]; omega
    · unfold u0
      dsimp only
      rw [if_neg p7, if_neg p6, if_neg p5, if_neg p4, if_pos p3, hr]
      omega
  rw [if_neg p3]
  by_cases p2 : g.PC = 2
  · rw [if_pos p2]
    exact .inl (by show (1 : Int) ≠ 0; decide)
  rw [if_neg p2]
  right
  by_cases p1 : g.PC = 1
  · rw [if_pos p1]
    have e0 : u0 s.M g = 12 := by unfold u0; rw [if_neg p7, if_neg p6, if_neg p5, if_neg p4, if_neg p3, if_neg p2, if_pos p1]
    rw [e0]
    unfold UR
    dsimp only
    split
    · show u0 s.M { g with PC := 2 } < 12
      unfold u0
      dsimp only
      simp
    split
    · show 7 + (4 - (0 : Int)).toNat < 12
      decide
    split
    · show 8 < 12
      decide
    · rw [zho]; decide
  · rw [if_neg p1]
    have e0 : u0 s.M g = 13 := by unfold u0; rw [if_neg p7, if_neg p6, if_neg p5, if_neg p4, if_neg p3, if_neg p2, if_neg p1]
    rw [e0]
    show 12 < 13
    decide
end
end Go.Pe.G
namespace Go.Pe.G
open Go.Pe
noncomputable section
theorem zmP : ∀ (n : Nat) (l : List Int), l.Nodup → (∀ o ∈ l, 1 ≤ o ∧ o ≤ (n : Int)) → l.length ≤ n
  | 0, [], _, _ => Nat.le_refl _
  | 0, a :: l, _, h => by have := h a (by simp); omega
  | n + 1, l, hd, h => by
    have ih := zmP n (l.erase ((n + 1 : Nat) : Int)) (hd.erase _) (fun o ho => by
      have := (hd.mem_erase_iff).1 ho
      have h2 := h o this.2
      have h3 := this.1
      omega)
    rw [List.length_erase] at ih
    split at ih <;> omega
theorem znN {α β : Type} {f : α → List β} : ∀ (l : List α), (∀ x ∈ l, f x ≠ []) → l.length ≤ (l.flatMap f).length
  | [], _ => Nat.zero_le _
  | a :: l, h => by
    rw [List.flatMap_cons, List.length_append, List.length_cons]
    have h1 := List.length_pos_iff.2 (h a (by simp))
    have h2 := znN l (fun x hx => h x (List.mem_cons_of_mem _ hx))
    omega
theorem zne {p : zb} {nb : Nat} {b : zd} : (yI b).length ≤ (yg b).length := by
  unfold yI yg
  by_cases h : b.Out = 0 ∧ (b.PC = 6 ∨ b.PC = 7)
  · rw [if_pos h, if_pos (by omega)]; exact Nat.le_refl _
  · rw [if_neg h]; exact Nat.zero_le _
theorem GG.empty {p : zb} (hp : zr p) {k : Nat} {s : za} {a b : zd} {gh : Gh} (g : GG p (zF p + 1) k s a b gh) (ha : yI a = []) : gh.E ≠ [] := by
  have hb := WQ hp
  have hm := hp.most
  have hw := hp.wk
  have hmt := hp.mt
  have hall := g.X.L.all.length_eq
  rw [ha] at hall
  have hn : (zdg (zF p + 1)).length = zF p := by unfold zdg; simp
  rw [hn] at hall
  simp only [List.length_append, List.nil_append] at hall
  have hF := znN gh.F g.ne
  have hown := zne (p := p) (nb := 0) (b := b)
  have hbag := zmP p.H.Objs.length _ g.bag.nd (fun o ho => ⟨(zbo ((g.bag.gr o).1 ho)).1, g.mks o ((XR _ _).1 ((g.bag.gr o).1 ho)).1⟩)
  unfold yu at hbag
  simp only [List.length_append] at hbag
  intro e
  rw [e] at hall
  simp only [List.length_nil] at hall
  omega
def ZZ : Nat → za → zd → za × zd
  | 0, s, g => (s, g)
  | n + 1, s, g => ZZ n (zm s g).1 (zm s g).2
theorem GG.ends {p : zb} (hp : zr p) {b : zd} : ∀ (n k : Nat) (s : za) (a : zd) (gh : Gh), k + n < 4294960000 → GG p (zF p + 1) k s a b gh → (a.Out = 0 → u0 s.M a ≤ n) → ∃ gh', GG p (zF p + 1) (k + n) (ZZ n s a).1 (ZZ n s a).2 b gh' ∧ (ZZ n s a).2.Out = 1
  | 0, k, s, a, gh, hk, g, h => by
    refine ⟨gh, g, ?_⟩
    have ho := g.A.o
    show a.Out = 1
    by_cases h0 : a.Out = 0
    · have h1 := h h0
      have : 1 ≤ u0 s.M a := by
        have hpc := g.A.pc
        unfold u0
        split
        · rename_i e; exact zlO ((g.A.c7 e h0).2.1)
        split
        · omega
        split
        · omega
        split
        · omega
        split
        · omega
        split
        · omega
        split <;> omega
      omega
    · omega
  | n + 1, k, s, a, gh, hk, g, h => by
    obtain ⟨gh', g'⟩ := g.left hp (by omega)
    have := GG.ends hp n (k + 1) (zm s a).1 (zm s a).2 gh' (by omega) g' (fun h0' => by
      by_cases h0 : a.Out = 0
      · have h1 := h h0
        have r := zpC hp g.X g.A g.MA h0 (fun h5 e2 => by
          obtain ⟨c1, c2, c3⟩ := g.A.c5 h5 h0
          obtain ⟨m1, m2, m3, m4, m5⟩ := g.MA.c5 h5
          have eo : yI a = [] := xF (.inr ⟨by omega, by omega⟩)
          have S' : SOk p (zF p + 1) { s with M := (zl s.M a.C).1 } := (ziQ hp g.X.S (.inr rfl) m1 m2 m3 m4 m5 (g.oA h5)).1
          rcases SX.popE hp g.X (by omega) m1 m2 m3 c1 c2 c3 m4 S' with ⟨x1, x2, x3, x4⟩ | ⟨x, l, x1, x2, x3⟩
          · exact g.empty hp eo (x4 e2)
          · omega)
        rcases r with r | r
        · exact absurd h0' r
        · omega
      · have e : zm s a = (s, a) := by unfold zm; rw [if_pos (.inl h0)]
        rw [e] at h0'
        exact absurd h0' h0)
    rw [show k + (n + 1) = k + 1 + n by omega]
    exact this
end
end Go.Pe.G
namespace Go.Pe.G
open Go.Pe
noncomputable section
def Za (g : zd) : Prop := g.Out ≠ 0 ∨ 2 ≤ g.PC
def uk (g : zd) : Prop := g.Out = 0 ∧ g.PC = 4
theorem zoz (s : za) {g : zd} (h : s.T.Black = 0#64) (hpc : 0 ≤ g.PC ∧ g.PC ≤ 7) (hmd : 1 ≤ g.Mode ∧ g.Mode ≤ 3) :
    (zm s g).1.T.Black = 0#64 ∧
    ((¬ (g.Out = 0 ∧ g.PC = 1) ∧ (zm s g).1.T = s.T ∧ (Za (zm s g).2 ↔ Za g)) ∨
     (g.Out = 0 ∧ g.PC = 1 ∧ (zm s g).1.T.Marks = s.T.Marks ||| bit g.Obj ∧ Za (zm s g).2)) ∧
    (s.Flag = true → (zm s g).1.Flag = true) ∧ ((zm s g).1.Flag = true → s.Flag = true ∨ uk g) ∧ (uk g → (zm s g).1.Flag = true) ∧
    (uk (zm s g).2 → uk g ∨ (g.Out = 0 ∧ g.PC = 1 ∧ g.Mode = 2)) ∧
    (g.Out = 0 → g.PC = 1 → g.Mode = 2 → ¬ (s.T.Marks ||| bit g.Obj = s.T.Marks) → uk (zm s g).2) := by
  unfold zm
  split
  · rename_i h0
    have h0 : g.Out ≠ 0 := by omega
    exact ⟨h, .inl ⟨fun e => h0 e.1, rfl, Iff.rfl⟩, id, .inl, fun e => absurd e.1 h0, .inl, fun e => absurd e h0⟩
  rename_i hg
  have h0 : g.Out = 0 := by omega
  split
  · rename_i h7
    have hp : (uU s g).2.PC = 7 := by unfold uU; dsimp only; split <;> exact h7
    exact ⟨h, .inl ⟨fun e => by omega, rfl, iff_of_true (.inr (by omega)) (.inr (by omega))⟩, id, .inl, fun e => by have := e.2; omega, fun e => by have := e.2; omega, fun _ e => by omega⟩
  split
  · rename_i h6
    have hp : (zc8 s g).2.PC = 7 := rfl
    exact ⟨h, .inl ⟨fun e => by omega, rfl, iff_of_true (.inr (by omega)) (.inr (by omega))⟩, id, .inl, fun e => by have := e.2; omega, fun e => by have := e.2; omega, fun _ e => by omega⟩
  split
  · rename_i h5
    have hp : (XP s g).2.PC = 6 ∨ (XP s g).2.PC = 5 := by
      unfold XP; dsimp only
      split
      · exact .inl rfl
      split
      · exact .inr rfl
      · exact .inr h5
    exact ⟨h, .inl ⟨fun e => by omega, rfl, iff_of_true (.inr (by omega)) (.inr (by omega))⟩, id, .inl, fun e => by have := e.2; omega, fun e => by have := e.2; omega, fun _ e => by omega⟩
  split
  · rename_i h4
    have hp : (Y2 s.P g).PC = 5 := rfl
    exact ⟨h, .inl ⟨fun e => by omega, rfl, iff_of_true (.inr (by show (2 : Int) ≤ (Y2 s.P g).PC; omega)) (.inr (by omega))⟩, fun _ => rfl, fun _ => .inr ⟨h0, h4⟩, fun _ => rfl, fun e => absurd e.2 (by show ¬ (5 : Int) = 4; decide), fun _ e => by omega⟩
  split
  · rename_i h3
    have hp : (XS s g).2.PC = 3 ∨ (XS s g).2.PC = 5 := by
      unfold XS; dsimp only
      split
      · exact .inl h3
      split
      · exact .inr rfl
      · exact .inl h3
    exact ⟨h, .inl ⟨fun e => by omega, rfl, iff_of_true (.inr (by omega)) (.inr (by omega))⟩, id, .inl, fun e => by have := e.2; omega, fun e => by have := e.2; omega, fun _ e => by omega⟩
  split
  · rename_i h2
    exact ⟨h, .inl ⟨fun e => by omega, rfl, iff_of_true (.inl (by show (1 : Int) ≠ 0; decide)) (.inr (by omega))⟩, id, .inl, fun e => by have := e.2; omega, fun e => absurd e.1 (by show ¬ (1 : Int) = 0; decide), fun _ e => by omega⟩
  split
  · rename_i h1
    have hs : uw s.T g.Obj = if s.T.Marks ||| bit g.Obj = s.T.Marks then (s.T, false) else ({ s.T with Marks := s.T.Marks ||| bit g.Obj }, true) := by
      unfold uw
      by_cases e : s.T.Marks ||| bit g.Obj = s.T.Marks
      · rw [if_pos e, if_pos e]
      · rw [if_neg e, if_neg e, if_pos (by rw [h]; simp)]
    unfold UR
    dsimp only
    rw [hs]
    by_cases e : s.T.Marks ||| bit g.Obj = s.T.Marks
    · rw [if_pos e]
      refine ⟨h, .inr ⟨h0, h1, e.symm, .inr ?_⟩, id, .inl, fun e => by have := e.2; omega, fun _ => ?_, fun _ _ _ x => absurd e x⟩
      · dsimp only; rw [if_pos rfl]; show (2 : Int) ≤ 2; decide
      · rename_i x
        dsimp only at x
        rw [if_pos rfl] at x
        exact absurd x.2 (by show ¬ (2 : Int) = 4; decide)
    · rw [if_neg e]
      dsimp only
      rw [if_neg (by decide)]
      by_cases m1 : g.Mode = 1
      · rw [if_pos m1]
        exact ⟨h, .inr ⟨h0, h1, rfl, .inr (by show (2 : Int) ≤ 3; decide)⟩, id, .inl, fun e => by have := e.2; omega, fun x => absurd x.2 (by show ¬ (3 : Int) = 4; decide), fun _ _ m => by omega⟩
      rw [if_neg m1]
      by_cases m2 : g.Mode = 2
      · rw [if_pos m2]
        exact ⟨h, .inr ⟨h0, h1, rfl, .inr (by show (2 : Int) ≤ 4; decide)⟩, id, .inl, fun e => by have := e.2; omega, fun _ => .inr ⟨h0, h1, m2⟩, fun _ _ _ _ => ⟨h0, rfl⟩⟩
      · rw [if_neg m2]
        exact ⟨h, .inr ⟨h0, h1, rfl, .inr (by show (2 : Int) ≤ 5; decide)⟩, id, .inl, fun e => by have := e.2; omega, fun x => absurd x.2 (by show ¬ (5 : Int) = 4; decide), fun _ _ m => absurd m m2⟩
  · rename_i h1
    exact ⟨h, .inl ⟨fun e => h1 e.2, rfl, iff_of_false (by rintro (e | e); exact e h0; exact absurd e (by show ¬ (2 : Int) ≤ 1; decide)) (by rintro (e | e); exact e h0; omega)⟩, id, .inl, fun e => by have := e.2; omega, fun e => absurd e.2 (by show ¬ (1 : Int) = 4; decide), fun _ e => absurd e h1⟩
structure OI (M0 : BitVec 64) (s : za) (a b : zd) : Prop where
  blk : s.T.Black = 0#64
  mkd : ∀ o, yn s.T.Marks o = true ↔ yn M0 o = true ∨ (Za a ∧ o = a.Obj) ∨ (Za b ∧ o = b.Obj)
  fl : s.Flag = true → a.Mode = 2 ∨ b.Mode = 2
  af : uk a → a.Mode = 2
  bf : uk b → b.Mode = 2
  fa : a.Mode = 2 → ¬ yn M0 a.Obj = true → a.Obj ≠ b.Obj → Za a → uk a ∨ s.Flag = true
  fb : b.Mode = 2 → ¬ yn M0 b.Obj = true → a.Obj ≠ b.Obj → Za b → uk b ∨ s.Flag = true
  fc : a.Mode = 2 → b.Mode = 2 → ¬ yn M0 a.Obj = true → a.Obj = b.Obj → Za a ∨ Za b → uk a ∨ uk b ∨ s.Flag = true
theorem OI.swap {M0 : BitVec 64} {s : za} {a b : zd} (h : OI M0 s a b) : OI M0 s b a :=
  ⟨h.blk, fun o => (h.mkd o).trans (or_congr_right or_comm), fun e => (h.fl e).symm, h.bf, h.af, fun x y z => h.fb x y (fun e => z e.symm), fun x y z => h.fa x y (fun e => z e.symm),
    fun x y z e w => (by rcases h.fc y x (by rw [← e]; exact z) e.symm w.symm with r | r | r; exact .inr (.inl r); exact .inl r; exact .inr (.inr r))⟩
theorem OI.left {M0 : BitVec 64} {s : za} {a b : zd} (h : OI M0 s a b) (hpc : 0 ≤ a.PC ∧ a.PC ≤ 7) (hmd : 1 ≤ a.Mode ∧ a.Mode ≤ 3) (hob : 1 ≤ a.Obj ∧ a.Obj ≤ 64) : OI M0 (zm s a).1 (zm s a).2 b := by
  obtain ⟨g1, g2, g3, g4, g5, g6, g7⟩ := zoz s h.blk hpc hmd
  obtain ⟨s1, s2, s3⟩ := ZI s a
  have hnp : a.Out = 0 → a.PC = 1 → ¬ Za a := fun h0 h1 e => by rcases e with e | e; exact e h0; omega
  have hp' : ∀ {P : Prop}, (Za (zm s a).2) → (a.Out = 0 → a.PC = 1 → P) → (Za a → P) → P := fun e f f2 => by
    rcases g2 with ⟨_, _, r⟩ | ⟨r0, r1, _, _⟩
    · exact f2 (r.1 e)
    · exact f r0 r1
  refine ⟨g1, fun o => ?_, fun e => ?_, fun e => ?_, h.bf, fun m n d e => ?_, fun m n d e => ?_, fun m n z d e => ?_⟩
  · rw [s1]
    rcases g2 with ⟨r1, r2, r3⟩ | ⟨r0, r1, r2, r3⟩
    · rw [r2, h.mkd, r3]
    · rw [r2, vy _ hob, h.mkd]
      constructor
      · rintro ((e | e | e) | e)
        · exact .inl e
        · exact absurd e.1 (hnp r0 r1)
        · exact .inr (.inr e)
        · exact .inr (.inl ⟨r3, e⟩)
      · rintro (e | e | e)
        · exact .inl (.inl e)
        · exact .inr e.2
        · exact .inl (.inr (.inr e))
  · rw [s3]
    rcases g4 e with e | e
    · exact h.fl e
    · exact .inl (h.af e)
  · rw [s3]
    rcases g6 e with e | e
    · exact h.af e
    · exact e.2.2
  · rw [s3] at m
    rw [s1] at n d
    refine hp' e (fun h0 h1 => ?_) (fun hpa => ?_)
    · left
      refine g7 h0 h1 m ((Vr hob).2 (fun hm => ?_))
      rcases (h.mkd a.Obj).1 hm with x | x | x
      · exact n x
      · exact hnp h0 h1 x.1
      · exact d x.2
    · rcases h.fa m n d hpa with x | x
      · exact .inr (g5 x)
      · exact .inr (g3 x)
  · rw [s1] at d
    rcases h.fb m n d e with x | x
    · exact .inl x
    · exact .inr (g3 x)
  · rw [s3] at m
    rw [s1] at z d
    have old : Za a ∨ Za b → uk (zm s a).2 ∨ uk b ∨ (zm s a).1.Flag = true := fun w => by
      rcases h.fc m n z d w with x | x | x
      · exact .inr (.inr (g5 x))
      · exact .inr (.inl x)
      · exact .inr (.inr (g3 x))
    rcases e with e | e
    · refine hp' e (fun h0 h1 => ?_) (fun hpa => old (.inl hpa))
      by_cases hpb : Za b
      · exact old (.inr hpb)
      · left
        refine g7 h0 h1 m ((Vr hob).2 (fun hm => ?_))
        rcases (h.mkd a.Obj).1 hm with x | x | x
        · exact z x
        · exact hnp h0 h1 x.1
        · exact hpb x.1
    · exact old (.inr e)
theorem zj8 {p : zb} (hp : zr p) {nb k : Nat} (hk : k < 4294960000) {M0 : BitVec 64} {s : za} {a b : zd} {gh : Gh} (g : GG p nb k s a b gh) (o : OI M0 s a b) : ∃ gh', GG p nb (k + 1) (zm s a).1 (zm s a).2 b gh' ∧ OI M0 (zm s a).1 (zm s a).2 b := by
  obtain ⟨gh', g'⟩ := g.left hp hk
  exact ⟨gh', g', o.left g.A.pc g.A.md g.A.ob⟩
theorem zh2 {p : zb} (hp : zr p) {nb : Nat} {M0 : BitVec 64} {b : zd} : ∀ (n k : Nat) (s : za) (a : zd) (gh : Gh), k + n < 4294960000 → GG p nb k s a b gh → OI M0 s a b → OI M0 (ZZ n s a).1 (ZZ n s a).2 b
  | 0, k, s, a, gh, _, _, o => o
  | n + 1, k, s, a, gh, hk, g, o => by
    obtain ⟨gh', g', o'⟩ := zj8 hp (by omega) g o
    exact zh2 hp n (k + 1) _ _ gh' (by omega) g' o'
theorem zk2 : ∀ (n : Nat) (s : za) (g : zd), (ZZ n s g).2.Obj = g.Obj ∧ (ZZ n s g).2.Mode = g.Mode
  | 0, s, g => ⟨rfl, rfl⟩
  | n + 1, s, g => by
    obtain ⟨a, b⟩ := zk2 n (zm s g).1 (zm s g).2
    obtain ⟨c, d, e⟩ := ZI s g
    exact ⟨a.trans c, b.trans e⟩
theorem znH {p : zb} {s : za} {g : zd} {gh : Gh} (G : GX p s gh g) (h0 : g.Out = 0) : u0 s.M g ≤ 60 := by
  have hpc := G.pc
  unfold u0
  split
  · rename_i h; have := znG s.M (G.c7 h h0).2.1.1; omega
  split
  · omega
  split
  · rename_i h; have := znG s.M (G.c5 h h0).2.1.1; omega
  split
  · omega
  split
  · rename_i h; have := (G.d3 h h0).2.2.pc; omega
  split
  · omega
  split <;> omega
theorem OI.start {p : zb} {ma oa wa mb ob wb : Int} : OI (z8 p).T.Marks (z8 p) (yX ma oa wa) (yX mb ob wb) := by
  have np : ∀ m o w : Int, ¬ Za (yX m o w) := fun m o w e => by
    rcases e with e | e
    · exact e rfl
    · exact absurd e (by show ¬ (2 : Int) ≤ 0; decide)
  have na : ∀ m o w : Int, ¬ uk (yX m o w) := fun m o w e => absurd e.2 (by show ¬ (0 : Int) = 4; decide)
  exact ⟨rfl, fun o => ⟨.inl, fun e => e.elim id (fun e => e.elim (fun e => absurd e.1 (np _ _ _)) (fun e => absurd e.1 (np _ _ _)))⟩, fun e => (by cases e), fun e => absurd e (na _ _ _), fun e => absurd e (na _ _ _), fun _ _ _ e => absurd e (np _ _ _), fun _ _ _ e => absurd e (np _ _ _), fun _ _ _ _ e => e.elim (fun e => absurd e (np _ _ _)) (fun e => absurd e (np _ _ _))⟩
theorem OI.fin {M0 : BitVec 64} {s : za} {a b : zd} (h : OI M0 s a b) (ha : a.Out = 1) (hb : b.Out = 1) (oa : 1 ≤ a.Obj ∧ a.Obj ≤ 64) (ob : 1 ≤ b.Obj ∧ b.Obj ≤ 64) :
    s.T.Marks = (M0 ||| bit a.Obj) ||| bit b.Obj ∧ (a.Mode = 2 → ¬ yn M0 a.Obj = true → a.Obj ≠ b.Obj → s.Flag = true) ∧ (b.Mode = 2 → ¬ yn M0 b.Obj = true → a.Obj ≠ b.Obj → s.Flag = true) ∧ (a.Mode = 2 → b.Mode = 2 → ¬ yn M0 a.Obj = true → a.Obj = b.Obj → s.Flag = true) := by
  have pa : Za a := .inl (by omega)
  have pb : Za b := .inl (by omega)
  have na : ¬ uk a := fun e => by have := e.1; omega
  have nb : ¬ uk b := fun e => by have := e.1; omega
  refine ⟨zgB (fun o => ?_), fun x y z => (h.fa x y z pa).resolve_left na, fun x y z => (h.fb x y z pb).resolve_left nb, fun x y z w => ((h.fc x y z w (.inl pa)).resolve_left na).resolve_left nb⟩
  rw [vy _ ob, vy _ oa, h.mkd]
  constructor
  · rintro (e | e | e)
    · exact .inl (.inl e)
    · exact .inl (.inr e.2)
    · exact .inr e.2
  · rintro ((e | e) | e)
    · exact .inl e
    · exact .inr (.inl ⟨pa, e⟩)
    · exact .inr (.inr ⟨pb, e⟩)
end
end Go.Pe.G
namespace Go.Pe.G
open Go.Pe
noncomputable section
namespace B14
def vj : List (BitVec 8) → za → zd → zd → za × zd × zd
  | [], s, a, b => (s, a, b)
  | x :: r, s, a, b => if (x % 2#8).toNat = 0 then vj r (zm s a).1 (zm s a).2 b else vj r (zm s b).1 a (zm s b).2
structure TG (p : zb) (nb : Nat) (s : za) (a b : zd) : Prop where
  A : RG p nb s a
  B : RG p nb s b
theorem TG.left {p : zb} {nb : Nat} {s : za} {a b : zd} (h : zr p) (t : TG p nb s a b) : TG p nb (zm s a).1 (zm s a).2 b :=
  ⟨t.A.step h, ⟨(t.A.step h).S, t.B.M, t.B.o⟩⟩
theorem TG.right {p : zb} {nb : Nat} {s : za} {a b : zd} (h : zr p) (t : TG p nb s a b) : TG p nb (zm s b).1 a (zm s b).2 :=
  ⟨⟨(t.B.step h).S, t.A.M, t.A.o⟩, t.B.step h⟩
theorem ze0 {R : za → zd → zd → Prop} (hl : ∀ s a b, R s a b → R (zm s a).1 (zm s a).2 b) (hr : ∀ s a b, R s a b → R (zm s b).1 a (zm s b).2) :
    ∀ (l : List (BitVec 8)) (s : za) (a b : zd), R s a b → R (vj l s a b).1 (vj l s a b).2.1 (vj l s a b).2.2
  | [], s, a, b, h => h
  | x :: l, s, a, b, h => by
    unfold vj
    split
    · exact ze0 hl hr l _ _ _ (hl _ _ _ h)
    · exact ze0 hl hr l _ _ _ (hr _ _ _ h)
structure zbA (p : zb) (a b : zd) : Prop where
  M : zr p
  A : zls p a
  B : zls p b
  apart : ¬ (a.Mode = 1 ∧ b.Mode = 1 ∧ a.Who = b.Who)
theorem zbA.start {p : zb} {a b : zd} (h : zbA p a b) : TG p (zF p + 1) (z8 p) a b :=
  ⟨by rw [h.A.is]; exact ze4 (zd4 h.M) h.A.who, by rw [h.B.is]; exact ze4 (zd4 h.M) h.B.who⟩
theorem zmu {x : BitVec 8} : (x % 3#8 = 0#8) ↔ 1 + ((x % 3#8).toNat : Int) = 1 := by
  constructor
  · intro h; rw [h]; rfl
  · intro h; apply BitVec.eq_of_toNat_eq; show _ = 0; omega
theorem ztv (s : za) (g : zd) : (zm s g).1.Ws = s.Ws := by
  obtain ⟨m, b, t, w, f, e, _⟩ := zff s g
  rw [e]
theorem zhE {p : zb} {nb : Nat} (h : zr p) {ord : List (BitVec 8)} {s3 : Int} {s4 : Int} {s5 : Int} {s6 : Int} {s7 : Int} {s8 : Int} {s9 : Int} {s10 : Int} {s11 : Int} {s12 : BitVec 64} {s13 : Int} {s14 : zo} {s15 : Int} {s16 : Int} {s17 : Bool} {s18 : Bool} {s19 : Int} {s20 : Int} {s21 : Int} {s22 : Int} {s23 : zn} {s26 : List (List Int)} {s27 : List (List Int)} {s28 : List (List zj)} {s29 : List zk} {s30 : List (List Int)} {s31 : List (BitVec 64)} {s32 : List (List Int)} {s33 : List Int} {s34 : List Int} {s35 : List zi} {s36 : List ze} : ∀ (k : Nat) (s : za) (a b : zd) (i : Nat), 60 - i = k → i ≤ 60 → TG p nb s a b →
    ∀ n, k < n → xl yJ n (ord, (i : Int), s3, s4, s5, s6, s7, s8, s9, s10, s11, s12, s13, s14, s15, s16, s17, s18, s19, s20, s21, s22, s23, s, [a, b], s26, s27, s28, s29, s30, s31, s32, s33, s34, s35, s36, ()) = some (.brk (s3, s4, s5, s6, s7, s8, s9, s10, s11, s12, s13, s14, s15, s16, s17, s18, s19, s20, s21, s22, s23, (vj ((ord.take 60).drop i) s a b).1, [(vj ((ord.take 60).drop i) s a b).2.1, (vj ((ord.take 60).drop i) s a b).2.2], s26, s27, s28, s29, s30, s31, s32, s33, s34, s35, s36, ()))
  | 0, s, a, b, i, hk, hi, t, n + 1, hn => by
    have : i = 60 := by omega
    subst this
    have e : (ord.take 60).drop 60 = [] := List.drop_eq_nil_of_le (List.length_take_le _ _)
    simp only [xl]
    rw [Wo, zt, e]
    split
    · rw [zt, if_neg (by omega)]; rfl
    · rfl
  | k + 1, s, a, b, i, hk, hi, t, n + 1, hn => by
    simp only [xl]
    rw [Wo, zt]
    rcases Nat.lt_or_ge i ord.length with hlt | hge
    · have hx := List.getElem?_eq_getElem hlt
      rw [if_pos (by omega), zt, if_pos (by omega), uI hx, Option.bind_some]
      have e : (ord.take 60).drop i = ord[i] :: (ord.take 60).drop (i + 1) := by
        rw [List.drop_eq_getElem_cons (by rw [List.length_take]; omega), List.getElem_take]
      have h2 : (ord[i] % 2#8).toNat < 2 := by rw [BitVec.toNat_umod]; exact Nat.mod_lt _ (by decide)
      rw [e]
      rcases Nat.lt_or_ge (ord[i] % 2#8).toNat 1 with h0 | h1
      · have h0 : (ord[i] % 2#8).toNat = 0 := by omega
        rw [h0, uJ (by decide) (by simp), Option.bind_some]
        show Option.bind (Option.bind (some a) _) _ = _
        rw [Option.bind_some, zde (t.A.S.gok h t.A.M), Option.bind_some, Option.bind_some, wu (by omega)]
        dsimp only
        rw [vj, if_pos h0]
        exact zhE h (ord := ord) k (zm s a).1 (zm s a).2 b (i + 1) (by omega) (by omega) (t.left h) n (by omega)
      · have h0 : (ord[i] % 2#8).toNat = 1 := by omega
        rw [h0, uJ (by decide) (by simp), Option.bind_some]
        show Option.bind (Option.bind (some b) _) _ = _
        rw [Option.bind_some, zde (t.B.S.gok h t.B.M), Option.bind_some, Option.bind_some, wu (by omega)]
        dsimp only
        rw [vj, if_neg (by omega)]
        exact zhE h (ord := ord) k (zm s b).1 a (zm s b).2 (i + 1) (by omega) (by omega) (t.right h) n (by omega)
    · have e : (ord.take 60).drop i = [] := List.drop_eq_nil_of_le (by rw [List.length_take]; omega)
      rw [if_neg (by omega), e]; rfl
theorem zpn {p : zb} {a b : zd} (h : zbA p a b) (ord : List (BitVec 8)) : yf yJ (ord, 0, (0), (0), (0), (0), (0), (0), (0), (0), (0), (0#64), (0), (zo.mk 0#64 0#64), (0), (0), (false), (false), (0), (0), (0), (0), (zn.mk 0 0), (z8 p), [a, b], ([]), ([]), ([]), ([]), ([]), ([]), ([]), ([]), ([]), ([]), ([]), ()) = some (.brk ((0), (0), (0), (0), (0), (0), (0), (0), (0), (0#64), (0), (zo.mk 0#64 0#64), (0), (0), (false), (false), (0), (0), (0), (0), (zn.mk 0 0), (vj (ord.take 60) (z8 p) a b).1, [(vj (ord.take 60) (z8 p) a b).2.1, (vj (ord.take 60) (z8 p) a b).2.2], ([]), ([]), ([]), ([]), ([]), ([]), ([]), ([]), ([]), ([]), ([]), ())) := by
  have e := zhE (nb := zF p + 1) (s3 := 0) (s4 := 0) (s5 := 0) (s6 := 0) (s7 := 0) (s8 := 0) (s9 := 0) (s10 := 0) (s11 := 0) (s12 := 0#64) (s13 := 0) (s14 := zo.mk 0#64 0#64) (s15 := 0) (s16 := 0) (s17 := false) (s18 := false) (s19 := 0) (s20 := 0) (s21 := 0) (s22 := 0) (s23 := zn.mk 0 0) (s26 := []) (s27 := []) (s28 := []) (s29 := []) (s30 := []) (s31 := []) (s32 := []) (s33 := []) (s34 := []) (s35 := []) (s36 := []) h.M (ord := ord) 60 (z8 p) a b 0 (by omega) (by omega) h.start uj (yQ (by omega))
  rw [show ((0 : Nat) : Int) = 0 from rfl, List.drop_zero] at e
  rw [ZE, e]
theorem zsD (l : List (BitVec 8)) (ga gb : ya) : ∃ p a b, zbA p a b ∧ ul l = some (p, ()) ∧ xV ga p = some (a, ()) ∧ ∀ ord, WY l ga gb ord = some ((vj (ord.take 60) (z8 p) a b).1, [(vj (ord.take 60) (z8 p) a b).2.1, (vj (ord.take 60) (z8 p) a b).2.2], ()) := by
  obtain ⟨p, ep, h⟩ := zru l
  obtain ⟨a, ea, ha, ma⟩ := ziA ga h
  obtain ⟨b, eb, hb, mb⟩ := ziA gb h
  have hw := h.wk
  have i0 : xH ([a, b] : List zd) 0 = some 0 := by rw [uJ (by decide) (by simp)]; rfl
  have i1 : xH ([a, b] : List zd) 1 = some 1 := by rw [uJ (by decide) (by simp)]; rfl
  by_cases hc : (ga.Mode % 3#8 = 0#8 ∧ gb.Mode % 3#8 = 0#8) ∧ a.Who = b.Who
  · have hb' : zls p (yX 3 b.Obj 1) := ⟨rfl, (by decide : 1 ≤ (3 : Int) ∧ (3 : Int) ≤ 3), hb.obj, by show 1 ≤ (1 : Int) ∧ 1 ≤ p.Workers; omega⟩
    refine ⟨p, a, yX 3 b.Obj 1, ⟨h, ha, hb', fun e => absurd e.2.1 (by decide : ¬ (3 : Int) = 1)⟩, ep, ea, fun ord => ?_⟩
    have ht : zbA p a (yX 3 b.Obj 1) := ⟨h, ha, hb', fun e => absurd e.2.1 (by decide : ¬ (3 : Int) = 1)⟩
    rw [V8, ep]
    simp only [Option.bind_some, zdp h, ea, eb, i0, i1, hc.1.1, hc.1.2, decide_true, cond_true]
    rw [show ([a, b] : List zd)[0]? = some a from rfl, Option.bind_some, show ([a, b] : List zd)[1]? = some b from rfl, Option.bind_some, zt, if_pos hc.2, Option.bind_some, zfg, Option.bind_some]
    show Option.bind (yf yJ (ord, 0, (0), (0), (0), (0), (0), (0), (0), (0), (0), (0#64), (0), (zo.mk 0#64 0#64), (0), (0), (false), (false), (0), (0), (0), (0), (zn.mk 0 0), (z8 p), [a, yX 3 b.Obj 1], ([]), ([]), ([]), ([]), ([]), ([]), ([]), ([]), ([]), ([]), ([]), ())) _ = _
    rw [zpn ht ord]
    rfl
  · have ht : zbA p a b := by
      refine ⟨h, ha, hb, fun e => hc ⟨⟨zmu.2 (ma ▸ e.1), zmu.2 (mb ▸ e.2.1)⟩, e.2.2⟩⟩
    refine ⟨p, a, b, ht, ep, ea, fun ord => ?_⟩
    rw [V8, ep]
    simp only [Option.bind_some, zdp h, ea, eb, i0, i1]
    rw [show ([a, b] : List zd)[0]? = some a from rfl, show ([a, b] : List zd)[1]? = some b from rfl]
    simp only [Option.bind_some, zt]
    have key : yf yJ (ord, 0, (0), (0), (0), (0), (0), (0), (0), (0), (0), (0#64), (0), (zo.mk 0#64 0#64), (0), (0), (false), (false), (0), (0), (0), (0), (zn.mk 0 0), (z8 p), [a, b], ([]), ([]), ([]), ([]), ([]), ([]), ([]), ([]), ([]), ([]), ([]), ()) = _ := zpn ht ord
    by_cases h1 : ga.Mode % 3#8 = 0#8
    · rw [if_pos h1]
      by_cases h2 : gb.Mode % 3#8 = 0#8
      · rw [if_pos h2, if_neg (fun e => hc ⟨⟨h1, h2⟩, e⟩), key]; rfl
      · rw [if_neg h2, key]; rfl
    · rw [if_neg h1, key]; rfl
theorem zqA {A B D : Type} {f : A → Option (xm A B D)} {x : A} {b : B} (h : f x = some (.brk b)) : yf f x = some (.brk b) := by
  rw [ZE]
  show xl f (18446744073709551615 + 1) x = _
  rw [xl, h]; rfl
def zac (m : List (BitVec 64)) (next : Int) : Nat → Int → List Int
  | 0, _ => []
  | k + 1, x => if x = 0 then [] else x :: zac m next k (ld m (wc (next + x))).toInt
theorem zkR {m : List (BitVec 64)} {next most : Int} (hm : 0 ≤ most ∧ most ≤ 1000) : ∀ (k : Nat) (x : Int) (acc : List Int), (most - (acc.length : Int)).toNat = k → ∀ n, k < n →
    xl VL n (m, next, most, x, acc, ()) = some (.brk (acc ++ zac m next k x, ()))
  | 0, x, acc, hk, n + 1, hn => by
    simp only [xl]
    rw [zay, yR, zt]
    by_cases h : x = 0
    · rw [if_pos h]; simp [zac]
    · rw [if_neg h]
      simp only [zt]
      rw [if_neg (show ¬ 1000 < most by omega), if_neg (by omega)]; simp [zac]
  | k + 1, x, acc, hk, n + 1, hn => by
    simp only [xl]
    rw [zay, yR, zt]
    by_cases h : x = 0
    · rw [if_pos h]; simp [zac, h]
    · rw [if_neg h]
      simp only [zt]
      rw [if_neg (show ¬ 1000 < most by omega), if_pos (by omega), xY (by simp; omega), Option.bind_some, za7, Option.bind_some, Option.bind_some, vJ]
      dsimp only
      rw [zkR hm k _ (acc ++ [x]) (by simp; omega) n (by omega)]
      simp [zac, h]
theorem zox {m : List (BitVec 64)} {head next most : Int} (hm : 0 ≤ most ∧ most ≤ 1000) : Xg m head next most = some (zac m next most.toNat (zT (ld m head)), ()) := by
  rw [zir, za7, Option.bind_some, VD, Option.bind_some, ZE, zkR hm most.toNat _ [] (by simp) uj (yQ (by omega))]
  rfl
theorem znc (m : List (BitVec 64)) (head next : Int) : Xg m head next 9 = some (zac m next 9 (zT (ld m head)), ()) := zox (by omega)
def atG (g : zd) (a b c : Int) : Int := if g.Out = 0 ∧ a ≤ g.PC ∧ g.PC ≤ b then c else 0
theorem zj4 (g : zd) (a b c : Int) : zap g a b c = some (atG g a b c, ()) := by
  rw [zmr]; simp only [zt]; unfold atG
  by_cases h1 : g.Out = 0 <;> by_cases h2 : a ≤ g.PC <;> by_cases h3 : g.PC ≤ b <;> simp [h1, h2, h3]
theorem zqb (g : zd) : zdD g = some (atG g 0 1 g.Obj, ()) := by rw [zkq, zj4]; rfl
theorem zpD (g : zd) : zdU g = some (atG g 1 2 1, ()) := by rw [zkj, zj4]; rfl
theorem zoI (g : zd) : Vs g = some (atG g 3 7 g.Obj, ()) := by rw [zjd, zj4]; rfl
def zcC : zb := ⟨1, 0, 2, 1, 1, 4, 2, 2, ⟨1, [[2], [0], [0]]⟩, 1#64, [], [], []⟩
theorem zre : Xy [] = some (zcC, ()) := by
  rw [zei, zqA (by rw [zcs]; rfl)]; rfl
theorem zbm : zr zcC := by
  constructor
  case objs => intro o ho; simp [zcC] at ho ⊢; rcases ho with rfl | rfl | rfl <;> simp
  case roots => exact ⟨1, by decide, by decide, by decide⟩
  case reg => intro r hr; cases hr
  case prog => intro k r ops hr; cases hr
  all_goals first | decide | rfl
theorem zlk : Yf = some (true, ()) := by
  have S := zd4 zbm
  have r1 := fun mode obj => zlV zbm (ze4 (mode := mode) (obj := obj) (who := 1) S (by decide)) (k := 30) (by decide)
  have r2 := fun mode obj => ze4 (mode := mode) (obj := obj) (who := 1) S (by decide)
  have e1 : YM (z8 zcC) (yX 1 2 1) = some ((zm (z8 zcC) (yX 1 2 1)).1, (zm (z8 zcC) (yX 1 2 1)).2, ()) := zde (SOk.gok zbm S (r2 1 2).M)
  have r1' : ∀ mode obj, yU (z8 zcC) (yX mode obj 1) 30 = _ := r1
  rw [zbW, zre]
  simp only [Option.bind_some, zdp zbm, zfg, r1', e1, zbq, zbl, znc, zqb, zpD, zoI]
  decide +kernel
theorem zq1 {p : zb} {a b : zd} (h : zbA p a b) : GG p (zF p + 1) 0 (z8 p) a b (gh0 p) := by
  rw [h.A.is, h.B.is]
  exact zso h.M h.A.mode h.A.obj h.A.who h.B.mode h.B.obj h.B.who h.apart
def wL (g : zd) : Int := atG g 1 2 1
theorem zjP (g : zd) : 0 ≤ wL g ∧ wL g ≤ 1 := by unfold wL atG; split <;> omega
theorem yK {g : zd} (h : g.Out ≠ 0 ∨ g.PC < 1 ∨ 2 < g.PC) : wL g = 0 := by unfold wL atG; rw [if_neg (by omega)]
theorem zeR {g : zd} (h : g.Out = 0) (h1 : 1 ≤ g.PC) (h2 : g.PC ≤ 2) : wL g = 1 := by unfold wL atG; rw [if_pos ⟨h, h1, h2⟩]
theorem zr0 : ∀ t : Fin 64, 0 ≤ cnt (BitVec.ofNat 64 t.1) ∧ cnt (BitVec.ofNat 64 t.1) ≤ 6 := by decide +kernel
theorem zm8 : ∀ (t : Fin 64) (k : Fin 6), BitVec.ofNat 64 t.1 ||| bit ((k.1 : Int) + 1) ≠ BitVec.ofNat 64 t.1 → cnt (BitVec.ofNat 64 t.1 ||| bit ((k.1 : Int) + 1)) = cnt (BitVec.ofNat 64 t.1) + 1 := by decide +kernel
theorem zpv {m : BitVec 64} (h : m &&& ~~~63#64 = 0#64) : 0 ≤ cnt m ∧ cnt m ≤ 6 := by
  obtain ⟨t, rfl⟩ := zfd h
  exact zr0 t
theorem zrD {m : BitVec 64} (h : m &&& ~~~63#64 = 0#64) {o : Int} (ho : 1 ≤ o ∧ o ≤ 6) (hn : m ||| bit o ≠ m) : cnt (m ||| bit o) = cnt m + 1 := by
  obtain ⟨t, rfl⟩ := zfd h
  have e : (((⟨(o - 1).toNat, by omega⟩ : Fin 6).1 : Int) + 1) = o := by show (((o - 1).toNat : Nat) : Int) + 1 = o; omega
  have := zm8 t ⟨(o - 1).toNat, by omega⟩
  rw [e] at this
  exact this hn
theorem zsc {o : Int} (ho : 1 ≤ o ∧ o ≤ 6) : bit o &&& ~~~63#64 = 0#64 := by
  have := zo7 ⟨o.toNat, by omega⟩
  simpa [Int.toNat_of_nonneg (show 0 ≤ o by omega)] using this
structure TOk (s : za) : Prop where
  black : s.T.Black = 0#64
  small : s.T.Marks &&& ~~~63#64 = 0#64
theorem zq6 {s : za} (h : TOk s) (o : Int) : uw s.T o = if s.T.Marks ||| bit o = s.T.Marks then (s.T, false) else ({ s.T with Marks := s.T.Marks ||| bit o }, true) := by
  unfold uw
  by_cases e : s.T.Marks ||| bit o = s.T.Marks
  · rw [if_pos e, if_pos e]
  · rw [if_neg e, if_neg e, if_pos (by rw [h.black]; simp)]
theorem ziU {s : za} {g : zd} {k : Int} (h : TOk s) (ho : 1 ≤ g.Obj ∧ g.Obj ≤ 6) (hk : 0 ≤ k ∧ k ≤ 10) (hW : s.Work = cnt s.T.Marks + wL g + k) :
    TOk (zm s g).1 ∧ (zm s g).1.Work = cnt (zm s g).1.T.Marks + wL (zm s g).2 + k := by
  have hc := zpv h.small
  have hb := zjP g
  unfold zm
  split
  · exact ⟨h, hW⟩
  rename_i hg
  split
  · rename_i h7
    refine ⟨⟨h.black, h.small⟩, ?_⟩
    have e0 : wL g = 0 := yK (by omega)
    have e1 : wL (uU s g).2 = 0 := by
      unfold uU
      dsimp only
      split <;> exact yK (by dsimp only; omega)
    rw [e1]
    rw [e0] at hW
    exact hW
  split
  · refine ⟨⟨h.black, h.small⟩, ?_⟩
    have e0 : wL g = 0 := yK (by omega)
    rw [e0] at hW
    rw [show wL (zc8 s g).2 = 0 from yK (.inr (.inr (by show (2 : Int) < 7; decide)))]
    exact hW
  split
  · refine ⟨⟨h.black, h.small⟩, ?_⟩
    have e0 : wL g = 0 := yK (by omega)
    have e1 : wL (XP s g).2 = 0 := by
      unfold XP Y2
      dsimp only
      split
      · exact yK (by dsimp only; omega)
      · split <;> exact yK (by dsimp only; omega)
    rw [e1]
    rw [e0] at hW
    exact hW
  split
  · refine ⟨⟨h.black, h.small⟩, ?_⟩
    have e0 : wL g = 0 := yK (by omega)
    rw [e0] at hW
    rw [show wL (Y2 s.P g) = 0 from yK (.inr (.inr (by show (2 : Int) < 5; decide)))]
    exact hW
  split
  · refine ⟨⟨h.black, h.small⟩, ?_⟩
    have e0 : wL g = 0 := yK (by omega)
    have e1 : wL (XS s g).2 = 0 := by
      unfold XS Y2
      dsimp only
      split
      · exact yK (by dsimp only; omega)
      · split <;> exact yK (by dsimp only; omega)
    rw [e1]
    rw [e0] at hW
    exact hW
  split
  · rename_i h2
    refine ⟨⟨h.black, h.small⟩, ?_⟩
    have e0 : wL g = 1 := zeR (by omega) (by omega) (by omega)
    rw [e0] at hW
    rw [show wL { g with Out := 1 } = 0 from yK (.inl (by show (1 : Int) ≠ 0; decide))]
    dsimp only
    rw [xk (by omega) (by omega)]
    omega
  split
  · rename_i h1
    have e0 : wL g = 1 := zeR (by omega) (by omega) (by omega)
    rw [e0] at hW
    unfold UR
    dsimp only
    rw [zq6 h]
    by_cases e : s.T.Marks ||| bit g.Obj = s.T.Marks
    · rw [if_pos e]
      refine ⟨⟨h.black, h.small⟩, ?_⟩
      dsimp only
      rw [if_pos rfl, zeR (by show g.Out = 0; omega) (by show (1 : Int) ≤ 2; decide) (by show (2 : Int) ≤ 2; decide)]
      exact hW
    · rw [if_neg e]
      refine ⟨⟨h.black, zhk h.small (zsc ho)⟩, ?_⟩
      dsimp only
      rw [if_neg (by decide), zrD h.small ho e]
      have e1 : wL (if g.Mode = 1 then { g with PC := 3, D := ⟨1, 0, zB s.P g.Who, s.P.Cap, 0#64, 0#64, g.Obj, 0⟩ } else if g.Mode = 2 then { g with PC := 4 } else Y2 s.P g) = 0 := by
        unfold Y2
        split
        · exact yK (by dsimp only; omega)
        · split <;> exact yK (by dsimp only; omega)
      rw [e1]
      omega
  · rename_i h1
    refine ⟨⟨h.black, h.small⟩, ?_⟩
    have e0 : wL g = 0 := yK (by omega)
    rw [e0] at hW
    rw [zeR (by show g.Out = 0; omega) (by show (1 : Int) ≤ 1; decide) (by show (1 : Int) ≤ 2; decide)]
    dsimp only
    rw [xk (by omega) (by omega)]
    omega
structure CI (s : za) (a b : zd) : Prop where
  T : TOk s
  A : 1 ≤ a.Obj ∧ a.Obj ≤ 6
  B : 1 ≤ b.Obj ∧ b.Obj ≤ 6
  W : s.Work = cnt s.T.Marks + wL a + wL b
theorem CI.left {s : za} {a b : zd} (h : CI s a b) : CI (zm s a).1 (zm s a).2 b := by
  have hb := zjP b
  obtain ⟨t, w⟩ := ziU h.T h.A (k := wL b) (by omega) h.W
  exact ⟨t, by rw [(ZI s a).1]; exact h.A, h.B, w⟩
theorem CI.right {s : za} {a b : zd} (h : CI s a b) : CI (zm s b).1 a (zm s b).2 := by
  have ha := zjP a
  obtain ⟨t, w⟩ := ziU h.T h.B (k := wL a) (by omega) (by have := h.W; omega)
  exact ⟨t, h.A, by rw [(ZI s b).1]; exact h.B, by rw [w]; omega⟩
theorem CI.start {p : zb} {a b : zd} (h : zbA p a b) : CI (z8 p) a b := by
  have hn := h.M.n
  refine ⟨⟨rfl, YR h.M⟩, ⟨h.A.obj.1, by have := h.A.obj.2; omega⟩, ⟨h.B.obj.1, by have := h.B.obj.2; omega⟩, ?_⟩
  rw [h.A.is, h.B.is, yK (.inr (.inl (by show (0 : Int) < 1; decide))), yK (.inr (.inl (by show (0 : Int) < 1; decide)))]
  show cnt (ww p) = cnt (ww p) + 0 + 0
  omega
theorem CI.two {p : zb} {a b : zd} (h : zbA p a b) (l : List (BitVec 8)) : CI (vj l (z8 p) a b).1 (vj l (z8 p) a b).2.1 (vj l (z8 p) a b).2.2 :=
  ze0 (R := CI) (fun _ _ _ h => h.left) (fun _ _ _ h => h.right) l _ _ _ (CI.start h)
theorem zpc (t : zo) (o : Int) : zaB t o = some (wP t o, ()) := by
  rw [zma, zj3, Option.bind_some]
  show (bif yn (t.Marks &&& t.Black) o then _ else _) = _
  unfold wP
  cases h : yn (t.Marks &&& t.Black) o with
  | true => rfl
  | false =>
    rw [cond_false, zj3, Option.bind_some]
    show (bif yn t.Marks o then _ else _) = _
    cases h2 : yn t.Marks o <;> rfl
theorem CI.swap {s : za} {a b : zd} (h : CI s a b) : CI s b a := ⟨h.T, h.B, h.A, by have := h.W; omega⟩
theorem zmh {p : zb} (hp : zr p) {nb : Nat} {M0 : BitVec 64} : ∀ (l : List (BitVec 8)) (k : Nat) (s : za) (a b : zd) (gh : Gh), k + l.length ≤ 1000 → GG p nb k s a b gh → OI M0 s a b → ∃ k' gh', k' ≤ 1000 ∧ GG p nb k' (vj l s a b).1 (vj l s a b).2.1 (vj l s a b).2.2 gh' ∧ OI M0 (vj l s a b).1 (vj l s a b).2.1 (vj l s a b).2.2
  | [], k, s, a, b, gh, hk, g, o => ⟨k, gh, by simpa using hk, g, o⟩
  | x :: l, k, s, a, b, gh, hk, g, o => by
    rw [List.length_cons] at hk
    unfold vj
    split
    · obtain ⟨gh', g', o'⟩ := zj8 hp (by omega) g o
      exact zmh hp l (k + 1) _ _ _ gh' (by omega) g' o'
    · obtain ⟨gh', g', o'⟩ := zj8 hp (by omega) g.swap o.swap
      exact zmh hp l (k + 1) _ _ _ gh' (by omega) g'.swap o'.swap
theorem zhY {b : zd} : ∀ (n : Nat) (s : za) (a : zd), CI s a b → CI (ZZ n s a).1 (ZZ n s a).2 b
  | 0, s, a, h => h
  | n + 1, s, a, h => zhY n _ _ h.left
theorem zkE : ∀ (n : Nat) (s : za) (g : zd), g.Out ≠ 0 → ZZ n s g = (s, g)
  | 0, s, g, _ => rfl
  | n + 1, s, g, h => by
    have e : zm s g = (s, g) := by unfold zm; rw [if_pos (.inl h)]
    rw [ZZ, e]
    exact zkE n s g h
theorem zaf : ∀ (n : Nat) (s : za) (g : zd), (wW n s g).1 = (ZZ n s g).1 ∧ (wW n s g).2.1 = (ZZ n s g).2
  | 0, s, g => ⟨rfl, rfl⟩
  | n + 1, s, g => by
    by_cases h : g.Out = 0
    · unfold wW
      rw [if_pos h]
      exact zaf n _ _
    · rw [zkE _ _ _ h]
      unfold wW
      rw [if_neg h]
      exact ⟨rfl, rfl⟩
theorem zsQ {A B D : Type} {f : A → Option (xm A B D)} {x x1 x2 : A} {b : B} (h : f x = some (.again x1)) (h1 : f x1 = some (.again x2)) (h2 : f x2 = some (.brk b)) : yf f x = some (.brk b) := by
  have key : ∀ n : Nat, xl f (n + 3) x = some (.brk b) := fun n => by
    rw [xl, h]
    show xl f (n + 2) x1 = _
    rw [xl, h1]
    show xl f (n + 1) x2 = _
    rw [xl, h2]; rfl
  have big : ∀ n : Nat, 2 < n → xl f n x = some (.brk b) := fun n hn => by
    obtain ⟨m, rfl⟩ : ∃ m, n = m + 3 := ⟨n - 3, by omega⟩
    exact key m
  rw [ZE]
  exact big uj (yQ (by omega))
theorem zpH {t : zo} (hb : t.Black = 0#64) (o : Int) : wP t o = 0 ↔ ¬ yn t.Marks o = true := by
  unfold wP
  have hn : ¬ yn (t.Marks &&& t.Black) o = true := by rw [zbP, hb]; exact fun e => W8 o e.2
  rw [if_neg hn]
  by_cases h : yn t.Marks o = true
  · rw [if_pos h]; exact ⟨fun e => (by cases e), fun e => absurd h e⟩
  · rw [if_neg h]; exact ⟨fun _ => h, fun _ => rfl⟩
theorem zoB (t : za) (a b : zd) : ∃ v, Yw t a b = some (v, ()) ∧ (v = true → (a.Mode = 2 ∧ wP t.T a.Obj = 0 ∧ a.Obj ≠ b.Obj) ∨ (b.Mode = 2 ∧ wP t.T b.Obj = 0 ∧ a.Obj ≠ b.Obj) ∨ (a.Mode = 2 ∧ b.Mode = 2 ∧ wP t.T a.Obj = 0 ∧ a.Obj = b.Obj)) := by
  rw [zcK]
  simp only [zpc, Option.bind_some, zt, yR]
  by_cases m1 : a.Mode = 2 <;> by_cases m2 : b.Mode = 2 <;> by_cases w1 : wP t.T a.Obj = 0 <;> by_cases w2 : wP t.T b.Obj = 0 <;> by_cases e : a.Obj = b.Obj <;> simp_all
theorem greyOnce_plain (l : List (BitVec 8)) (ga gb : ya) (ord : List (BitVec 8)) : wz l ga gb ord = some (true, ()) := by
  obtain ⟨p, a, b, h, ep, _, e2⟩ := zsD l ga gb
  have hM := h.M
  have O0 : OI (z8 p).T.Marks (z8 p) a b := by rw [h.A.is, h.B.is]; exact OI.start
  obtain ⟨k, gh, hk, G, O⟩ := zmh hM (ord.take 60) 0 (z8 p) a b (gh0 p) (by simp only [List.length_take]; omega) (zq1 h) O0
  have C := CI.two h (ord.take 60)
  rw [zb1, zlk]
  simp only [Option.bind_some, Bool.not_true, cond_false, ep, zdp hM, e2]
  generalize vj (ord.take 60) (z8 p) a b = r at G O C
  obtain ⟨s, x, y⟩ := r
  dsimp only at G O C ⊢
  obtain ⟨gh1, G1, x1⟩ := GG.ends hM 60 k s x gh (by omega) G (fun h0 => znH G.A h0)
  have O1 := zh2 hM 60 k s x gh (by omega) G O
  have C1 := zhY 60 s x C
  have r1 : yU s x 60 = some ((wW 60 s x).1, (wW 60 s x).2.1, ((wW 60 s x).2.2 : Int), ()) := zlV hM (⟨G.X.S, G.MA, G.oA⟩ : RG p (zF p + 1) s x) (k := 60) (by decide)
  rw [(zaf 60 s x).1, (zaf 60 s x).2] at r1
  generalize (wW 60 s x).2.2 = n1 at r1
  have hx := zk2 60 s x
  generalize ZZ 60 s x = q1 at *
  obtain ⟨s1, u⟩ := q1
  dsimp only at *
  obtain ⟨gh2, G2, y1⟩ := GG.ends hM 60 (k + 60) s1 y gh1 (by omega) G1.swap (fun h0 => znH G1.B h0)
  have O2 := zh2 hM 60 (k + 60) s1 y gh1 (by omega) G1.swap O1.swap
  have C2 := zhY 60 s1 y C1.swap
  have r2 : yU s1 y 60 = some ((wW 60 s1 y).1, (wW 60 s1 y).2.1, ((wW 60 s1 y).2.2 : Int), ()) := zlV hM (⟨G1.X.S, G1.MB, G1.oB⟩ : RG p (zF p + 1) s1 y) (k := 60) (by decide)
  rw [(zaf 60 s1 y).1, (zaf 60 s1 y).2] at r2
  generalize (wW 60 s1 y).2.2 = n2 at r2
  generalize ZZ 60 s1 y = q2 at *
  obtain ⟨s2, v⟩ := q2
  dsimp only at *
  obtain ⟨f1, f2, f3, f4⟩ := O2.swap.fin x1 y1 G2.B.ob G2.A.ob
  have i0 : ∀ g g' : zd, xH ([g, g'] : List zd) 0 = some 0 := fun g g' => by rw [uJ (by decide) (by simp)]; rfl
  have i1 : ∀ g g' : zd, xH ([g, g'] : List zd) 1 = some 1 := fun g g' => by rw [uJ (by decide) (by simp)]; rfl
  have j0 : ∀ g g' : zd, ([g, g'] : List zd)[0]? = some g := fun g g' => rfl
  have j1 : ∀ g g' : zd, ([g, g'] : List zd)[1]? = some g' := fun g g' => rfl
  have lp : yf uS (true, 0, z8 p, s, [x, y], ()) = some (.brk (true, z8 p, s2, [u, v], ())) := by
    refine zsQ (x1 := (true, 1, z8 p, s1, [u, y], ())) (x2 := (true, 2, z8 p, s2, [u, v], ())) ?_ ?_ ?_
    · rw [vR, zt, if_pos (by show (0 : Int) < 2; decide), i0, Option.bind_some, j0, Option.bind_some, r1, Option.bind_some, Option.bind_some]
      rw [yo (a := 0 + 1) (by decide) (by decide)]; rfl
    · rw [vR, zt, if_pos (by show (1 : Int) < 2; decide), i1, Option.bind_some, j1, Option.bind_some, r2, Option.bind_some, Option.bind_some]
      rw [yo (a := 1 + 1) (by decide) (by decide)]; rfl
    · rw [vR, zt, if_neg (by show ¬ (2 : Int) < 2; decide)]
  rw [lp]
  have ou : wL u = 0 := yK (.inl (by omega))
  have ov : wL v = 0 := yK (.inl (by omega))
  have hW : s2.Work = cnt s2.T.Marks := by have := C2.W; omega
  obtain ⟨fv, ef, hf⟩ := zoB (z8 p) u v
  have wi := fun o => zpH (t := (z8 p).T) rfl o
  have jl : (([u, v] : List zd).length : Int) = 2 := rfl
  have k0 : idx ([u, v] : List zd) 0 = some u := rfl
  have k1 : idx ([u, v] : List zd) 1 = some v := rfl
  simp only [Option.bind_some, jl, i0, i1, j0, j1, x1, y1, zgI, zkC, ef, cond_true, ← f1, O2.blk, hW, decide_true, Bool.not_true, cond_false, zcW, k0, k1]
  rw [show decide ((0#64 : BitVec 64) = (z8 p).T.Black) = true from rfl, cond_true]
  have hfl : fv = true → s2.Flag = true := fun e => by
    rcases hf e with ⟨m, w, d⟩ | ⟨m, w, d⟩ | ⟨m, m2, w, d⟩
    · exact f2 m ((wi _).1 w) d
    · exact f3 m ((wi _).1 w) d
    · exact f4 m m2 ((wi _).1 w) d
  have hgl := O2.fl
  cases hv : fv with
  | true => rw [cond_true, hfl hv]; rfl
  | false =>
    rw [cond_false]
    cases hF : s2.Flag with
    | false => rfl
    | true =>
      rw [cond_true]
      by_cases m : u.Mode = 2
      · rw [decide_eq_true m]; rfl
      · rw [decide_eq_false m, decide_eq_true ((hgl hF).resolve_right m)]; rfl
end B14
end
end Go.Pe.G
