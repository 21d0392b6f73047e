/- Own work of this seat: PWstep, PBits, PWAll, PLists, PWNew, PHeld, PCnt, PWOnce, PGo, PItems, PGTwo, PLaw14. -/
import Derived.Test.YtofljjggmmcgjaaGreatDoorGPPa
set_option linter.unusedVariables false
set_option linter.unusedSimpArgs false
set_option linter.unnecessarySimpa false
set_option linter.unusedSectionVars false
set_option linter.deprecated false
set_option maxRecDepth 20000
namespace Go.Pe.G
open Go.Pe
noncomputable section
def xk (x : zi) : List Int := if x.PC = 3 ∨ x.PC = 4 then [x.Bin] else if x.PC = 6 then xh x.G else []
def Z3 (s : za) (x : zi) : List Int := if x.PC = 0 then uo s.M x.D else if x.PC = 3 then yx s x.Bin else if x.PC = 5 ∨ x.PC = 8 then [x.Obj] else if x.PC = 6 then x.Obj :: zY x.G else []
def zT (s : za) (x : zi) : List Int := x.Batch ++ Z3 s x
structure WX (p : zb) (s : za) (gh : Gh) (w : Int) (x : zi) : Prop where
  c0 : x.PC ≠ 0 → gh.c w = 0
  bt : x.PC ≤ 3 → x.Batch = []
  p0 : x.PC = 0 → PK p s.M w (gh.t w) (gh.D w) (gh.c w) x.D
  p1 : x.PC = 1 → TK p s.M x.Victim (gh.t x.Victim) (gh.D x.Victim) x.D
  p2 : x.PC = 2 → x.C.Out = 0 ∧ (0 ≤ x.C.PC ∧ x.C.PC ≤ 2) ∧ CK p s.M x.C
  p4 : x.PC = 4 → x.C.Out = 0 ∧ (0 ≤ x.C.PC ∧ x.C.PC ≤ 2) ∧ x.C.X = x.Bin ∧ CK p s.M x.C
  p6 : x.PC = 6 → GX p s gh x.G ∧ x.G.Mode = 1 ∧ x.G.Who = w ∧ x.G.Out = 0
theorem WX.plain {p : zb} {s : za} {gh : Gh} {w : Int} {x : zi} (h : x.PC = 5 ∨ x.PC = 7 ∨ x.PC = 8 ∨ x.PC = 9) (c : gh.c w = 0) : WX p s gh w x :=
  ⟨fun _ => c, fun e => by omega, fun e => by omega, fun e => by omega, fun e => by omega, fun e => by omega, fun e => by omega⟩
theorem CK.start {p : zb} {m : List (BitVec 64)} {k h x : Int} : CK p m ⟨k, 0, h, zw p, 0#64, x, 0, 0⟩ :=
  ⟨fun e => absurd e (by show ¬ (1 : Int) ≤ 0; decide), fun e => absurd e (by show ¬ (0 : Int) = 2; decide), fun e => absurd e (by show ¬ (0 : Int) = 2; decide)⟩
theorem WX.begin {p : zb} {s : za} {gh : Gh} {w : Int} {x : zi} (c : gh.c w = 0) (hb : x.Batch = []) : WX p s gh w (Xz p w x) := by
  refine ⟨fun e => absurd rfl e, fun _ => hb, fun _ => ⟨rfl, rfl, rfl, rfl, ⟨by show (0 : Int) ≤ 0; decide, by show (0 : Int) ≤ 6; decide⟩, fun _ => c, ?_, ?_, ?_, ?_, ?_, ?_, ?_, ?_⟩, fun e => (by cases e), fun e => (by cases e), fun e => (by cases e), fun e => (by cases e)⟩
  all_goals (intro e; first | (exact absurd e (by show ¬ ((0 : Int) = 2 ∨ (4 : Int) ≤ 0); decide)) | (exact absurd e (by show ¬ (0 : Int) = 3; decide)) | (exact absurd e (by show ¬ (0 : Int) = 4; decide)) | (exact absurd e (by show ¬ ((0 : Int) = 3 ∨ (0 : Int) = 4); decide)) | (exact absurd e (by show ¬ (5 : Int) ≤ 0; decide)) | skip)
  rcases e with e | e | e | e
  · exact absurd e (by show ¬ (0 : Int) = 1; decide)
  · exact absurd e (by show ¬ (0 : Int) = 2; decide)
  · exact absurd e (by show ¬ (4 : Int) ≤ 0; decide)
  · exact absurd e.1 (by show ¬ (0 : Int) = 3; decide)
theorem zbF {p : zb} {s : za} {w : Int} {x : zi} : Z3 s (Xz p w x) = [] := by
  unfold Z3
  rw [if_pos (show (Xz p w x).PC = 0 from rfl)]
  exact xF (.inl (by show (0 : Int) ≠ 3; decide)) (by show (0 : Int) ≠ 6; decide)
theorem WX.look {p : zb} {s : za} {gh : Gh} {w : Int} {x : zi} (c : gh.c w = 0) (hb : x.Batch = []) : WX p s gh w (ZA p w x) ∧ Z3 s (ZA p w x) = [] ∧ xk (ZA p w x) = [] := by
  unfold ZA
  split
  · refine ⟨⟨fun _ => c, fun _ => hb, fun e => (by cases e), fun e => (by cases e), fun _ => ⟨rfl, ⟨by show (0 : Int) ≤ 0; decide, by show (0 : Int) ≤ 2; decide⟩, CK.start⟩, fun e => (by cases e), fun e => (by cases e)⟩, ?_, ?_⟩
    · unfold Z3; rw [if_neg (by show ¬ (2 : Int) = 0; decide), if_neg (by show ¬ (2 : Int) = 3; decide), if_neg (by show ¬ ((2 : Int) = 5 ∨ (2 : Int) = 8); decide), if_neg (by show ¬ (2 : Int) = 6; decide)]
    · unfold xk; rw [if_neg (by show ¬ ((2 : Int) = 3 ∨ (2 : Int) = 4); decide), if_neg (by show ¬ (2 : Int) = 6; decide)]
  · refine ⟨⟨fun _ => c, fun _ => hb, fun e => (by cases e), fun _ => ⟨rfl, rfl, rfl, rfl, ⟨by show (0 : Int) ≤ 0; decide, by show (0 : Int) ≤ 3; decide⟩, fun e => absurd e (by show ¬ (1 : Int) ≤ 0; decide), fun e => absurd e (by show ¬ (2 : Int) ≤ 0; decide), fun e => absurd e (by show ¬ (0 : Int) = 3; decide)⟩, fun e => (by cases e), fun e => (by cases e), fun e => (by cases e)⟩, ?_, ?_⟩
    · unfold Z3; rw [if_neg (by show ¬ (1 : Int) = 0; decide), if_neg (by show ¬ (1 : Int) = 3; decide), if_neg (by show ¬ ((1 : Int) = 5 ∨ (1 : Int) = 8); decide), if_neg (by show ¬ (1 : Int) = 6; decide)]
    · unfold xk; rw [if_neg (by show ¬ ((1 : Int) = 3 ∨ (1 : Int) = 4); decide), if_neg (by show ¬ (1 : Int) = 6; decide)]
theorem WX.other {p : zb} (hp : zv p) {nb k : Nat} {s s' : za} {gh gh' : Gh} {X R : List Int} {O : Int → Prop} {w : Int} {x : zi} (hw : 1 ≤ w ∧ w ≤ p.Workers) (Y : SX p nb s gh (X ++ R) k) (Fx : FX p nb X O s s' gh gh') (K : WX p s gh w x) (W : WOk p nb w x)
    (hR : ∀ b ∈ xk x, b ∈ R) (apart : ¬ O w) : WX p s' gh' w x ∧ zT s' x = zT s x := by
  have hsub : ∀ b ∈ X, b ∈ X ++ R := fun b hb => List.mem_append_left _ hb
  have hnd := (List.nodup_append.1 Y.L.nodup).2.1
  have hnot : ∀ b, b ∈ xk x → b ∉ X := fun b hb hg => (List.nodup_append.1 hnd).2.2 b hg b (hR b hb) rfl
  have hc : gh'.c w = gh.c w := by
    rcases Fx.dq w hw.1 hw.2 with h | h
    · cases h with
      | same e1 e2 e3 e4 => exact e3
      | stolen y e1 e2 e3 e4 => exact e3
    · exact absurd h.1 apart
  have hcell : ∀ a, zC p w < a → a < zC p w + p.Cap + 2 → ld s'.M a = ld s.M a := by
    rcases Fx.dq w hw.1 hw.2 with h | h
    · cases h with
      | same e1 e2 e3 e4 => exact fun a h1 h2 => e4 a (by omega) h2
      | stolen y e1 e2 e3 e4 => exact e4
    · exact absurd h.1 apart
  refine ⟨⟨fun e => hc.trans (K.c0 e), K.bt, fun e => Fx.pk hp hw.1 hw.2 apart (K.p0 e), fun e => Fx.tk W.vic.1 W.vic.2 (K.p1 e), fun e => ?_, fun e => ?_, fun e => ?_⟩, ?_⟩
  · obtain ⟨a, b, c⟩ := K.p2 e
    have C := W.c2 e
    exact ⟨a, b, c.mv Y.L Fx.mv hsub (.inl C.h) (fun h _ => C.v h) (fun e2 => by have := C.k; omega)⟩
  · obtain ⟨a, b, c, d⟩ := K.p4 e
    have C := W.c4 e
    have hno := hnot x.Bin (by unfold xk; rw [if_pos (.inr e)]; simp)
    exact ⟨a, b, c, d.mv Y.L Fx.mv hsub (.inr C.h) (fun _ e2 => by have := C.k; omega) (fun _ => ⟨C.x.1, C.x.2, by rw [c]; exact hno⟩)⟩
  · obtain ⟨a, b, c, d⟩ := K.p6 e
    have M := (W.g6 e).1
    refine ⟨a.other hp Y Fx M (fun y hy => hR y ?_) (fun _ => by rw [c]; exact apart), b, c, d⟩
    unfold xk; rw [if_neg (by omega), if_pos e]; exact hy
  · unfold zT Z3
    congr 1
    by_cases e0 : x.PC = 0
    · rw [if_pos e0, if_pos e0]
      have P := K.p0 e0
      unfold uo
      have hpl := (zh5 hp hw.1 hw.2 P.base P.size (x.D.B - 1#64)).2
      rw [hcell _ (by rw [P.base] at hpl; omega) (by rw [P.base] at hpl; omega)]
    · rw [if_neg e0, if_neg e0]
      by_cases e3 : x.PC = 3
      · rw [if_pos e3, if_pos e3]
        have hb := W.b3 e3
        have hno := hnot x.Bin (by unfold xk; rw [if_pos (.inl e3)]; simp)
        unfold yx
        rw [Fx.bn x.Bin hb.1 hno]
      · rw [if_neg e3, if_neg e3]
theorem zqY (s : za) (b : Int) : UZ s b = yx s b := by unfold UZ yx; rw [List.getD_eq_getElem?_getD]
theorem FX.mono {p : zb} {nb : Nat} {X : List Int} {O O' : Int → Prop} {s s' : za} {g g' : Gh} (h : FX p nb X O s s' g g') (i : ∀ v, O v → O' v) : FX p nb X O' s s' g g' :=
  ⟨h.mv, h.bn, fun v a b => (h.dq v a b).imp id (fun e => ⟨i v e.1, e.2⟩)⟩
theorem xC {x : zi} (h3 : x.PC ≠ 3) (h4 : x.PC ≠ 4) (h6 : x.PC ≠ 6) : xk x = [] := by unfold xk; rw [if_neg (by omega), if_neg h6]
theorem zcj {x : zi} (h : x.PC = 3 ∨ x.PC = 4) : xk x = [x.Bin] := by unfold xk; rw [if_pos h]
theorem zmQ {x : zi} (h : x.PC = 6) : xk x = xh x.G := by unfold xk; rw [if_neg (by omega), if_pos h]
theorem zpg {s : za} {x : zi} (h : x.PC = 0) : Z3 s x = uo s.M x.D := by unfold Z3; rw [if_pos h]
theorem zqc {s : za} {x : zi} (h : x.PC = 3) : Z3 s x = yx s x.Bin := by unfold Z3; rw [if_neg (by omega), if_pos h]
theorem Xm {s : za} {x : zi} (h : x.PC = 5 ∨ x.PC = 8) : Z3 s x = [x.Obj] := by unfold Z3; rw [if_neg (by omega), if_neg (by omega), if_pos h]
theorem zl5 {s : za} {x : zi} (h : x.PC = 6) : Z3 s x = x.Obj :: zY x.G := by unfold Z3; rw [if_neg (by omega), if_neg (by omega), if_neg (by omega), if_pos h]
theorem vE {s : za} {x : zi} (h : x.PC = 1 ∨ x.PC = 2 ∨ x.PC = 4 ∨ x.PC = 7 ∨ x.PC = 9) : Z3 s x = [] := by unfold Z3; rw [if_neg (by omega), if_neg (by omega), if_neg (by omega), if_neg (by omega)]
def zbW (p : zb) (nb k : Nat) (R : List Int) (gh : Gh) (s : za) (w : Int) (x : zi) (s' : za) (x' : zi) : Prop :=
  ∃ gh', SX p nb s' gh' (xk x' ++ R) (k + 1) ∧ WX p s' gh' w x' ∧ FX p nb (xk x) (fun v => v = w) s s' gh gh' ∧
    ∃ N B, List.Perm (yB p s' gh' ++ zT s' x' ++ B) (N ++ (yB p s gh ++ zT s x)) ∧
      ((N = [] ∧ B = [] ∧ s'.T = s.T) ∨ (N = [x.G.Obj] ∧ B = [] ∧ x.PC = 6 ∧ ¬ (s.T.Marks ||| bit x.G.Obj = s.T.Marks) ∧ s'.T = { s.T with Marks := s.T.Marks ||| bit x.G.Obj }) ∨ (N = [] ∧ B = [x.Obj] ∧ x.PC = 8 ∧ s'.T = U8 s.T x.Obj))
theorem zbW.quiet {p : zb} {nb k : Nat} {R : List Int} {gh : Gh} {s s' : za} {w : Int} {x x' : zi} (X : SX p nb s gh (xk x ++ R) k) (S' : SOk p nb s') (hm : s'.M = s.M) (hb : s'.Bins = s.Bins) (hT : s'.T = s.T)
    (ho : xk x' = xk x) (hh : List.Perm (zT s' x') (zT s x)) (W' : WX p s' gh w x') : zbW p nb k R gh s w x s' x' :=
  ⟨gh, by rw [ho]; exact X.quiet S' hm, W', FX.quiet hm (fun _ _ _ => by rw [hb]), [], [], by rw [Yi hb, List.append_nil]; exact List.Perm.append_left _ hh, .inl ⟨rfl, rfl, hT⟩⟩
theorem nz8 {x : Int} : (5 : Int) ≠ 3 ∧ (5 : Int) ≠ 4 ∧ (5 : Int) ≠ 6 := by decide
theorem zs8 {p : zb} (hp : zv p) {nb k : Nat} {R : List Int} {gh : Gh} {s : za} {w : Int} {x : zi} (hk : k < 4294960000) (hw : 1 ≤ w ∧ w ≤ p.Workers) (X : SX p nb s gh (xk x ++ R) k) (W : WOk p nb w x) (K : WX p s gh w x)
    (hH : ∀ o i, 0 ≤ wq s.H o i ∧ wq s.H o i ≤ 64) : zbW p nb k R gh s w x (zD s w x).1 (zD s w x).2 := by
  have S' := (znO hp hw X.S W).1
  have hP := X.S.P
  have eL : ∀ y, ZA s.P w y = ZA p w y := fun y => by rw [hP]
  have eB : ∀ y, Xz s.P w y = Xz p w y := fun y => by rw [hP]
  have eC : zdk s.P (zw s.P) x.Bin = zdk p (zw p) x.Bin := by rw [hP]
  have hpc := W.pc
  have hlen := X.L.len
  have hE := yS hp
  revert S'
  unfold zD
  by_cases p01 : x.PC = 0 ∨ x.PC = 1
  · rw [if_pos p01]
    intro S'
    have S' : SOk p nb { s with M := (zK s.M x.D).1 } := S'
    have hl := (zdN s.M x.D).1
    have eo : xk x = [] := xC (by omega) (by omega) (by omega)
    have hbt := K.bt (by omega)
    rw [eo] at X
    dsimp only
    by_cases p0 : x.PC = 0
    · have K0 := K.p0 p0
      have D0 := X.D w hw.1 hw.2
      have hdk := X.dk w hw.1 hw.2
      obtain ⟨t', l', c', D', hm, V, hle, r⟩ := zlX hp hw (by omega) D0 K0
      have hc := hp.cap
      have hm' : ∀ a, (a < zC p w ∨ zC p w + p.Cap + 2 ≤ a) → ld (zK s.M x.D).1 a = ld s.M a := fun a ha => hm a (by omega) (by omega)
      have X' := X.dq hp S' hl hw hm' D' (by omega)
      have Fx : FX p nb (xk x) (fun v => v = w) s { s with M := (zK s.M x.D).1 } gh (Zi gh w t' l' c') := FX.own (O := fun v => v = w) (s := s) (s' := { s with M := (zK s.M x.D).1 }) (g := gh) hp hw hm' rfl rfl V
      obtain ⟨u, v, f1, f2⟩ := zgl (p := p) (s := s) (s' := { s with M := (zK s.M x.D).1 }) (g := gh) rfl hw (t := t') (c := c') (l := l')
      have fin : ∀ x' : zi, xk x' = [] → WX p { s with M := (zK s.M x.D).1 } (Zi gh w t' l' c') w x' → List.Perm (l' ++ zT { s with M := (zK s.M x.D).1 } x') (gh.D w ++ zT s x) → zbW p nb k R gh s w x { s with M := (zK s.M x.D).1 } x' := by
        intro x' a b c
        refine ⟨_, by rw [a]; exact X', b, Fx, [], [], ?_, .inl ⟨rfl, rfl, rfl⟩⟩
        rw [f1, f2, List.append_nil, List.nil_append]
        simp only [List.append_assoc]
        refine List.Perm.append_left _ ?_
        refine (List.perm_append_comm_assoc l' v _).trans (List.Perm.trans ?_ (List.perm_append_comm_assoc v (gh.D w) _))
        exact List.Perm.append_left _ c
      have hh : zT s x = uo s.M x.D := by unfold zT; rw [hbt, zpg p0, List.nil_append]
      rw [hh] at fin
      rcases r with ⟨r1, r2, r3⟩ | ⟨r1, r2, r3⟩ | ⟨r1, r2, r3, r4, r5⟩
      · rw [r1, if_neg (by decide), if_neg (by decide)]
        refine fin _ (xC (by show x.PC ≠ 3; omega) (by show x.PC ≠ 4; omega) (by show x.PC ≠ 6; omega)) ⟨fun e => absurd p0 e, fun _ => hbt, fun _ => ?_, fun e => by have e : x.PC = 1 := e; omega, fun e => by have e : x.PC = 2 := e; omega, fun e => by have e : x.PC = 4 := e; omega, fun e => by have e : x.PC = 6 := e; omega⟩ ?_
        · rw [yX.1, yX.2.1, yX.2.2]; exact r2
        · unfold zT
          rw [zpg (x := { x with D := (zK s.M x.D).2 }) p0]
          show List.Perm (l' ++ (x.Batch ++ uo (zK s.M x.D).1 (zK s.M x.D).2)) _
          rw [hbt, List.nil_append]; exact r3
      · rw [r1, if_pos rfl]
        refine fin _ (xC (by show (5 : Int) ≠ 3; decide) (by show (5 : Int) ≠ 4; decide) (by show (5 : Int) ≠ 6; decide)) (WX.plain (.inl rfl) (by rw [yX.2.2]; exact r2)) ?_
        unfold zT
        rw [Xm (.inl rfl)]
        show List.Perm (l' ++ (x.Batch ++ [(zK s.M x.D).2.X])) _
        rw [hbt, List.nil_append]; exact r3
      · rw [r1, if_neg (by decide), if_pos (.inl rfl), eL]
        obtain ⟨a, b, c⟩ := WX.look (p := p) (s := { s with M := (zK s.M x.D).1 }) (gh := Zi gh w t' l' c') (w := w) (x := { x with D := (zK s.M x.D).2 }) (by rw [yX.2.2]; exact r2) hbt
        refine fin _ c a ?_
        unfold zT
        rw [b, r3, r4, r5, show (ZA p w { x with D := (zK s.M x.D).2 }).Batch = x.Batch by unfold ZA; split <;> rfl, hbt]
        exact List.Perm.refl _
    · have p1 : x.PC = 1 := by omega
      have K1 := K.p1 p1
      have hv := W.vic
      have hc0 := K.c0 p0
      have D0 := X.D x.Victim hv.1 hv.2
      have hdk := X.dk x.Victim hv.1 hv.2
      have hh : zT s x = [] := by unfold zT; rw [hbt, vE (.inl p1)]; rfl
      rcases zos hp hv (by omega) D0 K1 with ⟨hm, r⟩ | ⟨y, l', e1, e2, e3, e4, e5⟩
      · have S2 := S'
        have q : ∀ x' : zi, xk x' = [] → zT { s with M := (zK s.M x.D).1 } x' = [] → WX p { s with M := (zK s.M x.D).1 } gh w x' → zbW p nb k R gh s w x { s with M := (zK s.M x.D).1 } x' :=
          fun x' a b c => .quiet (by rw [eo]; exact X) S' hm rfl rfl (by rw [a, eo]) (by rw [b, hh]) c
        rcases r with ⟨r1, r2⟩ | r
        · rw [r1, if_neg (by decide), if_neg (by decide)]
          refine q _ (xC (by show x.PC ≠ 3; omega) (by show x.PC ≠ 4; omega) (by show x.PC ≠ 6; omega)) ?_ ⟨fun _ => hc0, fun _ => hbt, fun e => absurd e p0, fun _ => ?_, fun e => by have e : x.PC = 2 := e; omega, fun e => by have e : x.PC = 4 := e; omega, fun e => by have e : x.PC = 6 := e; omega⟩
          · unfold zT
            rw [vE (x := { x with D := (zK s.M x.D).2 }) (.inl p1)]
            show x.Batch ++ [] = []
            rw [hbt]; rfl
          · show TK p (zK s.M x.D).1 _ _ _ _
            rw [hm]; exact r2
        · rw [if_neg (by omega), if_pos r, eL]
          obtain ⟨a, b, c⟩ := WX.look (p := p) (s := { s with M := (zK s.M x.D).1 }) (gh := gh) (w := w) (x := { x with D := (zK s.M x.D).2 }) hc0 hbt
          refine q _ c ?_ a
          unfold zT
          rw [b, show (ZA p w { x with D := (zK s.M x.D).2 }).Batch = x.Batch by unfold ZA; split <;> rfl, hbt]; rfl
      · have hc := hp.cap
        have hm' : ∀ a, (a < zC p x.Victim ∨ zC p x.Victim + p.Cap + 2 ≤ a) → ld (zK s.M x.D).1 a = ld s.M a := fun a ha => e5 a (by omega)
        have X' := X.dq hp S' hl hv hm' e4 (by rw [e1] at hdk; simp at hdk; omega)
        obtain ⟨h1, h2⟩ := zky hp hv hm'
        obtain ⟨u, v, f1, f2⟩ := zgl (p := p) (s := s) (s' := { s with M := (zK s.M x.D).1 }) (g := gh) rfl hv (t := gh.t x.Victim + 1) (c := gh.c x.Victim) (l := l')
        rw [e2, if_pos rfl]
        refine ⟨Zi gh x.Victim (gh.t x.Victim + 1) l' (gh.c x.Victim), by rw [xC (by show (5 : Int) ≠ 3; decide) (by show (5 : Int) ≠ 4; decide) (by show (5 : Int) ≠ 6; decide)]; exact X', WX.plain (.inl rfl) ?_, ⟨Mv.low hp h1, fun _ _ _ => rfl, fun v' a b => .inl ?_⟩, [], [], ?_, .inl ⟨rfl, rfl, rfl⟩⟩
        · by_cases e : w = x.Victim
          · rw [e, yX.2.2, ← e]; exact hc0
          · rw [(ub e).2.2]; exact hc0
        · by_cases e : v' = x.Victim
          · subst e
            exact .stolen y yX.2.1 (by rw [yX.1]; exact e1) yX.2.2 (fun a h1 _ => e5 a (by omega))
          · exact .same (ub e).2.1 (ub e).1 (ub e).2.2 (h2 v' a b e)
        · rw [f1, f2, hh, List.append_nil, List.append_nil, List.nil_append, e1]
          unfold zT
          rw [Xm (.inl rfl)]
          show List.Perm (u ++ l' ++ v ++ (x.Batch ++ [(zK s.M x.D).2.X])) _
          rw [hbt, List.nil_append, e3]
          simp only [List.append_assoc]
          refine List.Perm.append_left _ ?_
          show List.Perm (l' ++ (v ++ [y])) (y :: (l' ++ v))
          rw [← List.append_assoc]
          exact List.perm_append_comm
  rw [if_neg p01]
  have hc0 := K.c0 (by omega)
  by_cases p2 : x.PC = 2
  · rw [if_pos p2]
    intro S'
    have S' : SOk p nb { s with M := (zl s.M x.C).1 } := S'
    have C := W.c2 p2
    obtain ⟨c1, c2, c3⟩ := K.p2 p2
    have hbt := K.bt (by omega)
    have eo : xk x = [] := xC (by omega) (by omega) (by omega)
    have hh : zT s x = [] := by unfold zT; rw [hbt, vE (.inr (.inl p2))]; rfl
    dsimp only
    rcases SX.popF hp X hk C.k C.h C.n c1 c2 c3 C.v S' with ⟨a, b, c, d⟩ | ⟨y, l, a, b, c, d, e⟩
    · rw [if_neg b]
      have hout := zbz s.M c1 c2 (.inr C.k)
      by_cases o2 : (zl s.M x.C).2.Out = 2
      · rw [if_pos o2, eB]
        refine .quiet X S' a rfl rfl ?_ ?_ (WX.begin hc0 hbt)
        · rw [eo]; exact xC (by show (0 : Int) ≠ 3; decide) (by show (0 : Int) ≠ 4; decide) (by show (0 : Int) ≠ 6; decide)
        · unfold zT
          rw [zbF, show (Xz p w { x with C := (zl s.M x.C).2 }).Batch = x.Batch from rfl]
          rw [hbt, vE (.inr (.inl p2))]
      · rw [if_neg o2]
        have hpc' : (zl s.M x.C).2.Out = 0 ∧ 0 ≤ (zl s.M x.C).2.PC ∧ (zl s.M x.C).2.PC ≤ 2 := by omega
        refine .quiet X S' a rfl rfl ?_ ?_ ⟨fun _ => hc0, fun _ => hbt, fun e => by have e : x.PC = 0 := e; omega, fun e => by have e : x.PC = 1 := e; omega, fun _ => ⟨hpc'.1, hpc'.2, ?_⟩, fun e => by have e : x.PC = 4 := e; omega, fun e => by have e : x.PC = 6 := e; omega⟩
        · rw [eo]; exact xC (by show x.PC ≠ 3; omega) (by show x.PC ≠ 4; omega) (by show x.PC ≠ 6; omega)
        · unfold zT
          rw [vE (x := { x with C := (zl s.M x.C).2 }) (.inr (.inl p2)), vE (.inr (.inl p2))]
        · rw [show ({ s with M := (zl s.M x.C).1 } : za).M = s.M from a]; exact c
    · rw [if_pos b]
      have e1 : xk { x with C := (zl s.M x.C).2, Bin := (zl s.M x.C).2.X, PC := 3 } = [y] := by rw [← c]; exact zcj (x := { x with C := (zl s.M x.C).2, Bin := (zl s.M x.C).2.X, PC := 3 }) (.inl rfl)
      refine ⟨{ gh with F := l }, by rw [e1]; rw [eo] at d; exact d, ⟨fun _ => hc0, fun _ => hbt, fun e => (by cases e), fun e => (by cases e), fun e => (by cases e), fun e => (by cases e), fun e => (by cases e)⟩, e _ _, [], [], ?_, .inl ⟨rfl, rfl, rfl⟩⟩
      rw [hh, List.append_nil, List.append_nil, List.nil_append]
      unfold zT
      rw [zqc (x := { x with C := (zl s.M x.C).2, Bin := (zl s.M x.C).2.X, PC := 3 }) rfl]
      show List.Perm (yB p s { gh with F := l } ++ (x.Batch ++ yx s (zl s.M x.C).2.X)) _
      rw [hbt, List.nil_append, c]
      have : yB p s gh = yx s y ++ yB p s { gh with F := l } := by unfold yB; rw [a]; simp [List.append_assoc]
      rw [this]
      exact List.perm_append_comm
  rw [if_neg p2]
  by_cases p3 : x.PC = 3
  · rw [if_pos p3]
    intro S'
    have hb := W.b3 p3
    have hbt := K.bt (by omega)
    have eo : xk x = [x.Bin] := zcj (.inl p3)
    rw [eC]
    have e1 : xk { x with Batch := UZ s x.Bin, PC := 4, C := zdk p (zw p) x.Bin } = [x.Bin] := zcj (x := { x with Batch := UZ s x.Bin, PC := 4, C := zdk p (zw p) x.Bin }) (.inr rfl)
    have hget : ∀ b, 1 ≤ b → b ∉ xk x → (s.Bins.set x.Bin.toNat [])[b.toNat]? = s.Bins[b.toNat]? := fun b b1 b2 => by
      rw [List.getElem?_set_ne]
      intro e
      rw [eo] at b2
      exact b2 (by rw [show b = x.Bin by omega]; simp)
    refine ⟨gh, by rw [e1, ← eo]; exact X.quiet S' rfl, ⟨fun _ => hc0, fun e => absurd e (by show ¬ (4 : Int) ≤ 3; decide), fun e => (by cases e), fun e => (by cases e), fun e => (by cases e), fun _ => ⟨rfl, ⟨by show (0 : Int) ≤ 0; decide, by show (0 : Int) ≤ 2; decide⟩, rfl, CK.start⟩, fun e => (by cases e)⟩, FX.quiet rfl hget, [], [], ?_, .inl ⟨rfl, rfl, rfl⟩⟩
    have hbag : yB p { s with Bins := s.Bins.set x.Bin.toNat [] } gh = yB p s gh := by
      unfold yB
      congr 1
      refine vJ (fun b hb => ?_)
      have hm := X.L.cF.mem b hb
      have hno := (X.L.notF (x := x.Bin) (by rw [eo]; simp)).1
      unfold yx
      rw [show ({ s with Bins := s.Bins.set x.Bin.toNat [] } : za).Bins = s.Bins.set x.Bin.toNat [] from rfl, hget b hm.1 (by rw [eo]; intro e; rw [List.mem_singleton.1 e] at hb; exact hno hb)]
    rw [hbag, List.append_nil, List.nil_append]
    unfold zT
    rw [zqc p3, vE (x := { x with Batch := UZ s x.Bin, PC := 4, C := zdk p (zw p) x.Bin }) (.inr (.inr (.inl rfl)))]
    show List.Perm (yB p s gh ++ (UZ s x.Bin ++ [])) _
    rw [hbt, List.append_nil, List.nil_append, zqY]
  rw [if_neg p3]
  by_cases p4 : x.PC = 4
  · rw [if_pos p4]
    intro S'
    have S' : SOk p nb { s with M := (zl s.M x.C).1 } := S'
    have C := W.c4 p4
    obtain ⟨c1, c2, c3, c4⟩ := K.p4 p4
    have eo : xk x = [x.Bin] := zcj (.inr p4)
    have hh : zT s x = x.Batch := by unfold zT; rw [vE (.inr (.inr (.inl p4))), List.append_nil]
    rw [eo] at X
    dsimp only
    rcases SX.pushE hp (o1 := []) (o2 := R) (b := x.Bin) X hk C.k C.h C.n c3 c1 c2 c4 C.v S' with ⟨a, b, c, d⟩ | ⟨a, b, d⟩
    · rw [a, if_neg (by decide)]
      have hout := zbz s.M c1 c2 (.inl C.k)
      have hsame := zht s.M x.C
      have hpc' : 0 ≤ (zl s.M x.C).2.PC ∧ (zl s.M x.C).2.PC ≤ 2 := by omega
      have e1 : xk { x with C := (zl s.M x.C).2 } = [x.Bin] := zcj (x := { x with C := (zl s.M x.C).2 }) (.inr p4)
      refine ⟨gh, by rw [e1]; exact b, ⟨fun _ => hc0, fun e => by have e : x.PC ≤ 3 := e; omega, fun e => by have e : x.PC = 0 := e; omega, fun e => by have e : x.PC = 1 := e; omega, fun e => by have e : x.PC = 2 := e; omega, fun _ => ⟨a, hpc', (hsame.2.2.2 C.k).trans c3, c⟩, fun e => by have e : x.PC = 6 := e; omega⟩, by rw [eo]; exact d _ _ (by simp), [], [], ?_, .inl ⟨rfl, rfl, rfl⟩⟩
      rw [Yi rfl, hh, List.append_nil]
      unfold zT
      rw [vE (x := { x with C := (zl s.M x.C).2 }) (.inr (.inr (.inl p4))), List.append_nil]
      exact List.Perm.refl _
    · rw [a, if_pos rfl]
      refine ⟨{ gh with E := x.Bin :: gh.E }, by rw [xC (by show (7 : Int) ≠ 3; decide) (by show (7 : Int) ≠ 4; decide) (by show (7 : Int) ≠ 6; decide)]; exact b, WX.plain (.inr (.inl rfl)) hc0, by rw [eo]; exact d _ _, [], [], ?_, .inl ⟨rfl, rfl, rfl⟩⟩
      rw [hh, List.append_nil]
      unfold zT
      rw [vE (.inr (.inr (.inr (.inl rfl)))), List.append_nil]
      exact List.Perm.refl _
  rw [if_neg p4]
  by_cases p5 : x.PC = 5
  · rw [if_pos p5]
    intro S'
    have eo : xk x = [] := xC (by omega) (by omega) (by omega)
    have hv := hH x.Obj x.Slot
    dsimp only
    split
    · rcases zgq s (wc (x.Slot + 1)) with e | e <;> rw [e]
      · refine .quiet X S' rfl rfl rfl (by rw [eo]; exact xC (by show (5 : Int) ≠ 3; decide) (by show (5 : Int) ≠ 4; decide) (by show (5 : Int) ≠ 6; decide)) ?_ (WX.plain (.inl rfl) hc0)
        unfold zT
        rw [Xm (.inl p5), Xm (.inl rfl)]
      · refine .quiet X S' rfl rfl rfl (by rw [eo]; exact xC (by show (8 : Int) ≠ 3; decide) (by show (8 : Int) ≠ 4; decide) (by show (8 : Int) ≠ 6; decide)) ?_ (WX.plain (.inr (.inr (.inl rfl))) hc0)
        unfold zT
        rw [Xm (.inl p5), Xm (.inr rfl)]
    · rename_i hne
      have e0 : (xN 1 (wq s.H x.Obj x.Slot) w).PC = 0 := rfl
      refine .quiet X S' rfl rfl rfl ?_ ?_ ⟨fun _ => hc0, fun e => absurd e (by show ¬ (6 : Int) ≤ 3; decide), fun e => (by cases e), fun e => (by cases e), fun e => (by cases e), fun e => (by cases e), fun _ => ⟨GX.plain (.inl rfl) ⟨by show (0 : Int) ≤ 0; decide, by show (0 : Int) ≤ 7; decide⟩ ⟨by show (1 : Int) ≤ 1; decide, by show (1 : Int) ≤ 3; decide⟩ ⟨by show 1 ≤ wq s.H x.Obj x.Slot; omega, hv.2⟩ (fun _ _ => hc0) (.inr ⟨by show (0 : Int) ≠ 3; decide, by show (0 : Int) ≠ 5; decide, by show (0 : Int) ≠ 7; decide⟩), rfl, rfl, rfl⟩⟩
      · rw [eo, zmQ (x := { x with Slot := wc (x.Slot + 1), PC := 6, G := xN 1 (wq s.H x.Obj x.Slot) w }) rfl]
        exact xY (.inr ⟨by show (0 : Int) ≠ 6; decide, by show (0 : Int) ≠ 7; decide⟩)
      · unfold zT
        rw [Xm (.inl p5), zl5 (x := { x with Slot := wc (x.Slot + 1), PC := 6, G := xN 1 (wq s.H x.Obj x.Slot) w }) rfl]
        rw [vS (g := xN 1 (wq s.H x.Obj x.Slot) w) (.inr (.inl (by show (0 : Int) < 3; decide)))]
  rw [if_neg p5]
  by_cases p6 : x.PC = 6
  · rw [if_pos p6]
    intro S'
    obtain ⟨G, gm, gw, g0⟩ := K.p6 p6
    obtain ⟨M, h5o, _, hn4⟩ := W.g6 p6
    have eo : xk x = xh x.G := zmQ p6
    have hh : zT s x = x.Batch ++ x.Obj :: zY x.G := by unfold zT; rw [zl5 p6]
    rw [eo] at X
    obtain ⟨gh', X', G', Fx, hc', N, hN, hT⟩ := zrn hp hk X M h5o G
    have so := UE s x.G
    have Fx' : FX p nb (xk x) (fun v => v = w) s (zq s x.G).1 gh gh' := by
      rw [eo]
      exact Fx.mono (fun v e => e.2.trans gw)
    have hcw : gh'.c w = 0 := by have := hc' gm g0; rwa [gw] at this
    dsimp only
    have hT' : (N = [] ∧ ([] : List Int) = [] ∧ (zq s x.G).1.T = s.T) ∨ (N = [x.G.Obj] ∧ ([] : List Int) = [] ∧ x.PC = 6 ∧ ¬ (s.T.Marks ||| bit x.G.Obj = s.T.Marks) ∧ (zq s x.G).1.T = { s.T with Marks := s.T.Marks ||| bit x.G.Obj }) ∨ (N = [] ∧ ([] : List Int) = [x.Obj] ∧ x.PC = 8 ∧ (zq s x.G).1.T = U8 s.T x.Obj) := by
      rcases hT with ⟨a, b⟩ | ⟨a, b, c⟩
      · exact .inl ⟨a, rfl, b⟩
      · exact .inr (.inl ⟨a, rfl, p6, b, c⟩)
    have perm : ∀ H' : List Int, H' = x.Batch ++ x.Obj :: zY (zq s x.G).2 → List.Perm (yB p (zq s x.G).1 gh' ++ H' ++ []) (N ++ (yB p s gh ++ zT s x)) := by
      intro H' e
      rw [e, hh, List.append_nil]
      have a1 : List.Perm (yB p (zq s x.G).1 gh' ++ (x.Batch ++ x.Obj :: zY (zq s x.G).2)) ((x.Batch ++ [x.Obj]) ++ (yB p (zq s x.G).1 gh' ++ zY (zq s x.G).2)) := by
        rw [show x.Batch ++ x.Obj :: zY (zq s x.G).2 = (x.Batch ++ [x.Obj]) ++ zY (zq s x.G).2 by simp]
        exact List.perm_append_comm_assoc _ _ _
      have a2 : List.Perm (N ++ (yB p s gh ++ (x.Batch ++ x.Obj :: zY x.G))) ((x.Batch ++ [x.Obj]) ++ (N ++ (yB p s gh ++ zY x.G))) := by
        rw [show x.Batch ++ x.Obj :: zY x.G = (x.Batch ++ [x.Obj]) ++ zY x.G by simp]
        exact (List.Perm.append_left N (List.perm_append_comm_assoc _ _ _)).trans (List.perm_append_comm_assoc _ _ _)
      exact a1.trans ((List.Perm.append_left _ hN).trans a2.symm)
    split
    · rename_i o1
      have n1 : xh (zq s x.G).2 = [] := xY (.inl (by omega))
      have n2 : zY (zq s x.G).2 = [] := vS (.inl (by omega))
      rw [n1] at X'
      rcases zgq s x.Slot with e | e <;> rw [e]
      · refine ⟨gh', by rw [xC (by show (5 : Int) ≠ 3; decide) (by show (5 : Int) ≠ 4; decide) (by show (5 : Int) ≠ 6; decide)]; exact X', WX.plain (.inl rfl) hcw, Fx', N, [], perm _ ?_, hT'⟩
        unfold zT; rw [Xm (.inl rfl), n2]
      · refine ⟨gh', by rw [xC (by show (8 : Int) ≠ 3; decide) (by show (8 : Int) ≠ 4; decide) (by show (8 : Int) ≠ 6; decide)]; exact X', WX.plain (.inr (.inr (.inl rfl))) hcw, Fx', N, [], perm _ ?_, hT'⟩
        unfold zT; rw [Xm (.inr rfl), n2]
    · rename_i o1
      have o0 : (zq s x.G).2.Out = 0 := by have := G'.o; omega
      refine ⟨gh', by rw [zmQ (x := { x with G := (zq s x.G).2 }) p6]; exact X', ⟨fun _ => hcw, fun e => by have e : x.PC ≤ 3 := e; omega, fun e => by have e : x.PC = 0 := e; omega, fun e => by have e : x.PC = 1 := e; omega, fun e => by have e : x.PC = 2 := e; omega, fun e => by have e : x.PC = 4 := e; omega, fun _ => ⟨G', so.2.2.trans gm, so.2.1.trans gw, o0⟩⟩, Fx', N, [], perm _ ?_, hT'⟩
      unfold zT; rw [zl5 (x := { x with G := (zq s x.G).2 }) p6]
  rw [if_neg p6]
  have eo : xk x = [] := xC (by omega) (by omega) (by omega)
  by_cases p7 : x.PC = 7
  · rw [if_pos p7]
    intro S'
    dsimp only
    split
    · rename_i hb
      rw [eB]
      refine .quiet X S' rfl rfl rfl (by rw [eo]; exact xC (by show (0 : Int) ≠ 3; decide) (by show (0 : Int) ≠ 4; decide) (by show (0 : Int) ≠ 6; decide)) ?_ (WX.begin hc0 hb)
      unfold zT
      rw [zbF, vE (.inr (.inr (.inr (.inl p7))))]
      exact List.Perm.refl _
    · rename_i o l hb
      refine .quiet X S' rfl rfl rfl (by rw [eo]; exact xC (by show (5 : Int) ≠ 3; decide) (by show (5 : Int) ≠ 4; decide) (by show (5 : Int) ≠ 6; decide)) ?_ (WX.plain (.inl rfl) hc0)
      unfold zT
      rw [Xm (.inl rfl), vE (.inr (.inr (.inr (.inl p7)))), hb, List.append_nil]
      exact List.perm_append_comm
  rw [if_neg p7]
  by_cases p8 : x.PC = 8
  · rw [if_pos p8]
    intro S'
    refine ⟨gh, by rw [xC (by show (9 : Int) ≠ 3; decide) (by show (9 : Int) ≠ 4; decide) (by show (9 : Int) ≠ 6; decide)]; rw [eo] at X; exact X.quiet S' rfl, WX.plain (.inr (.inr (.inr rfl))) hc0, FX.quiet rfl (fun _ _ _ => rfl), [], [x.Obj], ?_, .inr (.inr ⟨rfl, rfl, p8, rfl⟩)⟩
    rw [Yi rfl, List.nil_append]
    unfold zT
    rw [Xm (.inr p8), vE (.inr (.inr (.inr (.inr rfl)))), List.append_nil, List.append_assoc]
    exact List.Perm.refl _
  rw [if_neg p8]
  have p9 : x.PC = 9 := by omega
  rw [if_pos p9]
  intro S'
  refine .quiet X S' rfl rfl rfl (by rw [eo]; exact xC (by show (7 : Int) ≠ 3; decide) (by show (7 : Int) ≠ 4; decide) (by show (7 : Int) ≠ 6; decide)) ?_ (WX.plain (.inr (.inl rfl)) hc0)
  unfold zT
  rw [vE (.inr (.inr (.inr (.inr p9)))), vE (.inr (.inr (.inr (.inl rfl))))]
end
end Go.Pe.G
namespace Go.Pe.G
open Go.Pe
noncomputable section
theorem zkk {o : Int} (h : 1 ≤ o ∧ o ≤ 64) (j : Nat) : (bit o).getLsbD j = decide ((o - 1).toNat = j) := by
  unfold bit
  rw [if_pos h, ← BitVec.twoPow_eq, BitVec.getLsbD_twoPow, decide_eq_true (by omega : (o - 1).toNat < 64), Bool.true_and]
theorem xI (s : BitVec 64) (o : Int) : xe s o = true ↔ 1 ≤ o ∧ o ≤ 64 ∧ s.getLsbD (o - 1).toNat = true := by
  unfold xe
  rw [Bool.not_eq_true', decide_eq_false_iff_not]
  by_cases h : 1 ≤ o ∧ o ≤ 64
  · constructor
    · intro h1
      refine ⟨h.1, h.2, Classical.byContradiction (fun h2 => h1 ?_)⟩
      apply BitVec.eq_of_getLsbD_eq
      intro j hj
      rw [BitVec.getLsbD_and, zkk h, BitVec.getLsbD_zero]
      by_cases e : (o - 1).toNat = j
      · rw [← e]; simp only [Bool.not_eq_true] at h2; rw [h2]; rfl
      · rw [decide_eq_false e, Bool.and_false]
    · rintro ⟨_, _, h1⟩ h2
      have := congrArg (fun v => BitVec.getLsbD v (o - 1).toNat) h2
      simp only [BitVec.getLsbD_and, zkk h, h1, BitVec.getLsbD_zero] at this
      simp at this
  · constructor
    · intro h1
      exact absurd (by unfold bit; rw [if_neg h, BitVec.and_zero]) h1
    · rintro ⟨a, b, _⟩; exact absurd ⟨a, b⟩ h
theorem Zr (s : BitVec 64) {o : Int} (h : 1 ≤ o ∧ o ≤ 64) (q : Int) : xe (s ||| bit o) q = true ↔ xe s q = true ∨ q = o := by
  rw [xI, xI, BitVec.getLsbD_or, zkk h]
  simp only [Bool.or_eq_true, decide_eq_true_eq]
  constructor
  · rintro ⟨a, b, c | c⟩
    · exact .inl ⟨a, b, c⟩
    · exact .inr (by omega)
  · rintro (⟨a, b, c⟩ | rfl)
    · exact ⟨a, b, .inl c⟩
    · exact ⟨h.1, h.2, .inr rfl⟩
theorem zbR (s t : BitVec 64) (q : Int) : xe (s &&& t) q = true ↔ xe s q = true ∧ xe t q = true := by
  rw [xI, xI, xI, BitVec.getLsbD_and]
  simp only [Bool.and_eq_true]
  constructor
  · rintro ⟨a, b, c, d⟩; exact ⟨⟨a, b, c⟩, a, b, d⟩
  · rintro ⟨⟨a, b, c⟩, _, _, d⟩; exact ⟨a, b, c, d⟩
theorem zau (q : Int) : ¬ xe 0#64 q = true := by
  rw [xI, BitVec.getLsbD_zero]; exact fun h => by cases h.2.2
theorem zkz {s t : BitVec 64} (h : ∀ o, xe s o = true ↔ xe t o = true) : s = t := by
  apply BitVec.eq_of_getLsbD_eq
  intro j hj
  have := h ((j : Int) + 1)
  rw [xI, xI, show ((j : Int) + 1 - 1).toNat = j by omega] at this
  rw [Bool.eq_iff_iff]
  exact ⟨fun e => (this.1 ⟨by omega, by omega, e⟩).2.2, fun e => (this.2 ⟨by omega, by omega, e⟩).2.2⟩
theorem zeN {m : BitVec 64} {o : Int} (h : 1 ≤ o ∧ o ≤ 64) : ¬ (m ||| bit o = m) ↔ ¬ xe m o = true := by
  constructor
  · intro h1 h2
    refine h1 (zkz (fun q => ?_))
    rw [Zr _ h]
    exact ⟨fun e => e.elim id (fun e => by rw [e]; exact h2), .inl⟩
  · intro h1 h2
    refine h1 ?_
    rw [← h2, Zr _ h]; exact .inr rfl
theorem WH (t : zn) (o : Int) : Wk t o = 1 ↔ xe t.Marks o = true ∧ ¬ xe t.Black o = true := by
  unfold Wk
  by_cases h1 : xe (t.Marks &&& t.Black) o = true
  · rw [if_pos h1]
    rw [zbR] at h1
    exact ⟨fun e => (by cases e), fun e => absurd h1.2 e.2⟩
  · rw [if_neg h1]
    rw [zbR] at h1
    by_cases h2 : xe t.Marks o = true
    · rw [if_pos h2]; exact ⟨fun _ => ⟨h2, fun e => h1 ⟨h2, e⟩⟩, fun _ => rfl⟩
    · rw [if_neg h2]; exact ⟨fun e => (by cases e), fun e => absurd e.1 h2⟩
end
end Go.Pe.G
namespace Go.Pe.G
open Go.Pe
noncomputable section
theorem zqJ {α : Type} {l : List α} {i : Nat} {x : α} (h : l[i]? = some x) : ∃ a b, l = a ++ x :: b ∧ (∀ y, l.set i y = a ++ y :: b) ∧ (∀ z ∈ a ++ b, ∃ j, j ≠ i ∧ l[j]? = some z) ∧
    (∀ j z, j ≠ i → l[j]? = some z → z ∈ a ++ b) := by
  obtain ⟨hi, e⟩ := List.getElem?_eq_some_iff.1 h
  have hl : (l.take i).length = i := by rw [List.length_take]; omega
  have el : l = l.take i ++ x :: l.drop (i + 1) := by
    conv => lhs; rw [← List.take_append_drop i l, List.drop_eq_getElem_cons hi, e]
  refine ⟨l.take i, l.drop (i + 1), el, fun y => ?_, fun z hz => ?_, fun j z hj hz => ?_⟩
  · rw [List.set_eq_take_append_cons_drop, if_pos hi]
  · rcases List.mem_append.1 hz with hz | hz
    · obtain ⟨j, hj⟩ := List.mem_iff_getElem?.1 hz
      obtain ⟨hj1, hj2⟩ := List.getElem?_eq_some_iff.1 hj
      have hj3 : j < i := by omega
      exact ⟨j, by omega, by rw [List.getElem?_take_of_lt hj3] at hj; exact hj⟩
    · obtain ⟨j, hj⟩ := List.mem_iff_getElem?.1 hz
      exact ⟨i + 1 + j, by omega, by rw [List.getElem?_drop] at hj; exact hj⟩
  · rw [el] at hz
    rcases Nat.lt_or_ge j i with h1 | h1
    · rw [List.getElem?_append_left (by omega)] at hz
      exact List.mem_append_left _ (List.mem_of_getElem? hz)
    · rw [List.getElem?_append_right (by omega), hl] at hz
      rw [show j - i = (j - i - 1) + 1 by omega, List.getElem?_cons_succ] at hz
      exact List.mem_append_right _ (List.mem_of_getElem? hz)
theorem zbl {α β : Type} {f : α → List β} {a b : List α} {x : α} : List.Perm ((a ++ x :: b).flatMap f) (f x ++ (a ++ b).flatMap f) := by
  rw [List.flatMap_append, List.flatMap_cons, List.flatMap_append]
  exact List.perm_append_comm_assoc _ _ _
theorem SX.perm {p : zb} {nb k : Nat} {s : za} {g : Gh} {o o' : List Int} (X : SX p nb s g o k) (h : List.Perm o' o) : SX p nb s g o' k :=
  ⟨X.S, ⟨X.L.hs, X.L.cF, X.L.cE, (List.Perm.append_left _ h).trans X.L.all, X.L.len⟩, X.D, X.v, X.dk⟩
theorem SX.state {p : zb} {nb k : Nat} {s s' : za} {g : Gh} {o : List Int} (X : SX p nb s g o k) (S' : SOk p nb s') (hm : s'.M = s.M) : SX p nb s' g o k :=
  ⟨S', by rw [hm]; exact X.L, by rw [hm]; exact X.D, by rw [hm]; exact X.v, X.dk⟩
theorem GX.state {p : zb} {s s' : za} {gh : Gh} {g : ze} (G : GX p s gh g) (hm : s'.M = s.M) (hb : s'.Bins = s.Bins) : GX p s' gh g :=
  ⟨G.o, G.pc, G.md, G.ob, G.c0, by rw [hm]; exact G.c5, by rw [hm, hb]; exact G.c7, by rw [hm]; exact G.d3⟩
theorem WX.state {p : zb} {s s' : za} {gh : Gh} {w : Int} {x : zi} (W : WX p s gh w x) (hm : s'.M = s.M) (hb : s'.Bins = s.Bins) : WX p s' gh w x :=
  ⟨W.c0, W.bt, by rw [hm]; exact W.p0, by rw [hm]; exact W.p1, by rw [hm]; exact W.p2, by rw [hm]; exact W.p4, fun e => ⟨(W.p6 e).1.state hm hb, (W.p6 e).2⟩⟩
theorem znF {s s' : za} {x : zi} (hm : s'.M = s.M) (hb : s'.Bins = s.Bins) : zT s' x = zT s x := by
  unfold zT Z3 yx; rw [hm, hb]
def zdH (p : zb) (s : za) (g : Gh) : List Int := yB p s g ++ s.Ws.flatMap (zT s)
structure XV (B : List Int) (t : zn) : Prop where
  blk : ∀ o, xe t.Black o = true → xe t.Marks o = true
  nd : B.Nodup
  gr : ∀ o, o ∈ B ↔ Wk t o = 1
theorem zfe {t : zn} {o : Int} (h : Wk t o = 1) : 1 ≤ o ∧ o ≤ 64 := by
  have := (xI _ _).1 ((WH t o).1 h).1
  exact ⟨this.1, this.2.1⟩
theorem XV.more {B B' : List Int} {t : zn} {o : Int} (K : XV B t) (ho : 1 ≤ o ∧ o ≤ 64) (hn : ¬ (t.Marks ||| bit o = t.Marks)) (h : List.Perm B' (o :: B)) : XV B' { t with Marks := t.Marks ||| bit o } := by
  have hn := (zeN ho).1 hn
  have hnb : ¬ xe t.Black o = true := fun e => hn (K.blk o e)
  have hno : o ∉ B := fun e => hn ((WH t o).1 ((K.gr o).1 e)).1
  refine ⟨fun q hq => (Zr _ ho q).2 (.inl (K.blk q hq)), h.nodup_iff.2 (List.nodup_cons.2 ⟨hno, K.nd⟩), fun q => ?_⟩
  rw [h.mem_iff, List.mem_cons, K.gr, WH, WH]
  show q = o ∨ _ ↔ xe (t.Marks ||| bit o) q = true ∧ ¬ xe t.Black q = true
  rw [Zr _ ho]
  constructor
  · rintro (rfl | ⟨a, b⟩)
    · exact ⟨.inr rfl, hnb⟩
    · exact ⟨.inl a, b⟩
  · rintro ⟨a | a, b⟩
    · exact .inr ⟨a, b⟩
    · exact .inl a
theorem XV.less {B B' : List Int} {t : zn} {o : Int} (K : XV B t) (h : List.Perm (B' ++ [o]) B) : XV B' (U8 t o) ∧ (U8 t o).Marks = t.Marks ∧ Wk t o = 1 ∧ ∀ q, xe (U8 t o).Black q = true ↔ xe t.Black q = true ∨ q = o := by
  have ho : Wk t o = 1 := (K.gr o).1 (h.mem_iff.1 (by simp))
  have hr := zfe ho
  have hm := ((WH t o).1 ho)
  have hnd := h.nodup_iff.2 K.nd
  have hnd := List.nodup_append.1 hnd
  unfold U8
  rw [if_pos ho]
  refine ⟨⟨fun q hq => ?_, hnd.1, fun q => ?_⟩, rfl, ho, fun q => Zr _ hr q⟩
  · rcases (Zr _ hr q).1 hq with e | e
    · exact K.blk q e
    · rw [e]; exact hm.1
  · have e1 : q ∈ B ↔ q ∈ B' ∨ q = o := by rw [← h.mem_iff, List.mem_append, List.mem_singleton]
    rw [K.gr, WH] at e1
    rw [WH]
    show _ ↔ xe t.Marks q = true ∧ ¬ xe (t.Black ||| bit o) q = true
    rw [Zr _ hr]
    constructor
    · intro hq
      have := e1.2 (.inl hq)
      exact ⟨this.1, fun e => e.elim this.2 (fun e => hnd.2.2 q hq o (by simp) e)⟩
    · rintro ⟨a, b⟩
      rcases e1.1 ⟨a, fun e => b (.inl e)⟩ with e | e
      · exact e
      · exact absurd (.inr e) b
theorem HOk.get {p : zb} (hp : zv p) {h : zG} (H : HOk p h) (o i : Int) : 0 ≤ wq h o i ∧ wq h o i ≤ 64 := by
  have h1 := H.n
  have h2 : p.Most ≤ 64 := by have := hp.most; have := hp.n; omega
  unfold wq
  split
  · unfold xg
    rw [List.getD_eq_getElem?_getD, List.getD_eq_getElem?_getD]
    cases hx : h.Objs[(o - 1).toNat]? with
    | none => show 0 ≤ (([] : List Int)[i.toNat]?).getD 0 ∧ _; simp
    | some l =>
      show 0 ≤ (l[i.toNat]?).getD 0 ∧ (l[i.toNat]?).getD 0 ≤ 64
      cases hv : l[i.toNat]? with
      | none => show (0 : Int) ≤ 0 ∧ (0 : Int) ≤ 64; decide
      | some v =>
        have := (H.objs l (List.mem_of_getElem? hx)).2 v (List.mem_of_getElem? hv)
        show 0 ≤ v ∧ v ≤ 64; omega
  · exact ⟨by decide, by decide⟩
structure WG (p : zb) (nb k : Nat) (s : za) (gh : Gh) : Prop where
  E : EOk p nb s
  X : SX p nb s gh (s.Ws.flatMap xk) k
  W : ∀ (i : Nat) x, s.Ws[i]? = some x → WX p s gh ((i : Int) + 1) x
  B : XV (zdH p s gh) s.T
def zro (s s' : za) (w : Int) : Prop :=
  s'.T = s.T ∨ (∃ x o, s.Ws[(w - 1).toNat]? = some x ∧ x.PC = 6 ∧ o = x.G.Obj ∧ (1 ≤ o ∧ o ≤ 64) ∧ ¬ xe s.T.Marks o = true ∧ s'.T = { s.T with Marks := s.T.Marks ||| bit o }) ∨
    (∃ x, s.Ws[(w - 1).toNat]? = some x ∧ x.PC = 8 ∧ Wk s.T x.Obj = 1 ∧ s'.T = { s.T with Black := s.T.Black ||| bit x.Obj })
theorem WG.step {p : zb} (hp : zv p) {nb k : Nat} {s : za} {gh : Gh} (hk : k < 4294960000) (G : WG p nb k s gh) {w : Int} (hw : 1 ≤ w ∧ w ≤ p.Workers) (hd : s.Done = false) : ∃ gh', WG p nb (k + 1) (Zu s w) gh' ∧ zro s (Zu s w) w := by
  have hE := zqB hp G.E w
  have hwl := G.E.wl
  have e0 : ¬ (s.Done = true ∨ w < 1 ∨ (s.Ws.length : Int) < w) := by rw [hd]; rintro (e | e | e) <;> first | cases e | omega
  revert hE
  unfold Zu
  rw [if_neg e0]
  have hi : (w - 1).toNat < s.Ws.length := by omega
  have hx := List.getElem?_eq_getElem hi
  generalize s.Ws[(w - 1).toNat] = x at hx
  rw [hx]
  dsimp only
  intro hE
  obtain ⟨a, b, el, es, hab, hba⟩ := zqJ hx
  have ei : (((w - 1).toNat : Nat) : Int) + 1 = w := by omega
  have hWX := G.W _ x hx
  have hWO := G.E.W _ x hx
  rw [ei] at hWX hWO
  have X0 : SX p nb s gh (xk x ++ (a ++ b).flatMap xk) k := G.X.perm (by rw [el]; exact zbl.symm)
  obtain ⟨gh', X', W', Fx, N, C, hN, hT⟩ := zs8 hp hk hw X0 hWO hWX (fun o i => G.E.H.get hp o i)
  have hoth : ∀ (j : Nat) y, j ≠ (w - 1).toNat → s.Ws[j]? = some y → WX p (zD s w x).1 gh' ((j : Int) + 1) y ∧ zT (zD s w x).1 y = zT s y := by
    intro j y hj hy
    have hjl := (List.getElem?_eq_some_iff.1 hy).1
    exact WX.other hp (w := (j : Int) + 1) (by omega) X0 Fx (G.W j y hy) (G.E.W j y hy) (fun z hz => List.mem_flatMap.2 ⟨y, hba j y hj hy, hz⟩) (fun e => hj (by omega))
  have hbag : List.Perm (zdH p { (zD s w x).1 with Ws := s.Ws.set (w - 1).toNat (zD s w x).2 } gh' ++ C) (N ++ zdH p s gh) := by
    unfold zdH
    have q1 : yB p { (zD s w x).1 with Ws := s.Ws.set (w - 1).toNat (zD s w x).2 } gh' = yB p (zD s w x).1 gh' := rfl
    have q2 : (s.Ws.set (w - 1).toNat (zD s w x).2).flatMap (zT { (zD s w x).1 with Ws := s.Ws.set (w - 1).toNat (zD s w x).2 }) = (a ++ (zD s w x).2 :: b).flatMap (zT (zD s w x).1) := by
      rw [es]; exact vJ (fun y _ => znF rfl rfl)
    have q3 : (a ++ b).flatMap (zT (zD s w x).1) = (a ++ b).flatMap (zT s) := vJ (fun y hy => by
      obtain ⟨j, hj, hjy⟩ := hab y hy
      exact (hoth j y hj hjy).2)
    rw [q1]
    show List.Perm (yB p (zD s w x).1 gh' ++ (s.Ws.set (w - 1).toNat (zD s w x).2).flatMap (zT { (zD s w x).1 with Ws := s.Ws.set (w - 1).toNat (zD s w x).2 }) ++ C) _
    rw [q2]
    have r1 : List.Perm (yB p (zD s w x).1 gh' ++ (a ++ (zD s w x).2 :: b).flatMap (zT (zD s w x).1) ++ C) ((a ++ b).flatMap (zT s) ++ (yB p (zD s w x).1 gh' ++ zT (zD s w x).1 (zD s w x).2 ++ C)) := by
      refine ((List.Perm.append_left _ zbl).append_right C).trans ?_
      rw [q3, List.append_assoc, List.append_assoc, List.append_assoc]
      refine (List.perm_append_comm_assoc _ _ _).trans ?_
      refine (List.Perm.append_left _ (List.perm_append_comm_assoc _ _ _)).trans ?_
      refine (List.perm_append_comm_assoc _ _ _).trans (List.Perm.append_left _ ?_)
      exact List.perm_append_comm_assoc _ _ _
    have r2 : List.Perm (N ++ (yB p s gh ++ s.Ws.flatMap (zT s))) ((a ++ b).flatMap (zT s) ++ (N ++ (yB p s gh ++ zT s x))) := by
      conv => lhs; rw [el]
      refine (List.Perm.append_left _ (List.Perm.append_left _ zbl)).trans ?_
      refine (List.Perm.append_left _ ?_).trans (List.perm_append_comm_assoc _ _ _)
      rw [← List.append_assoc]
      exact List.perm_append_comm
    exact r1.trans ((List.Perm.append_left _ hN).trans r2.symm)
  have fin : XV (zdH p { (zD s w x).1 with Ws := s.Ws.set (w - 1).toNat (zD s w x).2 } gh') (zD s w x).1.T → WG p nb (k + 1) { (zD s w x).1 with Ws := s.Ws.set (w - 1).toNat (zD s w x).2 } gh' := by
    intro hB
    refine ⟨hE, ?_, fun j y hy => ?_, hB⟩
    · refine (X'.state hE.S rfl).perm ?_
      show List.Perm ((s.Ws.set (w - 1).toNat (zD s w x).2).flatMap xk) _
      rw [es]; exact zbl
    · have hy : (s.Ws.set (w - 1).toNat (zD s w x).2)[j]? = some y := hy
      by_cases hj : j = (w - 1).toNat
      · subst hj
        rw [List.getElem?_set_self hi] at hy
        injection hy with hy
        rw [← hy, ei]
        exact W'.state rfl rfl
      · rw [List.getElem?_set_ne (fun e => hj e.symm)] at hy
        exact (hoth j y hj hy).1.state rfl rfl
  refine ⟨gh', ?_⟩
  rcases hT with ⟨rfl, rfl, t1⟩ | ⟨rfl, rfl, t1, t2, t3⟩ | ⟨rfl, rfl, t1, t2⟩
  · rw [List.append_nil, List.nil_append] at hbag
    refine ⟨fin ⟨?_, hbag.nodup_iff.2 G.B.nd, fun o => ?_⟩, .inl t1⟩
    · rw [t1]; exact G.B.blk
    · rw [t1, hbag.mem_iff]; exact G.B.gr o
  · have ho := ((hWX.p6 t1).1).ob
    rw [List.append_nil] at hbag
    refine ⟨fin ?_, .inr (.inl ⟨x, x.G.Obj, hx, t1, rfl, ho, (zeN ho).1 t2, t3⟩)⟩
    rw [t3]
    exact G.B.more ho t2 hbag
  · rw [List.nil_append] at hbag
    obtain ⟨b1, b2, b3, b4⟩ := G.B.less hbag
    refine ⟨fin ?_, .inr (.inr ⟨x, hx, t1, b3, ?_⟩)⟩
    · rw [t2]; exact b1
    · show (zD s w x).1.T = _
      rw [t2]; unfold U8; rw [if_pos b3]
end
end Go.Pe.G
namespace Go.Pe.G
open Go.Pe
noncomputable section
theorem zeW {N : Int} {nb : Nat} (hN : 0 ≤ N ∧ N < 1000) (hnb : nb < 1000) : ∀ (l : List Int) (m : List (BitVec 64)) (a : Int), (∀ x ∈ l, 1 ≤ x ∧ x < nb) → (∀ x ∈ l, a ≠ N + x) → ld (links m N l) a = ld m a
  | [], m, a, _, _ => rfl
  | [x], m, a, h, h2 => by
    have := h x (by simp)
    have := h2 x (by simp)
    rw [links, xV (by omega) (by omega)]
    exact z9 (by omega)
  | x :: y :: l, m, a, h, h2 => by
    have := h x (by simp)
    have := h2 x (by simp)
    rw [links, zeW hN hnb (y :: l) _ a (fun z hz => h z (List.mem_cons_of_mem _ hz)) (fun z hz => h2 z (List.mem_cons_of_mem _ hz)), xV (by omega) (by omega)]
    exact z9 (by omega)
theorem zfW {N : Int} {nb : Nat} (hN : 0 ≤ N ∧ N < 1000) (hnb : nb < 1000) : ∀ (l : List Int) (m : List (BitVec 64)), (∀ x ∈ l, 1 ≤ x ∧ x < nb) → l.Nodup → N + nb ≤ m.length → Chn (links m N l) N nb (l.headD 0) l
  | [], m, _, _, _ => rfl
  | [x], m, h, _, hl => by
    have := h x (by simp)
    refine ⟨rfl, this.1, this.2, ?_⟩
    rw [links, xV (by omega) (by omega), Za, if_pos ⟨rfl, by omega, by omega⟩]
    rfl
  | x :: y :: l, m, h, hd, hl => by
    have hx := h x (by simp)
    have hy := h y (by simp)
    have hd := List.nodup_cons.1 hd
    refine ⟨rfl, hx.1, hx.2, ?_⟩
    have ih := zfW hN hnb (y :: l) (st m (wc (N + x)) (BitVec.ofInt 64 y)) (fun z hz => h z (List.mem_cons_of_mem _ hz)) hd.2 (by rw [w9]; exact hl)
    rw [links, zeW hN hnb (y :: l) _ (N + x) (fun z hz => h z (List.mem_cons_of_mem _ hz)) (fun z hz e => hd.1 (by rw [zd7 e] at hz; exact hz)), xV (by omega) (by omega), Za, if_pos ⟨rfl, by omega, by omega⟩, toInt_ofInt (by omega) (by omega)]
    rw [xV (by omega) (by omega)] at ih
    exact ih
theorem Chn.links {N : Int} {nb : Nat} (hN : 0 ≤ N ∧ N < 1000) (hnb : nb < 1000) {l r : List Int} {h : Int} {m : List (BitVec 64)} (hr : ∀ x ∈ r, 1 ≤ x ∧ x < nb) (hd : ∀ x ∈ l, x ∉ r) (c : Chn m N nb h l) : Chn (Go.Pe.G.links m N r) N nb h l := by
  induction l generalizing h with
  | nil => exact c
  | cons y l ih =>
    refine ⟨c.1, c.2.1, c.2.2.1, ?_⟩
    rw [zeW hN hnb r m (N + y) hr (fun z hz e => hd y (by simp) (by rw [zd7 e] at hz; exact hz))]
    exact ih (fun x hx => hd x (List.mem_cons_of_mem _ hx)) c.2.2.2
theorem zs9 (k : Nat) : yC k = zdr (k + 1) := rfl
theorem zmV {l : List Int} {nb : Nat} (h : ∀ x ∈ l, 1 ≤ x ∧ x < nb) (hnb : nb < 1000) : 0 ≤ l.headD 0 ∧ l.headD 0 < 4294967296 := by
  cases l with
  | nil => exact ⟨by decide, by decide⟩
  | cons a r => have := h a (by simp); show 0 ≤ a ∧ a < 4294967296; omega
theorem zpA {p : zb} (h : zv p) : LI p (zL p + 1) (yE p).M (zP p) (zw p) ((yC (zL p)).take (yD p).length) ((yC (zL p)).drop (yD p).length) [] ∧ yo (ld (yE p).M (zP p)) = 0 ∧ yo (ld (yE p).M (zw p)) = 0 := by
  have hb := Uo h
  have hF := wJ h
  have hE := yS h
  have hcl := Yo p p.Workers.toNat
  have hw := h.wk
  have hc := h.cap
  have hfe : zP p = ((p.Workers.toNat * (p.Cap.toNat + 2) : Nat) : Int) := by
    rw [hF.1]
    have e1 : p.Workers = ((p.Workers.toNat : Nat) : Int) := by omega
    have e2 : p.Cap + 2 = ((p.Cap.toNat + 2 : Nat) : Int) := by omega
    rw [e2, Int.natCast_mul]
    rw [← e1]
  have hN : 0 ≤ zw p ∧ zw p < 1000 := by omega
  have hnb : zL p + 1 < 1000 := by omega
  generalize hk : (yD p).length = k
  have t1 : ∀ x ∈ (yC (zL p)).take k, 1 ≤ x ∧ x < ((zL p + 1 : Nat) : Int) := fun x hx => by have := UM (List.mem_of_mem_take hx); omega
  have t2 : ∀ x ∈ (yC (zL p)).drop k, 1 ≤ x ∧ x < ((zL p + 1 : Nat) : Int) := fun x hx => by have := UM (List.mem_of_mem_drop hx); omega
  have nd : ((yC (zL p)).take k ++ (yC (zL p)).drop k).Nodup := by rw [List.take_append_drop]; exact zhq (zL p + 1)
  have nd3 := List.nodup_append.1 nd
  have eM : (yE p).M = WY (WY (vX p p.Workers.toNat ++ List.replicate (2 + zL p) 0#64) (zP p) (zw p) ((yC (zL p)).take k)) (zw p) (zw p) ((yC (zL p)).drop k) := by rw [← hk]; rfl
  rw [eM]
  generalize hm0 : vX p p.Workers.toNat ++ List.replicate (2 + zL p) 0#64 = m0
  have l0 : zw p + ((zL p + 1 : Nat) : Int) ≤ m0.length := by
    rw [← hm0, List.length_append, hcl, List.length_replicate]; omega
  have p1 := zmV t1 hnb
  have p2 := zmV t2 hnb
  have v0 : ∀ n : Int, 0 ≤ n → n < 4294967296 → yo (yr 0#64 n) = 0 := fun n h1 h2 => by
    unfold yo; rw [zje _ h1 h2]; show (0 * 4294967296 + n.toNat) / 4294967296 = 0; omega
  have c1 := zfW hN hnb _ m0 t1 nd3.1 l0
  generalize hm1 : links m0 (zw p) ((yC (zL p)).take k) = m1 at c1
  have l1 : m1.length = m0.length := by rw [← hm1, W8]
  have c1' := (c1.st_head h (a := zP p) (v := yr 0#64 (((yC (zL p)).take k).headD 0)) (.inl rfl)).links hN hnb t2 (fun x hx hx2 => nd3.2.2 x hx x hx2 rfl)
  have c2 := zfW hN hnb _ (st m1 (zP p) (yr 0#64 (((yC (zL p)).take k).headD 0))) t2 nd3.2.1 (by rw [w9, l1]; exact l0)
  have hd1 : ld (links (st m1 (zP p) (yr 0#64 (((yC (zL p)).take k).headD 0))) (zw p) ((yC (zL p)).drop k)) (zP p) = yr 0#64 (((yC (zL p)).take k).headD 0) := by
    rw [zeW hN hnb _ _ _ t2 (fun x hx => by have := t2 x hx; omega), Za, if_pos ⟨rfl, by omega, by omega⟩]
  unfold WY
  rw [hm1]
  generalize hm2 : links (st m1 (zP p) (yr 0#64 (((yC (zL p)).take k).headD 0))) (zw p) ((yC (zL p)).drop k) = m2 at c1' c2 hd1
  have l2 : m2.length = m0.length := by rw [← hm2, W8, w9, l1]
  have g1 : ld (st m2 (zw p) (yr 0#64 (((yC (zL p)).drop k).headD 0))) (zP p) = yr 0#64 (((yC (zL p)).take k).headD 0) := by rw [z9 (by omega), hd1]
  have g2 : ld (st m2 (zw p) (yr 0#64 (((yC (zL p)).drop k).headD 0))) (zw p) = yr 0#64 (((yC (zL p)).drop k).headD 0) := by rw [Za, if_pos ⟨rfl, by omega, by omega⟩]
  refine ⟨⟨.inl ⟨rfl, rfl⟩, ?_, ?_, ?_, by rw [w9, l2]; exact l0⟩, ?_, ?_⟩
  · rw [g1, WZ _ p1.1 p1.2]
    exact c1'.st_head h (.inr rfl)
  · rw [g2, WZ _ p2.1 p2.2]
    exact c2.st_head h (.inr rfl)
  · rw [List.append_nil, List.take_append_drop]
    exact List.Perm.refl _
  · rw [g1]; exact v0 _ p1.1 p1.2
  · rw [g2]; exact v0 _ p2.1 p2.2
end
end Go.Pe.G
namespace Go.Pe.G
open Go.Pe
noncomputable section
theorem zfK {N : Int} (hN : 0 ≤ N ∧ N < 1000) : ∀ (l : List Int) (m : List (BitVec 64)) (a : Int), (∀ x ∈ l, 1 ≤ x ∧ x < 1000) → a ≤ N → ld (links m N l) a = ld m a
  | [], m, a, _, _ => rfl
  | [x], m, a, h, h2 => by
    have := h x (by simp)
    rw [links, xV (by omega) (by omega)]
    exact z9 (by omega)
  | x :: y :: l, m, a, h, h2 => by
    have := h x (by simp)
    rw [links, zfK hN (y :: l) _ a (fun z hz => h z (List.mem_cons_of_mem _ hz)) h2, xV (by omega) (by omega)]
    exact z9 (by omega)
theorem zrF {p : zb} (h : zv p) {a : Int} (ha : a < zP p) : ld (yE p).M a = ld (vX p p.Workers.toNat ++ List.replicate (2 + zL p) 0#64) a := by
  have hb := Uo h
  have hF := wJ h
  have hE := yS h
  have t1 : ∀ x ∈ (yC (zL p)).take (yD p).length, 1 ≤ x ∧ x < 1000 := fun x hx => by have := UM (List.mem_of_mem_take hx); omega
  have t2 : ∀ x ∈ (yC (zL p)).drop (yD p).length, 1 ≤ x ∧ x < 1000 := fun x hx => by have := UM (List.mem_of_mem_drop hx); omega
  show ld (WY (WY _ (zP p) (zw p) _) (zw p) (zw p) _) a = _
  unfold WY
  rw [z9 (by omega), zfK (by omega) _ _ _ t2 (by omega), z9 (by omega), zfK (by omega) _ _ _ t1 (by omega)]
theorem zkY (p : zb) : ∀ (k i j : Nat), i < k → j < p.Cap.toNat + 2 → (vX p k)[i * (p.Cap.toNat + 2) + j]? = (zai p.Cap)[j]?
  | 0, i, j, h, _ => by omega
  | k + 1, i, j, h, hj => by
    rw [zd0]
    have hl := Yo p k
    rcases Nat.lt_or_ge i k with h1 | h1
    · have h2 := Nat.mul_le_mul_right (p.Cap.toNat + 2) (show i + 1 ≤ k from h1)
      rw [Nat.succ_mul] at h2
      rw [List.getElem?_append_left (by omega)]
      exact zkY p k i j h1 hj
    · have : i = k := by omega
      subst this
      rw [List.getElem?_append_right (by omega), hl, show i * (p.Cap.toNat + 2) + j - i * (p.Cap.toNat + 2) = j by omega]
theorem zmL {p : zb} (h : zv p) {w : Int} (hw : 1 ≤ w ∧ w ≤ p.Workers) {j : Nat} (hj : j < 2) : ld (yE p).M (zC p w + j) = 1#64 := by
  have hd := vD h hw.1 hw.2
  have hc := h.cap
  have hl := Yo p p.Workers.toNat
  have hlt : (w - 1).toNat < p.Workers.toNat := by omega
  have e1 : (zC p w + j).toNat = (w - 1).toNat * (p.Cap.toNat + 2) + j := by
    obtain ⟨n, hn⟩ : ∃ n : Nat, w - 1 = (n : Int) := ⟨(w - 1).toNat, by omega⟩
    have e2 : p.Cap + 2 = ((p.Cap.toNat + 2 : Nat) : Int) := by omega
    rw [hd.1, hn, e2, ← Int.natCast_mul, Int.toNat_natCast]
    omega
  have h2 := Nat.mul_le_mul_right (p.Cap.toNat + 2) (show (w - 1).toNat + 1 ≤ p.Workers.toNat from hlt)
  rw [Nat.succ_mul] at h2
  rw [zrF h (by omega)]
  unfold ld
  rw [if_pos (by omega), e1, List.getD_eq_getElem?_getD, List.getElem?_append_left (by omega), zkY p _ _ _ hlt (by omega)]
  unfold zai
  match j, hj with
  | 0, _ => rfl
  | 1, _ => rfl
theorem zhg (n : Nat) (hn : 1 ≤ n) : ∀ (f : Nat) (l : List Int), l.length ≤ f → (wz n f l).flatten = l
  | 0, l, h => by
    have : l = [] := List.length_eq_zero_iff.1 (by omega)
    subst this; simp [wz]
  | f + 1, [], _ => by simp [wz]
  | f + 1, x :: l, h => by
    have := zhg n hn f ((x :: l).drop n) (by rw [List.length_drop]; simp at h ⊢; omega)
    simp only [wz, List.flatten_cons] at this ⊢
    rw [this, List.take_append_drop]
theorem zp2 {α : Type} (l : List (List α)) : (List.range l.length).flatMap (fun i : Nat => (l[i]?).getD []) = l.flatten := by
  rw [List.flatMap_def]
  congr 1
  apply List.ext_getElem
  · simp
  · intro i h1 h2
    simp [List.getElem?_eq_getElem h2]
def gh0 (p : zb) : Gh := ⟨(yC (zL p)).take (yD p).length, (yC (zL p)).drop (yD p).length, fun _ => [], fun _ => 1, fun _ => 0⟩
theorem Ur {α β : Type} {f : α → List β} : ∀ {l : List α}, (∀ x ∈ l, f x = []) → l.flatMap f = []
  | [], _ => rfl
  | a :: l, h => by rw [List.flatMap_cons, h a (by simp), Ur (fun x hx => h x (List.mem_cons_of_mem _ hx))]; rfl
theorem zrJ {p : zb} (h : zv p) : yB p (yE p) (gh0 p) = Yk (uK p) := by
  have hb := h.bin
  have hfl := zh7 h
  have hbs := Uo h
  have hmost := h.most
  have hw := h.wk
  have hm := h.mt
  have e1 : yB p (yE p) (gh0 p) = ((yC (zL p)).take (yD p).length).flatMap (yx (yE p)) := by
    show ((yC (zL p)).take (yD p).length).flatMap (yx (yE p)) ++ (List.range p.Workers.toNat).flatMap (fun _ => ([] : List Int)) = _
    rw [Ur (f := fun _ => ([] : List Int)) (fun _ _ => rfl), List.append_nil]
  have e2 : (yC (zL p)).take (yD p).length = (List.range (yD p).length).map (fun i : Nat => (i : Int) + 1) := by
    unfold yC
    rw [← List.map_take, List.take_range, Nat.min_eq_left (by omega)]
  rw [e1, e2, List.flatMap_map]
  have e3 : (List.range (yD p).length).flatMap (fun i : Nat => yx (yE p) ((i : Int) + 1)) = (List.range (yD p).length).flatMap (fun i : Nat => ((yD p)[i]?).getD []) := by
    refine vJ (fun i hi => ?_)
    have hi := List.mem_range.1 hi
    unfold yx
    show (([[]] ++ yD p ++ List.replicate (zL p - (yD p).length) [])[((i : Int) + 1).toNat]?).getD [] = _
    rw [show ((i : Int) + 1).toNat = i + 1 by omega, List.append_assoc]
    show ((yD p ++ List.replicate (zL p - (yD p).length) [])[i]?).getD [] = _
    rw [List.getElem?_append_left hi]
  rw [e3, zp2]
  exact zhg _ (by omega) _ _ (Nat.le_refl _)
theorem znm (s : BitVec 64) : (Yk s).Nodup := by
  unfold Yk
  rw [List.Nodup, List.pairwise_map]
  exact (List.nodup_range.filter _).imp (fun h e => h (by omega))
theorem zi5 {s : BitVec 64} (h : s &&& ~~~63#64 = 0#64) {j : Nat} (hs : s.getLsbD j = true) : j < 6 := by
  have hj : j < 64 := BitVec.lt_of_getLsbD hs
  have := congrArg (fun x => x.getLsbD j) h
  simp only [BitVec.getLsbD_and, BitVec.getLsbD_not, hs, hj, decide_true, Bool.true_and, BitVec.getLsbD_zero] at this
  have h63 : (63#64).getLsbD j = decide (j < 6) := by
    have : ∀ j : Fin 64, (63#64).getLsbD j.1 = decide (j.1 < 6) := by decide
    exact this ⟨j, hj⟩
  rw [h63] at this
  by_cases e : j < 6
  · exact e
  · rw [decide_eq_false e] at this; cases this
theorem zpR {s : BitVec 64} (h : s &&& ~~~63#64 = 0#64) (o : Int) : o ∈ Yk s ↔ xe s o = true := by
  unfold Yk
  rw [xI, List.mem_map]
  constructor
  · rintro ⟨i, hi, rfl⟩
    obtain ⟨h1, h2⟩ := List.mem_filter.1 hi
    have := List.mem_range.1 h1
    exact ⟨by omega, by omega, by rw [show ((i : Int) + 1 - 1).toNat = i by omega]; exact h2⟩
  · rintro ⟨h1, h2, h3⟩
    exact ⟨(o - 1).toNat, List.mem_filter.2 ⟨List.mem_range.2 (zi5 h h3), h3⟩, by omega⟩
theorem zsx {p : zb} (h : zv p) : WG p (zL p + 1) 0 (yE p) (gh0 p) := by
  have hE := zsw h
  obtain ⟨L, v1, v2⟩ := zpA h
  have hc := h.cap
  have hws : ∀ x ∈ (yE p).Ws, ∃ i : Nat, x = xU p i := fun x hx => by
    obtain ⟨i, _, rfl⟩ := List.mem_map.1 (show x ∈ (List.range p.Workers.toNat).map (xU p) from hx)
    exact ⟨i, rfl⟩
  have hb : ∀ i : Nat, xU p i = Xz p ((i : Int) + 1) (xU p i) := fun i => rfl
  have own : (yE p).Ws.flatMap xk = [] := Ur (fun x hx => by
    obtain ⟨i, rfl⟩ := hws x hx
    exact xC (by show (0 : Int) ≠ 3; decide) (by show (0 : Int) ≠ 4; decide) (by show (0 : Int) ≠ 6; decide))
  have hold : (yE p).Ws.flatMap (zT (yE p)) = [] := Ur (fun x hx => by
    obtain ⟨i, rfl⟩ := hws x hx
    unfold zT
    rw [hb i, zbF]; rfl)
  refine ⟨hE, ⟨hE.S, by rw [own]; exact L, fun w h1 h2 => ?_, ?_, fun w _ _ => by show 1 + 0 ≤ 0 + 1000; decide⟩, fun i x hx => ?_, ?_⟩
  · have c0 := zmL h ⟨h1, h2⟩ (j := 0) (by decide)
    have c1 := zmL h ⟨h1, h2⟩ (j := 1) (by decide)
    rw [show zC p w + ((0 : Nat) : Int) = zC p w by omega] at c0
    exact ⟨c0, c1, by show (0 : Nat) ≤ 1; decide, by show (1 : Nat) ≤ 1; decide, Nat.zero_le _, by show 1 + 0 < 4294967296; decide, fun i hi => absurd hi (Nat.not_lt_zero _)⟩
  · rw [v1, v2]; exact ⟨Nat.le_refl _, Nat.le_refl _⟩
  · have hx : ((List.range p.Workers.toNat).map (xU p))[i]? = some x := hx
    rw [List.getElem?_map] at hx
    cases hr : (List.range p.Workers.toNat)[i]? with
    | none => rw [hr] at hx; cases hx
    | some j =>
      rw [hr] at hx
      injection hx with hx
      obtain ⟨h1, h2⟩ := List.getElem?_eq_some_iff.1 hr
      rw [List.getElem_range] at h2
      subst h2
      rw [← hx, hb i]
      exact WX.begin rfl rfl
  · have hs := U6 h
    unfold zdH
    rw [hold, List.append_nil, zrJ h]
    refine ⟨fun o ho => absurd ho (zau o), znm _, fun o => ?_⟩
    rw [zpR hs, WH]
    exact ⟨fun e => ⟨e, zau o⟩, fun e => e.1⟩
end
end Go.Pe.G
namespace Go.Pe.G
open Go.Pe
noncomputable section
def noD (base cap : Int) : zc := ⟨0, 0, base, cap, 0#64, 0#64, 0, 0⟩
def UC (o : zc) : Prop := o.Kind = 2 ∧ o.Out = 0 ∧ (o.PC = 2 ∨ o.PC = 4 ∨ o.PC = 5 ∨ (o.PC = 3 ∧ o.T = o.B - 1#64))
instance (o : zc) : Decidable (UC o) := by unfold UC; infer_instance
def VI (m : List (BitVec 64)) (base : Int) (o : zc) : BitVec 64 := if UC o then ld m (wc (base + 1)) + 1#64 else ld m (wc (base + 1))
def vW (m : List (BitVec 64)) (base cap : Int) (top : BitVec 64) (n : Nat) : List Int := (List.range n).map (fun j : Nat => (ld m (vz (noD base cap) (top + BitVec.ofNat 64 j))).toInt)
def vO (m : List (BitVec 64)) (base cap : Int) (o : zc) : List Int :=
  if ¬ 0 < (VI m base o - ld m base).toInt ∨ (min (wi (noD base cap)).toNat 64) < (VI m base o - ld m base).toNat then []
  else vW m base cap (ld m base) (VI m base o - ld m base).toNat
theorem zr5 {p : zb} (h : zv p) (b : Int) : (wi (noD b p.Cap)).toNat = p.Cap.toNat := by
  have hc := h.cap
  have hx : p.Cap = 1 ∨ p.Cap = 2 ∨ p.Cap = 3 := by omega
  unfold wi noD
  rcases hx with e | e | e <;> simp only [e] <;> decide
theorem zn8 {a b : Nat} (h : b ≤ a) (h2 : a < 4294967296) : BitVec.ofNat 64 a - BitVec.ofNat 64 b = BitVec.ofNat 64 (a - b) := W3 h (by omega)
theorem zhJ {p : zb} (h : zv p) {m : List (BitVec 64)} {w : Int} {t c : Nat} {l : List Int} {o : zc} (hw : 1 ≤ w ∧ w ≤ p.Workers) (D : DQ p m w t l c) (he : VI m (zC p w) o = BitVec.ofNat 64 (t + l.length)) : vO m (zC p w) p.Cap o = l := by
  have hs := D.small
  have hcap := D.cap
  have hc := h.cap
  have ed : VI m (zC p w) o - ld m (zC p w) = BitVec.ofNat 64 l.length := by
    rw [he, D.top, zn8 (by omega) hs]; congr 1; omega
  unfold vO
  rw [ed, wS (by omega), zr5 h]
  by_cases hl : l = []
  · subst hl
    rw [if_pos (.inl (by decide))]
  · have hpos : 0 < l.length := List.length_pos_iff.2 hl
    have : 0 < (BitVec.ofNat 64 l.length).toInt := by
      have := (zaL (a := t + l.length) (b := t) hs (by omega)).2 (by omega)
      rw [zn8 (by omega) hs] at this
      rwa [show t + l.length - t = l.length by omega] at this
    rw [if_neg (by omega)]
    unfold vW
    apply List.ext_getElem
    · simp
    · intro i h1 h2
      rw [List.getElem_map, List.getElem_range, D.top, Xq (by omega), Vc h hw rfl rfl (by omega), D.cell i h2]
theorem zps {p : zb} (h : zv p) {m : List (BitVec 64)} {w : Int} {t c : Nat} {o : zc} (D : DQ p m w t [] c) (he : VI m (zC p w) o = BitVec.ofNat 64 (t - 1)) : vO m (zC p w) p.Cap o = [] := by
  have hs := D.small
  unfold vO
  refine if_pos (.inl (fun e => ?_))
  rw [he, D.top] at e
  have := (zaL (by have : t + 0 < 4294967296 := hs; omega) (by have : t + 0 < 4294967296 := hs; omega)).1 e
  omega
theorem zis {p : zb} (h : zv p) {w : Int} (hw : 1 ≤ w ∧ w ≤ p.Workers) : wc (zC p w + 1) = zC p w + 1 := by
  have hd := vD h hw.1 hw.2
  have hf := wJ h
  have hc := h.cap
  exact xV (by omega) (by omega)
theorem zfj {p : zb} (h : zv p) {m : List (BitVec 64)} {w : Int} {t : Nat} {l : List Int} {o : zc} (hw : 1 ≤ w ∧ w ≤ p.Workers) (D : DQ p m w t l 0) (ho : ¬ UC o) : vO m (zC p w) p.Cap o = l := by
  refine zhJ h hw D ?_
  unfold VI
  rw [if_neg ho, zis h hw, D.bot]; rfl
theorem zpQ {p : zb} (h : zv p) {m : List (BitVec 64)} {w : Int} {t c : Nat} {l : List Int} {o : zc} (hw : 1 ≤ w ∧ w ≤ p.Workers) (D : DQ p m w t l c) (K : PK p m w t l c o) : vO m (zC p w) p.Cap o = l := by
  have hs := D.small
  have ht := D.t1
  have hpc := K.pc
  by_cases h1 : UC o
  · have hc : c = 1 := by
      rcases h1.2.2 with e | e | e | ⟨e, e2⟩
      · exact K.c1 (.inl e)
      · exact K.c1 (.inr (by omega))
      · exact K.c1 (.inr (by omega))
      · exact K.c3 e e2
    subst hc
    refine zhJ h hw D ?_
    unfold VI
    rw [if_pos h1, zis h hw, D.bot, show (1#64 : BitVec 64) = BitVec.ofNat 64 1 from rfl, Xq (by omega)]
    congr 1; omega
  · have hn : ¬ (o.PC = 2 ∨ o.PC = 4 ∨ o.PC = 5 ∨ (o.PC = 3 ∧ o.T = o.B - 1#64)) := fun e => h1 ⟨K.kind, K.out, e⟩
    by_cases h6 : o.PC = 6
    · have hl := K.e5 (by omega)
      have hc := K.c1 (.inr (by omega))
      subst hl; subst hc
      refine zps h D ?_
      unfold VI
      rw [if_neg h1, zis h hw, D.bot]; rfl
    · have hc : c = 0 := by
        by_cases h3 : o.PC = 3
        · exact (K.n3 h3 (fun e => hn (.inr (.inr (.inr ⟨h3, e⟩))))).1
        · exact K.c0 (by omega)
      subst hc
      exact zfj h hw D h1
def zfS (l : List Int) : List Int := l.drop (l.length - 1)
def zqV : zc := ⟨2, 2, 0, 0, 0#64, 0#64, 0, 0⟩
theorem zox {p : zb} (h : zv p) {m : List (BitVec 64)} {w : Int} {t c : Nat} {l : List Int} {o : zc} (hw : 1 ≤ w ∧ w ≤ p.Workers) (D : DQ p m w t l c) (K : PK p m w t l c o) (h3 : o.PC = 3) (hT : o.T ≠ o.B - 1#64) :
    zfS (vO m (zC p w) p.Cap zqV) = [(ld m (vz o (o.B - 1#64))).toInt] := by
  obtain ⟨n1, n2, n3, n4⟩ := K.n3 h3 hT
  subst n1
  have hcp := h.cap
  have eB : o.B - 1#64 = BitVec.ofNat 64 (t + l.length) := by
    rw [n2, show (1#64 : BitVec 64) = BitVec.ofNat 64 1 from rfl, W3 (by omega) (by omega)]; rfl
  have D' : DQ p m w t (l ++ [(ld m (vz o (o.B - 1#64))).toInt]) 1 := by
    refine ⟨D.top, ?_, Nat.le_refl _, D.t1, by rw [List.length_append, List.length_singleton]; omega, by rw [List.length_append, List.length_singleton]; omega, fun i hi => ?_⟩
    · rw [D.bot, List.length_append, List.length_singleton]; congr 1
    · rw [List.length_append, List.length_singleton] at hi
      by_cases hl : i < l.length
      · rw [List.getElem_append_left hl]; exact D.cell i hl
      · have : i = l.length := by omega
        subst this
        rw [List.getElem_append_right (by omega)]
        simp only [Nat.sub_self, List.getElem_cons_zero]
        rw [eB, Vc h hw K.base K.size (by omega)]
  rw [zhJ h hw D' ?_]
  · unfold zfS
    rw [List.length_append, List.length_singleton, Nat.add_sub_cancel, List.drop_left]
  · have hl : (l ++ [(ld m (vz o (o.B - 1#64))).toInt]).length = l.length + 1 := by rw [List.length_append, List.length_singleton]
    unfold VI
    rw [if_pos (show UC zqV from ⟨rfl, rfl, .inl rfl⟩), zis h hw, D'.bot, hl, show (1#64 : BitVec 64) = BitVec.ofNat 64 1 from rfl, Xq (by omega)]
    congr 1
def zmy (x : zi) : zc := if x.PC = 0 then x.D else if x.PC = 6 ∧ x.G.PC = 3 then x.G.D else ⟨0, 0, 0, 0, 0#64, 0#64, 0, 0⟩
def zoG (p : zb) (s : za) (w : Int) (x : zi) : List Int :=
  if x.PC = 0 then (if x.D.PC = 3 ∧ x.D.T ≠ x.D.B - 1#64 then zfS (vO s.M (zC p w) p.Cap zqV) else []) ++ (if x.D.PC = 6 then [x.D.X] else [])
  else if x.PC = 3 then yx s x.Bin
  else if x.PC = 5 ∨ x.PC = 8 then [x.Obj]
  else if x.PC = 6 then x.Obj :: (if x.G.Out = 0 ∧ 3 ≤ x.G.PC ∧ x.G.PC ≤ 7 then [x.G.Obj] else [])
  else []
def zok (p : zb) (s : za) (w : Int) (x : zi) : List Int := x.Batch ++ zoG p s w x ++ vO s.M (zC p w) p.Cap (zmy x)
theorem zrD {p : zb} (h : zv p) {nb k : Nat} {s : za} {gh : Gh} {own : List Int} {w : Int} {x : zi} (hw : 1 ≤ w ∧ w ≤ p.Workers) (X : SX p nb s gh own k) (W : WX p s gh w x) (O : WOk p nb w x) : zok p s w x = zT s x ++ gh.D w := by
  have D := X.D w hw.1 hw.2
  have e1 : zoG p s w x = Z3 s x := by
    unfold zoG Z3
    by_cases p0 : x.PC = 0
    · rw [if_pos p0, if_pos p0]
      have K := W.p0 p0
      unfold uo
      by_cases e : x.D.PC = 3 ∧ x.D.T ≠ x.D.B - 1#64
      · rw [if_pos e, if_pos e, zox h hw D K e.1 e.2, if_neg (by omega), List.append_nil]
      · rw [if_neg e, if_neg e, List.nil_append]
    · rw [if_neg p0, if_neg p0]
      rfl
  have e2 : vO s.M (zC p w) p.Cap (zmy x) = gh.D w := by
    unfold zmy
    by_cases p0 : x.PC = 0
    · rw [if_pos p0]; exact zpQ h hw D (W.p0 p0)
    · have hc := W.c0 p0
      rw [hc] at D
      rw [if_neg p0]
      by_cases p6 : x.PC = 6 ∧ x.G.PC = 3
      · rw [if_pos p6]
        obtain ⟨G, g1, g2, g3⟩ := W.p6 p6.1
        have := (G.d3 p6.2 g3).2.2.kind
        exact zfj h hw D (fun e => by have := e.1; omega)
      · rw [if_neg p6]
        exact zfj h hw D (fun e => absurd e.1 (by show ¬ (0 : Int) = 2; decide))
  unfold zok zT
  rw [e1, e2]
end
end Go.Pe.G
namespace Go.Pe.G
open Go.Pe
noncomputable section
theorem zqv : ∀ (t : Fin 512) (k : Fin 9), BitVec.ofNat 64 t.1 ||| bit ((k.1 : Int) + 1) = BitVec.ofNat 64 t.1 ∨ cnt (BitVec.ofNat 64 t.1 ||| bit ((k.1 : Int) + 1)) = cnt (BitVec.ofNat 64 t.1) + 1 := by decide +kernel
theorem zqh {s : BitVec 64} (h : ∀ o, xe s o = true → o ≤ 9) : ∃ t : Fin 512, s = BitVec.ofNat 64 t.1 := by
  have h2 : s = s &&& 511#64 := by
    apply BitVec.eq_of_getLsbD_eq
    intro j hj
    rw [BitVec.getLsbD_and]
    have h63 : (511#64).getLsbD j = decide (j < 9) := by
      have : ∀ j : Fin 64, (511#64).getLsbD j.1 = decide (j.1 < 9) := by decide
      exact this ⟨j, hj⟩
    rw [h63]
    cases hs : s.getLsbD j with
    | false => rfl
    | true =>
      have := h ((j : Int) + 1) ((xI _ _).2 ⟨by omega, by omega, by rw [show ((j : Int) + 1 - 1).toNat = j by omega]; exact hs⟩)
      rw [decide_eq_true (by omega : j < 9)]; rfl
  have h3 : s.toNat < 512 := by
    rw [h2, BitVec.toNat_and]
    exact Nat.lt_of_le_of_lt Nat.and_le_right (by decide)
  exact ⟨⟨s.toNat, h3⟩, by rw [BitVec.ofNat_toNat, BitVec.setWidth_eq]⟩
theorem zsB {s : BitVec 64} (h : ∀ o, xe s o = true → o ≤ 9) {o : Int} (ho : 1 ≤ o ∧ o ≤ 9) (hn : ¬ xe s o = true) : cnt (s ||| bit o) = cnt s + 1 := by
  obtain ⟨t, rfl⟩ := zqh h
  have := zqv t ⟨(o - 1).toNat, by omega⟩
  rw [show (((o - 1).toNat : Nat) : Int) + 1 = o by omega] at this
  rcases this with e | e
  · exact absurd e ((zeN ⟨ho.1, by omega⟩).2 hn)
  · exact e
theorem zmY : ∀ (l : List Int) (s : BitVec 64) (q : Int), (∀ o ∈ l, 1 ≤ o ∧ o ≤ 64) → (xe (l.foldl (fun s o => s ||| bit o) s) q = true ↔ xe s q = true ∨ q ∈ l)
  | [], s, q, _ => by simp
  | a :: l, s, q, h => by
    rw [List.foldl_cons, zmY l _ q (fun o ho => h o (List.mem_cons_of_mem _ ho)), Zr _ (h a (by simp)), List.mem_cons, or_assoc]
theorem zmA : ∀ (l : List Int) (s : BitVec 64), (∀ o ∈ l, 1 ≤ o ∧ o ≤ 9) → (∀ o, xe s o = true → o ≤ 9) → l.Nodup → (∀ o ∈ l, ¬ xe s o = true) → cnt (l.foldl (fun s o => s ||| bit o) s) = cnt s + (l.length : Int)
  | [], s, _, _, _, _ => by simp
  | a :: l, s, h, hs, hd, hn => by
    have ha := h a (by simp)
    have hd := List.nodup_cons.1 hd
    have ha64 : 1 ≤ a ∧ a ≤ 64 := by omega
    rw [List.foldl_cons, zmA l _ (fun o ho => h o (List.mem_cons_of_mem _ ho)) (fun o ho => ?_) hd.2 (fun o ho e => ?_), zsB hs ha (hn a (by simp)), List.length_cons]
    · omega
    · rcases (Zr _ ha64 o).1 ho with e | e
      · exact hs o e
      · omega
    · rcases (Zr _ ha64 o).1 e with e | e
      · exact hn o (List.mem_cons_of_mem _ ho) e
      · exact hd.1 (e ▸ ho)
theorem zow : ∀ t : Fin 512, cnt (BitVec.ofNat 64 t.1) ≤ 9 := by decide +kernel
theorem zou {s : BitVec 64} (h : ∀ o, xe s o = true → o ≤ 9) : cnt s ≤ 9 := by
  obtain ⟨t, rfl⟩ := zqh h
  exact zow t
theorem zqW : cnt 0#64 = 0 := by decide +kernel
theorem znX {l : List Int} (h : ∀ o ∈ l, 1 ≤ o ∧ o ≤ 9) (hd : l.Nodup) : cnt (Yu l) = (l.length : Int) ∧ ∀ q, xe (Yu l) q = true ↔ q ∈ l := by
  refine ⟨?_, fun q => ?_⟩
  · unfold Yu
    rw [zmA l _ h (fun o e => absurd e (zau o)) hd (fun o _ => zau o), zqW, Int.zero_add]
  · unfold Yu
    rw [zmY l _ q (fun o ho => by have := h o ho; omega)]
    exact ⟨fun e => e.resolve_left (zau q), .inr⟩
theorem zeX (s : BitVec 64) {q : Int} (h : 1 ≤ q ∧ q ≤ 64) : xe (~~~s) q = true ↔ ¬ xe s q = true := by
  rw [xI, xI, BitVec.getLsbD_not]
  simp only [show (q - 1).toNat < 64 by omega, decide_true, Bool.true_and, Bool.not_eq_true']
  constructor
  · rintro ⟨_, _, e⟩ ⟨_, _, e2⟩; rw [e] at e2; cases e2
  · intro e
    refine ⟨h.1, h.2, ?_⟩
    cases hs : s.getLsbD (q - 1).toNat with
    | false => rfl
    | true => exact absurd ⟨h.1, h.2, hs⟩ e
end
end Go.Pe.G
namespace Go.Pe.G
open Go.Pe
noncomputable section
structure zm0 (s : za) : Prop where
  mks : ∀ o, xe s.T.Marks o = true → o ≤ 9
  ob : ∀ (i : Nat) x, s.Ws[i]? = some x → x.PC = 6 → x.G.Obj ≤ 9
theorem HOk.get9 {p : zb} (hp : zv p) {h : zG} (H : HOk p h) (o i : Int) : wq h o i ≤ 9 := by
  have h1 := H.n
  have h2 : p.Most ≤ 9 := by have := hp.most; have := hp.n; omega
  unfold wq
  split
  · unfold xg
    rw [List.getD_eq_getElem?_getD, List.getD_eq_getElem?_getD]
    cases hx : h.Objs[(o - 1).toNat]? with
    | none => show (([] : List Int)[i.toNat]?).getD 0 ≤ 9; simp
    | some l =>
      show (l[i.toNat]?).getD 0 ≤ 9
      cases hv : l[i.toNat]? with
      | none => show (0 : Int) ≤ 9; decide
      | some v =>
        have := (H.objs l (List.mem_of_getElem? hx)).2 v (List.mem_of_getElem? hv)
        show v ≤ 9; omega
  · decide
theorem zrg (s : za) (w : Int) (x : zi) (h : (zD s w x).2.PC = 6) : (x.PC = 6 ∧ (zD s w x).2.G.Obj = x.G.Obj) ∨ (x.PC = 5 ∧ (zD s w x).2.G.Obj = wq s.H x.Obj x.Slot) := by
  revert h
  have hon : ∀ i, onW s i ≠ 6 := fun i e => by rcases zgq s i with h | h <;> omega
  have hlk : ∀ y : zi, (ZA s.P w y).PC ≠ 6 := fun y e => by unfold ZA at e; split at e <;> cases e
  unfold zD
  split
  · rename_i h0
    dsimp only
    split
    · exact fun e => by cases e
    split
    · exact fun e => absurd e (hlk _)
    · exact fun e => by have e : x.PC = 6 := e; omega
  split
  · dsimp only
    split
    · exact fun e => by cases e
    split
    · exact fun e => by cases e
    · exact fun e => by have e : x.PC = 6 := e; omega
  split
  · exact fun e => by cases e
  split
  · dsimp only
    split
    · exact fun e => by cases e
    · exact fun e => by have e : x.PC = 6 := e; omega
  split
  · rename_i h5
    dsimp only
    split
    · exact fun e => absurd e (hon _)
    · exact fun _ => .inr ⟨h5, rfl⟩
  split
  · rename_i h6
    dsimp only
    split
    · exact fun e => absurd e (hon _)
    · exact fun _ => .inl ⟨h6, (UE s x.G).1⟩
  split
  · dsimp only
    split
    · exact fun e => by cases e
    · exact fun e => by cases e
  split
  · exact fun e => by cases e
  split
  · exact fun e => by cases e
  · exact fun e => .inl ⟨e, rfl⟩
theorem zm0.step {p : zb} (hp : zv p) {nb k : Nat} {s : za} {gh : Gh} (L : zm0 s) (G : WG p nb k s gh) {w : Int} (hw : 1 ≤ w ∧ w ≤ p.Workers) (hd : s.Done = false) (T : zro s (Zu s w) w) : zm0 (Zu s w) := by
  have hwl := G.E.wl
  refine ⟨fun o ho => ?_, fun i y hy h6 => ?_⟩
  · rcases T with e | ⟨x, q, hx, h6, rfl, hr, hn, e⟩ | ⟨x, hx, h8, h1, e⟩
    · rw [e] at ho; exact L.mks o ho
    · rw [e] at ho
      rcases (Zr _ hr o).1 ho with e | e
      · exact L.mks o e
      · rw [e]; exact L.ob _ x hx h6
    · rw [e] at ho; exact L.mks o ho
  · have e0 : ¬ (s.Done = true ∨ w < 1 ∨ (s.Ws.length : Int) < w) := by rw [hd]; rintro (e | e | e) <;> first | cases e | omega
    have hi : (w - 1).toNat < s.Ws.length := by omega
    have hx := List.getElem?_eq_getElem hi
    generalize s.Ws[(w - 1).toNat] = x at hx
    unfold Zu at hy
    rw [if_neg e0, hx] at hy
    have hy : (s.Ws.set (w - 1).toNat (zD s w x).2)[i]? = some y := hy
    by_cases hj : i = (w - 1).toNat
    · subst hj
      rw [List.getElem?_set_self hi] at hy
      injection hy with hy
      subst hy
      rcases zrg s w x h6 with ⟨a, b⟩ | ⟨a, b⟩
      · rw [b]; exact L.ob _ x hx a
      · rw [b]; exact G.E.H.get9 hp _ _
    · rw [List.getElem?_set_ne (fun e => hj e.symm)] at hy
      exact L.ob i y hy h6
theorem zqk {p : zb} (h : zv p) : zm0 (yE p) := by
  refine ⟨fun o ho => ?_, fun i x hx h6 => ?_⟩
  · have hs := U6 h
    obtain ⟨a, b, c⟩ := (xI _ _).1 (show xe (uK p) o = true from ho)
    have := zi5 hs c
    omega
  · have hx := List.mem_of_getElem? hx
    obtain ⟨j, _, rfl⟩ := List.mem_map.1 (show x ∈ (List.range p.Workers.toNat).map (xU p) from hx)
    exact absurd h6 (by show ¬ (0 : Int) = 6; decide)
def zjS (p : zb) (s : za) (n : Nat) : List Int := (List.range n).flatMap (fun i : Nat => (s.Ws[i]?).elim [] (zok p s ((i : Int) + 1)))
theorem zkQ {α β : Type} {f g : α → List β} : ∀ (l : List α), List.Perm (l.flatMap (fun x => f x ++ g x)) (l.flatMap f ++ l.flatMap g)
  | [] => List.Perm.refl _
  | a :: l => by
    rw [List.flatMap_cons, List.flatMap_cons, List.flatMap_cons]
    refine (List.Perm.append_left _ (zkQ l)).trans ?_
    simp only [List.append_assoc]
    exact List.Perm.append_left _ (List.perm_append_comm_assoc _ _ _)
theorem zov {α β : Type} {f : α → List β} (l : List α) : (List.range l.length).flatMap (fun i : Nat => (l[i]?).elim [] f) = l.flatMap f := by
  rw [List.flatMap_def, List.flatMap_def]
  congr 1
  apply List.ext_getElem
  · simp
  · intro i h1 h2
    have hi : i < l.length := by simpa using h2
    simp [List.getElem?_eq_getElem hi]
theorem ztk {p : zb} (h : zv p) {nb k : Nat} {s : za} {gh : Gh} (G : WG p nb k s gh) : List.Perm (gh.F.flatMap (yx s) ++ zjS p s s.Ws.length) (zdH p s gh) := by
  have hwl := G.E.wl
  have hw := h.wk
  have e : zjS p s s.Ws.length = (List.range s.Ws.length).flatMap (fun i : Nat => (s.Ws[i]?).elim [] (zT s) ++ gh.D ((i : Int) + 1)) := by
    unfold zjS
    refine vJ (fun i hi => ?_)
    have hi := List.mem_range.1 hi
    have hx := List.getElem?_eq_getElem hi
    rw [hx]
    exact zrD h (by omega) G.X (G.W i _ hx) (G.E.W i _ hx)
  rw [e]
  unfold zdH yB
  have en : p.Workers.toNat = s.Ws.length := by omega
  rw [en, List.append_assoc]
  refine List.Perm.append_left _ ?_
  refine (zkQ (List.range s.Ws.length) (f := fun i : Nat => (s.Ws[i]?).elim [] (zT s)) (g := fun i : Nat => gh.D ((i : Int) + 1))).trans ?_
  rw [zov (f := zT s) s.Ws]
  exact List.perm_append_comm
theorem ztm {p : zb} {nb k : Nat} {s : za} {gh : Gh} (G : WG p nb k s gh) (L : zm0 s) {B : List Int} (h : List.Perm B (zdH p s gh)) : cnt (Yu B) = (B.length : Int) ∧ Yu B = s.T.Marks &&& ~~~s.T.Black := by
  have hm : ∀ o, o ∈ B ↔ Wk s.T o = 1 := fun o => by rw [h.mem_iff]; exact G.B.gr o
  have hr : ∀ o ∈ B, 1 ≤ o ∧ o ≤ 9 := fun o ho => ⟨(zfe ((hm o).1 ho)).1, L.mks o ((WH _ _).1 ((hm o).1 ho)).1⟩
  obtain ⟨e1, e2⟩ := znX hr (h.nodup_iff.2 G.B.nd)
  refine ⟨e1, zkz (fun o => ?_)⟩
  rw [e2, hm, WH, zbR]
  constructor
  · rintro ⟨a, b⟩
    have := (xI _ _).1 a
    exact ⟨a, (zeX _ ⟨this.1, this.2.1⟩).2 b⟩
  · rintro ⟨a, b⟩
    have := (xI _ _).1 a
    exact ⟨a, (zeX _ ⟨this.1, this.2.1⟩).1 b⟩
end
end Go.Pe.G
namespace Go.Pe.G
open Go.Pe
noncomputable section
def goF {S : Type} (g : Nat → S → S) : Nat → Nat → S → S
  | _, 0, s => s
  | i, k + 1, s => goF g (i + 1) k (g i s)
theorem zp9 {S : Type} {g : Nat → S → S} {Inv : S → Prop} (hg : ∀ i s, Inv s → Inv (g i s)) : ∀ (k i : Nat) (s : S), Inv s → Inv (goF g i k s)
  | 0, _, _, h => h
  | k + 1, i, s, h => zp9 hg k (i + 1) _ (hg i s h)
theorem zgT {S σ B C : Type} {f : σ → Option (xd σ B C)} (A : Int → S → σ) (b : S → B) (n : Nat) (hn : n < 1000000) (g : Nat → S → S) (Inv : S → Prop) (hg : ∀ i s, Inv s → Inv (g i s))
    (h1 : ∀ (i : Nat) s, i < n → Inv s → f (A (i : Int) s) = some (.again (A ((i + 1 : Nat) : Int) (g i s)))) (h2 : ∀ s, Inv s → f (A (n : Int) s) = some (.brk (b s))) {s : S} (hs : Inv s) :
    zR f (A 0 s) = some (.brk (b (goF g 0 n s))) := by
  have key : ∀ (k i : Nat) (s : S), n - i = k → i ≤ n → Inv s → ∀ m, k < m → xX f m (A (i : Int) s) = some (.brk (b (goF g i k s))) := by
    intro k
    induction k with
    | zero =>
      intro i s hk hi hs m hm
      have : i = n := by omega
      subst this
      obtain ⟨m, rfl⟩ : ∃ x, m = x + 1 := ⟨m - 1, by omega⟩
      simp only [xX]
      rw [h2 s hs]; rfl
    | succ k ih =>
      intro i s hk hi hs m hm
      obtain ⟨m, rfl⟩ : ∃ x, m = x + 1 := ⟨m - 1, by omega⟩
      simp only [xX]
      rw [h1 i s (by omega) hs, Option.bind_some]
      exact ih (i + 1) _ (by omega) (by omega) (hg i s hs) m (by omega)
  have := key n 0 s (by omega) (by omega) hs un (yP (by omega))
  rw [ZE]
  exact this
end
end Go.Pe.G
namespace Go.Pe.G
open Go.Pe
noncomputable section
theorem chain_List {p : zb} (h : zv p) {nb k : Nat} {s : za} {gh : Gh} {own : List Int} (X : SX p nb s gh own k) (hnb : nb ≤ 50) : uU s.M (zP p) (zw p) 99 = some (gh.F, ()) := by
  have hF := wJ h
  have hE := yS h
  have hl : gh.F.length ≤ 50 := by
    have := X.L.all.length_eq
    simp [zdr] at this
    omega
  rw [zdq, XO, Option.bind_some, XI, Option.bind_some]
  obtain ⟨o, e, ho⟩ := va (f := Y6) (fun a => ∃ x pre rest, gh.F = pre ++ rest ∧ a = (s.M, zw p, 99, x, pre, ()) ∧ Chn s.M (zw p) nb x rest) (fun a => gh.F.length - a.2.2.2.2.1.length) (fun o => o = .brk (gh.F, ())) (by
    rintro _ ⟨x, pre, rest, e, rfl, c⟩
    rw [Xs, yw]
    cases rest with
    | nil =>
      have hx : x = 0 := c
      rw [if_pos hx]
      exact ⟨_, rfl, by rw [e, List.append_nil]⟩
    | cons y l =>
      obtain ⟨c1, c2, c3, c4⟩ := c
      have hlen : gh.F.length = pre.length + (l.length + 1) := by rw [e, List.length_append, List.length_cons]
      rw [if_neg (by omega), zp, if_pos (show (pre.length : Int) < (bif decide ((1000 : Int) < 99) then 1000 else 99) by rw [zp, if_neg (by decide)]; omega), xi (by simp; omega), Option.bind_some, yi (by omega) (by omega), XO, Option.bind_some]
      refine ⟨_, rfl, ⟨_, pre ++ [x], l, by rw [e, c1]; simp, rfl, ?_⟩, ?_⟩
      · rw [c1]; exact c4
      · show gh.F.length - (pre ++ [x]).length < gh.F.length - pre.length
        rw [List.length_append, List.length_singleton]; omega) (s.M, zw p, 99, zV (ld s.M (zP p)), ([] : List Int), ()) ⟨_, [], gh.F, rfl, rfl, X.L.cF⟩ (by show gh.F.length - 0 < 18446744073709551616; omega)
  subst ho
  exact congrArg (fun o => Option.bind o _) e
theorem zo4 {m : List (BitVec 64)} {base cap : Int} {top : BitVec 64} (hc : cap < 1000) (e : BitVec 64) (h : (e - top).toNat ≤ 64) :
    zR zS (m, e, top, zc.mk 0 0 base cap 0#64 0#64 0 0, ([] : List Int), ()) = some (.brk (vW m base cap top (e - top).toNat, ())) := by
  have he : e = top + BitVec.ofNat 64 (e - top).toNat := by
    rw [BitVec.ofNat_toNat, BitVec.setWidth_eq, BitVec.add_comm, BitVec.sub_add_cancel]
  generalize (e - top).toNat = n at he h
  subst he
  have := zgT (f := zS) (fun (i : Int) (_ : Unit) => (m, top + BitVec.ofNat 64 n, top + BitVec.ofNat 64 i.toNat, zc.mk 0 0 base cap 0#64 0#64 0 0, vW m base cap top i.toNat, ())) (fun _ => (vW m base cap top n, ())) n (by omega) (fun _ _ => ()) (fun _ => True) (fun _ _ _ => trivial)
    (fun i _ hi _ => by
      have hne : ¬ (top + BitVec.ofNat 64 i = top + BitVec.ofNat 64 n) := fun e => by
        have e := congrArg (fun x => x - top) e
        rw [BitVec.add_comm top, BitVec.add_comm top, BitVec.add_sub_cancel, BitVec.add_sub_cancel] at e
        have := zk2 (by omega) (by omega) e
        omega
      have e2 : top + BitVec.ofNat 64 i + 1#64 = top + BitVec.ofNat 64 (i + 1) := by
        rw [BitVec.add_assoc, show (1#64 : BitVec 64) = BitVec.ofNat 64 1 from rfl, Xq (by omega)]
      have e3 : vW m base cap top (i + 1) = vW m base cap top i ++ [(ld m (vz (zc.mk 0 0 base cap 0#64 0#64 0 0) (top + BitVec.ofNat 64 i))).toInt] := by
        unfold vW noD
        rw [List.range_succ, List.map_append]; rfl
      have el : (vW m base cap top i).length = i := by unfold vW; simp
      show zS (m, top + BitVec.ofNat 64 n, top + BitVec.ofNat 64 i, zc.mk 0 0 base cap 0#64 0#64 0 0, vW m base cap top i, ()) = some (.again (m, top + BitVec.ofNat 64 n, top + BitVec.ofNat 64 (i + 1), zc.mk 0 0 base cap 0#64 0#64 0 0, vW m base cap top (i + 1), ()))
      rw [Vv, yw, if_neg hne, zac (show (zc.mk 0 0 base cap 0#64 0#64 0 0).Cap < 1000 from hc), Option.bind_some, vK, Option.bind_some, xi (by rw [List.length_append, el]; simp; omega), Option.bind_some, e2, e3])
    (fun _ _ => by
      show zS (m, top + BitVec.ofNat 64 n, top + BitVec.ofNat 64 n, zc.mk 0 0 base cap 0#64 0#64 0 0, vW m base cap top n, ()) = _
      rw [Vv, yw, if_pos rfl]) (s := ()) trivial
  have e0 : top + BitVec.ofNat 64 (0 : Int).toNat = top := by show top + 0#64 = top; rw [BitVec.add_zero]
  simp only [e0] at this
  exact this
theorem zrx (S d : BitVec 64) : ((bif decide (64#64 < S) then 64#64 else S) < d) ↔ min S.toNat 64 < d.toNat := by
  rw [zp]
  by_cases h : 64#64 < S
  · rw [if_pos h]
    have h' : 64 < S.toNat := h
    show 64 < d.toNat ↔ _
    rw [Nat.min_eq_right (by omega)]
  · rw [if_neg h]
    have h' : ¬ 64 < S.toNat := h
    show S.toNat < d.toNat ↔ _
    rw [Nat.min_eq_left (by omega)]
theorem znD {m : List (BitVec 64)} {base cap : Int} (hc : cap < 1000) (o : zc) : za1 m base cap o = some (vO m base cap o, ()) := by
  have hl := fun e h => zo4 (m := m) (base := base) (cap := cap) (top := ld m base) hc e h
  have hlim := fun d => zrx (wi (noD base cap)) d
  unfold noD at hlim
  have done : ∀ e : BitVec 64, ∀ {b : Option (List Int × Unit)}, (¬ 0 < (e - ld m base).toInt → b = some ([], ())) → (0 < (e - ld m base).toInt → (min (wi (noD base cap)).toNat 64 < (e - ld m base).toNat) → b = some ([], ())) → (0 < (e - ld m base).toInt → ¬ (min (wi (noD base cap)).toNat 64 < (e - ld m base).toNat) → b = some (vW m base cap (ld m base) (e - ld m base).toNat, ())) →
      b = some (if ¬ 0 < (e - ld m base).toInt ∨ (min (wi (noD base cap)).toNat 64) < (e - ld m base).toNat then [] else vW m base cap (ld m base) (e - ld m base).toNat, ()) := by
    intro e b h1 h2 h3
    by_cases a : 0 < (e - ld m base).toInt
    · by_cases c : min (wi (noD base cap)).toNat 64 < (e - ld m base).toNat
      · rw [if_pos (.inr c)]; exact h2 a c
      · rw [if_neg (by rintro (x | x); exact x a; exact c x)]; exact h3 a c
    · rw [if_pos (.inl a)]; exact h1 a
  rw [zhV]
  simp only [wv, yy, vu, Option.bind_some, vK, WP, zfc]
  unfold vO
  by_cases h : UC o
  · have he : VI m base o = ld m (wc (base + 1)) + 1#64 := by unfold VI; rw [if_pos h]
    rw [he]
    obtain ⟨k, u, pc⟩ := h
    rcases pc with p | p | p | ⟨p, t⟩
    all_goals
      first | simp only [k, u, p, t, Int.reduceEq, decide_true, decide_false, cond_true, cond_false] | simp only [k, u, p, Int.reduceEq, decide_true, decide_false, cond_true, cond_false]
      generalize ld m (wc (base + 1)) + 1#64 = e
      refine done e (fun a => ?_) (fun a c => ?_) (fun a c => ?_)
      · simp only [decide_eq_false a, Bool.not_false, cond_true]
      · simp only [decide_eq_true a, Bool.not_true, cond_false]
        rw [zp, if_pos ((hlim (e - ld m base)).2 c)]
      · simp only [decide_eq_true a, Bool.not_true, cond_false]
        rw [zp, if_neg (fun x => c ((hlim (e - ld m base)).1 x)), hl e (by omega)]
        rfl
  · have he : VI m base o = ld m (wc (base + 1)) := by unfold VI; rw [if_neg h]
    rw [he]
    have fin : ∀ b : Option (List Int × Unit), (b = (bif !decide (0 < (ld m (wc (base + 1)) - ld m base).toInt) then some ([], ()) else bif decide ((bif decide (64#64 < wi (noD base cap)) then 64#64 else wi (noD base cap)) < (ld m (wc (base + 1)) - ld m base)) then some ([], ()) else (zR zS (m, ld m (wc (base + 1)), ld m base, zc.mk 0 0 base cap 0#64 0#64 0 0, ([] : List Int), ())).bind (fun st => match st with | .again _ => none | .brk y => some (y.1, ()) | .ret y => none))) → b = some (if ¬ 0 < (ld m (wc (base + 1)) - ld m base).toInt ∨ (min (wi (noD base cap)).toNat 64) < (ld m (wc (base + 1)) - ld m base).toNat then [] else vW m base cap (ld m base) (ld m (wc (base + 1)) - ld m base).toNat, ()) := by
      intro b hb
      rw [hb]
      generalize ld m (wc (base + 1)) = e
      refine done e (fun a => ?_) (fun a c => ?_) (fun a c => ?_)
      · simp only [decide_eq_false a, Bool.not_false, cond_true]
      · simp only [decide_eq_true a, Bool.not_true, cond_false]
        rw [zp]
        exact if_pos ((hlim (e - ld m base)).2 c)
      · simp only [decide_eq_true a, Bool.not_true, cond_false]
        rw [zp]
        refine (if_neg (fun x => c ((hlim (e - ld m base)).1 x))).trans ?_
        rw [hl e (by omega)]
        rfl
    refine fin _ ?_
    by_cases k : o.Kind = 2
    · by_cases u : o.Out = 0
      · have pc : ¬ (o.PC = 2 ∨ o.PC = 4 ∨ o.PC = 5 ∨ (o.PC = 3 ∧ o.T = o.B - 1#64)) := fun e => h ⟨k, u, e⟩
        have p2 : ¬ o.PC = 2 := fun e => pc (.inl e)
        have p4 : ¬ o.PC = 4 := fun e => pc (.inr (.inl e))
        have p5 : ¬ o.PC = 5 := fun e => pc (.inr (.inr (.inl e)))
        by_cases p3 : o.PC = 3
        · have t : ¬ o.T = o.B - 1#64 := fun e => pc (.inr (.inr (.inr ⟨p3, e⟩)))
          simp only [decide_eq_true k, decide_eq_true u, decide_eq_false p2, decide_eq_false p4, decide_eq_false p5, decide_eq_true p3, decide_eq_false t, cond_true, cond_false]
          rfl
        · simp only [decide_eq_true k, decide_eq_true u, decide_eq_false p2, decide_eq_false p4, decide_eq_false p5, decide_eq_false p3, cond_true, cond_false]
          rfl
      · simp only [decide_eq_true k, decide_eq_false u, cond_true, cond_false]
        rfl
    · simp only [decide_eq_false k, cond_true, cond_false]
      rfl
theorem zpY (m : List (BitVec 64)) (base cap : Int) (o : zc) : (vO m base cap o).length ≤ 64 := by
  unfold vO
  split
  · simp
  · rename_i h
    unfold vW
    rw [List.length_map, List.length_range]
    omega
theorem ztp {l : List Int} (h : l.length ≤ 64) : cut l (bif decide ((w64 (((l.length : Int)) - 1)) < 0) then 0 else (w64 (((l.length : Int)) - 1))) ((l.length : Int)) = some (zfS l) := by
  rw [yi (by omega) (by omega), zp]
  unfold zfS cut
  cases l with
  | nil => rfl
  | cons a t =>
    rw [if_neg (by simp only [List.length_cons]; omega)]
    have e : (((a :: t).length : Int) - 1).toNat = (a :: t).length - 1 := by simp only [List.length_cons]; omega
    have e1 : (0 : Int) ≤ ((a :: t).length : Int) - 1 := by simp only [List.length_cons]; omega
    have e2 : ((a :: t).length : Int) - 1 ≤ ((a :: t).length : Int) := by omega
    simp [e1, e2, e]
    rw [decide_eq_true (show (t.length : Int) ≤ (t.length : Int) + 1 by omega)]
    rfl
end
end Go.Pe.G
namespace Go.Pe.G
open Go.Pe
noncomputable section
structure GG (p : zb) (nb k : Nat) (s : za) (a b : ze) (gh : Gh) : Prop where
  X : SX p nb s gh (xh a ++ xh b) k
  A : GX p s gh a
  B : GX p s gh b
  MA : MOk p nb a
  MB : MOk p nb b
  oA : a.PC = 5 → a.C.Out ≠ 1
  oB : b.PC = 5 → b.C.Out ≠ 1
  apart : ¬ (a.Mode = 1 ∧ b.Mode = 1 ∧ a.Who = b.Who)
  bag : XV (yB p s gh ++ (zY a ++ zY b)) s.T
  cz : ∀ w, 1 ≤ w → w ≤ p.Workers → gh.c w = 0
  mks : ∀ o, xe s.T.Marks o = true → o ≤ 9
  la : a.Obj ≤ 9
  lb : b.Obj ≤ 9
theorem XV.perm {B B' : List Int} {t : zn} (K : XV B t) (h : List.Perm B' B) : XV B' t :=
  ⟨K.blk, h.nodup_iff.2 K.nd, fun o => by rw [h.mem_iff]; exact K.gr o⟩
theorem GG.swap {p : zb} {nb k : Nat} {s : za} {a b : ze} {gh : Gh} (g : GG p nb k s a b gh) : GG p nb k s b a gh :=
  ⟨g.X.perm List.perm_append_comm, g.B, g.A, g.MB, g.MA, g.oB, g.oA, fun e => g.apart ⟨e.2.1, e.1, e.2.2.symm⟩, g.bag.perm (List.Perm.append_left _ List.perm_append_comm), g.cz, g.mks, g.lb, g.la⟩
theorem GG.left {p : zb} (hp : zv p) {nb k : Nat} (hk : k < 4294960000) {s : za} {a b : ze} {gh : Gh} (g : GG p nb k s a b gh) : ∃ gh', GG p nb (k + 1) (zq s a).1 (zq s a).2 b gh' := by
  by_cases ha : a.Out = 0
  rotate_left
  · have e : zq s a = (s, a) := by unfold zq; rw [if_pos (.inl ha)]
    rw [e]
    exact ⟨gh, g.X.quiet g.X.S rfl, g.A, g.B, g.MA, g.MB, g.oA, g.oB, g.apart, g.bag, g.cz, g.mks, g.la, g.lb⟩
  obtain ⟨gh', X', G', Fx, hc, N, hN, hT⟩ := zrn hp hk g.X g.MA g.oA g.A
  obtain ⟨r1, r2, r3⟩ := zbM hp g.X.S g.MA g.oA
  obtain ⟨s1, s2, s3⟩ := UE s a
  have B' : GX p (zq s a).1 gh' b := GX.other hp g.X Fx g.B g.MB (fun _ h => h) (fun hb h => g.apart ⟨h.1, hb, h.2.symm⟩)
  have hbag : List.Perm (yB p (zq s a).1 gh' ++ (zY (zq s a).2 ++ zY b)) (N ++ (yB p s gh ++ (zY a ++ zY b))) := by
    rw [← List.append_assoc, ← List.append_assoc (yB p s gh), ← List.append_assoc N]
    exact hN.append_right _
  have hcz : ∀ w, 1 ≤ w → w ≤ p.Workers → gh'.c w = 0 := fun w h1 h2 => by
    rcases Fx.dq w h1 h2 with h | h
    · cases h with
      | same e1 e2 e3 e4 => rw [e3]; exact g.cz w h1 h2
      | stolen y e1 e2 e3 e4 => rw [e3]; exact g.cz w h1 h2
    · have := hc h.1.1 ha
      rw [← h.1.2] at this; exact this
  rcases hT with ⟨rfl, t⟩ | ⟨rfl, t1, t2⟩
  · rw [List.nil_append] at hbag
    refine ⟨gh', X', G', B', r2, g.MB, r3, g.oB, by rw [s2, s3]; exact g.apart, ?_, hcz, by rw [t]; exact g.mks, by rw [s1]; exact g.la, g.lb⟩
    rw [t]; exact g.bag.perm hbag
  · refine ⟨gh', X', G', B', r2, g.MB, r3, g.oB, by rw [s2, s3]; exact g.apart, ?_, hcz, fun o ho => ?_, by rw [s1]; exact g.la, g.lb⟩
    · rw [t2]; exact g.bag.more g.A.ob t1 hbag
    · rw [t2] at ho
      rcases (Zr _ g.A.ob o).1 ho with e | e
      · exact g.mks o e
      · rw [e]; exact g.la
theorem zsc {p : zb} (h : zv p) : SX p (zL p + 1) (yE p) (gh0 p) [] 0 ∧ XV (yB p (yE p) (gh0 p)) (yE p).T := by
  have W := zsx h
  have hws : ∀ x ∈ (yE p).Ws, ∃ i : Nat, x = xU p i := fun x hx => by
    obtain ⟨i, _, rfl⟩ := List.mem_map.1 (show x ∈ (List.range p.Workers.toNat).map (xU p) from hx)
    exact ⟨i, rfl⟩
  have own : (yE p).Ws.flatMap xk = [] := Ur (fun x hx => by
    obtain ⟨i, rfl⟩ := hws x hx
    exact xC (by show (0 : Int) ≠ 3; decide) (by show (0 : Int) ≠ 4; decide) (by show (0 : Int) ≠ 6; decide))
  have hold : (yE p).Ws.flatMap (zT (yE p)) = [] := Ur (fun x hx => by
    obtain ⟨i, rfl⟩ := hws x hx
    unfold zT
    rw [show xU p i = Xz p ((i : Int) + 1) (xU p i) from rfl, zbF]; rfl)
  have X := W.X
  have B := W.B
  rw [own] at X
  unfold zdH at B
  rw [hold, List.append_nil] at B
  exact ⟨X, B⟩
theorem GX.start {p : zb} {s : za} {gh : Gh} {mode obj who : Int} (hm : 1 ≤ mode ∧ mode ≤ 3) (ho : 1 ≤ obj ∧ obj ≤ 64) (hc : gh.c who = 0) : GX p s gh (xN mode obj who) :=
  GX.plain (.inl rfl) ⟨by show (0 : Int) ≤ 0; decide, by show (0 : Int) ≤ 7; decide⟩ hm ho (fun _ _ => hc) (.inr ⟨by show (0 : Int) ≠ 3; decide, by show (0 : Int) ≠ 5; decide, by show (0 : Int) ≠ 7; decide⟩)
theorem zsp {p : zb} (h : zv p) {ma oa wa mb ob wb : Int} (hma : 1 ≤ ma ∧ ma ≤ 3) (hoa : 1 ≤ oa ∧ oa ≤ 9) (hwa : 1 ≤ wa ∧ wa ≤ p.Workers) (hmb : 1 ≤ mb ∧ mb ≤ 3) (hob : 1 ≤ ob ∧ ob ≤ 9) (hwb : 1 ≤ wb ∧ wb ≤ p.Workers)
    (hap : ¬ (ma = 1 ∧ mb = 1 ∧ wa = wb)) : GG p (zL p + 1) 0 (yE p) (xN ma oa wa) (xN mb ob wb) (gh0 p) := by
  obtain ⟨X, B⟩ := zsc h
  have o0 : ∀ m o w : Int, xh (xN m o w) = [] := fun m o w => xY (.inr ⟨by show (0 : Int) ≠ 6; decide, by show (0 : Int) ≠ 7; decide⟩)
  have h0 : ∀ m o w : Int, zY (xN m o w) = [] := fun m o w => vS (.inr (.inl (by show (0 : Int) < 3; decide)))
  have mk : ∀ m o w : Int, 1 ≤ w ∧ w ≤ p.Workers → MOk p (zL p + 1) (xN m o w) := fun m o w hw => ⟨fun _ => hw, fun e => (by cases e), fun e => (by cases e), fun e => (by cases e), fun e => (by cases e)⟩
  refine ⟨by rw [o0, o0]; exact X, GX.start hma (by omega) rfl, GX.start hmb (by omega) rfl, mk _ _ _ hwa, mk _ _ _ hwb, fun e => (by cases e), fun e => (by cases e), hap, ?_, fun _ _ _ => rfl, (zqk h).mks, hoa.2, hob.2⟩
  rw [h0, h0, List.append_nil, List.append_nil]; exact B
def Yp (p : zb) (s : za) (n : Nat) : List Int := (List.range n).flatMap (fun i : Nat => vO s.M (zC p ((i : Int) + 1)) p.Cap (⟨0, 0, 0, 0, 0#64, 0#64, 0, 0⟩))
theorem GG.told {p : zb} (h : zv p) {nb k : Nat} {s : za} {a b : ze} {gh : Gh} (g : GG p nb k s a b gh) :
    List.Perm (Yp p s p.Workers.toNat ++ gh.F.flatMap (yx s) ++ zY a ++ zY b) (yB p s gh ++ (zY a ++ zY b)) := by
  have e : Yp p s p.Workers.toNat = (List.range p.Workers.toNat).flatMap (fun i : Nat => gh.D ((i : Int) + 1)) := by
    unfold Yp
    refine vJ (fun i hi => ?_)
    have hi := List.mem_range.1 hi
    have D := g.X.D ((i : Int) + 1) (by omega) (by omega)
    rw [g.cz _ (by omega) (by omega)] at D
    exact zfj h (by omega) D (fun e => absurd e.1 (by show ¬ (0 : Int) = 2; decide))
  rw [e, List.append_assoc]
  unfold yB
  exact List.perm_append_comm.append_right _
theorem GG.once {p : zb} {nb k : Nat} {s : za} {a b : ze} {gh : Gh} (g : GG p nb k s a b gh) {B : List Int} (h : List.Perm B (yB p s gh ++ (zY a ++ zY b))) : cnt (Yu B) = (B.length : Int) ∧ Yu B = s.T.Marks &&& ~~~s.T.Black := by
  have K := g.bag.perm h
  have hr : ∀ o ∈ B, 1 ≤ o ∧ o ≤ 9 := fun o ho => ⟨(zfe ((K.gr o).1 ho)).1, g.mks o ((WH _ _).1 ((K.gr o).1 ho)).1⟩
  obtain ⟨e1, e2⟩ := znX hr K.nd
  refine ⟨e1, zkz (fun o => ?_)⟩
  rw [e2, K.gr, WH, zbR]
  constructor
  · rintro ⟨a, b⟩
    have := (xI _ _).1 a
    exact ⟨a, (zeX _ ⟨this.1, this.2.1⟩).2 b⟩
  · rintro ⟨a, b⟩
    have := (xI _ _).1 a
    exact ⟨a, (zeX _ ⟨this.1, this.2.1⟩).1 b⟩
end
end Go.Pe.G
namespace Go.Pe.G
open Go.Pe
noncomputable section
namespace B14
def u6 : List (BitVec 8) → za → ze → ze → za × ze × ze
  | [], s, a, b => (s, a, b)
  | x :: r, s, a, b => if (x % 2#8).toNat = 0 then u6 r (zq s a).1 (zq s a).2 b else u6 r (zq s b).1 a (zq s b).2
structure TG (p : zb) (nb : Nat) (s : za) (a b : ze) : Prop where
  A : RG p nb s a
  B : RG p nb s b
theorem TG.left {p : zb} {nb : Nat} {s : za} {a b : ze} (h : zv p) (t : TG p nb s a b) : TG p nb (zq s a).1 (zq s a).2 b :=
  ⟨t.A.step h, ⟨(t.A.step h).S, t.B.M, t.B.o⟩⟩
theorem TG.right {p : zb} {nb : Nat} {s : za} {a b : ze} (h : zv p) (t : TG p nb s a b) : TG p nb (zq s b).1 a (zq s b).2 :=
  ⟨⟨(t.B.step h).S, t.A.M, t.A.o⟩, t.B.step h⟩
theorem zeJ {R : za → ze → ze → Prop} (hl : ∀ s a b, R s a b → R (zq s a).1 (zq s a).2 b) (hr : ∀ s a b, R s a b → R (zq s b).1 a (zq s b).2) :
    ∀ (l : List (BitVec 8)) (s : za) (a b : ze), R s a b → R (u6 l s a b).1 (u6 l s a b).2.1 (u6 l s a b).2.2
  | [], s, a, b, h => h
  | x :: l, s, a, b, h => by
    unfold u6
    split
    · exact zeJ hl hr l _ _ _ (hl _ _ _ h)
    · exact zeJ hl hr l _ _ _ (hr _ _ _ h)
structure zfq (p : zb) (a b : ze) : Prop where
  M : zv p
  A : zlG p a
  B : zlG p b
  apart : ¬ (a.Mode = 1 ∧ b.Mode = 1 ∧ a.Who = b.Who)
theorem zfq.start {p : zb} {a b : ze} (h : zfq p a b) : TG p (zL p + 1) (yE p) a b :=
  ⟨by rw [h.A.is]; exact zez (zeu h.M) h.A.who, by rw [h.B.is]; exact zez (zeu h.M) h.B.who⟩
theorem zmT {x : BitVec 8} : (x % 3#8 = 0#8) ↔ 1 + ((x % 3#8).toNat : Int) = 1 := by
  constructor
  · intro h; rw [h]; rfl
  · intro h; apply BitVec.eq_of_toNat_eq; show _ = 0; omega
theorem zn1 (s : za) (g : ze) : (zq s g).1.Ws = s.Ws := by
  obtain ⟨m, b, t, w, f, e, _⟩ := zeU s g
  rw [e]
theorem zhz {p : zb} {nb : Nat} (h : zv p) {ord : List (BitVec 8)} {s3 : Int} {s4 : Int} {s5 : Int} {s6 : Int} {s7 : Int} {s8 : Int} {s9 : Int} {s10 : Int} {s11 : Int} {s12 : BitVec 64} {s13 : Int} {s14 : zn} {s15 : Int} {s16 : Int} {s17 : Bool} {s18 : Bool} {s19 : Int} {s20 : Int} {s21 : Int} {s22 : Int} {s23 : zm} {s26 : List (List Int)} {s27 : List (List Int)} {s28 : List (List zj)} {s29 : List zk} {s30 : List (List Int)} {s31 : List (BitVec 64)} {s32 : List (List Int)} {s33 : List Int} {s34 : List Int} {s35 : List zi} {s36 : List zg} : ∀ (k : Nat) (s : za) (a b : ze) (i : Nat), 60 - i = k → i ≤ 60 → TG p nb s a b →
    ∀ n, k < n → xX yQ n (ord, (i : Int), s3, s4, s5, s6, s7, s8, s9, s10, s11, s12, s13, s14, s15, s16, s17, s18, s19, s20, s21, s22, s23, s, [a, b], s26, s27, s28, s29, s30, s31, s32, s33, s34, s35, s36, ()) = some (.brk (s3, s4, s5, s6, s7, s8, s9, s10, s11, s12, s13, s14, s15, s16, s17, s18, s19, s20, s21, s22, s23, (u6 ((ord.take 60).drop i) s a b).1, [(u6 ((ord.take 60).drop i) s a b).2.1, (u6 ((ord.take 60).drop i) s a b).2.2], s26, s27, s28, s29, s30, s31, s32, s33, s34, s35, s36, ()))
  | 0, s, a, b, i, hk, hi, t, n + 1, hn => by
    have : i = 60 := by omega
    subst this
    have e : (ord.take 60).drop 60 = [] := List.drop_eq_nil_of_le (List.length_take_le _ _)
    simp only [xX]
    rw [Wf, zp, e]
    split
    · rw [zp, if_neg (by omega)]; rfl
    · rfl
  | k + 1, s, a, b, i, hk, hi, t, n + 1, hn => by
    simp only [xX]
    rw [Wf, zp]
    rcases Nat.lt_or_ge i ord.length with hlt | hge
    · have hx := List.getElem?_eq_getElem hlt
      rw [if_pos (by omega), zp, if_pos (by omega), uL hx, Option.bind_some]
      have e : (ord.take 60).drop i = ord[i] :: (ord.take 60).drop (i + 1) := by
        rw [List.drop_eq_getElem_cons (by rw [List.length_take]; omega), List.getElem_take]
      have h2 : (ord[i] % 2#8).toNat < 2 := by rw [BitVec.toNat_umod]; exact Nat.mod_lt _ (by decide)
      rw [e]
      rcases Nat.lt_or_ge (ord[i] % 2#8).toNat 1 with h0 | h1
      · have h0 : (ord[i] % 2#8).toNat = 0 := by omega
        rw [h0, uJ (by decide) (by simp), Option.bind_some]
        show Option.bind (Option.bind (some a) _) _ = _
        rw [Option.bind_some, zdh (t.A.S.gok h t.A.M), Option.bind_some, Option.bind_some, xw (by omega)]
        dsimp only
        rw [u6, if_pos h0]
        exact zhz h (ord := ord) k (zq s a).1 (zq s a).2 b (i + 1) (by omega) (by omega) (t.left h) n (by omega)
      · have h0 : (ord[i] % 2#8).toNat = 1 := by omega
        rw [h0, uJ (by decide) (by simp), Option.bind_some]
        show Option.bind (Option.bind (some b) _) _ = _
        rw [Option.bind_some, zdh (t.B.S.gok h t.B.M), Option.bind_some, Option.bind_some, xw (by omega)]
        dsimp only
        rw [u6, if_neg (by omega)]
        exact zhz h (ord := ord) k (zq s b).1 a (zq s b).2 (i + 1) (by omega) (by omega) (t.right h) n (by omega)
    · have e : (ord.take 60).drop i = [] := List.drop_eq_nil_of_le (by rw [List.length_take]; omega)
      rw [if_neg (by omega), e]; rfl
theorem zpS {p : zb} {a b : ze} (h : zfq p a b) (ord : List (BitVec 8)) : zR yQ (ord, 0, (0), (0), (0), (0), (0), (0), (0), (0), (0), (0#64), (0), (zn.mk 0#64 0#64), (0), (0), (false), (false), (0), (0), (0), (0), (zm.mk 0 0), (yE p), [a, b], ([]), ([]), ([]), ([]), ([]), ([]), ([]), ([]), ([]), ([]), ([]), ()) = some (.brk ((0), (0), (0), (0), (0), (0), (0), (0), (0), (0#64), (0), (zn.mk 0#64 0#64), (0), (0), (false), (false), (0), (0), (0), (0), (zm.mk 0 0), (u6 (ord.take 60) (yE p) a b).1, [(u6 (ord.take 60) (yE p) a b).2.1, (u6 (ord.take 60) (yE p) a b).2.2], ([]), ([]), ([]), ([]), ([]), ([]), ([]), ([]), ([]), ([]), ([]), ())) := by
  have e := zhz (nb := zL p + 1) (s3 := 0) (s4 := 0) (s5 := 0) (s6 := 0) (s7 := 0) (s8 := 0) (s9 := 0) (s10 := 0) (s11 := 0) (s12 := 0#64) (s13 := 0) (s14 := zn.mk 0#64 0#64) (s15 := 0) (s16 := 0) (s17 := false) (s18 := false) (s19 := 0) (s20 := 0) (s21 := 0) (s22 := 0) (s23 := zm.mk 0 0) (s26 := []) (s27 := []) (s28 := []) (s29 := []) (s30 := []) (s31 := []) (s32 := []) (s33 := []) (s34 := []) (s35 := []) (s36 := []) h.M (ord := ord) 60 (yE p) a b 0 (by omega) (by omega) h.start un (yP (by omega))
  rw [show ((0 : Nat) : Int) = 0 from rfl, List.drop_zero] at e
  rw [ZE, e]
theorem zsN (l : List (BitVec 8)) (ga gb : zo) : ∃ p a b, zfq p a b ∧ Z0 l = some (p, ()) ∧ wm ga p = some (a, ()) ∧ ∀ ord, WV l ga gb ord = some ((u6 (ord.take 60) (yE p) a b).1, [(u6 (ord.take 60) (yE p) a b).2.1, (u6 (ord.take 60) (yE p) a b).2.2], ()) := by
  obtain ⟨p, ep, h⟩ := zrU l
  obtain ⟨a, ea, ha, ma⟩ := ziI ga h
  obtain ⟨b, eb, hb, mb⟩ := ziI gb h
  have hw := h.wk
  have i0 : vn ([a, b] : List ze) 0 = some 0 := by rw [uJ (by decide) (by simp)]; rfl
  have i1 : vn ([a, b] : List ze) 1 = some 1 := by rw [uJ (by decide) (by simp)]; rfl
  by_cases hc : (ga.Mode % 3#8 = 0#8 ∧ gb.Mode % 3#8 = 0#8) ∧ a.Who = b.Who
  · have hb' : zlG p (xN 3 b.Obj 1) := ⟨rfl, (by decide : 1 ≤ (3 : Int) ∧ (3 : Int) ≤ 3), hb.obj, by show 1 ≤ (1 : Int) ∧ 1 ≤ p.Workers; omega⟩
    refine ⟨p, a, xN 3 b.Obj 1, ⟨h, ha, hb', fun e => absurd e.2.1 (by decide : ¬ (3 : Int) = 1)⟩, ep, ea, fun ord => ?_⟩
    have ht : zfq p a (xN 3 b.Obj 1) := ⟨h, ha, hb', fun e => absurd e.2.1 (by decide : ¬ (3 : Int) = 1)⟩
    rw [V7, ep]
    simp only [Option.bind_some, zf3 h, ea, eb, i0, i1, hc.1.1, hc.1.2, decide_true, cond_true]
    rw [show ([a, b] : List ze)[0]? = some a from rfl, Option.bind_some, show ([a, b] : List ze)[1]? = some b from rfl, Option.bind_some, zp, if_pos hc.2, Option.bind_some, ze3, Option.bind_some]
    show Option.bind (zR yQ (ord, 0, (0), (0), (0), (0), (0), (0), (0), (0), (0), (0#64), (0), (zn.mk 0#64 0#64), (0), (0), (false), (false), (0), (0), (0), (0), (zm.mk 0 0), (yE p), [a, xN 3 b.Obj 1], ([]), ([]), ([]), ([]), ([]), ([]), ([]), ([]), ([]), ([]), ([]), ())) _ = _
    rw [zpS ht ord]
    rfl
  · have ht : zfq p a b := by
      refine ⟨h, ha, hb, fun e => hc ⟨⟨zmT.2 (ma ▸ e.1), zmT.2 (mb ▸ e.2.1)⟩, e.2.2⟩⟩
    refine ⟨p, a, b, ht, ep, ea, fun ord => ?_⟩
    rw [V7, ep]
    simp only [Option.bind_some, zf3 h, ea, eb, i0, i1]
    rw [show ([a, b] : List ze)[0]? = some a from rfl, show ([a, b] : List ze)[1]? = some b from rfl]
    simp only [Option.bind_some, zp]
    have key : zR yQ (ord, 0, (0), (0), (0), (0), (0), (0), (0), (0), (0), (0#64), (0), (zn.mk 0#64 0#64), (0), (0), (false), (false), (0), (0), (0), (0), (zm.mk 0 0), (yE p), [a, b], ([]), ([]), ([]), ([]), ([]), ([]), ([]), ([]), ([]), ([]), ([]), ()) = _ := zpS ht ord
    by_cases h1 : ga.Mode % 3#8 = 0#8
    · rw [if_pos h1]
      by_cases h2 : gb.Mode % 3#8 = 0#8
      · rw [if_pos h2, if_neg (fun e => hc ⟨⟨h1, h2⟩, e⟩), key]; rfl
      · rw [if_neg h2, key]; rfl
    · rw [if_neg h1, key]; rfl
theorem zq8 {A B D : Type} {f : A → Option (xd A B D)} {x : A} {b : B} (h : f x = some (.brk b)) : zR f x = some (.brk b) := by
  rw [ZE]
  show xX f (18446744073709551615 + 1) x = _
  rw [xX, h]; rfl
def zaF (m : List (BitVec 64)) (next : Int) : Nat → Int → List Int
  | 0, _ => []
  | k + 1, x => if x = 0 then [] else x :: zaF m next k (ld m (wc (next + x))).toInt
theorem zk6 {m : List (BitVec 64)} {next most : Int} (hm : 0 ≤ most ∧ most ≤ 1000) : ∀ (k : Nat) (x : Int) (acc : List Int), (most - (acc.length : Int)).toNat = k → ∀ n, k < n →
    xX Y6 n (m, next, most, x, acc, ()) = some (.brk (acc ++ zaF m next k x, ()))
  | 0, x, acc, hk, n + 1, hn => by
    simp only [xX]
    rw [Xs, yw, zp]
    by_cases h : x = 0
    · rw [if_pos h]; simp [zaF]
    · rw [if_neg h]
      simp only [zp]
      rw [if_neg (show ¬ 1000 < most by omega), if_neg (by omega)]; simp [zaF]
  | k + 1, x, acc, hk, n + 1, hn => by
    simp only [xX]
    rw [Xs, yw, zp]
    by_cases h : x = 0
    · rw [if_pos h]; simp [zaF, h]
    · rw [if_neg h]
      simp only [zp]
      rw [if_neg (show ¬ 1000 < most by omega), if_pos (by omega), xi (by simp; omega), Option.bind_some, XO, Option.bind_some, Option.bind_some, vu]
      dsimp only
      rw [zk6 hm k _ (acc ++ [x]) (by simp; omega) n (by omega)]
      simp [zaF, h]
theorem chain_List {m : List (BitVec 64)} {head next most : Int} (hm : 0 ≤ most ∧ most ≤ 1000) : uU m head next most = some (zaF m next most.toNat (zV (ld m head)), ()) := by
  rw [zdq, XO, Option.bind_some, XI, Option.bind_some, ZE, zk6 hm most.toNat _ [] (by simp) un (yP (by omega))]
  rfl
theorem znj (m : List (BitVec 64)) (head next : Int) : uU m head next 9 = some (zaF m next 9 (zV (ld m head)), ()) := chain_List (by omega)
def atG (g : ze) (a b c : Int) : Int := if g.Out = 0 ∧ a ≤ g.PC ∧ g.PC ≤ b then c else 0
theorem zjO (g : ze) (a b c : Int) : zaj g a b c = some (atG g a b c, ()) := by
  rw [zm6]; simp only [zp]; unfold atG
  by_cases h1 : g.Out = 0 <;> by_cases h2 : a ≤ g.PC <;> by_cases h3 : g.PC ≤ b <;> simp [h1, h2, h3]
theorem zpJ (g : ze) : zdL g = some (atG g 0 1 g.Obj, ()) := by rw [zkf, zjO]; rfl
theorem zpF (g : ze) : zdZ g = some (atG g 1 2 1, ()) := by rw [zkB, zjO]; rfl
theorem zjj (g : ze) : Xx g = some (atG g 3 7 g.Obj, ()) := by rw [ziU, zjO]; rfl
def zcz : zb := ⟨1, 0, 2, 1, 1, 4, 2, 2, ⟨1, [[2], [0], [0]]⟩, 1#64, [], [], []⟩
theorem zqp : XB [] = some (zcz, ()) := by
  rw [zen, zq8 (by rw [zbX]; rfl)]; rfl
theorem zbr : zv zcz := by
  constructor
  case objs => intro o ho; simp [zcz] at ho ⊢; rcases ho with rfl | rfl | rfl <;> simp
  case roots => exact ⟨1, by decide, by decide, by decide⟩
  case reg => intro r hr; cases hr
  case prog => intro k r ops hr; cases hr
  all_goals first | decide | rfl
theorem zli : Z7 = some (true, ()) := by
  have S := zeu zbr
  have r1 := fun mode obj => zsm zbr (zez (mode := mode) (obj := obj) (who := 1) S (by decide)) (k := 30) (by decide)
  have r2 := fun mode obj => zez (mode := mode) (obj := obj) (who := 1) S (by decide)
  have e1 : YN (yE zcz) (xN 1 2 1) = some ((zq (yE zcz) (xN 1 2 1)).1, (zq (yE zcz) (xN 1 2 1)).2, ()) := zdh (SOk.gok zbr S (r2 1 2).M)
  have r1' : ∀ mode obj, wE (yE zcz) (xN mode obj 1) 30 = _ := r1
  rw [zcu, zqp]
  simp only [Option.bind_some, zf3 zbr, ze3, r1', e1, VH, Vl, znj, zpJ, zpF, zjj]
  decide +kernel
theorem zmw {p : zb} (hp : zv p) {nb : Nat} : ∀ (l : List (BitVec 8)) (k : Nat) (s : za) (a b : ze) (gh : Gh), k + l.length ≤ 1000 → GG p nb k s a b gh → ∃ k' gh', GG p nb k' (u6 l s a b).1 (u6 l s a b).2.1 (u6 l s a b).2.2 gh'
  | [], k, s, a, b, gh, _, g => ⟨k, gh, g⟩
  | x :: l, k, s, a, b, gh, hk, g => by
    rw [List.length_cons] at hk
    unfold u6
    split
    · obtain ⟨gh', g'⟩ := g.left hp (by omega)
      exact zmw hp l (k + 1) _ _ _ gh' (by omega) g'
    · obtain ⟨gh', g'⟩ := g.swap.left hp (by omega)
      exact zmw hp l (k + 1) _ _ _ gh' (by omega) g'.swap
theorem zqt {p : zb} {a b : ze} (h : zfq p a b) : GG p (zL p + 1) 0 (yE p) a b (gh0 p) := by
  have hn := h.M.n
  rw [h.A.is, h.B.is]
  exact zsp h.M h.A.mode ⟨h.A.obj.1, by have := h.A.obj.2; omega⟩ h.A.who h.B.mode ⟨h.B.obj.1, by have := h.B.obj.2; omega⟩ h.B.who h.apart
theorem zqn {α : Type} {l : List α} {i : Nat} (h : i ≤ l.length) : cut l 0 (i : Int) = some (l.take i) := by
  unfold cut
  have : (i : Int) ≤ (l.length : Int) := by omega
  simp [this]
theorem zr7 (g : ze) (ho : 1 ≤ g.Obj) : zY g = if 0 < atG g 3 7 g.Obj then [atG g 3 7 g.Obj] else [] := by
  unfold zY atG
  by_cases h : g.Out = 0 ∧ 3 ≤ g.PC ∧ g.PC ≤ 7
  · rw [if_pos h, if_pos h, if_pos (by omega)]
  · rw [if_neg h, if_neg h, if_neg (by decide)]
theorem zlZ {α β : Type} {f : α → List β} {n : Nat} : ∀ (l : List α), (∀ x ∈ l, (f x).length ≤ n) → (l.flatMap f).length ≤ l.length * n
  | [], _ => Nat.zero_le _
  | a :: l, h => by
    rw [List.flatMap_cons, List.length_append, List.length_cons, Nat.succ_mul]
    have h1 := h a (by simp)
    have h2 := zlZ l (fun x hx => h x (List.mem_cons_of_mem _ hx))
    omega
theorem zrS {p : zb} {nb : Nat} {s : za} (S : SOk p nb s) {b : Int} (hb : 1 ≤ b ∧ b < nb) : idx s.Bins b = some (yx s b) := by
  have hl := S.bins
  have hx := List.getElem?_eq_getElem (show b.toNat < s.Bins.length by omega)
  rw [zca (by omega)]
  unfold yx
  rw [hx]; rfl
theorem zsk {B : List Int} {M K : BitVec 64} (h1 : cnt (Yu B) = (B.length : Int)) (h2 : Yu B = M &&& K) (h3 : ∀ o, xe M o = true → o ≤ 9) : B.length ≤ 9 := by
  have h0 := zou (s := M &&& K) (fun o e => h3 o ((zbR _ _ _).1 e).1)
  rw [← h2, h1] at h0
  omega
theorem zmG {p : zb} (h : zv p) {s : za} (hP : s.P = p) (hwl : (s.Ws.length : Int) = p.Workers) (l ord : List (BitVec 8)) (t : Bool) (i : Int) (ga gb : zo) (ms : List ze) :
    zR yV (l, ord, t, i, 1, ga, gb, s, ms, ([] : List Int), ()) = some (.brk (l, ord, t, i, ga, gb, s, ms, Yp p s p.Workers.toNat, ())) := by
  have hw := h.wk
  have hc := h.cap
  have hlen : ∀ n : Nat, n ≤ 3 → (Yp p s n).length ≤ 192 := fun n hn => by
    have := zlZ (f := fun i : Nat => vO s.M (zC p ((i : Int) + 1)) p.Cap (⟨0, 0, 0, 0, 0#64, 0#64, 0, 0⟩)) (n := 64) (List.range n) (fun i _ => zpY _ _ _ _)
    rw [List.length_range] at this
    have h3 : n * 64 ≤ 3 * 64 := Nat.mul_le_mul_right _ hn
    unfold Yp
    omega
  have := zgT (f := yV) (fun (j : Int) (_ : Unit) => (l, ord, t, i, j + 1, ga, gb, s, ms, Yp p s j.toNat, ())) (fun _ => (l, ord, t, i, ga, gb, s, ms, Yp p s p.Workers.toNat, ())) p.Workers.toNat (by omega) (fun _ _ => ()) (fun _ => True) (fun _ _ _ => trivial)
    (fun j _ hj _ => by
      have e : Yp p s (j + 1) = Yp p s j ++ vO s.M (zC p ((j : Int) + 1)) p.Cap (⟨0, 0, 0, 0, 0#64, 0#64, 0, 0⟩) := by
        unfold Yp
        rw [List.range_succ, List.flatMap_append, List.flatMap_singleton]
      have hl := hlen (j + 1) (by omega)
      rw [e] at hl
      show yV (l, ord, t, i, (j : Int) + 1, ga, gb, s, ms, Yp p s j, ()) = some (.again (l, ord, t, i, ((j + 1 : Nat) : Int) + 1, ga, gb, s, ms, Yp p s (j + 1), ()))
      rw [ZT, zp, if_pos (by omega), hP, zdY, Option.bind_some, znD (by omega), Option.bind_some, xi (by dsimp only; omega), Option.bind_some, yi (by omega) (by omega), e]
      rfl)
    (fun _ _ => by
      show yV (l, ord, t, i, ((p.Workers.toNat : Nat) : Int) + 1, ga, gb, s, ms, Yp p s p.Workers.toNat, ()) = _
      rw [ZT, zp, if_neg (by omega)]) (s := ()) trivial
  exact this
theorem znw {p : zb} {nb k : Nat} {s : za} {gh : Gh} {own acc : List Int} (X : SX p nb s gh own k) (hF : gh.F.length ≤ 50) (ha : (acc ++ gh.F.flatMap (yx s)).length ≤ 1000) (l ord : List (BitVec 8)) (t : Bool) (i : Int) (ga gb : zo) (ms : List ze) :
    zR yW (l, ord, t, i, (gh.F.length : Int), 0, ga, gb, s, ms, acc, gh.F, ()) = some (.brk (l, ord, t, i, ga, gb, s, ms, acc ++ gh.F.flatMap (yx s), ())) := by
  have := zgT (f := yW) (fun (j : Int) (_ : Unit) => (l, ord, t, i, (gh.F.length : Int), j, ga, gb, s, ms, acc ++ (gh.F.take j.toNat).flatMap (yx s), gh.F, ())) (fun _ => (l, ord, t, i, ga, gb, s, ms, acc ++ gh.F.flatMap (yx s), ())) gh.F.length (by omega) (fun _ _ => ()) (fun _ => True) (fun _ _ _ => trivial)
    (fun j _ hj _ => by
      have hx := List.getElem?_eq_getElem hj
      have hm := X.L.cF.mem _ (List.getElem_mem hj)
      have hbl := X.S.bins
      have e : (gh.F.take (j + 1)).flatMap (yx s) = (gh.F.take j).flatMap (yx s) ++ yx s gh.F[j] := by
        rw [List.take_add_one, hx, List.flatMap_append]; simp
      have hl : (acc ++ (gh.F.take j).flatMap (yx s) ++ yx s gh.F[j]).length ≤ 1000 := by
        have : gh.F.flatMap (yx s) = (gh.F.take (j + 1)).flatMap (yx s) ++ (gh.F.drop (j + 1)).flatMap (yx s) := by rw [← List.flatMap_append, List.take_append_drop]
        rw [this, e] at ha
        simp only [List.length_append] at ha ⊢
        omega
      show yW (l, ord, t, i, (gh.F.length : Int), (j : Int), ga, gb, s, ms, acc ++ (gh.F.take j).flatMap (yx s), gh.F, ()) = some (.again (l, ord, t, i, (gh.F.length : Int), ((j + 1 : Nat) : Int), ga, gb, s, ms, acc ++ (gh.F.take (j + 1)).flatMap (yx s), gh.F, ()))
      rw [ZX, zp, if_pos (by omega), uJ (by omega) (by omega), Option.bind_some, Int.toNat_natCast, hx, Option.bind_some, zp, if_pos (by omega), zrS X.S ⟨hm.1, hm.2⟩, Option.bind_some, xi (by omega), Option.bind_some, xw (by omega), e, List.append_assoc])
    (fun _ _ => by
      show yW (l, ord, t, i, (gh.F.length : Int), ((gh.F.length : Nat) : Int), ga, gb, s, ms, acc ++ (gh.F.take gh.F.length).flatMap (yx s), gh.F, ()) = _
      rw [ZX, zp, if_neg (by omega), List.take_length]) (s := ()) trivial
  have e0 : acc ++ (gh.F.take (0 : Int).toNat).flatMap (yx s) = acc := by show acc ++ ([] : List Int).flatMap (yx s) = acc; simp
  simp only [e0] at this
  exact this
theorem znL {s : za} {acc : List Int} {x y : ze} (hx : 1 ≤ x.Obj) (hy : 1 ≤ y.Obj) (ha : acc.length ≤ 1000) (l ord : List (BitVec 8)) (t : Bool) (i : Int) (ga gb : zo) :
    zR yt (l, ord, t, i, 0, ga, gb, s, [x, y], acc, ()) = some (.brk (l, ord, t, i, ga, gb, s, acc ++ zY x ++ zY y, ())) := by
  have hl : ∀ g : ze, (zY g).length ≤ 1 := fun g => by unfold zY; split <;> simp
  have := zgT (f := yt) (fun (j : Int) (_ : Unit) => (l, ord, t, i, j, ga, gb, s, [x, y], acc ++ (([x, y] : List ze).take j.toNat).flatMap zY, ())) (fun _ => (l, ord, t, i, ga, gb, s, acc ++ zY x ++ zY y, ())) 2 (by omega) (fun _ _ => ()) (fun _ => True) (fun _ _ _ => trivial)
    (fun j _ hj _ => by
      have step : ∀ (g : ze) (A : List Int), 1 ≤ g.Obj → A.length ≤ 2000 → ([x, y] : List ze)[j]? = some g →
          yt (l, ord, t, i, (j : Int), ga, gb, s, [x, y], A, ()) = some (.again (l, ord, t, i, ((j + 1 : Nat) : Int), ga, gb, s, [x, y], A ++ zY g, ())) := by
        intro g A hg hA hjg
        have h1 := hl g
        have hat := zr7 g hg
        rw [ZU, zp, if_pos (by show (j : Int) < 2; omega), uJ (by omega) (by show (j : Int) < 2; omega), Option.bind_some, Int.toNat_natCast, hjg, Option.bind_some, zjj, Option.bind_some, zp]
        by_cases c : 0 < atG g 3 7 g.Obj
        · rw [if_pos c] at hat
          rw [if_pos c, xi (by simp; omega), Option.bind_some, xw (by omega), hat]
        · rw [if_neg c] at hat
          rw [if_neg c, xw (by omega), hat, List.append_nil]
      have hj2 : j = 0 ∨ j = 1 := by omega
      rcases hj2 with rfl | rfl
      · have := step x acc hx (by omega) rfl
        show yt (l, ord, t, i, ((0 : Nat) : Int), ga, gb, s, [x, y], acc ++ ([] : List ze).flatMap zY, ()) = some (.again (l, ord, t, i, ((0 + 1 : Nat) : Int), ga, gb, s, [x, y], acc ++ ([x] : List ze).flatMap zY, ()))
        simp only [List.flatMap_nil, List.append_nil, List.flatMap_cons]
        exact this
      · have h1 := hl x
        have := step y (acc ++ zY x) hy (by rw [List.length_append]; omega) rfl
        show yt (l, ord, t, i, ((1 : Nat) : Int), ga, gb, s, [x, y], acc ++ ([x] : List ze).flatMap zY, ()) = some (.again (l, ord, t, i, ((1 + 1 : Nat) : Int), ga, gb, s, [x, y], acc ++ ([x, y] : List ze).flatMap zY, ()))
        simp only [List.flatMap_nil, List.append_nil, List.flatMap_cons]
        rw [this, List.append_assoc])
    (fun _ _ => by
      show yt (l, ord, t, i, ((2 : Nat) : Int), ga, gb, s, [x, y], acc ++ ([x, y] : List ze).flatMap zY, ()) = _
      rw [ZU, zp, if_neg (by show ¬ (((2 : Nat) : Int) < 2); omega)]
      simp) (s := ()) trivial
  have e0 : acc ++ (([x, y] : List ze).take (0 : Int).toNat).flatMap zY = acc := by show acc ++ ([] : List ze).flatMap zY = acc; simp
  simp only [e0] at this
  exact this
theorem zse (l : List (BitVec 8)) (s : za) (a b : ze) : (u6 l s a b).1.Ws = s.Ws :=
  zeJ (R := fun s' _ _ => s'.Ws = s.Ws) (fun s' a b h => (zn1 s' a).trans h) (fun s' a b h => (zn1 s' b).trans h) l s a b rfl
theorem greyPlace_plain (l : List (BitVec 8)) (ga gb : zo) (ord : List (BitVec 8)) : wu l ga gb ord = some (true, ()) := by
  obtain ⟨p, a, b, h, _, _, e2⟩ := zsN l ga gb
  have hM := h.M
  have hb := Uo hM
  have hw := hM.wk
  rw [zbv, zli]
  simp only [Option.bind_some, Bool.not_true, cond_false]
  refine (va (f := uA) (fun x => ∃ i : Nat, x = (l, ord, true, (i : Int), ga, gb, ()) ∧ i ≤ 61) (fun x => 61 - x.2.2.2.1.toNat) (fun o => o = .brk (true, ())) ?_ (l, ord, true, 0, ga, gb, ()) ⟨0, rfl, by omega⟩ (yP (by dsimp only; omega))).elim fun o h => ?_
  rotate_left
  · rw [h.1, h.2]; rfl
  · rintro _ ⟨i, rfl, hi⟩
    rw [Ue, zp]
    by_cases h1 : (i : Int) ≤ (ord.length : Int)
    · rw [if_pos h1, zp]
      by_cases h2 : (i : Int) ≤ 60
      · rw [if_pos h2, zqn (by omega), Option.bind_some, e2, Option.bind_some]
        obtain ⟨k, gh, G⟩ := zmw hM ((ord.take i).take 60) 0 (yE p) a b (gh0 p) (by simp only [List.length_take]; omega) (zqt h)
        have hws := zse ((ord.take i).take 60) (yE p) a b
        generalize u6 ((ord.take i).take 60) (yE p) a b = r at G hws
        obtain ⟨s, x, y⟩ := r
        dsimp only at G hws ⊢
        have hP := G.X.S.P
        have hwl : (s.Ws.length : Int) = p.Workers := by
          rw [hws]
          show (((List.range p.Workers.toNat).map (xU p)).length : Int) = _
          rw [List.length_map, List.length_range]; omega
        have hF : gh.F.length ≤ 50 := by
          have := G.X.L.all.length_eq
          simp [zdr] at this
          omega
        have hB := G.told hM
        obtain ⟨o1, o2⟩ := G.once hB
        have hlen := zsk o1 o2 G.mks
        refine ⟨.again (l, ord, true, ((i + 1 : Nat) : Int), ga, gb, ()), ?_, ⟨i + 1, rfl, by omega⟩, ?_⟩
        · refine (congrArg (fun o => Option.bind o _) (zmG hM hP hwl l ord true (i : Int) ga gb [x, y])).trans ?_
          rw [Option.bind_some]
          dsimp only
          rw [hP, VH, Option.bind_some, Vl, Option.bind_some, Go.Pe.G.chain_List hM G.X (by omega), Option.bind_some]
          refine (congrArg (fun o => Option.bind o _) (znw G.X hF (by simp only [List.length_append] at hlen ⊢; omega) l ord true (i : Int) ga gb [x, y])).trans ?_
          refine (congrArg (fun o => Option.bind o _) (znL G.A.ob.1 G.B.ob.1 (by simp only [List.length_append] at hlen ⊢; omega) l ord true (i : Int) ga gb)).trans ?_
          simp only [Option.bind_some, zla, zp6 (show (Yp p s p.Workers.toNat ++ gh.F.flatMap (yx s) ++ zY x ++ zY y).length < 1000000 by omega), zkX, yw]
          rw [if_pos o1]
          simp only [Option.bind_some, Bool.not_true, cond_false, zii, yw]
          rw [if_pos o2, xw (by omega)]
        · show 61 - ((i + 1 : Nat) : Int).toNat < 61 - (i : Int).toNat
          omega
      · rw [if_neg h2]; exact ⟨_, rfl, rfl⟩
    · rw [if_neg h1]; exact ⟨_, rfl, rfl⟩
end B14
end
end Go.Pe.G
