/- Own work of this seat: PWstep, PBits, PWAll, PLists, PWNew, PHeld, PCnt, PWOnce, PItems, PLaw15. -/
import Derived.Test.YthoplgeckmkhiaaGreatDoorWOPa
set_option linter.unusedVariables false
set_option linter.unusedSimpArgs false
set_option linter.unnecessarySimpa false
set_option linter.unusedSectionVars false
set_option linter.deprecated false
set_option maxRecDepth 20000
namespace Go.Pe.G
open Go.Pe
noncomputable section
def xQ (x : zg) : List Int := if x.PC = 3 ∨ x.PC = 4 then [x.Bin] else if x.PC = 6 then wn x.G else []
def XI (s : za) (x : zg) : List Int := if x.PC = 0 then Zu s.M x.D else if x.PC = 3 then xu s x.Bin else if x.PC = 5 ∨ x.PC = 8 then [x.Obj] else if x.PC = 6 then x.Obj :: xH x.G else []
def zZ (s : za) (x : zg) : List Int := x.Batch ++ XI s x
structure WX (p : zb) (s : za) (gh : Gh) (w : Int) (x : zg) : Prop where
  c0 : x.PC ≠ 0 → gh.c w = 0
  bt : x.PC ≤ 3 → x.Batch = []
  p0 : x.PC = 0 → PK p s.M w (gh.t w) (gh.D w) (gh.c w) x.D
  p1 : x.PC = 1 → TK p s.M x.Victim (gh.t x.Victim) (gh.D x.Victim) x.D
  p2 : x.PC = 2 → x.C.Out = 0 ∧ (0 ≤ x.C.PC ∧ x.C.PC ≤ 2) ∧ CK p s.M x.C
  p4 : x.PC = 4 → x.C.Out = 0 ∧ (0 ≤ x.C.PC ∧ x.C.PC ≤ 2) ∧ x.C.X = x.Bin ∧ CK p s.M x.C
  p6 : x.PC = 6 → GX p s gh x.G ∧ x.G.Mode = 1 ∧ x.G.Who = w ∧ x.G.Out = 0
theorem WX.plain {p : zb} {s : za} {gh : Gh} {w : Int} {x : zg} (h : x.PC = 5 ∨ x.PC = 7 ∨ x.PC = 8 ∨ x.PC = 9) (c : gh.c w = 0) : WX p s gh w x :=
  ⟨fun _ => c, fun e => by omega, fun e => by omega, fun e => by omega, fun e => by omega, fun e => by omega, fun e => by omega⟩
theorem CK.start {p : zb} {m : List (BitVec 64)} {k h x : Int} : CK p m ⟨k, 0, h, zw p, 0#64, x, 0, 0⟩ :=
  ⟨fun e => absurd e (by show ¬ (1 : Int) ≤ 0; decide), fun e => absurd e (by show ¬ (0 : Int) = 2; decide), fun e => absurd e (by show ¬ (0 : Int) = 2; decide)⟩
theorem WX.begin {p : zb} {s : za} {gh : Gh} {w : Int} {x : zg} (c : gh.c w = 0) (hb : x.Batch = []) : WX p s gh w (Vo p w x) := by
  refine ⟨fun e => absurd rfl e, fun _ => hb, fun _ => ⟨rfl, rfl, rfl, rfl, ⟨by show (0 : Int) ≤ 0; decide, by show (0 : Int) ≤ 6; decide⟩, fun _ => c, ?_, ?_, ?_, ?_, ?_, ?_, ?_, ?_⟩, fun e => (by cases e), fun e => (by cases e), fun e => (by cases e), fun e => (by cases e)⟩
  all_goals (intro e; first | (exact absurd e (by show ¬ ((0 : Int) = 2 ∨ (4 : Int) ≤ 0); decide)) | (exact absurd e (by show ¬ (0 : Int) = 3; decide)) | (exact absurd e (by show ¬ (0 : Int) = 4; decide)) | (exact absurd e (by show ¬ ((0 : Int) = 3 ∨ (0 : Int) = 4); decide)) | (exact absurd e (by show ¬ (5 : Int) ≤ 0; decide)) | skip)
  rcases e with e | e | e | e
  · exact absurd e (by show ¬ (0 : Int) = 1; decide)
  · exact absurd e (by show ¬ (0 : Int) = 2; decide)
  · exact absurd e (by show ¬ (4 : Int) ≤ 0; decide)
  · exact absurd e.1 (by show ¬ (0 : Int) = 3; decide)
theorem zhw {p : zb} {s : za} {w : Int} {x : zg} : XI s (Vo p w x) = [] := by
  unfold XI
  rw [if_pos (show (Vo p w x).PC = 0 from rfl)]
  exact wt (.inl (by show (0 : Int) ≠ 3; decide)) (by show (0 : Int) ≠ 6; decide)
theorem WX.look {p : zb} {s : za} {gh : Gh} {w : Int} {x : zg} (c : gh.c w = 0) (hb : x.Batch = []) : WX p s gh w (ZB p w x) ∧ XI s (ZB p w x) = [] ∧ xQ (ZB p w x) = [] := by
  unfold ZB
  split
  · refine ⟨⟨fun _ => c, fun _ => hb, fun e => (by cases e), fun e => (by cases e), fun _ => ⟨rfl, ⟨by show (0 : Int) ≤ 0; decide, by show (0 : Int) ≤ 2; decide⟩, CK.start⟩, fun e => (by cases e), fun e => (by cases e)⟩, ?_, ?_⟩
    · unfold XI; rw [if_neg (by show ¬ (2 : Int) = 0; decide), if_neg (by show ¬ (2 : Int) = 3; decide), if_neg (by show ¬ ((2 : Int) = 5 ∨ (2 : Int) = 8); decide), if_neg (by show ¬ (2 : Int) = 6; decide)]
    · unfold xQ; rw [if_neg (by show ¬ ((2 : Int) = 3 ∨ (2 : Int) = 4); decide), if_neg (by show ¬ (2 : Int) = 6; decide)]
  · refine ⟨⟨fun _ => c, fun _ => hb, fun e => (by cases e), fun _ => ⟨rfl, rfl, rfl, rfl, ⟨by show (0 : Int) ≤ 0; decide, by show (0 : Int) ≤ 3; decide⟩, fun e => absurd e (by show ¬ (1 : Int) ≤ 0; decide), fun e => absurd e (by show ¬ (2 : Int) ≤ 0; decide), fun e => absurd e (by show ¬ (0 : Int) = 3; decide)⟩, fun e => (by cases e), fun e => (by cases e), fun e => (by cases e)⟩, ?_, ?_⟩
    · unfold XI; rw [if_neg (by show ¬ (1 : Int) = 0; decide), if_neg (by show ¬ (1 : Int) = 3; decide), if_neg (by show ¬ ((1 : Int) = 5 ∨ (1 : Int) = 8); decide), if_neg (by show ¬ (1 : Int) = 6; decide)]
    · unfold xQ; rw [if_neg (by show ¬ ((1 : Int) = 3 ∨ (1 : Int) = 4); decide), if_neg (by show ¬ (1 : Int) = 6; decide)]
theorem WX.other {p : zb} (hp : zy p) {nb k : Nat} {s s' : za} {gh gh' : Gh} {X R : List Int} {O : Int → Prop} {w : Int} {x : zg} (hw : 1 ≤ w ∧ w ≤ p.Workers) (Y : SX p nb s gh (X ++ R) k) (Fx : FX p nb X O s s' gh gh') (K : WX p s gh w x) (W : WOk p nb w x)
    (hR : ∀ b ∈ xQ x, b ∈ R) (apart : ¬ O w) : WX p s' gh' w x ∧ zZ s' x = zZ s x := by
  have hsub : ∀ b ∈ X, b ∈ X ++ R := fun b hb => List.mem_append_left _ hb
  have hnd := (List.nodup_append.1 Y.L.nodup).2.1
  have hnot : ∀ b, b ∈ xQ x → b ∉ X := fun b hb hg => (List.nodup_append.1 hnd).2.2 b hg b (hR b hb) rfl
  have hc : gh'.c w = gh.c w := by
    rcases Fx.dq w hw.1 hw.2 with h | h
    · cases h with
      | same e1 e2 e3 e4 => exact e3
      | stolen y e1 e2 e3 e4 => exact e3
    · exact absurd h.1 apart
  have hcell : ∀ a, zA p w < a → a < zA p w + p.Cap + 2 → ld s'.M a = ld s.M a := by
    rcases Fx.dq w hw.1 hw.2 with h | h
    · cases h with
      | same e1 e2 e3 e4 => exact fun a h1 h2 => e4 a (by omega) h2
      | stolen y e1 e2 e3 e4 => exact e4
    · exact absurd h.1 apart
  refine ⟨⟨fun e => hc.trans (K.c0 e), K.bt, fun e => Fx.pk hp hw.1 hw.2 apart (K.p0 e), fun e => Fx.tk W.vic.1 W.vic.2 (K.p1 e), fun e => ?_, fun e => ?_, fun e => ?_⟩, ?_⟩
  · obtain ⟨a, b, c⟩ := K.p2 e
    have C := W.c2 e
    exact ⟨a, b, c.mv Y.L Fx.mv hsub (.inl C.h) (fun h _ => C.v h) (fun e2 => by have := C.k; omega)⟩
  · obtain ⟨a, b, c, d⟩ := K.p4 e
    have C := W.c4 e
    have hno := hnot x.Bin (by unfold xQ; rw [if_pos (.inr e)]; simp)
    exact ⟨a, b, c, d.mv Y.L Fx.mv hsub (.inr C.h) (fun _ e2 => by have := C.k; omega) (fun _ => ⟨C.x.1, C.x.2, by rw [c]; exact hno⟩)⟩
  · obtain ⟨a, b, c, d⟩ := K.p6 e
    have M := (W.g6 e).1
    refine ⟨a.other hp Y Fx M (fun y hy => hR y ?_) (fun _ => by rw [c]; exact apart), b, c, d⟩
    unfold xQ; rw [if_neg (by omega), if_pos e]; exact hy
  · unfold zZ XI
    congr 1
    by_cases e0 : x.PC = 0
    · rw [if_pos e0, if_pos e0]
      have P := K.p0 e0
      unfold Zu
      have hpl := (zk2 hp hw.1 hw.2 P.base P.size (x.D.B - 1#64)).2
      rw [hcell _ (by rw [P.base] at hpl; omega) (by rw [P.base] at hpl; omega)]
    · rw [if_neg e0, if_neg e0]
      by_cases e3 : x.PC = 3
      · rw [if_pos e3, if_pos e3]
        have hb := W.b3 e3
        have hno := hnot x.Bin (by unfold xQ; rw [if_pos (.inl e3)]; simp)
        unfold xu
        rw [Fx.bn x.Bin hb.1 hno]
      · rw [if_neg e3, if_neg e3]
theorem zo1 (s : za) (b : Int) : zau s b = xu s b := by unfold zau xu; rw [List.getD_eq_getElem?_getD]
theorem FX.mono {p : zb} {nb : Nat} {X : List Int} {O O' : Int → Prop} {s s' : za} {g g' : Gh} (h : FX p nb X O s s' g g') (i : ∀ v, O v → O' v) : FX p nb X O' s s' g g' :=
  ⟨h.mv, h.bn, fun v a b => (h.dq v a b).imp id (fun e => ⟨i v e.1, e.2⟩)⟩
theorem wM {x : zg} (h3 : x.PC ≠ 3) (h4 : x.PC ≠ 4) (h6 : x.PC ≠ 6) : xQ x = [] := by unfold xQ; rw [if_neg (by omega), if_neg h6]
theorem zee {x : zg} (h : x.PC = 3 ∨ x.PC = 4) : xQ x = [x.Bin] := by unfold xQ; rw [if_pos h]
theorem zqf {x : zg} (h : x.PC = 6) : xQ x = wn x.G := by unfold xQ; rw [if_neg (by omega), if_pos h]
theorem zti {s : za} {x : zg} (h : x.PC = 0) : XI s x = Zu s.M x.D := by unfold XI; rw [if_pos h]
theorem zsR {s : za} {x : zg} (h : x.PC = 3) : XI s x = xu s x.Bin := by unfold XI; rw [if_neg (by omega), if_pos h]
theorem Vc {s : za} {x : zg} (h : x.PC = 5 ∨ x.PC = 8) : XI s x = [x.Obj] := by unfold XI; rw [if_neg (by omega), if_neg (by omega), if_pos h]
theorem zo8 {s : za} {x : zg} (h : x.PC = 6) : XI s x = x.Obj :: xH x.G := by unfold XI; rw [if_neg (by omega), if_neg (by omega), if_neg (by omega), if_pos h]
theorem uR {s : za} {x : zg} (h : x.PC = 1 ∨ x.PC = 2 ∨ x.PC = 4 ∨ x.PC = 7 ∨ x.PC = 9) : XI s x = [] := by unfold XI; rw [if_neg (by omega), if_neg (by omega), if_neg (by omega), if_neg (by omega)]
def zec (p : zb) (nb k : Nat) (R : List Int) (gh : Gh) (s : za) (w : Int) (x : zg) (s' : za) (x' : zg) : Prop :=
  ∃ gh', SX p nb s' gh' (xQ x' ++ R) (k + 1) ∧ WX p s' gh' w x' ∧ FX p nb (xQ x) (fun v => v = w) s s' gh gh' ∧
    ∃ N B, List.Perm (xD p s' gh' ++ zZ s' x' ++ B) (N ++ (xD p s gh ++ zZ s x)) ∧
      ((N = [] ∧ B = [] ∧ s'.T = s.T) ∨ (N = [x.G.Obj] ∧ B = [] ∧ x.PC = 6 ∧ ¬ (s.T.Marks ||| bit x.G.Obj = s.T.Marks) ∧ s'.T = { s.T with Marks := s.T.Marks ||| bit x.G.Obj }) ∨ (N = [] ∧ B = [x.Obj] ∧ x.PC = 8 ∧ s'.T = Uz s.T x.Obj))
theorem zec.quiet {p : zb} {nb k : Nat} {R : List Int} {gh : Gh} {s s' : za} {w : Int} {x x' : zg} (X : SX p nb s gh (xQ x ++ R) k) (S' : SOk p nb s') (hm : s'.M = s.M) (hb : s'.Bins = s.Bins) (hT : s'.T = s.T)
    (ho : xQ x' = xQ x) (hh : List.Perm (zZ s' x') (zZ s x)) (W' : WX p s' gh w x') : zec p nb k R gh s w x s' x' :=
  ⟨gh, by rw [ho]; exact X.quiet S' hm, W', FX.quiet hm (fun _ _ _ => by rw [hb]), [], [], by rw [XO hb, List.append_nil]; exact List.Perm.append_left _ hh, .inl ⟨rfl, rfl, hT⟩⟩
theorem nz8 {x : Int} : (5 : Int) ≠ 3 ∧ (5 : Int) ≠ 4 ∧ (5 : Int) ≠ 6 := by decide
theorem zwo {p : zb} (hp : zy p) {nb k : Nat} {R : List Int} {gh : Gh} {s : za} {w : Int} {x : zg} (hk : k < 4294960000) (hw : 1 ≤ w ∧ w ≤ p.Workers) (X : SX p nb s gh (xQ x ++ R) k) (W : WOk p nb w x) (K : WX p s gh w x)
    (hH : ∀ o i, 0 ≤ wo s.H o i ∧ wo s.H o i ≤ 64) : zec p nb k R gh s w x (zC s w x).1 (zC s w x).2 := by
  have S' := (zq4 hp hw X.S W).1
  have hP := X.S.P
  have eL : ∀ y, ZB s.P w y = ZB p w y := fun y => by rw [hP]
  have eB : ∀ y, Vo s.P w y = Vo p w y := fun y => by rw [hP]
  have eC : zfJ s.P (zw s.P) x.Bin = zfJ p (zw p) x.Bin := by rw [hP]
  have hpc := W.pc
  have hlen := X.L.len
  have hE := xw hp
  revert S'
  unfold zC
  by_cases p01 : x.PC = 0 ∨ x.PC = 1
  · rw [if_pos p01]
    intro S'
    have S' : SOk p nb { s with M := (zH s.M x.D).1 } := S'
    have hl := (zf0 s.M x.D).1
    have eo : xQ x = [] := wM (by omega) (by omega) (by omega)
    have hbt := K.bt (by omega)
    rw [eo] at X
    dsimp only
    by_cases p0 : x.PC = 0
    · have K0 := K.p0 p0
      have D0 := X.D w hw.1 hw.2
      have hdk := X.dk w hw.1 hw.2
      obtain ⟨t', l', c', D', hm, V, hle, r⟩ := zpX hp hw (by omega) D0 K0
      have hc := hp.cap
      have hm' : ∀ a, (a < zA p w ∨ zA p w + p.Cap + 2 ≤ a) → ld (zH s.M x.D).1 a = ld s.M a := fun a ha => hm a (by omega) (by omega)
      have X' := X.dq hp S' hl hw hm' D' (by omega)
      have Fx : FX p nb (xQ x) (fun v => v = w) s { s with M := (zH s.M x.D).1 } gh (Yx gh w t' l' c') := FX.own (O := fun v => v = w) (s := s) (s' := { s with M := (zH s.M x.D).1 }) (g := gh) hp hw hm' rfl rfl V
      obtain ⟨u, v, f1, f2⟩ := ziw (p := p) (s := s) (s' := { s with M := (zH s.M x.D).1 }) (g := gh) rfl hw (t := t') (c := c') (l := l')
      have fin : ∀ x' : zg, xQ x' = [] → WX p { s with M := (zH s.M x.D).1 } (Yx gh w t' l' c') w x' → List.Perm (l' ++ zZ { s with M := (zH s.M x.D).1 } x') (gh.D w ++ zZ s x) → zec p nb k R gh s w x { s with M := (zH s.M x.D).1 } x' := by
        intro x' a b c
        refine ⟨_, by rw [a]; exact X', b, Fx, [], [], ?_, .inl ⟨rfl, rfl, rfl⟩⟩
        rw [f1, f2, List.append_nil, List.nil_append]
        simp only [List.append_assoc]
        refine List.Perm.append_left _ ?_
        refine (List.perm_append_comm_assoc l' v _).trans (List.Perm.trans ?_ (List.perm_append_comm_assoc v (gh.D w) _))
        exact List.Perm.append_left _ c
      have hh : zZ s x = Zu s.M x.D := by unfold zZ; rw [hbt, zti p0, List.nil_append]
      rw [hh] at fin
      rcases r with ⟨r1, r2, r3⟩ | ⟨r1, r2, r3⟩ | ⟨r1, r2, r3, r4, r5⟩
      · rw [r1, if_neg (by decide), if_neg (by decide)]
        refine fin _ (wM (by show x.PC ≠ 3; omega) (by show x.PC ≠ 4; omega) (by show x.PC ≠ 6; omega)) ⟨fun e => absurd p0 e, fun _ => hbt, fun _ => ?_, fun e => by have e : x.PC = 1 := e; omega, fun e => by have e : x.PC = 2 := e; omega, fun e => by have e : x.PC = 4 := e; omega, fun e => by have e : x.PC = 6 := e; omega⟩ ?_
        · rw [xC.1, xC.2.1, xC.2.2]; exact r2
        · unfold zZ
          rw [zti (x := { x with D := (zH s.M x.D).2 }) p0]
          show List.Perm (l' ++ (x.Batch ++ Zu (zH s.M x.D).1 (zH s.M x.D).2)) _
          rw [hbt, List.nil_append]; exact r3
      · rw [r1, if_pos rfl]
        refine fin _ (wM (by show (5 : Int) ≠ 3; decide) (by show (5 : Int) ≠ 4; decide) (by show (5 : Int) ≠ 6; decide)) (WX.plain (.inl rfl) (by rw [xC.2.2]; exact r2)) ?_
        unfold zZ
        rw [Vc (.inl rfl)]
        show List.Perm (l' ++ (x.Batch ++ [(zH s.M x.D).2.X])) _
        rw [hbt, List.nil_append]; exact r3
      · rw [r1, if_neg (by decide), if_pos (.inl rfl), eL]
        obtain ⟨a, b, c⟩ := WX.look (p := p) (s := { s with M := (zH s.M x.D).1 }) (gh := Yx gh w t' l' c') (w := w) (x := { x with D := (zH s.M x.D).2 }) (by rw [xC.2.2]; exact r2) hbt
        refine fin _ c a ?_
        unfold zZ
        rw [b, r3, r4, r5, show (ZB p w { x with D := (zH s.M x.D).2 }).Batch = x.Batch by unfold ZB; split <;> rfl, hbt]
        exact List.Perm.refl _
    · have p1 : x.PC = 1 := by omega
      have K1 := K.p1 p1
      have hv := W.vic
      have hc0 := K.c0 p0
      have D0 := X.D x.Victim hv.1 hv.2
      have hdk := X.dk x.Victim hv.1 hv.2
      have hh : zZ s x = [] := by unfold zZ; rw [hbt, uR (.inl p1)]; rfl
      rcases zsi hp hv (by omega) D0 K1 with ⟨hm, r⟩ | ⟨y, l', e1, e2, e3, e4, e5⟩
      · have S2 := S'
        have q : ∀ x' : zg, xQ x' = [] → zZ { s with M := (zH s.M x.D).1 } x' = [] → WX p { s with M := (zH s.M x.D).1 } gh w x' → zec p nb k R gh s w x { s with M := (zH s.M x.D).1 } x' :=
          fun x' a b c => .quiet (by rw [eo]; exact X) S' hm rfl rfl (by rw [a, eo]) (by rw [b, hh]) c
        rcases r with ⟨r1, r2⟩ | r
        · rw [r1, if_neg (by decide), if_neg (by decide)]
          refine q _ (wM (by show x.PC ≠ 3; omega) (by show x.PC ≠ 4; omega) (by show x.PC ≠ 6; omega)) ?_ ⟨fun _ => hc0, fun _ => hbt, fun e => absurd e p0, fun _ => ?_, fun e => by have e : x.PC = 2 := e; omega, fun e => by have e : x.PC = 4 := e; omega, fun e => by have e : x.PC = 6 := e; omega⟩
          · unfold zZ
            rw [uR (x := { x with D := (zH s.M x.D).2 }) (.inl p1)]
            show x.Batch ++ [] = []
            rw [hbt]; rfl
          · show TK p (zH s.M x.D).1 _ _ _ _
            rw [hm]; exact r2
        · rw [if_neg (by omega), if_pos r, eL]
          obtain ⟨a, b, c⟩ := WX.look (p := p) (s := { s with M := (zH s.M x.D).1 }) (gh := gh) (w := w) (x := { x with D := (zH s.M x.D).2 }) hc0 hbt
          refine q _ c ?_ a
          unfold zZ
          rw [b, show (ZB p w { x with D := (zH s.M x.D).2 }).Batch = x.Batch by unfold ZB; split <;> rfl, hbt]; rfl
      · have hc := hp.cap
        have hm' : ∀ a, (a < zA p x.Victim ∨ zA p x.Victim + p.Cap + 2 ≤ a) → ld (zH s.M x.D).1 a = ld s.M a := fun a ha => e5 a (by omega)
        have X' := X.dq hp S' hl hv hm' e4 (by rw [e1] at hdk; simp at hdk; omega)
        obtain ⟨h1, h2⟩ := znD hp hv hm'
        obtain ⟨u, v, f1, f2⟩ := ziw (p := p) (s := s) (s' := { s with M := (zH s.M x.D).1 }) (g := gh) rfl hv (t := gh.t x.Victim + 1) (c := gh.c x.Victim) (l := l')
        rw [e2, if_pos rfl]
        refine ⟨Yx gh x.Victim (gh.t x.Victim + 1) l' (gh.c x.Victim), by rw [wM (by show (5 : Int) ≠ 3; decide) (by show (5 : Int) ≠ 4; decide) (by show (5 : Int) ≠ 6; decide)]; exact X', WX.plain (.inl rfl) ?_, ⟨Mv.low hp h1, fun _ _ _ => rfl, fun v' a b => .inl ?_⟩, [], [], ?_, .inl ⟨rfl, rfl, rfl⟩⟩
        · by_cases e : w = x.Victim
          · rw [e, xC.2.2, ← e]; exact hc0
          · rw [(Zg e).2.2]; exact hc0
        · by_cases e : v' = x.Victim
          · subst e
            exact .stolen y xC.2.1 (by rw [xC.1]; exact e1) xC.2.2 (fun a h1 _ => e5 a (by omega))
          · exact .same (Zg e).2.1 (Zg e).1 (Zg e).2.2 (h2 v' a b e)
        · rw [f1, f2, hh, List.append_nil, List.append_nil, List.nil_append, e1]
          unfold zZ
          rw [Vc (.inl rfl)]
          show List.Perm (u ++ l' ++ v ++ (x.Batch ++ [(zH s.M x.D).2.X])) _
          rw [hbt, List.nil_append, e3]
          simp only [List.append_assoc]
          refine List.Perm.append_left _ ?_
          show List.Perm (l' ++ (v ++ [y])) (y :: (l' ++ v))
          rw [← List.append_assoc]
          exact List.perm_append_comm
  rw [if_neg p01]
  have hc0 := K.c0 (by omega)
  by_cases p2 : x.PC = 2
  · rw [if_pos p2]
    intro S'
    have S' : SOk p nb { s with M := (zk s.M x.C).1 } := S'
    have C := W.c2 p2
    obtain ⟨c1, c2, c3⟩ := K.p2 p2
    have hbt := K.bt (by omega)
    have eo : xQ x = [] := wM (by omega) (by omega) (by omega)
    have hh : zZ s x = [] := by unfold zZ; rw [hbt, uR (.inr (.inl p2))]; rfl
    dsimp only
    rcases SX.popF hp X hk C.k C.h C.n c1 c2 c3 C.v S' with ⟨a, b, c, d⟩ | ⟨y, l, a, b, c, d, e⟩
    · rw [if_neg b]
      have hout := zdw s.M c1 c2 (.inr C.k)
      by_cases o2 : (zk s.M x.C).2.Out = 2
      · rw [if_pos o2, eB]
        refine .quiet X S' a rfl rfl ?_ ?_ (WX.begin hc0 hbt)
        · rw [eo]; exact wM (by show (0 : Int) ≠ 3; decide) (by show (0 : Int) ≠ 4; decide) (by show (0 : Int) ≠ 6; decide)
        · unfold zZ
          rw [zhw, show (Vo p w { x with C := (zk s.M x.C).2 }).Batch = x.Batch from rfl]
          rw [hbt, uR (.inr (.inl p2))]
      · rw [if_neg o2]
        have hpc' : (zk s.M x.C).2.Out = 0 ∧ 0 ≤ (zk s.M x.C).2.PC ∧ (zk s.M x.C).2.PC ≤ 2 := by omega
        refine .quiet X S' a rfl rfl ?_ ?_ ⟨fun _ => hc0, fun _ => hbt, fun e => by have e : x.PC = 0 := e; omega, fun e => by have e : x.PC = 1 := e; omega, fun _ => ⟨hpc'.1, hpc'.2, ?_⟩, fun e => by have e : x.PC = 4 := e; omega, fun e => by have e : x.PC = 6 := e; omega⟩
        · rw [eo]; exact wM (by show x.PC ≠ 3; omega) (by show x.PC ≠ 4; omega) (by show x.PC ≠ 6; omega)
        · unfold zZ
          rw [uR (x := { x with C := (zk s.M x.C).2 }) (.inr (.inl p2)), uR (.inr (.inl p2))]
        · rw [show ({ s with M := (zk s.M x.C).1 } : za).M = s.M from a]; exact c
    · rw [if_pos b]
      have e1 : xQ { x with C := (zk s.M x.C).2, Bin := (zk s.M x.C).2.X, PC := 3 } = [y] := by rw [← c]; exact zee (x := { x with C := (zk s.M x.C).2, Bin := (zk s.M x.C).2.X, PC := 3 }) (.inl rfl)
      refine ⟨{ gh with F := l }, by rw [e1]; rw [eo] at d; exact d, ⟨fun _ => hc0, fun _ => hbt, fun e => (by cases e), fun e => (by cases e), fun e => (by cases e), fun e => (by cases e), fun e => (by cases e)⟩, e _ _, [], [], ?_, .inl ⟨rfl, rfl, rfl⟩⟩
      rw [hh, List.append_nil, List.append_nil, List.nil_append]
      unfold zZ
      rw [zsR (x := { x with C := (zk s.M x.C).2, Bin := (zk s.M x.C).2.X, PC := 3 }) rfl]
      show List.Perm (xD p s { gh with F := l } ++ (x.Batch ++ xu s (zk s.M x.C).2.X)) _
      rw [hbt, List.nil_append, c]
      have : xD p s gh = xu s y ++ xD p s { gh with F := l } := by unfold xD; rw [a]; simp [List.append_assoc]
      rw [this]
      exact List.perm_append_comm
  rw [if_neg p2]
  by_cases p3 : x.PC = 3
  · rw [if_pos p3]
    intro S'
    have hb := W.b3 p3
    have hbt := K.bt (by omega)
    have eo : xQ x = [x.Bin] := zee (.inl p3)
    rw [eC]
    have e1 : xQ { x with Batch := zau s x.Bin, PC := 4, C := zfJ p (zw p) x.Bin } = [x.Bin] := zee (x := { x with Batch := zau s x.Bin, PC := 4, C := zfJ p (zw p) x.Bin }) (.inr rfl)
    have hget : ∀ b, 1 ≤ b → b ∉ xQ x → (s.Bins.set x.Bin.toNat [])[b.toNat]? = s.Bins[b.toNat]? := fun b b1 b2 => by
      rw [List.getElem?_set_ne]
      intro e
      rw [eo] at b2
      exact b2 (by rw [show b = x.Bin by omega]; simp)
    refine ⟨gh, by rw [e1, ← eo]; exact X.quiet S' rfl, ⟨fun _ => hc0, fun e => absurd e (by show ¬ (4 : Int) ≤ 3; decide), fun e => (by cases e), fun e => (by cases e), fun e => (by cases e), fun _ => ⟨rfl, ⟨by show (0 : Int) ≤ 0; decide, by show (0 : Int) ≤ 2; decide⟩, rfl, CK.start⟩, fun e => (by cases e)⟩, FX.quiet rfl hget, [], [], ?_, .inl ⟨rfl, rfl, rfl⟩⟩
    have hbag : xD p { s with Bins := s.Bins.set x.Bin.toNat [] } gh = xD p s gh := by
      unfold xD
      congr 1
      refine ZF (fun b hb => ?_)
      have hm := X.L.cF.mem b hb
      have hno := (X.L.notF (x := x.Bin) (by rw [eo]; simp)).1
      unfold xu
      rw [show ({ s with Bins := s.Bins.set x.Bin.toNat [] } : za).Bins = s.Bins.set x.Bin.toNat [] from rfl, hget b hm.1 (by rw [eo]; intro e; rw [List.mem_singleton.1 e] at hb; exact hno hb)]
    rw [hbag, List.append_nil, List.nil_append]
    unfold zZ
    rw [zsR p3, uR (x := { x with Batch := zau s x.Bin, PC := 4, C := zfJ p (zw p) x.Bin }) (.inr (.inr (.inl rfl)))]
    show List.Perm (xD p s gh ++ (zau s x.Bin ++ [])) _
    rw [hbt, List.append_nil, List.nil_append, zo1]
  rw [if_neg p3]
  by_cases p4 : x.PC = 4
  · rw [if_pos p4]
    intro S'
    have S' : SOk p nb { s with M := (zk s.M x.C).1 } := S'
    have C := W.c4 p4
    obtain ⟨c1, c2, c3, c4⟩ := K.p4 p4
    have eo : xQ x = [x.Bin] := zee (.inr p4)
    have hh : zZ s x = x.Batch := by unfold zZ; rw [uR (.inr (.inr (.inl p4))), List.append_nil]
    rw [eo] at X
    dsimp only
    rcases SX.pushE hp (o1 := []) (o2 := R) (b := x.Bin) X hk C.k C.h C.n c3 c1 c2 c4 C.v S' with ⟨a, b, c, d⟩ | ⟨a, b, d⟩
    · rw [a, if_neg (by decide)]
      have hout := zdw s.M c1 c2 (.inl C.k)
      have hsame := zki s.M x.C
      have hpc' : 0 ≤ (zk s.M x.C).2.PC ∧ (zk s.M x.C).2.PC ≤ 2 := by omega
      have e1 : xQ { x with C := (zk s.M x.C).2 } = [x.Bin] := zee (x := { x with C := (zk s.M x.C).2 }) (.inr p4)
      refine ⟨gh, by rw [e1]; exact b, ⟨fun _ => hc0, fun e => by have e : x.PC ≤ 3 := e; omega, fun e => by have e : x.PC = 0 := e; omega, fun e => by have e : x.PC = 1 := e; omega, fun e => by have e : x.PC = 2 := e; omega, fun _ => ⟨a, hpc', (hsame.2.2.2 C.k).trans c3, c⟩, fun e => by have e : x.PC = 6 := e; omega⟩, by rw [eo]; exact d _ _ (by simp), [], [], ?_, .inl ⟨rfl, rfl, rfl⟩⟩
      rw [XO rfl, hh, List.append_nil]
      unfold zZ
      rw [uR (x := { x with C := (zk s.M x.C).2 }) (.inr (.inr (.inl p4))), List.append_nil]
      exact List.Perm.refl _
    · rw [a, if_pos rfl]
      refine ⟨{ gh with E := x.Bin :: gh.E }, by rw [wM (by show (7 : Int) ≠ 3; decide) (by show (7 : Int) ≠ 4; decide) (by show (7 : Int) ≠ 6; decide)]; exact b, WX.plain (.inr (.inl rfl)) hc0, by rw [eo]; exact d _ _, [], [], ?_, .inl ⟨rfl, rfl, rfl⟩⟩
      rw [hh, List.append_nil]
      unfold zZ
      rw [uR (.inr (.inr (.inr (.inl rfl)))), List.append_nil]
      exact List.Perm.refl _
  rw [if_neg p4]
  by_cases p5 : x.PC = 5
  · rw [if_pos p5]
    intro S'
    have eo : xQ x = [] := wM (by omega) (by omega) (by omega)
    have hv := hH x.Obj x.Slot
    dsimp only
    split
    · rcases ziW s (wc (x.Slot + 1)) with e | e <;> rw [e]
      · refine .quiet X S' rfl rfl rfl (by rw [eo]; exact wM (by show (5 : Int) ≠ 3; decide) (by show (5 : Int) ≠ 4; decide) (by show (5 : Int) ≠ 6; decide)) ?_ (WX.plain (.inl rfl) hc0)
        unfold zZ
        rw [Vc (.inl p5), Vc (.inl rfl)]
      · refine .quiet X S' rfl rfl rfl (by rw [eo]; exact wM (by show (8 : Int) ≠ 3; decide) (by show (8 : Int) ≠ 4; decide) (by show (8 : Int) ≠ 6; decide)) ?_ (WX.plain (.inr (.inr (.inl rfl))) hc0)
        unfold zZ
        rw [Vc (.inl p5), Vc (.inr rfl)]
    · rename_i hne
      have e0 : (zco 1 (wo s.H x.Obj x.Slot) w).PC = 0 := rfl
      refine .quiet X S' rfl rfl rfl ?_ ?_ ⟨fun _ => hc0, fun e => absurd e (by show ¬ (6 : Int) ≤ 3; decide), fun e => (by cases e), fun e => (by cases e), fun e => (by cases e), fun e => (by cases e), fun _ => ⟨GX.plain (.inl rfl) ⟨by show (0 : Int) ≤ 0; decide, by show (0 : Int) ≤ 7; decide⟩ ⟨by show (1 : Int) ≤ 1; decide, by show (1 : Int) ≤ 3; decide⟩ ⟨by show 1 ≤ wo s.H x.Obj x.Slot; omega, hv.2⟩ (fun _ _ => hc0) (.inr ⟨by show (0 : Int) ≠ 3; decide, by show (0 : Int) ≠ 5; decide, by show (0 : Int) ≠ 7; decide⟩), rfl, rfl, rfl⟩⟩
      · rw [eo, zqf (x := { x with Slot := wc (x.Slot + 1), PC := 6, G := zco 1 (wo s.H x.Obj x.Slot) w }) rfl]
        exact vc (.inr ⟨by show (0 : Int) ≠ 6; decide, by show (0 : Int) ≠ 7; decide⟩)
      · unfold zZ
        rw [Vc (.inl p5), zo8 (x := { x with Slot := wc (x.Slot + 1), PC := 6, G := zco 1 (wo s.H x.Obj x.Slot) w }) rfl]
        rw [ZT (g := zco 1 (wo s.H x.Obj x.Slot) w) (.inr (.inl (by show (0 : Int) < 3; decide)))]
  rw [if_neg p5]
  by_cases p6 : x.PC = 6
  · rw [if_pos p6]
    intro S'
    obtain ⟨G, gm, gw, g0⟩ := K.p6 p6
    obtain ⟨M, h5o, _, hn4⟩ := W.g6 p6
    have eo : xQ x = wn x.G := zqf p6
    have hh : zZ s x = x.Batch ++ x.Obj :: xH x.G := by unfold zZ; rw [zo8 p6]
    rw [eo] at X
    obtain ⟨gh', X', G', Fx, hc', N, hN, hT⟩ := zwd hp hk X M h5o G
    have so := zeZ s x.G
    have Fx' : FX p nb (xQ x) (fun v => v = w) s (zI s x.G).1 gh gh' := by
      rw [eo]
      exact Fx.mono (fun v e => e.2.trans gw)
    have hcw : gh'.c w = 0 := by have := hc' gm g0; rwa [gw] at this
    dsimp only
    have hT' : (N = [] ∧ ([] : List Int) = [] ∧ (zI s x.G).1.T = s.T) ∨ (N = [x.G.Obj] ∧ ([] : List Int) = [] ∧ x.PC = 6 ∧ ¬ (s.T.Marks ||| bit x.G.Obj = s.T.Marks) ∧ (zI s x.G).1.T = { s.T with Marks := s.T.Marks ||| bit x.G.Obj }) ∨ (N = [] ∧ ([] : List Int) = [x.Obj] ∧ x.PC = 8 ∧ (zI s x.G).1.T = Uz s.T x.Obj) := by
      rcases hT with ⟨a, b⟩ | ⟨a, b, c⟩
      · exact .inl ⟨a, rfl, b⟩
      · exact .inr (.inl ⟨a, rfl, p6, b, c⟩)
    have perm : ∀ H' : List Int, H' = x.Batch ++ x.Obj :: xH (zI s x.G).2 → List.Perm (xD p (zI s x.G).1 gh' ++ H' ++ []) (N ++ (xD p s gh ++ zZ s x)) := by
      intro H' e
      rw [e, hh, List.append_nil]
      have a1 : List.Perm (xD p (zI s x.G).1 gh' ++ (x.Batch ++ x.Obj :: xH (zI s x.G).2)) ((x.Batch ++ [x.Obj]) ++ (xD p (zI s x.G).1 gh' ++ xH (zI s x.G).2)) := by
        rw [show x.Batch ++ x.Obj :: xH (zI s x.G).2 = (x.Batch ++ [x.Obj]) ++ xH (zI s x.G).2 by simp]
        exact List.perm_append_comm_assoc _ _ _
      have a2 : List.Perm (N ++ (xD p s gh ++ (x.Batch ++ x.Obj :: xH x.G))) ((x.Batch ++ [x.Obj]) ++ (N ++ (xD p s gh ++ xH x.G))) := by
        rw [show x.Batch ++ x.Obj :: xH x.G = (x.Batch ++ [x.Obj]) ++ xH x.G by simp]
        exact (List.Perm.append_left N (List.perm_append_comm_assoc _ _ _)).trans (List.perm_append_comm_assoc _ _ _)
      exact a1.trans ((List.Perm.append_left _ hN).trans a2.symm)
    split
    · rename_i o1
      have n1 : wn (zI s x.G).2 = [] := vc (.inl (by omega))
      have n2 : xH (zI s x.G).2 = [] := ZT (.inl (by omega))
      rw [n1] at X'
      rcases ziW s x.Slot with e | e <;> rw [e]
      · refine ⟨gh', by rw [wM (by show (5 : Int) ≠ 3; decide) (by show (5 : Int) ≠ 4; decide) (by show (5 : Int) ≠ 6; decide)]; exact X', WX.plain (.inl rfl) hcw, Fx', N, [], perm _ ?_, hT'⟩
        unfold zZ; rw [Vc (.inl rfl), n2]
      · refine ⟨gh', by rw [wM (by show (8 : Int) ≠ 3; decide) (by show (8 : Int) ≠ 4; decide) (by show (8 : Int) ≠ 6; decide)]; exact X', WX.plain (.inr (.inr (.inl rfl))) hcw, Fx', N, [], perm _ ?_, hT'⟩
        unfold zZ; rw [Vc (.inr rfl), n2]
    · rename_i o1
      have o0 : (zI s x.G).2.Out = 0 := by have := G'.o; omega
      refine ⟨gh', by rw [zqf (x := { x with G := (zI s x.G).2 }) p6]; exact X', ⟨fun _ => hcw, fun e => by have e : x.PC ≤ 3 := e; omega, fun e => by have e : x.PC = 0 := e; omega, fun e => by have e : x.PC = 1 := e; omega, fun e => by have e : x.PC = 2 := e; omega, fun e => by have e : x.PC = 4 := e; omega, fun _ => ⟨G', so.2.2.trans gm, so.2.1.trans gw, o0⟩⟩, Fx', N, [], perm _ ?_, hT'⟩
      unfold zZ; rw [zo8 (x := { x with G := (zI s x.G).2 }) p6]
  rw [if_neg p6]
  have eo : xQ x = [] := wM (by omega) (by omega) (by omega)
  by_cases p7 : x.PC = 7
  · rw [if_pos p7]
    intro S'
    dsimp only
    split
    · rename_i hb
      rw [eB]
      refine .quiet X S' rfl rfl rfl (by rw [eo]; exact wM (by show (0 : Int) ≠ 3; decide) (by show (0 : Int) ≠ 4; decide) (by show (0 : Int) ≠ 6; decide)) ?_ (WX.begin hc0 hb)
      unfold zZ
      rw [zhw, uR (.inr (.inr (.inr (.inl p7))))]
      exact List.Perm.refl _
    · rename_i o l hb
      refine .quiet X S' rfl rfl rfl (by rw [eo]; exact wM (by show (5 : Int) ≠ 3; decide) (by show (5 : Int) ≠ 4; decide) (by show (5 : Int) ≠ 6; decide)) ?_ (WX.plain (.inl rfl) hc0)
      unfold zZ
      rw [Vc (.inl rfl), uR (.inr (.inr (.inr (.inl p7)))), hb, List.append_nil]
      exact List.perm_append_comm
  rw [if_neg p7]
  by_cases p8 : x.PC = 8
  · rw [if_pos p8]
    intro S'
    refine ⟨gh, by rw [wM (by show (9 : Int) ≠ 3; decide) (by show (9 : Int) ≠ 4; decide) (by show (9 : Int) ≠ 6; decide)]; rw [eo] at X; exact X.quiet S' rfl, WX.plain (.inr (.inr (.inr rfl))) hc0, FX.quiet rfl (fun _ _ _ => rfl), [], [x.Obj], ?_, .inr (.inr ⟨rfl, rfl, p8, rfl⟩)⟩
    rw [XO rfl, List.nil_append]
    unfold zZ
    rw [Vc (.inr p8), uR (.inr (.inr (.inr (.inr rfl)))), List.append_nil, List.append_assoc]
    exact List.Perm.refl _
  rw [if_neg p8]
  have p9 : x.PC = 9 := by omega
  rw [if_pos p9]
  intro S'
  refine .quiet X S' rfl rfl rfl (by rw [eo]; exact wM (by show (7 : Int) ≠ 3; decide) (by show (7 : Int) ≠ 4; decide) (by show (7 : Int) ≠ 6; decide)) ?_ (WX.plain (.inr (.inl rfl)) hc0)
  unfold zZ
  rw [uR (.inr (.inr (.inr (.inr p9)))), uR (.inr (.inr (.inr (.inl rfl))))]
end
end Go.Pe.G
namespace Go.Pe.G
open Go.Pe
noncomputable section
theorem zm5 {o : Int} (h : 1 ≤ o ∧ o ≤ 64) (j : Nat) : (bit o).getLsbD j = decide ((o - 1).toNat = j) := by
  unfold bit
  rw [if_pos h, ← BitVec.twoPow_eq, BitVec.getLsbD_twoPow, decide_eq_true (by omega : (o - 1).toNat < 64), Bool.true_and]
theorem vb (s : BitVec 64) (o : Int) : xx s o = true ↔ 1 ≤ o ∧ o ≤ 64 ∧ s.getLsbD (o - 1).toNat = true := by
  unfold xx
  rw [Bool.not_eq_true', decide_eq_false_iff_not]
  by_cases h : 1 ≤ o ∧ o ≤ 64
  · constructor
    · intro h1
      refine ⟨h.1, h.2, Classical.byContradiction (fun h2 => h1 ?_)⟩
      apply BitVec.eq_of_getLsbD_eq
      intro j hj
      rw [BitVec.getLsbD_and, zm5 h, BitVec.getLsbD_zero]
      by_cases e : (o - 1).toNat = j
      · rw [← e]; simp only [Bool.not_eq_true] at h2; rw [h2]; rfl
      · rw [decide_eq_false e, Bool.and_false]
    · rintro ⟨_, _, h1⟩ h2
      have := congrArg (fun v => BitVec.getLsbD v (o - 1).toNat) h2
      simp only [BitVec.getLsbD_and, zm5 h, h1, BitVec.getLsbD_zero] at this
      simp at this
  · constructor
    · intro h1
      exact absurd (by unfold bit; rw [if_neg h, BitVec.and_zero]) h1
    · rintro ⟨a, b, _⟩; exact absurd ⟨a, b⟩ h
theorem Xz (s : BitVec 64) {o : Int} (h : 1 ≤ o ∧ o ≤ 64) (q : Int) : xx (s ||| bit o) q = true ↔ xx s q = true ∨ q = o := by
  rw [vb, vb, BitVec.getLsbD_or, zm5 h]
  simp only [Bool.or_eq_true, decide_eq_true_eq]
  constructor
  · rintro ⟨a, b, c | c⟩
    · exact .inl ⟨a, b, c⟩
    · exact .inr (by omega)
  · rintro (⟨a, b, c⟩ | rfl)
    · exact ⟨a, b, .inl c⟩
    · exact ⟨h.1, h.2, .inr rfl⟩
theorem zhe (s t : BitVec 64) (q : Int) : xx (s &&& t) q = true ↔ xx s q = true ∧ xx t q = true := by
  rw [vb, vb, vb, BitVec.getLsbD_and]
  simp only [Bool.and_eq_true]
  constructor
  · rintro ⟨a, b, c, d⟩; exact ⟨⟨a, b, c⟩, a, b, d⟩
  · rintro ⟨⟨a, b, c⟩, _, _, d⟩; exact ⟨a, b, c, d⟩
theorem zcn (q : Int) : ¬ xx 0#64 q = true := by
  rw [vb, BitVec.getLsbD_zero]; exact fun h => by cases h.2.2
theorem zrj {s t : BitVec 64} (h : ∀ o, xx s o = true ↔ xx t o = true) : s = t := by
  apply BitVec.eq_of_getLsbD_eq
  intro j hj
  have := h ((j : Int) + 1)
  rw [vb, vb, show ((j : Int) + 1 - 1).toNat = j by omega] at this
  rw [Bool.eq_iff_iff]
  exact ⟨fun e => (this.1 ⟨by omega, by omega, e⟩).2.2, fun e => (this.2 ⟨by omega, by omega, e⟩).2.2⟩
theorem zg7 {m : BitVec 64} {o : Int} (h : 1 ≤ o ∧ o ≤ 64) : ¬ (m ||| bit o = m) ↔ ¬ xx m o = true := by
  constructor
  · intro h1 h2
    refine h1 (zrj (fun q => ?_))
    rw [Xz _ h]
    exact ⟨fun e => e.elim id (fun e => by rw [e]; exact h2), .inl⟩
  · intro h1 h2
    refine h1 ?_
    rw [← h2, Xz _ h]; exact .inr rfl
theorem zcc (t : zm) (o : Int) : YT t o = 1 ↔ xx t.Marks o = true ∧ ¬ xx t.Black o = true := by
  unfold YT
  by_cases h1 : xx (t.Marks &&& t.Black) o = true
  · rw [if_pos h1]
    rw [zhe] at h1
    exact ⟨fun e => (by cases e), fun e => absurd h1.2 e.2⟩
  · rw [if_neg h1]
    rw [zhe] at h1
    by_cases h2 : xx t.Marks o = true
    · rw [if_pos h2]; exact ⟨fun _ => ⟨h2, fun e => h1 ⟨h2, e⟩⟩, fun _ => rfl⟩
    · rw [if_neg h2]; exact ⟨fun e => (by cases e), fun e => absurd e.1 h2⟩
end
end Go.Pe.G
namespace Go.Pe.G
open Go.Pe
noncomputable section
theorem zus {α : Type} {l : List α} {i : Nat} {x : α} (h : l[i]? = some x) : ∃ a b, l = a ++ x :: b ∧ (∀ y, l.set i y = a ++ y :: b) ∧ (∀ z ∈ a ++ b, ∃ j, j ≠ i ∧ l[j]? = some z) ∧
    (∀ j z, j ≠ i → l[j]? = some z → z ∈ a ++ b) := by
  obtain ⟨hi, e⟩ := List.getElem?_eq_some_iff.1 h
  have hl : (l.take i).length = i := by rw [List.length_take]; omega
  have el : l = l.take i ++ x :: l.drop (i + 1) := by
    conv => lhs; rw [← List.take_append_drop i l, List.drop_eq_getElem_cons hi, e]
  refine ⟨l.take i, l.drop (i + 1), el, fun y => ?_, fun z hz => ?_, fun j z hj hz => ?_⟩
  · rw [List.set_eq_take_append_cons_drop, if_pos hi]
  · rcases List.mem_append.1 hz with hz | hz
    · obtain ⟨j, hj⟩ := List.mem_iff_getElem?.1 hz
      obtain ⟨hj1, hj2⟩ := List.getElem?_eq_some_iff.1 hj
      have hj3 : j < i := by omega
      exact ⟨j, by omega, by rw [List.getElem?_take_of_lt hj3] at hj; exact hj⟩
    · obtain ⟨j, hj⟩ := List.mem_iff_getElem?.1 hz
      exact ⟨i + 1 + j, by omega, by rw [List.getElem?_drop] at hj; exact hj⟩
  · rw [el] at hz
    rcases Nat.lt_or_ge j i with h1 | h1
    · rw [List.getElem?_append_left (by omega)] at hz
      exact List.mem_append_left _ (List.mem_of_getElem? hz)
    · rw [List.getElem?_append_right (by omega), hl] at hz
      rw [show j - i = (j - i - 1) + 1 by omega, List.getElem?_cons_succ] at hz
      exact List.mem_append_right _ (List.mem_of_getElem? hz)
theorem zdt {α β : Type} {f : α → List β} {a b : List α} {x : α} : List.Perm ((a ++ x :: b).flatMap f) (f x ++ (a ++ b).flatMap f) := by
  rw [List.flatMap_append, List.flatMap_cons, List.flatMap_append]
  exact List.perm_append_comm_assoc _ _ _
theorem SX.perm {p : zb} {nb k : Nat} {s : za} {g : Gh} {o o' : List Int} (X : SX p nb s g o k) (h : List.Perm o' o) : SX p nb s g o' k :=
  ⟨X.S, ⟨X.L.hs, X.L.cF, X.L.cE, (List.Perm.append_left _ h).trans X.L.all, X.L.len⟩, X.D, X.v, X.dk⟩
theorem SX.state {p : zb} {nb k : Nat} {s s' : za} {g : Gh} {o : List Int} (X : SX p nb s g o k) (S' : SOk p nb s') (hm : s'.M = s.M) : SX p nb s' g o k :=
  ⟨S', by rw [hm]; exact X.L, by rw [hm]; exact X.D, by rw [hm]; exact X.v, X.dk⟩
theorem GX.state {p : zb} {s s' : za} {gh : Gh} {g : zu} (G : GX p s gh g) (hm : s'.M = s.M) (hb : s'.Bins = s.Bins) : GX p s' gh g :=
  ⟨G.o, G.pc, G.md, G.ob, G.c0, by rw [hm]; exact G.c5, by rw [hm, hb]; exact G.c7, by rw [hm]; exact G.d3⟩
theorem WX.state {p : zb} {s s' : za} {gh : Gh} {w : Int} {x : zg} (W : WX p s gh w x) (hm : s'.M = s.M) (hb : s'.Bins = s.Bins) : WX p s' gh w x :=
  ⟨W.c0, W.bt, by rw [hm]; exact W.p0, by rw [hm]; exact W.p1, by rw [hm]; exact W.p2, by rw [hm]; exact W.p4, fun e => ⟨(W.p6 e).1.state hm hb, (W.p6 e).2⟩⟩
theorem zqm {s s' : za} {x : zg} (hm : s'.M = s.M) (hb : s'.Bins = s.Bins) : zZ s' x = zZ s x := by
  unfold zZ XI xu; rw [hm, hb]
def zhy (p : zb) (s : za) (g : Gh) : List Int := xD p s g ++ s.Ws.flatMap (zZ s)
structure zfx (B : List Int) (t : zm) : Prop where
  blk : ∀ o, xx t.Black o = true → xx t.Marks o = true
  nd : B.Nodup
  gr : ∀ o, o ∈ B ↔ YT t o = 1
theorem zlQ {t : zm} {o : Int} (h : YT t o = 1) : 1 ≤ o ∧ o ≤ 64 := by
  have := (vb _ _).1 ((zcc t o).1 h).1
  exact ⟨this.1, this.2.1⟩
theorem zfx.more {B B' : List Int} {t : zm} {o : Int} (K : zfx B t) (ho : 1 ≤ o ∧ o ≤ 64) (hn : ¬ (t.Marks ||| bit o = t.Marks)) (h : List.Perm B' (o :: B)) : zfx B' { t with Marks := t.Marks ||| bit o } := by
  have hn := (zg7 ho).1 hn
  have hnb : ¬ xx t.Black o = true := fun e => hn (K.blk o e)
  have hno : o ∉ B := fun e => hn ((zcc t o).1 ((K.gr o).1 e)).1
  refine ⟨fun q hq => (Xz _ ho q).2 (.inl (K.blk q hq)), h.nodup_iff.2 (List.nodup_cons.2 ⟨hno, K.nd⟩), fun q => ?_⟩
  rw [h.mem_iff, List.mem_cons, K.gr, zcc, zcc]
  show q = o ∨ _ ↔ xx (t.Marks ||| bit o) q = true ∧ ¬ xx t.Black q = true
  rw [Xz _ ho]
  constructor
  · rintro (rfl | ⟨a, b⟩)
    · exact ⟨.inr rfl, hnb⟩
    · exact ⟨.inl a, b⟩
  · rintro ⟨a | a, b⟩
    · exact .inr ⟨a, b⟩
    · exact .inl a
theorem zfx.less {B B' : List Int} {t : zm} {o : Int} (K : zfx B t) (h : List.Perm (B' ++ [o]) B) : zfx B' (Uz t o) ∧ (Uz t o).Marks = t.Marks ∧ YT t o = 1 ∧ ∀ q, xx (Uz t o).Black q = true ↔ xx t.Black q = true ∨ q = o := by
  have ho : YT t o = 1 := (K.gr o).1 (h.mem_iff.1 (by simp))
  have hr := zlQ ho
  have hm := ((zcc t o).1 ho)
  have hnd := h.nodup_iff.2 K.nd
  have hnd := List.nodup_append.1 hnd
  unfold Uz
  rw [if_pos ho]
  refine ⟨⟨fun q hq => ?_, hnd.1, fun q => ?_⟩, rfl, ho, fun q => Xz _ hr q⟩
  · rcases (Xz _ hr q).1 hq with e | e
    · exact K.blk q e
    · rw [e]; exact hm.1
  · have e1 : q ∈ B ↔ q ∈ B' ∨ q = o := by rw [← h.mem_iff, List.mem_append, List.mem_singleton]
    rw [K.gr, zcc] at e1
    rw [zcc]
    show _ ↔ xx t.Marks q = true ∧ ¬ xx (t.Black ||| bit o) q = true
    rw [Xz _ hr]
    constructor
    · intro hq
      have := e1.2 (.inl hq)
      exact ⟨this.1, fun e => e.elim this.2 (fun e => hnd.2.2 q hq o (by simp) e)⟩
    · rintro ⟨a, b⟩
      rcases e1.1 ⟨a, fun e => b (.inl e)⟩ with e | e
      · exact e
      · exact absurd (.inr e) b
theorem HOk.get {p : zb} (hp : zy p) {h : zB} (H : HOk p h) (o i : Int) : 0 ≤ wo h o i ∧ wo h o i ≤ 64 := by
  have h1 := H.n
  have h2 : p.Most ≤ 64 := by have := hp.most; have := hp.n; omega
  unfold wo
  split
  · unfold xk
    rw [List.getD_eq_getElem?_getD, List.getD_eq_getElem?_getD]
    cases hx : h.Objs[(o - 1).toNat]? with
    | none => show 0 ≤ (([] : List Int)[i.toNat]?).getD 0 ∧ _; simp
    | some l =>
      show 0 ≤ (l[i.toNat]?).getD 0 ∧ (l[i.toNat]?).getD 0 ≤ 64
      cases hv : l[i.toNat]? with
      | none => show (0 : Int) ≤ 0 ∧ (0 : Int) ≤ 64; decide
      | some v =>
        have := (H.objs l (List.mem_of_getElem? hx)).2 v (List.mem_of_getElem? hv)
        show 0 ≤ v ∧ v ≤ 64; omega
  · exact ⟨by decide, by decide⟩
structure WG (p : zb) (nb k : Nat) (s : za) (gh : Gh) : Prop where
  E : EOk p nb s
  X : SX p nb s gh (s.Ws.flatMap xQ) k
  W : ∀ (i : Nat) x, s.Ws[i]? = some x → WX p s gh ((i : Int) + 1) x
  B : zfx (zhy p s gh) s.T
def zuC (s s' : za) (w : Int) : Prop :=
  s'.T = s.T ∨ (∃ x o, s.Ws[(w - 1).toNat]? = some x ∧ x.PC = 6 ∧ o = x.G.Obj ∧ (1 ≤ o ∧ o ≤ 64) ∧ ¬ xx s.T.Marks o = true ∧ s'.T = { s.T with Marks := s.T.Marks ||| bit o }) ∨
    (∃ x, s.Ws[(w - 1).toNat]? = some x ∧ x.PC = 8 ∧ YT s.T x.Obj = 1 ∧ s'.T = { s.T with Black := s.T.Black ||| bit x.Obj })
theorem WG.step {p : zb} (hp : zy p) {nb k : Nat} {s : za} {gh : Gh} (hk : k < 4294960000) (G : WG p nb k s gh) {w : Int} (hw : 1 ≤ w ∧ w ≤ p.Workers) (hd : s.Done = false) : ∃ gh', WG p nb (k + 1) (yp s w) gh' ∧ zuC s (yp s w) w := by
  have hE := zpP hp G.E w
  have hwl := G.E.wl
  have e0 : ¬ (s.Done = true ∨ w < 1 ∨ (s.Ws.length : Int) < w) := by rw [hd]; rintro (e | e | e) <;> first | cases e | omega
  revert hE
  unfold yp
  rw [if_neg e0]
  have hi : (w - 1).toNat < s.Ws.length := by omega
  have hx := List.getElem?_eq_getElem hi
  generalize s.Ws[(w - 1).toNat] = x at hx
  rw [hx]
  dsimp only
  intro hE
  obtain ⟨a, b, el, es, hab, hba⟩ := zus hx
  have ei : (((w - 1).toNat : Nat) : Int) + 1 = w := by omega
  have hWX := G.W _ x hx
  have hWO := G.E.W _ x hx
  rw [ei] at hWX hWO
  have X0 : SX p nb s gh (xQ x ++ (a ++ b).flatMap xQ) k := G.X.perm (by rw [el]; exact zdt.symm)
  obtain ⟨gh', X', W', Fx, N, C, hN, hT⟩ := zwo hp hk hw X0 hWO hWX (fun o i => G.E.H.get hp o i)
  have hoth : ∀ (j : Nat) y, j ≠ (w - 1).toNat → s.Ws[j]? = some y → WX p (zC s w x).1 gh' ((j : Int) + 1) y ∧ zZ (zC s w x).1 y = zZ s y := by
    intro j y hj hy
    have hjl := (List.getElem?_eq_some_iff.1 hy).1
    exact WX.other hp (w := (j : Int) + 1) (by omega) X0 Fx (G.W j y hy) (G.E.W j y hy) (fun z hz => List.mem_flatMap.2 ⟨y, hba j y hj hy, hz⟩) (fun e => hj (by omega))
  have hbag : List.Perm (zhy p { (zC s w x).1 with Ws := s.Ws.set (w - 1).toNat (zC s w x).2 } gh' ++ C) (N ++ zhy p s gh) := by
    unfold zhy
    have q1 : xD p { (zC s w x).1 with Ws := s.Ws.set (w - 1).toNat (zC s w x).2 } gh' = xD p (zC s w x).1 gh' := rfl
    have q2 : (s.Ws.set (w - 1).toNat (zC s w x).2).flatMap (zZ { (zC s w x).1 with Ws := s.Ws.set (w - 1).toNat (zC s w x).2 }) = (a ++ (zC s w x).2 :: b).flatMap (zZ (zC s w x).1) := by
      rw [es]; exact ZF (fun y _ => zqm rfl rfl)
    have q3 : (a ++ b).flatMap (zZ (zC s w x).1) = (a ++ b).flatMap (zZ s) := ZF (fun y hy => by
      obtain ⟨j, hj, hjy⟩ := hab y hy
      exact (hoth j y hj hjy).2)
    rw [q1]
    show List.Perm (xD p (zC s w x).1 gh' ++ (s.Ws.set (w - 1).toNat (zC s w x).2).flatMap (zZ { (zC s w x).1 with Ws := s.Ws.set (w - 1).toNat (zC s w x).2 }) ++ C) _
    rw [q2]
    have r1 : List.Perm (xD p (zC s w x).1 gh' ++ (a ++ (zC s w x).2 :: b).flatMap (zZ (zC s w x).1) ++ C) ((a ++ b).flatMap (zZ s) ++ (xD p (zC s w x).1 gh' ++ zZ (zC s w x).1 (zC s w x).2 ++ C)) := by
      refine ((List.Perm.append_left _ zdt).append_right C).trans ?_
      rw [q3, List.append_assoc, List.append_assoc, List.append_assoc]
      refine (List.perm_append_comm_assoc _ _ _).trans ?_
      refine (List.Perm.append_left _ (List.perm_append_comm_assoc _ _ _)).trans ?_
      refine (List.perm_append_comm_assoc _ _ _).trans (List.Perm.append_left _ ?_)
      exact List.perm_append_comm_assoc _ _ _
    have r2 : List.Perm (N ++ (xD p s gh ++ s.Ws.flatMap (zZ s))) ((a ++ b).flatMap (zZ s) ++ (N ++ (xD p s gh ++ zZ s x))) := by
      conv => lhs; rw [el]
      refine (List.Perm.append_left _ (List.Perm.append_left _ zdt)).trans ?_
      refine (List.Perm.append_left _ ?_).trans (List.perm_append_comm_assoc _ _ _)
      rw [← List.append_assoc]
      exact List.perm_append_comm
    exact r1.trans ((List.Perm.append_left _ hN).trans r2.symm)
  have fin : zfx (zhy p { (zC s w x).1 with Ws := s.Ws.set (w - 1).toNat (zC s w x).2 } gh') (zC s w x).1.T → WG p nb (k + 1) { (zC s w x).1 with Ws := s.Ws.set (w - 1).toNat (zC s w x).2 } gh' := by
    intro hB
    refine ⟨hE, ?_, fun j y hy => ?_, hB⟩
    · refine (X'.state hE.S rfl).perm ?_
      show List.Perm ((s.Ws.set (w - 1).toNat (zC s w x).2).flatMap xQ) _
      rw [es]; exact zdt
    · have hy : (s.Ws.set (w - 1).toNat (zC s w x).2)[j]? = some y := hy
      by_cases hj : j = (w - 1).toNat
      · subst hj
        rw [List.getElem?_set_self hi] at hy
        injection hy with hy
        rw [← hy, ei]
        exact W'.state rfl rfl
      · rw [List.getElem?_set_ne (fun e => hj e.symm)] at hy
        exact (hoth j y hj hy).1.state rfl rfl
  refine ⟨gh', ?_⟩
  rcases hT with ⟨rfl, rfl, t1⟩ | ⟨rfl, rfl, t1, t2, t3⟩ | ⟨rfl, rfl, t1, t2⟩
  · rw [List.append_nil, List.nil_append] at hbag
    refine ⟨fin ⟨?_, hbag.nodup_iff.2 G.B.nd, fun o => ?_⟩, .inl t1⟩
    · rw [t1]; exact G.B.blk
    · rw [t1, hbag.mem_iff]; exact G.B.gr o
  · have ho := ((hWX.p6 t1).1).ob
    rw [List.append_nil] at hbag
    refine ⟨fin ?_, .inr (.inl ⟨x, x.G.Obj, hx, t1, rfl, ho, (zg7 ho).1 t2, t3⟩)⟩
    rw [t3]
    exact G.B.more ho t2 hbag
  · rw [List.nil_append] at hbag
    obtain ⟨b1, b2, b3, b4⟩ := G.B.less hbag
    refine ⟨fin ?_, .inr (.inr ⟨x, hx, t1, b3, ?_⟩)⟩
    · rw [t2]; exact b1
    · show (zC s w x).1.T = _
      rw [t2]; unfold Uz; rw [if_pos b3]
end
end Go.Pe.G
namespace Go.Pe.G
open Go.Pe
noncomputable section
theorem zhL {N : Int} {nb : Nat} (hN : 0 ≤ N ∧ N < 1000) (hnb : nb < 1000) : ∀ (l : List Int) (m : List (BitVec 64)) (a : Int), (∀ x ∈ l, 1 ≤ x ∧ x < nb) → (∀ x ∈ l, a ≠ N + x) → ld (links m N l) a = ld m a
  | [], m, a, _, _ => rfl
  | [x], m, a, h, h2 => by
    have := h x (by simp)
    have := h2 x (by simp)
    rw [links, wz (by omega) (by omega)]
    exact yb (by omega)
  | x :: y :: l, m, a, h, h2 => by
    have := h x (by simp)
    have := h2 x (by simp)
    rw [links, zhL hN hnb (y :: l) _ a (fun z hz => h z (List.mem_cons_of_mem _ hz)) (fun z hz => h2 z (List.mem_cons_of_mem _ hz)), wz (by omega) (by omega)]
    exact yb (by omega)
theorem zjl {N : Int} {nb : Nat} (hN : 0 ≤ N ∧ N < 1000) (hnb : nb < 1000) : ∀ (l : List Int) (m : List (BitVec 64)), (∀ x ∈ l, 1 ≤ x ∧ x < nb) → l.Nodup → N + nb ≤ m.length → Chn (links m N l) N nb (l.headD 0) l
  | [], m, _, _, _ => rfl
  | [x], m, h, _, hl => by
    have := h x (by simp)
    refine ⟨rfl, this.1, this.2, ?_⟩
    rw [links, wz (by omega) (by omega), Ym, if_pos ⟨rfl, by omega, by omega⟩]
    rfl
  | x :: y :: l, m, h, hd, hl => by
    have hx := h x (by simp)
    have hy := h y (by simp)
    have hd := List.nodup_cons.1 hd
    refine ⟨rfl, hx.1, hx.2, ?_⟩
    have ih := zjl hN hnb (y :: l) (st m (wc (N + x)) (BitVec.ofInt 64 y)) (fun z hz => h z (List.mem_cons_of_mem _ hz)) hd.2 (by rw [un]; exact hl)
    rw [links, zhL hN hnb (y :: l) _ (N + x) (fun z hz => h z (List.mem_cons_of_mem _ hz)) (fun z hz e => hd.1 (by rw [zgK e] at hz; exact hz)), wz (by omega) (by omega), Ym, if_pos ⟨rfl, by omega, by omega⟩, toInt_ofInt (by omega) (by omega)]
    rw [wz (by omega) (by omega)] at ih
    exact ih
theorem Chn.links {N : Int} {nb : Nat} (hN : 0 ≤ N ∧ N < 1000) (hnb : nb < 1000) {l r : List Int} {h : Int} {m : List (BitVec 64)} (hr : ∀ x ∈ r, 1 ≤ x ∧ x < nb) (hd : ∀ x ∈ l, x ∉ r) (c : Chn m N nb h l) : Chn (Go.Pe.G.links m N r) N nb h l := by
  induction l generalizing h with
  | nil => exact c
  | cons y l ih =>
    refine ⟨c.1, c.2.1, c.2.2.1, ?_⟩
    rw [zhL hN hnb r m (N + y) hr (fun z hz e => hd y (by simp) (by rw [zgK e] at hz; exact hz))]
    exact ih (fun x hx => hd x (List.mem_cons_of_mem _ hx)) c.2.2.2
theorem zwi (k : Nat) : yU k = zfM (k + 1) := rfl
theorem zoT {l : List Int} {nb : Nat} (h : ∀ x ∈ l, 1 ≤ x ∧ x < nb) (hnb : nb < 1000) : 0 ≤ l.headD 0 ∧ l.headD 0 < 4294967296 := by
  cases l with
  | nil => exact ⟨by decide, by decide⟩
  | cons a r => have := h a (by simp); show 0 ≤ a ∧ a < 4294967296; omega
theorem zto {p : zb} (h : zy p) : LI p (zP p + 1) (wV p).M (zR p) (zw p) ((yU (zP p)).take (yV p).length) ((yU (zP p)).drop (yV p).length) [] ∧ yB (ld (wV p).M (zR p)) = 0 ∧ yB (ld (wV p).M (zw p)) = 0 := by
  have hb := zbe h
  have hF := vF h
  have hE := xw h
  have hcl := X5 p p.Workers.toNat
  have hw := h.wk
  have hc := h.cap
  have hfe : zR p = ((p.Workers.toNat * (p.Cap.toNat + 2) : Nat) : Int) := by
    rw [hF.1]
    have e1 : p.Workers = ((p.Workers.toNat : Nat) : Int) := by omega
    have e2 : p.Cap + 2 = ((p.Cap.toNat + 2 : Nat) : Int) := by omega
    rw [e2, Int.natCast_mul]
    rw [← e1]
  have hN : 0 ≤ zw p ∧ zw p < 1000 := by omega
  have hnb : zP p + 1 < 1000 := by omega
  generalize hk : (yV p).length = k
  have t1 : ∀ x ∈ (yU (zP p)).take k, 1 ≤ x ∧ x < ((zP p + 1 : Nat) : Int) := fun x hx => by have := zbH (List.mem_of_mem_take hx); omega
  have t2 : ∀ x ∈ (yU (zP p)).drop k, 1 ≤ x ∧ x < ((zP p + 1 : Nat) : Int) := fun x hx => by have := zbH (List.mem_of_mem_drop hx); omega
  have nd : ((yU (zP p)).take k ++ (yU (zP p)).drop k).Nodup := by rw [List.take_append_drop]; exact zkm (zP p + 1)
  have nd3 := List.nodup_append.1 nd
  have eM : (wV p).M = UJ (UJ (uY p p.Workers.toNat ++ List.replicate (2 + zP p) 0#64) (zR p) (zw p) ((yU (zP p)).take k)) (zw p) (zw p) ((yU (zP p)).drop k) := by rw [← hk]; rfl
  rw [eM]
  generalize hm0 : uY p p.Workers.toNat ++ List.replicate (2 + zP p) 0#64 = m0
  have l0 : zw p + ((zP p + 1 : Nat) : Int) ≤ m0.length := by
    rw [← hm0, List.length_append, hcl, List.length_replicate]; omega
  have p1 := zoT t1 hnb
  have p2 := zoT t2 hnb
  have v0 : ∀ n : Int, 0 ≤ n → n < 4294967296 → yB (yH 0#64 n) = 0 := fun n h1 h2 => by
    unfold yB; rw [zlL _ h1 h2]; show (0 * 4294967296 + n.toNat) / 4294967296 = 0; omega
  have c1 := zjl hN hnb _ m0 t1 nd3.1 l0
  generalize hm1 : links m0 (zw p) ((yU (zP p)).take k) = m1 at c1
  have l1 : m1.length = m0.length := by rw [← hm1, U6]
  have c1' := (c1.st_head h (a := zR p) (v := yH 0#64 (((yU (zP p)).take k).headD 0)) (.inl rfl)).links hN hnb t2 (fun x hx hx2 => nd3.2.2 x hx x hx2 rfl)
  have c2 := zjl hN hnb _ (st m1 (zR p) (yH 0#64 (((yU (zP p)).take k).headD 0))) t2 nd3.2.1 (by rw [un, l1]; exact l0)
  have hd1 : ld (links (st m1 (zR p) (yH 0#64 (((yU (zP p)).take k).headD 0))) (zw p) ((yU (zP p)).drop k)) (zR p) = yH 0#64 (((yU (zP p)).take k).headD 0) := by
    rw [zhL hN hnb _ _ _ t2 (fun x hx => by have := t2 x hx; omega), Ym, if_pos ⟨rfl, by omega, by omega⟩]
  unfold UJ
  rw [hm1]
  generalize hm2 : links (st m1 (zR p) (yH 0#64 (((yU (zP p)).take k).headD 0))) (zw p) ((yU (zP p)).drop k) = m2 at c1' c2 hd1
  have l2 : m2.length = m0.length := by rw [← hm2, U6, un, l1]
  have g1 : ld (st m2 (zw p) (yH 0#64 (((yU (zP p)).drop k).headD 0))) (zR p) = yH 0#64 (((yU (zP p)).take k).headD 0) := by rw [yb (by omega), hd1]
  have g2 : ld (st m2 (zw p) (yH 0#64 (((yU (zP p)).drop k).headD 0))) (zw p) = yH 0#64 (((yU (zP p)).drop k).headD 0) := by rw [Ym, if_pos ⟨rfl, by omega, by omega⟩]
  refine ⟨⟨.inl ⟨rfl, rfl⟩, ?_, ?_, ?_, by rw [un, l2]; exact l0⟩, ?_, ?_⟩
  · rw [g1, U5 _ p1.1 p1.2]
    exact c1'.st_head h (.inr rfl)
  · rw [g2, U5 _ p2.1 p2.2]
    exact c2.st_head h (.inr rfl)
  · rw [List.append_nil, List.take_append_drop]
    exact List.Perm.refl _
  · rw [g1]; exact v0 _ p1.1 p1.2
  · rw [g2]; exact v0 _ p2.1 p2.2
end
end Go.Pe.G
namespace Go.Pe.G
open Go.Pe
noncomputable section
theorem zi1 {N : Int} (hN : 0 ≤ N ∧ N < 1000) : ∀ (l : List Int) (m : List (BitVec 64)) (a : Int), (∀ x ∈ l, 1 ≤ x ∧ x < 1000) → a ≤ N → ld (links m N l) a = ld m a
  | [], m, a, _, _ => rfl
  | [x], m, a, h, h2 => by
    have := h x (by simp)
    rw [links, wz (by omega) (by omega)]
    exact yb (by omega)
  | x :: y :: l, m, a, h, h2 => by
    have := h x (by simp)
    rw [links, zi1 hN (y :: l) _ a (fun z hz => h z (List.mem_cons_of_mem _ hz)) h2, wz (by omega) (by omega)]
    exact yb (by omega)
theorem zvf {p : zb} (h : zy p) {a : Int} (ha : a < zR p) : ld (wV p).M a = ld (uY p p.Workers.toNat ++ List.replicate (2 + zP p) 0#64) a := by
  have hb := zbe h
  have hF := vF h
  have hE := xw h
  have t1 : ∀ x ∈ (yU (zP p)).take (yV p).length, 1 ≤ x ∧ x < 1000 := fun x hx => by have := zbH (List.mem_of_mem_take hx); omega
  have t2 : ∀ x ∈ (yU (zP p)).drop (yV p).length, 1 ≤ x ∧ x < 1000 := fun x hx => by have := zbH (List.mem_of_mem_drop hx); omega
  show ld (UJ (UJ _ (zR p) (zw p) _) (zw p) (zw p) _) a = _
  unfold UJ
  rw [yb (by omega), zi1 (by omega) _ _ _ t2 (by omega), yb (by omega), zi1 (by omega) _ _ _ t1 (by omega)]
theorem zn5 (p : zb) : ∀ (k i j : Nat), i < k → j < p.Cap.toNat + 2 → (uY p k)[i * (p.Cap.toNat + 2) + j]? = (zcq p.Cap)[j]?
  | 0, i, j, h, _ => by omega
  | k + 1, i, j, h, hj => by
    rw [zf3]
    have hl := X5 p k
    rcases Nat.lt_or_ge i k with h1 | h1
    · have h2 := Nat.mul_le_mul_right (p.Cap.toNat + 2) (show i + 1 ≤ k from h1)
      rw [Nat.succ_mul] at h2
      rw [List.getElem?_append_left (by omega)]
      exact zn5 p k i j h1 hj
    · have : i = k := by omega
      subst this
      rw [List.getElem?_append_right (by omega), hl, show i * (p.Cap.toNat + 2) + j - i * (p.Cap.toNat + 2) = j by omega]
theorem zpm {p : zb} (h : zy p) {w : Int} (hw : 1 ≤ w ∧ w ≤ p.Workers) {j : Nat} (hj : j < 2) : ld (wV p).M (zA p w + j) = 1#64 := by
  have hd := uN h hw.1 hw.2
  have hc := h.cap
  have hl := X5 p p.Workers.toNat
  have hlt : (w - 1).toNat < p.Workers.toNat := by omega
  have e1 : (zA p w + j).toNat = (w - 1).toNat * (p.Cap.toNat + 2) + j := by
    obtain ⟨n, hn⟩ : ∃ n : Nat, w - 1 = (n : Int) := ⟨(w - 1).toNat, by omega⟩
    have e2 : p.Cap + 2 = ((p.Cap.toNat + 2 : Nat) : Int) := by omega
    rw [hd.1, hn, e2, ← Int.natCast_mul, Int.toNat_natCast]
    omega
  have h2 := Nat.mul_le_mul_right (p.Cap.toNat + 2) (show (w - 1).toNat + 1 ≤ p.Workers.toNat from hlt)
  rw [Nat.succ_mul] at h2
  rw [zvf h (by omega)]
  unfold ld
  rw [if_pos (by omega), e1, List.getD_eq_getElem?_getD, List.getElem?_append_left (by omega), zn5 p _ _ _ hlt (by omega)]
  unfold zcq
  match j, hj with
  | 0, _ => rfl
  | 1, _ => rfl
theorem zkf (n : Nat) (hn : 1 ≤ n) : ∀ (f : Nat) (l : List Int), l.length ≤ f → (vo n f l).flatten = l
  | 0, l, h => by
    have : l = [] := List.length_eq_zero_iff.1 (by omega)
    subst this; simp [vo]
  | f + 1, [], _ => by simp [vo]
  | f + 1, x :: l, h => by
    have := zkf n hn f ((x :: l).drop n) (by rw [List.length_drop]; simp at h ⊢; omega)
    simp only [vo, List.flatten_cons] at this ⊢
    rw [this, List.take_append_drop]
theorem zsD {α : Type} (l : List (List α)) : (List.range l.length).flatMap (fun i : Nat => (l[i]?).getD []) = l.flatten := by
  rw [List.flatMap_def]
  congr 1
  apply List.ext_getElem
  · simp
  · intro i h1 h2
    simp [List.getElem?_eq_getElem h2]
def gh0 (p : zb) : Gh := ⟨(yU (zP p)).take (yV p).length, (yU (zP p)).drop (yV p).length, fun _ => [], fun _ => 1, fun _ => 0⟩
theorem zhz {α β : Type} {f : α → List β} : ∀ {l : List α}, (∀ x ∈ l, f x = []) → l.flatMap f = []
  | [], _ => rfl
  | a :: l, h => by rw [List.flatMap_cons, h a (by simp), zhz (fun x hx => h x (List.mem_cons_of_mem _ hx))]; rfl
theorem zuP {p : zb} (h : zy p) : xD p (wV p) (gh0 p) = Wh (ZW p) := by
  have hb := h.bin
  have hfl := zks h
  have hbs := zbe h
  have hmost := h.most
  have hw := h.wk
  have hm := h.mt
  have e1 : xD p (wV p) (gh0 p) = ((yU (zP p)).take (yV p).length).flatMap (xu (wV p)) := by
    show ((yU (zP p)).take (yV p).length).flatMap (xu (wV p)) ++ (List.range p.Workers.toNat).flatMap (fun _ => ([] : List Int)) = _
    rw [zhz (f := fun _ => ([] : List Int)) (fun _ _ => rfl), List.append_nil]
  have e2 : (yU (zP p)).take (yV p).length = (List.range (yV p).length).map (fun i : Nat => (i : Int) + 1) := by
    unfold yU
    rw [← List.map_take, List.take_range, Nat.min_eq_left (by omega)]
  rw [e1, e2, List.flatMap_map]
  have e3 : (List.range (yV p).length).flatMap (fun i : Nat => xu (wV p) ((i : Int) + 1)) = (List.range (yV p).length).flatMap (fun i : Nat => ((yV p)[i]?).getD []) := by
    refine ZF (fun i hi => ?_)
    have hi := List.mem_range.1 hi
    unfold xu
    show (([[]] ++ yV p ++ List.replicate (zP p - (yV p).length) [])[((i : Int) + 1).toNat]?).getD [] = _
    rw [show ((i : Int) + 1).toNat = i + 1 by omega, List.append_assoc]
    show ((yV p ++ List.replicate (zP p - (yV p).length) [])[i]?).getD [] = _
    rw [List.getElem?_append_left hi]
  rw [e3, zsD]
  exact zkf _ (by omega) _ _ (Nat.le_refl _)
theorem zqh (s : BitVec 64) : (Wh s).Nodup := by
  unfold Wh
  rw [List.Nodup, List.pairwise_map]
  exact (List.nodup_range.filter _).imp (fun h e => h (by omega))
theorem zlE {s : BitVec 64} (h : s &&& ~~~63#64 = 0#64) {j : Nat} (hs : s.getLsbD j = true) : j < 6 := by
  have hj : j < 64 := BitVec.lt_of_getLsbD hs
  have := congrArg (fun x => x.getLsbD j) h
  simp only [BitVec.getLsbD_and, BitVec.getLsbD_not, hs, hj, decide_true, Bool.true_and, BitVec.getLsbD_zero] at this
  have h63 : (63#64).getLsbD j = decide (j < 6) := by
    have : ∀ j : Fin 64, (63#64).getLsbD j.1 = decide (j.1 < 6) := by decide
    exact this ⟨j, hj⟩
  rw [h63] at this
  by_cases e : j < 6
  · exact e
  · rw [decide_eq_false e] at this; cases this
theorem zs1 {s : BitVec 64} (h : s &&& ~~~63#64 = 0#64) (o : Int) : o ∈ Wh s ↔ xx s o = true := by
  unfold Wh
  rw [vb, List.mem_map]
  constructor
  · rintro ⟨i, hi, rfl⟩
    obtain ⟨h1, h2⟩ := List.mem_filter.1 hi
    have := List.mem_range.1 h1
    exact ⟨by omega, by omega, by rw [show ((i : Int) + 1 - 1).toNat = i by omega]; exact h2⟩
  · rintro ⟨h1, h2, h3⟩
    exact ⟨(o - 1).toNat, List.mem_filter.2 ⟨List.mem_range.2 (zlE h h3), h3⟩, by omega⟩
theorem zvO {p : zb} (h : zy p) : WG p (zP p + 1) 0 (wV p) (gh0 p) := by
  have hE := zte h
  obtain ⟨L, v1, v2⟩ := zto h
  have hc := h.cap
  have hws : ∀ x ∈ (wV p).Ws, ∃ i : Nat, x = uu p i := fun x hx => by
    obtain ⟨i, _, rfl⟩ := List.mem_map.1 (show x ∈ (List.range p.Workers.toNat).map (uu p) from hx)
    exact ⟨i, rfl⟩
  have hb : ∀ i : Nat, uu p i = Vo p ((i : Int) + 1) (uu p i) := fun i => rfl
  have own : (wV p).Ws.flatMap xQ = [] := zhz (fun x hx => by
    obtain ⟨i, rfl⟩ := hws x hx
    exact wM (by show (0 : Int) ≠ 3; decide) (by show (0 : Int) ≠ 4; decide) (by show (0 : Int) ≠ 6; decide))
  have hold : (wV p).Ws.flatMap (zZ (wV p)) = [] := zhz (fun x hx => by
    obtain ⟨i, rfl⟩ := hws x hx
    unfold zZ
    rw [hb i, zhw]; rfl)
  refine ⟨hE, ⟨hE.S, by rw [own]; exact L, fun w h1 h2 => ?_, ?_, fun w _ _ => by show 1 + 0 ≤ 0 + 1000; decide⟩, fun i x hx => ?_, ?_⟩
  · have c0 := zpm h ⟨h1, h2⟩ (j := 0) (by decide)
    have c1 := zpm h ⟨h1, h2⟩ (j := 1) (by decide)
    rw [show zA p w + ((0 : Nat) : Int) = zA p w by omega] at c0
    exact ⟨c0, c1, by show (0 : Nat) ≤ 1; decide, by show (1 : Nat) ≤ 1; decide, Nat.zero_le _, by show 1 + 0 < 4294967296; decide, fun i hi => absurd hi (Nat.not_lt_zero _)⟩
  · rw [v1, v2]; exact ⟨Nat.le_refl _, Nat.le_refl _⟩
  · have hx : ((List.range p.Workers.toNat).map (uu p))[i]? = some x := hx
    rw [List.getElem?_map] at hx
    cases hr : (List.range p.Workers.toNat)[i]? with
    | none => rw [hr] at hx; cases hx
    | some j =>
      rw [hr] at hx
      injection hx with hx
      obtain ⟨h1, h2⟩ := List.getElem?_eq_some_iff.1 hr
      rw [List.getElem_range] at h2
      subst h2
      rw [← hx, hb i]
      exact WX.begin rfl rfl
  · have hs := zce h
    unfold zhy
    rw [hold, List.append_nil, zuP h]
    refine ⟨fun o ho => absurd ho (zcn o), zqh _, fun o => ?_⟩
    rw [zs1 hs, zcc]
    exact ⟨fun e => ⟨e, zcn o⟩, fun e => e.1⟩
end
end Go.Pe.G
namespace Go.Pe.G
open Go.Pe
noncomputable section
def noD (base cap : Int) : zc := ⟨0, 0, base, cap, 0#64, 0#64, 0, 0⟩
def zbu (o : zc) : Prop := o.Kind = 2 ∧ o.Out = 0 ∧ (o.PC = 2 ∨ o.PC = 4 ∨ o.PC = 5 ∨ (o.PC = 3 ∧ o.T = o.B - 1#64))
instance (o : zc) : Decidable (zbu o) := by unfold zbu; infer_instance
def zaX (m : List (BitVec 64)) (base : Int) (o : zc) : BitVec 64 := if zbu o then ld m (wc (base + 1)) + 1#64 else ld m (wc (base + 1))
def uW (m : List (BitVec 64)) (base cap : Int) (top : BitVec 64) (n : Nat) : List Int := (List.range n).map (fun j : Nat => (ld m (uK (noD base cap) (top + BitVec.ofNat 64 j))).toInt)
def u6 (m : List (BitVec 64)) (base cap : Int) (o : zc) : List Int :=
  if ¬ 0 < (zaX m base o - ld m base).toInt ∨ (min (wU (noD base cap)).toNat 64) < (zaX m base o - ld m base).toNat then []
  else uW m base cap (ld m base) (zaX m base o - ld m base).toNat
theorem zu2 {p : zb} (h : zy p) (b : Int) : (wU (noD b p.Cap)).toNat = p.Cap.toNat := by
  have hc := h.cap
  have hx : p.Cap = 1 ∨ p.Cap = 2 ∨ p.Cap = 3 := by omega
  unfold wU noD
  rcases hx with e | e | e <;> simp only [e] <;> decide
theorem zrb {a b : Nat} (h : b ≤ a) (h2 : a < 4294967296) : BitVec.ofNat 64 a - BitVec.ofNat 64 b = BitVec.ofNat 64 (a - b) := UW h (by omega)
theorem zky {p : zb} (h : zy p) {m : List (BitVec 64)} {w : Int} {t c : Nat} {l : List Int} {o : zc} (hw : 1 ≤ w ∧ w ≤ p.Workers) (D : DQ p m w t l c) (he : zaX m (zA p w) o = BitVec.ofNat 64 (t + l.length)) : u6 m (zA p w) p.Cap o = l := by
  have hs := D.small
  have hcap := D.cap
  have hc := h.cap
  have ed : zaX m (zA p w) o - ld m (zA p w) = BitVec.ofNat 64 l.length := by
    rw [he, D.top, zrb (by omega) hs]; congr 1; omega
  unfold u6
  rw [ed, vW (by omega), zu2 h]
  by_cases hl : l = []
  · subst hl
    rw [if_pos (.inl (by decide))]
  · have hpos : 0 < l.length := List.length_pos_iff.2 hl
    have : 0 < (BitVec.ofNat 64 l.length).toInt := by
      have := (zcC (a := t + l.length) (b := t) hs (by omega)).2 (by omega)
      rw [zrb (by omega) hs] at this
      rwa [show t + l.length - t = l.length by omega] at this
    rw [if_neg (by omega)]
    unfold uW
    apply List.ext_getElem
    · simp
    · intro i h1 h2
      rw [List.getElem_map, List.getElem_range, D.top, Vt (by omega), zaa h hw rfl rfl (by omega), D.cell i h2]
theorem zs9 {p : zb} (h : zy p) {m : List (BitVec 64)} {w : Int} {t c : Nat} {o : zc} (D : DQ p m w t [] c) (he : zaX m (zA p w) o = BitVec.ofNat 64 (t - 1)) : u6 m (zA p w) p.Cap o = [] := by
  have hs := D.small
  unfold u6
  refine if_pos (.inl (fun e => ?_))
  rw [he, D.top] at e
  have := (zcC (by have : t + 0 < 4294967296 := hs; omega) (by have : t + 0 < 4294967296 := hs; omega)).1 e
  omega
theorem zlX {p : zb} (h : zy p) {w : Int} (hw : 1 ≤ w ∧ w ≤ p.Workers) : wc (zA p w + 1) = zA p w + 1 := by
  have hd := uN h hw.1 hw.2
  have hf := vF h
  have hc := h.cap
  exact wz (by omega) (by omega)
theorem zkt {p : zb} (h : zy p) {m : List (BitVec 64)} {w : Int} {t : Nat} {l : List Int} {o : zc} (hw : 1 ≤ w ∧ w ≤ p.Workers) (D : DQ p m w t l 0) (ho : ¬ zbu o) : u6 m (zA p w) p.Cap o = l := by
  refine zky h hw D ?_
  unfold zaX
  rw [if_neg ho, zlX h hw, D.bot]; rfl
theorem zs8 {p : zb} (h : zy p) {m : List (BitVec 64)} {w : Int} {t c : Nat} {l : List Int} {o : zc} (hw : 1 ≤ w ∧ w ≤ p.Workers) (D : DQ p m w t l c) (K : PK p m w t l c o) : u6 m (zA p w) p.Cap o = l := by
  have hs := D.small
  have ht := D.t1
  have hpc := K.pc
  by_cases h1 : zbu o
  · have hc : c = 1 := by
      rcases h1.2.2 with e | e | e | ⟨e, e2⟩
      · exact K.c1 (.inl e)
      · exact K.c1 (.inr (by omega))
      · exact K.c1 (.inr (by omega))
      · exact K.c3 e e2
    subst hc
    refine zky h hw D ?_
    unfold zaX
    rw [if_pos h1, zlX h hw, D.bot, show (1#64 : BitVec 64) = BitVec.ofNat 64 1 from rfl, Vt (by omega)]
    congr 1; omega
  · have hn : ¬ (o.PC = 2 ∨ o.PC = 4 ∨ o.PC = 5 ∨ (o.PC = 3 ∧ o.T = o.B - 1#64)) := fun e => h1 ⟨K.kind, K.out, e⟩
    by_cases h6 : o.PC = 6
    · have hl := K.e5 (by omega)
      have hc := K.c1 (.inr (by omega))
      subst hl; subst hc
      refine zs9 h D ?_
      unfold zaX
      rw [if_neg h1, zlX h hw, D.bot]; rfl
    · have hc : c = 0 := by
        by_cases h3 : o.PC = 3
        · exact (K.n3 h3 (fun e => hn (.inr (.inr (.inr ⟨h3, e⟩))))).1
        · exact K.c0 (by omega)
      subst hc
      exact zkt h hw D h1
def zcE (l : List Int) : List Int := l.drop (l.length - 1)
def zeE : zc := ⟨2, 2, 0, 0, 0#64, 0#64, 0, 0⟩
theorem zrG {p : zb} (h : zy p) {m : List (BitVec 64)} {w : Int} {t c : Nat} {l : List Int} {o : zc} (hw : 1 ≤ w ∧ w ≤ p.Workers) (D : DQ p m w t l c) (K : PK p m w t l c o) (h3 : o.PC = 3) (hT : o.T ≠ o.B - 1#64) :
    zcE (u6 m (zA p w) p.Cap zeE) = [(ld m (uK o (o.B - 1#64))).toInt] := by
  obtain ⟨n1, n2, n3, n4⟩ := K.n3 h3 hT
  subst n1
  have hcp := h.cap
  have eB : o.B - 1#64 = BitVec.ofNat 64 (t + l.length) := by
    rw [n2, show (1#64 : BitVec 64) = BitVec.ofNat 64 1 from rfl, UW (by omega) (by omega)]; rfl
  have D' : DQ p m w t (l ++ [(ld m (uK o (o.B - 1#64))).toInt]) 1 := by
    refine ⟨D.top, ?_, Nat.le_refl _, D.t1, by rw [List.length_append, List.length_singleton]; omega, by rw [List.length_append, List.length_singleton]; omega, fun i hi => ?_⟩
    · rw [D.bot, List.length_append, List.length_singleton]; congr 1
    · rw [List.length_append, List.length_singleton] at hi
      by_cases hl : i < l.length
      · rw [List.getElem_append_left hl]; exact D.cell i hl
      · have : i = l.length := by omega
        subst this
        rw [List.getElem_append_right (by omega)]
        simp only [Nat.sub_self, List.getElem_cons_zero]
        rw [eB, zaa h hw K.base K.size (by omega)]
  rw [zky h hw D' ?_]
  · unfold zcE
    rw [List.length_append, List.length_singleton, Nat.add_sub_cancel, List.drop_left]
  · have hl : (l ++ [(ld m (uK o (o.B - 1#64))).toInt]).length = l.length + 1 := by rw [List.length_append, List.length_singleton]
    unfold zaX
    rw [if_pos (show zbu zeE from ⟨rfl, rfl, .inl rfl⟩), zlX h hw, D'.bot, hl, show (1#64 : BitVec 64) = BitVec.ofNat 64 1 from rfl, Vt (by omega)]
    congr 1
def zi6 (x : zg) : zc := if x.PC = 0 then x.D else if x.PC = 6 ∧ x.G.PC = 3 then x.G.D else ⟨0, 0, 0, 0, 0#64, 0#64, 0, 0⟩
def zjE (p : zb) (s : za) (w : Int) (x : zg) : List Int :=
  if x.PC = 0 then (if x.D.PC = 3 ∧ x.D.T ≠ x.D.B - 1#64 then zcE (u6 s.M (zA p w) p.Cap zeE) else []) ++ (if x.D.PC = 6 then [x.D.X] else [])
  else if x.PC = 3 then xu s x.Bin
  else if x.PC = 5 ∨ x.PC = 8 then [x.Obj]
  else if x.PC = 6 then x.Obj :: (if x.G.Out = 0 ∧ 3 ≤ x.G.PC ∧ x.G.PC ≤ 7 then [x.G.Obj] else [])
  else []
def zdx (p : zb) (s : za) (w : Int) (x : zg) : List Int := x.Batch ++ zjE p s w x ++ u6 s.M (zA p w) p.Cap (zi6 x)
theorem zvj {p : zb} (h : zy p) {nb k : Nat} {s : za} {gh : Gh} {own : List Int} {w : Int} {x : zg} (hw : 1 ≤ w ∧ w ≤ p.Workers) (X : SX p nb s gh own k) (W : WX p s gh w x) (O : WOk p nb w x) : zdx p s w x = zZ s x ++ gh.D w := by
  have D := X.D w hw.1 hw.2
  have e1 : zjE p s w x = XI s x := by
    unfold zjE XI
    by_cases p0 : x.PC = 0
    · rw [if_pos p0, if_pos p0]
      have K := W.p0 p0
      unfold Zu
      by_cases e : x.D.PC = 3 ∧ x.D.T ≠ x.D.B - 1#64
      · rw [if_pos e, if_pos e, zrG h hw D K e.1 e.2, if_neg (by omega), List.append_nil]
      · rw [if_neg e, if_neg e, List.nil_append]
    · rw [if_neg p0, if_neg p0]
      rfl
  have e2 : u6 s.M (zA p w) p.Cap (zi6 x) = gh.D w := by
    unfold zi6
    by_cases p0 : x.PC = 0
    · rw [if_pos p0]; exact zs8 h hw D (W.p0 p0)
    · have hc := W.c0 p0
      rw [hc] at D
      rw [if_neg p0]
      by_cases p6 : x.PC = 6 ∧ x.G.PC = 3
      · rw [if_pos p6]
        obtain ⟨G, g1, g2, g3⟩ := W.p6 p6.1
        have := (G.d3 p6.2 g3).2.2.kind
        exact zkt h hw D (fun e => by have := e.1; omega)
      · rw [if_neg p6]
        exact zkt h hw D (fun e => absurd e.1 (by show ¬ (0 : Int) = 2; decide))
  unfold zdx zZ
  rw [e1, e2]
end
end Go.Pe.G
namespace Go.Pe.G
open Go.Pe
noncomputable section
theorem ztS : ∀ (t : Fin 512) (k : Fin 9), BitVec.ofNat 64 t.1 ||| bit ((k.1 : Int) + 1) = BitVec.ofNat 64 t.1 ∨ cnt (BitVec.ofNat 64 t.1 ||| bit ((k.1 : Int) + 1)) = cnt (BitVec.ofNat 64 t.1) + 1 := by decide +kernel
theorem ztt {s : BitVec 64} (h : ∀ o, xx s o = true → o ≤ 9) : ∃ t : Fin 512, s = BitVec.ofNat 64 t.1 := by
  have h2 : s = s &&& 511#64 := by
    apply BitVec.eq_of_getLsbD_eq
    intro j hj
    rw [BitVec.getLsbD_and]
    have h63 : (511#64).getLsbD j = decide (j < 9) := by
      have : ∀ j : Fin 64, (511#64).getLsbD j.1 = decide (j.1 < 9) := by decide
      exact this ⟨j, hj⟩
    rw [h63]
    cases hs : s.getLsbD j with
    | false => rfl
    | true =>
      have := h ((j : Int) + 1) ((vb _ _).2 ⟨by omega, by omega, by rw [show ((j : Int) + 1 - 1).toNat = j by omega]; exact hs⟩)
      rw [decide_eq_true (by omega : j < 9)]; rfl
  have h3 : s.toNat < 512 := by
    rw [h2, BitVec.toNat_and]
    exact Nat.lt_of_le_of_lt Nat.and_le_right (by decide)
  exact ⟨⟨s.toNat, h3⟩, by rw [BitVec.ofNat_toNat, BitVec.setWidth_eq]⟩
theorem zvL {s : BitVec 64} (h : ∀ o, xx s o = true → o ≤ 9) {o : Int} (ho : 1 ≤ o ∧ o ≤ 9) (hn : ¬ xx s o = true) : cnt (s ||| bit o) = cnt s + 1 := by
  obtain ⟨t, rfl⟩ := ztt h
  have := ztS t ⟨(o - 1).toNat, by omega⟩
  rw [show (((o - 1).toNat : Nat) : Int) + 1 = o by omega] at this
  rcases this with e | e
  · exact absurd e ((zg7 ⟨ho.1, by omega⟩).2 hn)
  · exact e
theorem zpE : ∀ (l : List Int) (s : BitVec 64) (q : Int), (∀ o ∈ l, 1 ≤ o ∧ o ≤ 64) → (xx (l.foldl (fun s o => s ||| bit o) s) q = true ↔ xx s q = true ∨ q ∈ l)
  | [], s, q, _ => by simp
  | a :: l, s, q, h => by
    rw [List.foldl_cons, zpE l _ q (fun o ho => h o (List.mem_cons_of_mem _ ho)), Xz _ (h a (by simp)), List.mem_cons, or_assoc]
theorem zp0 : ∀ (l : List Int) (s : BitVec 64), (∀ o ∈ l, 1 ≤ o ∧ o ≤ 9) → (∀ o, xx s o = true → o ≤ 9) → l.Nodup → (∀ o ∈ l, ¬ xx s o = true) → cnt (l.foldl (fun s o => s ||| bit o) s) = cnt s + (l.length : Int)
  | [], s, _, _, _, _ => by simp
  | a :: l, s, h, hs, hd, hn => by
    have ha := h a (by simp)
    have hd := List.nodup_cons.1 hd
    have ha64 : 1 ≤ a ∧ a ≤ 64 := by omega
    rw [List.foldl_cons, zp0 l _ (fun o ho => h o (List.mem_cons_of_mem _ ho)) (fun o ho => ?_) hd.2 (fun o ho e => ?_), zvL hs ha (hn a (by simp)), List.length_cons]
    · omega
    · rcases (Xz _ ha64 o).1 ho with e | e
      · exact hs o e
      · omega
    · rcases (Xz _ ha64 o).1 e with e | e
      · exact hn o (List.mem_cons_of_mem _ ho) e
      · exact hd.1 (e ▸ ho)
theorem zrF : ∀ t : Fin 512, cnt (BitVec.ofNat 64 t.1) ≤ 9 := by decide +kernel
theorem zrH {s : BitVec 64} (h : ∀ o, xx s o = true → o ≤ 9) : cnt s ≤ 9 := by
  obtain ⟨t, rfl⟩ := ztt h
  exact zrF t
theorem ztF : cnt 0#64 = 0 := by decide +kernel
theorem zuU {l : List Int} (h : ∀ o ∈ l, 1 ≤ o ∧ o ≤ 9) (hd : l.Nodup) : cnt (zaC l) = (l.length : Int) ∧ ∀ q, xx (zaC l) q = true ↔ q ∈ l := by
  refine ⟨?_, fun q => ?_⟩
  · unfold zaC
    rw [zp0 l _ h (fun o e => absurd e (zcn o)) hd (fun o _ => zcn o), ztF, Int.zero_add]
  · unfold zaC
    rw [zpE l _ q (fun o ho => by have := h o ho; omega)]
    exact ⟨fun e => e.resolve_left (zcn q), .inr⟩
theorem zpc (s : BitVec 64) {q : Int} (h : 1 ≤ q ∧ q ≤ 64) : xx (~~~s) q = true ↔ ¬ xx s q = true := by
  rw [vb, vb, BitVec.getLsbD_not]
  simp only [show (q - 1).toNat < 64 by omega, decide_true, Bool.true_and, Bool.not_eq_true']
  constructor
  · rintro ⟨_, _, e⟩ ⟨_, _, e2⟩; rw [e] at e2; cases e2
  · intro e
    refine ⟨h.1, h.2, ?_⟩
    cases hs : s.getLsbD (q - 1).toNat with
    | false => rfl
    | true => exact absurd ⟨h.1, h.2, hs⟩ e
end
end Go.Pe.G
namespace Go.Pe.G
open Go.Pe
noncomputable section
structure znG (s : za) : Prop where
  mks : ∀ o, xx s.T.Marks o = true → o ≤ 9
  ob : ∀ (i : Nat) x, s.Ws[i]? = some x → x.PC = 6 → x.G.Obj ≤ 9
theorem HOk.get9 {p : zb} (hp : zy p) {h : zB} (H : HOk p h) (o i : Int) : wo h o i ≤ 9 := by
  have h1 := H.n
  have h2 : p.Most ≤ 9 := by have := hp.most; have := hp.n; omega
  unfold wo
  split
  · unfold xk
    rw [List.getD_eq_getElem?_getD, List.getD_eq_getElem?_getD]
    cases hx : h.Objs[(o - 1).toNat]? with
    | none => show (([] : List Int)[i.toNat]?).getD 0 ≤ 9; simp
    | some l =>
      show (l[i.toNat]?).getD 0 ≤ 9
      cases hv : l[i.toNat]? with
      | none => show (0 : Int) ≤ 9; decide
      | some v =>
        have := (H.objs l (List.mem_of_getElem? hx)).2 v (List.mem_of_getElem? hv)
        show v ≤ 9; omega
  · decide
theorem zun (s : za) (w : Int) (x : zg) (h : (zC s w x).2.PC = 6) : (x.PC = 6 ∧ (zC s w x).2.G.Obj = x.G.Obj) ∨ (x.PC = 5 ∧ (zC s w x).2.G.Obj = wo s.H x.Obj x.Slot) := by
  revert h
  have hon : ∀ i, onW s i ≠ 6 := fun i e => by rcases ziW s i with h | h <;> omega
  have hlk : ∀ y : zg, (ZB s.P w y).PC ≠ 6 := fun y e => by unfold ZB at e; split at e <;> cases e
  unfold zC
  split
  · rename_i h0
    dsimp only
    split
    · exact fun e => by cases e
    split
    · exact fun e => absurd e (hlk _)
    · exact fun e => by have e : x.PC = 6 := e; omega
  split
  · dsimp only
    split
    · exact fun e => by cases e
    split
    · exact fun e => by cases e
    · exact fun e => by have e : x.PC = 6 := e; omega
  split
  · exact fun e => by cases e
  split
  · dsimp only
    split
    · exact fun e => by cases e
    · exact fun e => by have e : x.PC = 6 := e; omega
  split
  · rename_i h5
    dsimp only
    split
    · exact fun e => absurd e (hon _)
    · exact fun _ => .inr ⟨h5, rfl⟩
  split
  · rename_i h6
    dsimp only
    split
    · exact fun e => absurd e (hon _)
    · exact fun _ => .inl ⟨h6, (zeZ s x.G).1⟩
  split
  · dsimp only
    split
    · exact fun e => by cases e
    · exact fun e => by cases e
  split
  · exact fun e => by cases e
  split
  · exact fun e => by cases e
  · exact fun e => .inl ⟨e, rfl⟩
theorem znG.step {p : zb} (hp : zy p) {nb k : Nat} {s : za} {gh : Gh} (L : znG s) (G : WG p nb k s gh) {w : Int} (hw : 1 ≤ w ∧ w ≤ p.Workers) (hd : s.Done = false) (T : zuC s (yp s w) w) : znG (yp s w) := by
  have hwl := G.E.wl
  refine ⟨fun o ho => ?_, fun i y hy h6 => ?_⟩
  · rcases T with e | ⟨x, q, hx, h6, rfl, hr, hn, e⟩ | ⟨x, hx, h8, h1, e⟩
    · rw [e] at ho; exact L.mks o ho
    · rw [e] at ho
      rcases (Xz _ hr o).1 ho with e | e
      · exact L.mks o e
      · rw [e]; exact L.ob _ x hx h6
    · rw [e] at ho; exact L.mks o ho
  · have e0 : ¬ (s.Done = true ∨ w < 1 ∨ (s.Ws.length : Int) < w) := by rw [hd]; rintro (e | e | e) <;> first | cases e | omega
    have hi : (w - 1).toNat < s.Ws.length := by omega
    have hx := List.getElem?_eq_getElem hi
    generalize s.Ws[(w - 1).toNat] = x at hx
    unfold yp at hy
    rw [if_neg e0, hx] at hy
    have hy : (s.Ws.set (w - 1).toNat (zC s w x).2)[i]? = some y := hy
    by_cases hj : i = (w - 1).toNat
    · subst hj
      rw [List.getElem?_set_self hi] at hy
      injection hy with hy
      subst hy
      rcases zun s w x h6 with ⟨a, b⟩ | ⟨a, b⟩
      · rw [b]; exact L.ob _ x hx a
      · rw [b]; exact G.E.H.get9 hp _ _
    · rw [List.getElem?_set_ne (fun e => hj e.symm)] at hy
      exact L.ob i y hy h6
theorem ztJ {p : zb} (h : zy p) : znG (wV p) := by
  refine ⟨fun o ho => ?_, fun i x hx h6 => ?_⟩
  · have hs := zce h
    obtain ⟨a, b, c⟩ := (vb _ _).1 (show xx (ZW p) o = true from ho)
    have := zlE hs c
    omega
  · have hx := List.mem_of_getElem? hx
    obtain ⟨j, _, rfl⟩ := List.mem_map.1 (show x ∈ (List.range p.Workers.toNat).map (uu p) from hx)
    exact absurd h6 (by show ¬ (0 : Int) = 6; decide)
def vh (p : zb) (s : za) (n : Nat) : List Int := (List.range n).flatMap (fun i : Nat => (s.Ws[i]?).elim [] (zdx p s ((i : Int) + 1)))
theorem znL {α β : Type} {f g : α → List β} : ∀ (l : List α), List.Perm (l.flatMap (fun x => f x ++ g x)) (l.flatMap f ++ l.flatMap g)
  | [] => List.Perm.refl _
  | a :: l => by
    rw [List.flatMap_cons, List.flatMap_cons, List.flatMap_cons]
    refine (List.Perm.append_left _ (znL l)).trans ?_
    simp only [List.append_assoc]
    exact List.Perm.append_left _ (List.perm_append_comm_assoc _ _ _)
theorem zrT {α β : Type} {f : α → List β} (l : List α) : (List.range l.length).flatMap (fun i : Nat => (l[i]?).elim [] f) = l.flatMap f := by
  rw [List.flatMap_def, List.flatMap_def]
  congr 1
  apply List.ext_getElem
  · simp
  · intro i h1 h2
    have hi : i < l.length := by simpa using h2
    simp [List.getElem?_eq_getElem hi]
theorem zs2 {p : zb} (h : zy p) {nb k : Nat} {s : za} {gh : Gh} (G : WG p nb k s gh) : List.Perm (gh.F.flatMap (xu s) ++ vh p s s.Ws.length) (zhy p s gh) := by
  have hwl := G.E.wl
  have hw := h.wk
  have e : vh p s s.Ws.length = (List.range s.Ws.length).flatMap (fun i : Nat => (s.Ws[i]?).elim [] (zZ s) ++ gh.D ((i : Int) + 1)) := by
    unfold vh
    refine ZF (fun i hi => ?_)
    have hi := List.mem_range.1 hi
    have hx := List.getElem?_eq_getElem hi
    rw [hx]
    exact zvj h (by omega) G.X (G.W i _ hx) (G.E.W i _ hx)
  rw [e]
  unfold zhy xD
  have en : p.Workers.toNat = s.Ws.length := by omega
  rw [en, List.append_assoc]
  refine List.Perm.append_left _ ?_
  refine (znL (List.range s.Ws.length) (f := fun i : Nat => (s.Ws[i]?).elim [] (zZ s)) (g := fun i : Nat => gh.D ((i : Int) + 1))).trans ?_
  rw [zrT (f := zZ s) s.Ws]
  exact List.perm_append_comm
theorem zts {p : zb} {nb k : Nat} {s : za} {gh : Gh} (G : WG p nb k s gh) (L : znG s) {B : List Int} (h : List.Perm B (zhy p s gh)) : cnt (zaC B) = (B.length : Int) ∧ zaC B = s.T.Marks &&& ~~~s.T.Black := by
  have hm : ∀ o, o ∈ B ↔ YT s.T o = 1 := fun o => by rw [h.mem_iff]; exact G.B.gr o
  have hr : ∀ o ∈ B, 1 ≤ o ∧ o ≤ 9 := fun o ho => ⟨(zlQ ((hm o).1 ho)).1, L.mks o ((zcc _ _).1 ((hm o).1 ho)).1⟩
  obtain ⟨e1, e2⟩ := zuU hr (h.nodup_iff.2 G.B.nd)
  refine ⟨e1, zrj (fun o => ?_)⟩
  rw [e2, hm, zcc, zhe]
  constructor
  · rintro ⟨a, b⟩
    have := (vb _ _).1 a
    exact ⟨a, (zpc _ ⟨this.1, this.2.1⟩).2 b⟩
  · rintro ⟨a, b⟩
    have := (vb _ _).1 a
    exact ⟨a, (zpc _ ⟨this.1, this.2.1⟩).1 b⟩
end
end Go.Pe.G
namespace Go.Pe.G
open Go.Pe
noncomputable section
theorem zrl {p : zb} (h : zy p) {nb k : Nat} {s : za} {gh : Gh} {own : List Int} (X : SX p nb s gh own k) (hnb : nb ≤ 50) : zed s.M (zR p) (zw p) 99 = some (gh.F, ()) := by
  have hF := vF h
  have hE := xw h
  have hl : gh.F.length ≤ 50 := by
    have := X.L.all.length_eq
    simp [zfM] at this
    omega
  rw [zl0, zdI, Option.bind_some, zax, Option.bind_some]
  obtain ⟨o, e, ho⟩ := vD (f := zaz) (fun a => ∃ x pre rest, gh.F = pre ++ rest ∧ a = (s.M, zw p, 99, x, pre, ()) ∧ Chn s.M (zw p) nb x rest) (fun a => gh.F.length - a.2.2.2.2.1.length) (fun o => o = .brk (gh.F, ())) (by
    rintro _ ⟨x, pre, rest, e, rfl, c⟩
    rw [ziC, zV]
    cases rest with
    | nil =>
      have hx : x = 0 := c
      rw [if_pos hx]
      exact ⟨_, rfl, by rw [e, List.append_nil]⟩
    | cons y l =>
      obtain ⟨c1, c2, c3, c4⟩ := c
      have hlen : gh.F.length = pre.length + (l.length + 1) := by rw [e, List.length_append, List.length_cons]
      rw [if_neg (by omega), zl, if_pos (show (pre.length : Int) < (bif decide ((1000 : Int) < 99) then 1000 else 99) by rw [zl, if_neg (by decide)]; omega), yi (by simp; omega), Option.bind_some, yr (by omega) (by omega), zdI, Option.bind_some]
      refine ⟨_, rfl, ⟨_, pre ++ [x], l, by rw [e, c1]; simp, rfl, ?_⟩, ?_⟩
      · rw [c1]; exact c4
      · show gh.F.length - (pre ++ [x]).length < gh.F.length - pre.length
        rw [List.length_append, List.length_singleton]; omega) (s.M, zw p, 99, z5 (ld s.M (zR p)), ([] : List Int), ()) ⟨_, [], gh.F, rfl, rfl, X.L.cF⟩ (by show gh.F.length - 0 < 18446744073709551616; omega)
  subst ho
  exact congrArg (fun o => Option.bind o _) e
theorem zrP {m : List (BitVec 64)} {base cap : Int} {top : BitVec 64} (hc : cap < 1000) (e : BitVec 64) (h : (e - top).toNat ≤ 64) :
    zS zU (m, e, top, zc.mk 0 0 base cap 0#64 0#64 0 0, ([] : List Int), ()) = some (.brk (uW m base cap top (e - top).toNat, ())) := by
  have he : e = top + BitVec.ofNat 64 (e - top).toNat := by
    rw [BitVec.ofNat_toNat, BitVec.setWidth_eq, BitVec.add_comm, BitVec.sub_add_cancel]
  generalize (e - top).toNat = n at he h
  subst he
  have := zjG (f := zU) (fun (i : Int) (_ : Unit) => (m, top + BitVec.ofNat 64 n, top + BitVec.ofNat 64 i.toNat, zc.mk 0 0 base cap 0#64 0#64 0 0, uW m base cap top i.toNat, ())) (fun _ => (uW m base cap top n, ())) n (by omega) (fun _ _ => ()) (fun _ => True) (fun _ _ _ => trivial)
    (fun i _ hi _ => by
      have hne : ¬ (top + BitVec.ofNat 64 i = top + BitVec.ofNat 64 n) := fun e => by
        have e := congrArg (fun x => x - top) e
        rw [BitVec.add_comm top, BitVec.add_comm top, BitVec.add_sub_cancel, BitVec.add_sub_cancel] at e
        have := zn4 (by omega) (by omega) e
        omega
      have e2 : top + BitVec.ofNat 64 i + 1#64 = top + BitVec.ofNat 64 (i + 1) := by
        rw [BitVec.add_assoc, show (1#64 : BitVec 64) = BitVec.ofNat 64 1 from rfl, Vt (by omega)]
      have e3 : uW m base cap top (i + 1) = uW m base cap top i ++ [(ld m (uK (zc.mk 0 0 base cap 0#64 0#64 0 0) (top + BitVec.ofNat 64 i))).toInt] := by
        unfold uW noD
        rw [List.range_succ, List.map_append]; rfl
      have el : (uW m base cap top i).length = i := by unfold uW; simp
      show zU (m, top + BitVec.ofNat 64 n, top + BitVec.ofNat 64 i, zc.mk 0 0 base cap 0#64 0#64 0 0, uW m base cap top i, ()) = some (.again (m, top + BitVec.ofNat 64 n, top + BitVec.ofNat 64 (i + 1), zc.mk 0 0 base cap 0#64 0#64 0 0, uW m base cap top (i + 1), ()))
      rw [zaG, zV, if_neg hne, zcf (show (zc.mk 0 0 base cap 0#64 0#64 0 0).Cap < 1000 from hc), Option.bind_some, uU, Option.bind_some, yi (by rw [List.length_append, el]; simp; omega), Option.bind_some, e2, e3])
    (fun _ _ => by
      show zU (m, top + BitVec.ofNat 64 n, top + BitVec.ofNat 64 n, zc.mk 0 0 base cap 0#64 0#64 0 0, uW m base cap top n, ()) = _
      rw [zaG, zV, if_pos rfl]) (s := ()) trivial
  have e0 : top + BitVec.ofNat 64 (0 : Int).toNat = top := by show top + 0#64 = top; rw [BitVec.add_zero]
  simp only [e0] at this
  exact this
theorem zve (S d : BitVec 64) : ((bif decide (64#64 < S) then 64#64 else S) < d) ↔ min S.toNat 64 < d.toNat := by
  rw [zl]
  by_cases h : 64#64 < S
  · rw [if_pos h]
    have h' : 64 < S.toNat := h
    show 64 < d.toNat ↔ _
    rw [Nat.min_eq_right (by omega)]
  · rw [if_neg h]
    have h' : ¬ 64 < S.toNat := h
    show S.toNat < d.toNat ↔ _
    rw [Nat.min_eq_left (by omega)]
theorem zqU {m : List (BitVec 64)} {base cap : Int} (hc : cap < 1000) (o : zc) : yI m base cap o = some (u6 m base cap o, ()) := by
  have hl := fun e h => zrP (m := m) (base := base) (cap := cap) (top := ld m base) hc e h
  have hlim := fun d => zve (wU (noD base cap)) d
  unfold noD at hlim
  have done : ∀ e : BitVec 64, ∀ {b : Option (List Int × Unit)}, (¬ 0 < (e - ld m base).toInt → b = some ([], ())) → (0 < (e - ld m base).toInt → (min (wU (noD base cap)).toNat 64 < (e - ld m base).toNat) → b = some ([], ())) → (0 < (e - ld m base).toInt → ¬ (min (wU (noD base cap)).toNat 64 < (e - ld m base).toNat) → b = some (uW m base cap (ld m base) (e - ld m base).toNat, ())) →
      b = some (if ¬ 0 < (e - ld m base).toInt ∨ (min (wU (noD base cap)).toNat 64) < (e - ld m base).toNat then [] else uW m base cap (ld m base) (e - ld m base).toNat, ()) := by
    intro e b h1 h2 h3
    by_cases a : 0 < (e - ld m base).toInt
    · by_cases c : min (wU (noD base cap)).toNat 64 < (e - ld m base).toNat
      · rw [if_pos (.inr c)]; exact h2 a c
      · rw [if_neg (by rintro (x | x); exact x a; exact c x)]; exact h3 a c
    · rw [if_pos (.inl a)]; exact h1 a
  rw [zkE]
  simp only [vm, yN, va, Option.bind_some, uU, UM, zhb]
  unfold u6
  by_cases h : zbu o
  · have he : zaX m base o = ld m (wc (base + 1)) + 1#64 := by unfold zaX; rw [if_pos h]
    rw [he]
    obtain ⟨k, u, pc⟩ := h
    rcases pc with p | p | p | ⟨p, t⟩
    all_goals
      first | simp only [k, u, p, t, Int.reduceEq, decide_true, decide_false, cond_true, cond_false] | simp only [k, u, p, Int.reduceEq, decide_true, decide_false, cond_true, cond_false]
      generalize ld m (wc (base + 1)) + 1#64 = e
      refine done e (fun a => ?_) (fun a c => ?_) (fun a c => ?_)
      · simp only [decide_eq_false a, Bool.not_false, cond_true]
      · simp only [decide_eq_true a, Bool.not_true, cond_false]
        rw [zl, if_pos ((hlim (e - ld m base)).2 c)]
      · simp only [decide_eq_true a, Bool.not_true, cond_false]
        rw [zl, if_neg (fun x => c ((hlim (e - ld m base)).1 x)), hl e (by omega)]
        rfl
  · have he : zaX m base o = ld m (wc (base + 1)) := by unfold zaX; rw [if_neg h]
    rw [he]
    have fin : ∀ b : Option (List Int × Unit), (b = (bif !decide (0 < (ld m (wc (base + 1)) - ld m base).toInt) then some ([], ()) else bif decide ((bif decide (64#64 < wU (noD base cap)) then 64#64 else wU (noD base cap)) < (ld m (wc (base + 1)) - ld m base)) then some ([], ()) else (zS zU (m, ld m (wc (base + 1)), ld m base, zc.mk 0 0 base cap 0#64 0#64 0 0, ([] : List Int), ())).bind (fun st => match st with | .again _ => none | .brk y => some (y.1, ()) | .ret y => none))) → b = some (if ¬ 0 < (ld m (wc (base + 1)) - ld m base).toInt ∨ (min (wU (noD base cap)).toNat 64) < (ld m (wc (base + 1)) - ld m base).toNat then [] else uW m base cap (ld m base) (ld m (wc (base + 1)) - ld m base).toNat, ()) := by
      intro b hb
      rw [hb]
      generalize ld m (wc (base + 1)) = e
      refine done e (fun a => ?_) (fun a c => ?_) (fun a c => ?_)
      · simp only [decide_eq_false a, Bool.not_false, cond_true]
      · simp only [decide_eq_true a, Bool.not_true, cond_false]
        rw [zl]
        exact if_pos ((hlim (e - ld m base)).2 c)
      · simp only [decide_eq_true a, Bool.not_true, cond_false]
        rw [zl]
        refine (if_neg (fun x => c ((hlim (e - ld m base)).1 x))).trans ?_
        rw [hl e (by omega)]
        rfl
    refine fin _ ?_
    by_cases k : o.Kind = 2
    · by_cases u : o.Out = 0
      · have pc : ¬ (o.PC = 2 ∨ o.PC = 4 ∨ o.PC = 5 ∨ (o.PC = 3 ∧ o.T = o.B - 1#64)) := fun e => h ⟨k, u, e⟩
        have p2 : ¬ o.PC = 2 := fun e => pc (.inl e)
        have p4 : ¬ o.PC = 4 := fun e => pc (.inr (.inl e))
        have p5 : ¬ o.PC = 5 := fun e => pc (.inr (.inr (.inl e)))
        by_cases p3 : o.PC = 3
        · have t : ¬ o.T = o.B - 1#64 := fun e => pc (.inr (.inr (.inr ⟨p3, e⟩)))
          simp only [decide_eq_true k, decide_eq_true u, decide_eq_false p2, decide_eq_false p4, decide_eq_false p5, decide_eq_true p3, decide_eq_false t, cond_true, cond_false]
          rfl
        · simp only [decide_eq_true k, decide_eq_true u, decide_eq_false p2, decide_eq_false p4, decide_eq_false p5, decide_eq_false p3, cond_true, cond_false]
          rfl
      · simp only [decide_eq_true k, decide_eq_false u, cond_true, cond_false]
        rfl
    · simp only [decide_eq_false k, cond_true, cond_false]
      rfl
theorem U2 (m : List (BitVec 64)) (base cap : Int) (o : zc) : (u6 m base cap o).length ≤ 64 := by
  unfold u6
  split
  · simp
  · rename_i h
    unfold uW
    rw [List.length_map, List.length_range]
    omega
theorem ztQ {l : List Int} (h : l.length ≤ 64) : cut l (bif decide ((w64 (((l.length : Int)) - 1)) < 0) then 0 else (w64 (((l.length : Int)) - 1))) ((l.length : Int)) = some (zcE l) := by
  rw [yr (by omega) (by omega), zl]
  unfold zcE cut
  cases l with
  | nil => rfl
  | cons a t =>
    rw [if_neg (by simp only [List.length_cons]; omega)]
    have e : (((a :: t).length : Int) - 1).toNat = (a :: t).length - 1 := by simp only [List.length_cons]; omega
    have e1 : (0 : Int) ≤ ((a :: t).length : Int) - 1 := by simp only [List.length_cons]; omega
    have e2 : ((a :: t).length : Int) - 1 ≤ ((a :: t).length : Int) := by omega
    simp [e1, e2, e]
    rw [decide_eq_true (show (t.length : Int) ≤ (t.length : Int) + 1 by omega)]
    rfl
end
end Go.Pe.G
namespace Go.Pe.G
open Go.Pe
noncomputable section
namespace B15
def zme (w : Int) (n : Nat) (s : za) : za := goF (fun _ s => yp s w) 0 n s
theorem ztI {p : zb} {nb : Nat} (h : zy p) {s : za} (E : EOk p nb s) (w : Int) {n : Nat} (hn : n < 1000000) : xV s w (n : Int) = some (zme w n s, ()) := by
  have e := zjG (f := vJ) (fun i s => (w, (n : Int), i, s, 0, 0, 0, 0, 0, 0, 0, 0, 0, 0#64, 0, zm.mk 0#64 0#64, 0, 0, false, false, 0, 0, 0, 0, zp.mk 0 0, ([] : List (List Int)), ([] : List (List Int)), ([] : List (List zi)), ([] : List zj), ([] : List (List Int)), ([] : List (BitVec 64)), ([] : List (List Int)), ([] : List Int), ([] : List Int), ([] : List zg), ([] : List ze), ())) (fun s => (s, 0, 0, 0, 0, 0, 0, 0, 0, 0, 0#64, 0, zm.mk 0#64 0#64, 0, 0, false, false, 0, 0, 0, 0, zp.mk 0 0, ([] : List (List Int)), ([] : List (List Int)), ([] : List (List zi)), ([] : List zj), ([] : List (List Int)), ([] : List (BitVec 64)), ([] : List (List Int)), ([] : List Int), ([] : List Int), ([] : List zg), ([] : List ze), ())) n hn (fun _ s => yp s w) (EOk p nb) (fun _ s E => zpP h E w)
    (fun i s hi E => by
      show vJ (w, (n : Int), (i : Int), s, 0, 0, 0, 0, 0, 0, 0, 0, 0, 0#64, 0, zm.mk 0#64 0#64, 0, 0, false, false, 0, 0, 0, 0, zp.mk 0 0, ([] : List (List Int)), ([] : List (List Int)), ([] : List (List zi)), ([] : List zj), ([] : List (List Int)), ([] : List (BitVec 64)), ([] : List (List Int)), ([] : List Int), ([] : List Int), ([] : List zg), ([] : List ze), ()) = _
      rw [Vf, zl, if_pos (by omega), zgo h E, Option.bind_some, xd (by omega)])
    (fun s E => by
      show vJ (w, (n : Int), (n : Int), s, 0, 0, 0, 0, 0, 0, 0, 0, 0, 0#64, 0, zm.mk 0#64 0#64, 0, 0, false, false, 0, 0, 0, 0, zp.mk 0 0, ([] : List (List Int)), ([] : List (List Int)), ([] : List (List zi)), ([] : List zj), ([] : List (List Int)), ([] : List (BitVec 64)), ([] : List (List Int)), ([] : List Int), ([] : List Int), ([] : List zg), ([] : List ze), ()) = _
      rw [Vf, zl, if_neg (by omega)]) E
  rw [zgx]
  exact congrArg (fun o => Option.bind o _) e
def zwA (ord : List (BitVec 8)) (i : Nat) (s : za) : Int := 1 + ((ord.getD i 0#8).toNat : Int).tmod (s.Ws.length : Int)
def zwE (ord : List (BitVec 8)) (n : Nat) (s : za) : za := goF (fun i s => yp s (zwA ord i s)) 0 n s
theorem zvR {p : zb} {nb : Nat} (h : zy p) {s : za} (E : EOk p nb s) (b : BitVec 8) : w64 (1 + (b.toNat : Int).tmod (s.Ws.length : Int)) = 1 + (b.toNat : Int).tmod (s.Ws.length : Int) ∧ 1 ≤ 1 + (b.toNat : Int).tmod (s.Ws.length : Int) ∧ 1 + (b.toNat : Int).tmod (s.Ws.length : Int) ≤ (s.Ws.length : Int) := by
  have hw := h.wk
  have hl := E.wl
  have := wu (show (0 : Int) ≤ (b.toNat : Int) by omega) (show (0 : Int) < (s.Ws.length : Int) by omega)
  exact ⟨yr (by omega) (by omega), by omega, by omega⟩
theorem zur {A B D : Type} {f : A → Option (yW A B D)} {x : A} {b : B} (h : f x = some (.brk b)) : zS f x = some (.brk b) := by
  rw [UL]
  show uZ f (18446744073709551615 + 1) x = _
  rw [uZ, h]; rfl
def Wq : zb := ⟨1, 0, 2, 1, 1, 4, 2, 2, ⟨1, [[2], [0], [0]]⟩, 1#64, [], [], []⟩
theorem zt6 : Vk [] = some (Wq, ()) := by
  rw [zgE, zur (by rw [zeF]; rfl)]; rfl
theorem zaY : zy Wq := by
  constructor
  case objs => intro o ho; simp [Wq] at ho ⊢; rcases ho with rfl | rfl | rfl <;> simp
  case roots => exact ⟨1, by decide, by decide, by decide⟩
  case reg => intro r hr; cases hr
  case prog => intro k r ops hr; cases hr
  all_goals first | decide | rfl
theorem zol : Xq = some (true, ()) := by
  have E := zte zaY
  have r := fun n hn => ztI zaY E 1 (n := n) hn
  have e4 : xV (wV Wq) 1 4 = some (zme 1 4 (wV Wq), ()) := r 4 (by decide)
  have e11 : xV (wV Wq) 1 11 = some (zme 1 11 (wV Wq), ()) := r 11 (by decide)
  have e100 : xV (wV Wq) 1 100 = some (zme 1 100 (wV Wq), ()) := r 100 (by decide)
  have out : ∀ w : Int, w < 1 ∨ 1 < w → yp (wV Wq) w = wV Wq := fun w hw => by
    unfold yp
    rw [if_pos (.inr (hw.imp id (fun e => by show (((List.range 1).map (uu Wq)).length : Int) < w; rw [List.length_map, List.length_range]; omega)))]
  rw [ze0, zt6]
  simp only [Option.bind_some, zoc zaY, e4, e11, e100, zgo zaY E, out 2 (.inr (by decide)), out 0 (.inl (by decide)), zrz (znX zaY)]
  decide +kernel
theorem zo3 (l : List Int) : (zcE l).length ≤ l.length := by unfold zcE; rw [List.length_drop]; omega
theorem zrI (g : zu) : zeH g = some (if g.Out = 0 ∧ 3 ≤ g.PC ∧ g.PC ≤ 7 then g.Obj else 0, ()) := by
  rw [zlO, zqg]
  by_cases a : g.Out = 0
  · by_cases b : 3 ≤ g.PC
    · by_cases c : g.PC ≤ 7
      · rw [if_pos ⟨a, b, c⟩, decide_eq_true a, decide_eq_true b, decide_eq_true c]; rfl
      · rw [if_neg (fun e => c e.2.2), decide_eq_true a, decide_eq_true b, decide_eq_false c]; rfl
    · rw [if_neg (fun e => b e.2.1), decide_eq_true a, decide_eq_false b]; rfl
  · rw [if_neg (fun e => a e.1), decide_eq_false a]; rfl
theorem zri {p : zb} {nb : Nat} {s : za} (S : SOk p nb s) {b : Int} (hb : 1 ≤ b ∧ b < nb) : idx s.Bins b = some (xu s b) := by
  have hl := S.bins
  have hx := List.getElem?_eq_getElem (show b.toNat < s.Bins.length by omega)
  rw [Xv (by omega)]
  unfold xu
  rw [hx]; rfl
theorem zgT {s : za} (h : uF s) (b : Int) : (xu s b).length < 1000000 := by rw [← zo1]; exact zfY h b
theorem zu6 {p : zb} (h : zy p) {nb k : Nat} {s : za} {gh : Gh} (G : WG p nb k s gh) {i : Nat} {x : zg} (hx : s.Ws[i]? = some x) : V1 s ((i : Int) + 1) = some (zdx p s ((i : Int) + 1) x, ()) := by
  have hP := G.E.S.P
  have hc := h.cap
  have hw := h.wk
  have hwl := G.E.wl
  have hi := (List.getElem?_eq_some_iff.1 hx).1
  have hb := G.E.small.w x (List.mem_of_getElem? hx)
  have O := G.E.W i x hx
  have K := G.W i x hx
  have i0 := U2 s.M (zA p ((i : Int) + 1)) p.Cap (⟨0, 0, 0, 0, 0#64, 0#64, 0, 0⟩)
  have i1 := U2 s.M (zA p ((i : Int) + 1)) p.Cap x.D
  have i2 := U2 s.M (zA p ((i : Int) + 1)) p.Cap zeE
  have i3 := U2 s.M (zA p ((i : Int) + 1)) p.Cap x.G.D
  have i4 := zo3 (u6 s.M (zA p ((i : Int) + 1)) p.Cap zeE)
  have hbn := zgT G.E.small x.Bin
  have dI := fun o => zqU (m := s.M) (base := zA p ((i : Int) + 1)) (cap := p.Cap) (by omega) o
  have dP := dI zeE
  unfold zeE at dP
  rw [zhj, show w64 ((i : Int) + 1 - 1) = (i : Int) by rw [yr (by omega) (by omega)]; omega, xL hx, Option.bind_some, yi (by omega), Option.bind_some]
  unfold zdx zjE zi6
  by_cases p0 : x.PC = 0
  · rw [if_pos p0, if_pos p0, zl, if_pos p0]
    by_cases d3 : x.D.PC = 3
    · rw [zl, if_pos d3]
      by_cases t : x.D.T = x.D.B - 1#64
      · rw [if_neg (fun e => e.2 t), if_neg (show ¬ x.D.PC = 6 by omega), zV, if_pos t, zl, if_neg (show ¬ x.D.PC = 6 by omega), hP, xq, Option.bind_some, dI, Option.bind_some, yi (by simp only [List.length_append]; omega), Option.bind_some]
        simp
      · rw [if_pos ⟨d3, t⟩, if_neg (show ¬ x.D.PC = 6 by omega), zV, if_neg t, hP, xq, Option.bind_some, dP, Option.bind_some]
        rw [show (zc.mk 2 2 0 0 0#64 0#64 0 0) = zeE from rfl, ztQ i2, Option.bind_some, yi (by simp only [List.length_append]; omega), Option.bind_some, zl, if_neg (show ¬ x.D.PC = 6 by omega), Option.bind_some, dI, Option.bind_some, yi (by simp only [List.length_append]; omega), Option.bind_some]
        simp
    · rw [zl, if_neg d3, if_neg (fun e => d3 e.1)]
      by_cases d6 : x.D.PC = 6
      · rw [if_pos d6, zl, if_pos d6, yi (by simp only [List.length_append, List.length_singleton]; omega), Option.bind_some, hP, xq, Option.bind_some, dI, Option.bind_some, yi (by simp only [List.length_append, List.length_singleton]; omega), Option.bind_some]
        simp
      · rw [if_neg d6, zl, if_neg d6, hP, xq, Option.bind_some, dI, Option.bind_some, yi (by simp only [List.length_append]; omega), Option.bind_some]
        simp
  · rw [if_neg p0, if_neg p0, zl, if_neg p0]
    by_cases p3 : x.PC = 3
    · rw [if_pos p3, if_neg (show ¬ (x.PC = 6 ∧ x.G.PC = 3) by omega), zl, if_pos p3, zri G.E.S (O.b3 p3), Option.bind_some, yi (by simp only [List.length_append]; omega), Option.bind_some, hP, xq, Option.bind_some, dI, Option.bind_some, yi (by simp only [List.length_append]; omega), Option.bind_some]
    · rw [if_neg p3, zl, if_neg p3]
      by_cases p5 : x.PC = 5
      · rw [if_pos (.inl p5), if_neg (show ¬ (x.PC = 6 ∧ x.G.PC = 3) by omega), zl, if_pos p5, yi (by simp only [List.length_append, List.length_singleton]; omega), Option.bind_some, hP, xq, Option.bind_some, dI, Option.bind_some, yi (by simp only [List.length_append, List.length_singleton]; omega), Option.bind_some]
      · rw [zl, if_neg p5]
        by_cases p8 : x.PC = 8
        · rw [if_pos (.inr p8), if_neg (show ¬ (x.PC = 6 ∧ x.G.PC = 3) by omega), zl, if_pos p8, yi (by simp only [List.length_append, List.length_singleton]; omega), Option.bind_some, hP, xq, Option.bind_some, dI, Option.bind_some, yi (by simp only [List.length_append, List.length_singleton]; omega), Option.bind_some]
        · rw [if_neg (show ¬ (x.PC = 5 ∨ x.PC = 8) by omega), zl, if_neg p8]
          by_cases p6 : x.PC = 6
          · have ob := ((K.p6 p6).1).ob
            rw [if_pos p6, zl, if_pos p6, yi (by simp only [List.length_append, List.length_singleton]; omega), Option.bind_some, zrI, Option.bind_some]
            by_cases q : x.G.Out = 0 ∧ 3 ≤ x.G.PC ∧ x.G.PC ≤ 7
            · rw [if_pos q, if_pos q, zl, if_pos (by show 0 < x.G.Obj; omega), yi (by simp only [List.length_append, List.length_singleton]; omega), Option.bind_some]
              by_cases q3 : x.G.PC = 3
              · rw [if_pos ⟨p6, q3⟩, zl, if_pos q3, hP, xq, Option.bind_some, dI, Option.bind_some, yi (by simp only [List.length_append, List.length_singleton]; omega), Option.bind_some]
                simp
              · rw [if_neg (fun e => q3 e.2), zl, if_neg q3, hP, xq, Option.bind_some, dI, Option.bind_some, yi (by simp only [List.length_append, List.length_singleton]; omega), Option.bind_some]
                simp
            · rw [if_neg q, if_neg q, zl, if_neg (by show ¬ (0 : Int) < 0; decide)]
              by_cases q3 : x.G.PC = 3
              · rw [if_pos ⟨p6, q3⟩, zl, if_pos q3, hP, xq, Option.bind_some, dI, Option.bind_some, yi (by simp only [List.length_append, List.length_singleton]; omega), Option.bind_some]
              · rw [if_neg (fun e => q3 e.2), zl, if_neg q3, hP, xq, Option.bind_some, dI, Option.bind_some, yi (by simp only [List.length_append, List.length_singleton]; omega), Option.bind_some]
          · rw [if_neg p6, if_neg (fun e => p6 e.1), zl, if_neg p6, hP, xq, Option.bind_some, dI, Option.bind_some, yi (by simp only [List.length_append]; omega), Option.bind_some]
            simp
theorem ztR {p : zb} {s : za} (h : uF s) (w : Int) {x : zg} (hx : x.Batch.length < 1000000) : (zdx p s w x).length ≤ 3000000 := by
  have i1 := U2 s.M (zA p w) p.Cap (zi6 x)
  have i2 := U2 s.M (zA p w) p.Cap zeE
  have i4 := zo3 (u6 s.M (zA p w) p.Cap zeE)
  have hb := zgT h x.Bin
  have : (zjE p s w x).length ≤ 1000000 := by
    unfold zjE
    split
    · rw [List.length_append]
      have a1 : (if x.D.PC = 3 ∧ x.D.T ≠ x.D.B - 1#64 then zcE (u6 s.M (zA p w) p.Cap zeE) else []).length ≤ 64 := by
        split
        · omega
        · exact Nat.zero_le _
      have a2 : (if x.D.PC = 6 then [x.D.X] else []).length ≤ 1 := by
        split
        · exact Nat.le_refl _
        · exact Nat.zero_le _
      omega
    split
    · omega
    split
    · exact (by decide : 1 ≤ 1000000)
    split
    · rw [List.length_cons]
      split
      · exact (by decide : 1 + 1 ≤ 1000000)
      · exact (by decide : 0 + 1 ≤ 1000000)
    · exact Nat.zero_le _
  unfold zdx
  rw [List.length_append, List.length_append]
  omega
theorem zhW {α β : Type} {f : α → List β} {n : Nat} : ∀ (l : List α), (∀ x ∈ l, (f x).length ≤ n) → (l.flatMap f).length ≤ l.length * n
  | [], _ => Nat.zero_le _
  | a :: l, h => by
    rw [List.flatMap_cons, List.length_append, List.length_cons, Nat.succ_mul]
    have h1 := h a (by simp)
    have h2 := zhW l (fun x hx => h x (List.mem_cons_of_mem _ hx))
    omega
theorem zsr {p : zb} {nb k : Nat} {s : za} {gh : Gh} (G : WG p nb k s gh) (hF : gh.F.length ≤ 50) (ord : List (BitVec 8)) (t : Bool) (i : Int) :
    zS xp (ord, t, i, (gh.F.length : Int), 0, s, ([] : List Int), gh.F, ()) = some (.brk (ord, t, i, s, gh.F.flatMap (xu s), ())) := by
  have := zjG (f := xp) (fun (j : Int) (_ : Unit) => (ord, t, i, (gh.F.length : Int), j, s, (gh.F.take j.toNat).flatMap (xu s), gh.F, ())) (fun _ => (ord, t, i, s, gh.F.flatMap (xu s), ())) gh.F.length (by omega) (fun _ _ => ()) (fun _ => True) (fun _ _ _ => trivial)
    (fun j _ hj _ => by
      have hx := List.getElem?_eq_getElem hj
      have hm := G.X.L.cF.mem _ (List.getElem_mem hj)
      have hbl := G.E.S.bins
      have hl := zhW (f := xu s) (n := 1000000) (gh.F.take j) (fun b _ => Nat.le_of_lt (zgT G.E.small b))
      have hl2 := zgT G.E.small gh.F[j]
      rw [List.length_take] at hl
      have hl3 : min j gh.F.length * 1000000 ≤ 50 * 1000000 := Nat.mul_le_mul_right _ (by omega)
      show xp (ord, t, i, (gh.F.length : Int), (j : Int), s, (gh.F.take j).flatMap (xu s), gh.F, ()) = some (.again (ord, t, i, (gh.F.length : Int), ((j + 1 : Nat) : Int), s, (gh.F.take (j + 1)).flatMap (xu s), gh.F, ()))
      rw [YS, zl, if_pos (by omega), XD (by omega) (by omega), Option.bind_some, Int.toNat_natCast, hx, Option.bind_some, zl, if_pos (by omega), zri G.E.S ⟨hm.1, hm.2⟩, Option.bind_some, yi (by rw [List.length_append]; omega), Option.bind_some, xd (by omega), List.take_add_one, hx, List.flatMap_append]
      simp)
    (fun _ _ => by
      show xp (ord, t, i, (gh.F.length : Int), ((gh.F.length : Nat) : Int), s, (gh.F.take gh.F.length).flatMap (xu s), gh.F, ()) = _
      rw [YS, zl, if_neg (by omega), List.take_length]) (s := ()) trivial
  exact this
theorem ztu {p : zb} (h : zy p) {nb k : Nat} {s : za} {gh : Gh} (G : WG p nb k s gh) {acc : List Int} (ha : acc.length ≤ 50000000) (ord : List (BitVec 8)) (t : Bool) (i : Int) :
    zS xn (ord, t, i, 1, s, acc, ()) = some (.brk (ord, t, i, s, acc ++ vh p s s.Ws.length, ())) := by
  have hw := h.wk
  have hwl := G.E.wl
  have := zjG (f := xn) (fun (j : Int) (_ : Unit) => (ord, t, i, j + 1, s, acc ++ vh p s j.toNat, ())) (fun _ => (ord, t, i, s, acc ++ vh p s s.Ws.length, ())) s.Ws.length (by omega) (fun _ _ => ()) (fun _ => True) (fun _ _ _ => trivial)
    (fun j _ hj _ => by
      have hx := List.getElem?_eq_getElem hj
      have hlen : ∀ n : Nat, n ≤ s.Ws.length → (vh p s n).length ≤ 9000000 := fun n hn => by
        have := zhW (f := fun i : Nat => (s.Ws[i]?).elim [] (zdx p s ((i : Int) + 1))) (n := 3000000) (List.range n) (fun i hi => by
          cases hy : s.Ws[i]? with
          | none => exact Nat.zero_le _
          | some y => exact ztR G.E.small _ (G.E.small.w y (List.mem_of_getElem? hy)))
        rw [List.length_range] at this
        have h3 : n * 3000000 ≤ 3 * 3000000 := Nat.mul_le_mul_right _ (by omega)
        unfold vh
        omega
      have e : vh p s (j + 1) = vh p s j ++ zdx p s ((j : Int) + 1) (s.Ws[j]) := by
        unfold vh
        rw [List.range_succ, List.flatMap_append, List.flatMap_singleton, hx]; rfl
      have hl := hlen (j + 1) (by omega)
      rw [e, List.length_append] at hl
      show xn (ord, t, i, (j : Int) + 1, s, acc ++ vh p s j, ()) = some (.again (ord, t, i, ((j + 1 : Nat) : Int) + 1, s, acc ++ vh p s (j + 1), ()))
      rw [YV, zl, if_pos (by omega), zu6 h G hx, Option.bind_some, yi (by simp only [List.length_append]; omega), Option.bind_some, yr (by omega) (by omega), e, List.append_assoc]
      rfl)
    (fun _ _ => by
      show xn (ord, t, i, ((s.Ws.length : Nat) : Int) + 1, s, acc ++ vh p s s.Ws.length, ()) = _
      rw [YV, zl, if_neg (by omega)]) (s := ()) trivial
  have e0 : acc ++ vh p s (0 : Int).toNat = acc := by show acc ++ vh p s 0 = acc; unfold vh; simp
  simp only [e0] at this
  exact this
theorem zsM (s : za) (w : Int) : (yp s w).Done = s.Done := by
  unfold yp
  split
  · rfl
  split
  · rename_i x _
    show (zC s w x).1.Done = s.Done
    unfold zC
    repeat' split
    all_goals first | rfl | (obtain ⟨m, b, t, wk, f, e, _⟩ := zhS s x.G; dsimp only; rw [e])
  · rfl
theorem workerOnce_plain (l ord : List (BitVec 8)) : wZ l ord = some (true, ()) := by
  obtain ⟨p, ep, h⟩ := zuM l
  have hb := zbe h
  have hw := h.wk
  have hmo := h.most
  have hn := h.n
  have hmt := h.mt
  rw [zc6, zol]
  simp only [Option.bind_some, Bool.not_true, cond_false, ep, zoc h]
  obtain ⟨o, e, ho⟩ := vD (f := Zp) (fun a => ∃ (i : Nat) (s : za) (gh : Gh), i ≤ 200 ∧ a = (ord, true, (i : Int), s, ()) ∧ WG p (zP p + 1) i s gh ∧ znG s ∧ s.Done = false) (fun a => 200 - a.2.2.1.toNat) (fun o => o = .brk (true, ())) (by
    rintro _ ⟨i, s, gh, hi, rfl, G, L, hd⟩
    have hwl := G.E.wl
    rw [za6, zl, zl]
    by_cases c1 : (i : Int) < (ord.length : Int)
    · rw [if_pos c1]
      by_cases c2 : (i : Int) < 200
      · have hx := List.getElem?_eq_getElem (show i < ord.length by omega)
        have hwho := zvR h G.E (ord[i]'(by omega))
        rw [if_pos c2, xL hx, Option.bind_some, zl, if_neg (by omega), hwho.1, zgo h G.E, Option.bind_some]
        generalize hk : (1 : Int) + ((ord[i]'(by omega)).toNat : Int).tmod (s.Ws.length : Int) = w at hwho
        obtain ⟨gh', G', T⟩ := G.step h (by omega) (w := w) (by omega) hd
        have L' := L.step h G (w := w) (by omega) hd T
        have hd' : (yp s w).Done = false := (zsM s w).trans hd
        have hP := G'.E.S.P
        have hF : gh'.F.length ≤ 50 := by
          have := G'.X.L.all.length_eq
          simp [zfM] at this
          omega
        have hB := zs2 h G'
        obtain ⟨o1, o2⟩ := zts G' L' hB
        have hacc : (gh'.F.flatMap (xu (yp s w))).length ≤ 50000000 := by
          have := zhW (f := xu (yp s w)) (n := 1000000) gh'.F (fun b _ => Nat.le_of_lt (zgT G'.E.small b))
          have h3 : gh'.F.length * 1000000 ≤ 50 * 1000000 := Nat.mul_le_mul_right _ hF
          omega
        have hlen : (gh'.F.flatMap (xu (yp s w)) ++ vh p (yp s w) (yp s w).Ws.length).length < 1000000 := by
          have h0 := zrH (s := (yp s w).T.Marks &&& ~~~(yp s w).T.Black) (fun o e => L'.mks o ((zhe _ _ _).1 e).1)
          rw [← o2, o1] at h0
          omega
        refine ⟨.again (ord, true, ((i + 1 : Nat) : Int), yp s w, ()), ?_, ⟨i + 1, yp s w, gh', by omega, rfl, G', L', hd'⟩, ?_⟩
        · rw [hP, zaU, Option.bind_some, Vz, Option.bind_some, zrl h G'.X (by omega), Option.bind_some]
          refine (congrArg (fun o => Option.bind o _) (zsr G' hF ord true (i : Int))).trans ?_
          refine (congrArg (fun o => Option.bind o _) (ztu h G' hacc ord true (i : Int))).trans ?_
          simp only [Option.bind_some, zoB, ztj hlen, znZ, zV]
          rw [if_pos o1]
          simp only [Option.bind_some, Bool.not_true, cond_false, zlk, zV]
          rw [if_pos o2, xd (by omega)]
        · show 200 - ((i + 1 : Nat) : Int).toNat < 200 - (i : Int).toNat
          omega
      · rw [if_neg c2]; exact ⟨_, rfl, rfl⟩
    · rw [if_neg c1]; exact ⟨_, rfl, rfl⟩) (ord, true, 0, wV p, ()) ⟨0, wV p, gh0 p, by omega, rfl, zvO h, ztJ h, rfl⟩ (by show 200 - 0 < 18446744073709551616; decide)
  subst ho
  exact congrArg (fun o => Option.bind o _) e
end B15
end
end Go.Pe.G
