/- Own work of this seat: PGstep, PWstep, PBits, PWAll, PLists, PWNew, PHeld, PCnt, PWOnce, PReach, PBetween, PFrame, PDark, PLaw15. -/
import Derived.Test.YtenpfjfpekljpaaGreatDoorWKPa
set_option linter.unusedVariables false
set_option linter.unusedSimpArgs false
set_option linter.unnecessarySimpa false
set_option linter.unusedSectionVars false
set_option linter.deprecated false
set_option maxRecDepth 20000
namespace Go.Pe.G
open Go.Pe
noncomputable section
theorem zxv {p : zb} {s : za} {g : Gh} {b : Int} : wb p s { g with F := b :: g.F } = un s b ++ wb p s g := by
  unfold wb; simp [List.append_assoc]
theorem zxn {p : zb} {s : za} {g : Gh} {l : List Int} : wb p s { g with E := l } = wb p s g := rfl
theorem zu6 {l : List Int} {t : Nat} {x : Int} : Dv t l t (l ++ [x]) := ⟨Nat.le_refl _, fun _ h => ⟨by simp, by cases l with | nil => exact absurd rfl h | cons a l => rfl⟩⟩
theorem zxK {p : zb} (hp : zC p) {nb k : Nat} {R : List Int} {gh : Gh} {s : za} {g : zA} (hk : k < 4294960000) (X : SX p nb s gh (w8 g ++ R) k) (M : MOk p nb g) (h5o : g.PC = 5 → g.C.Out ≠ 1) (G : GX p s gh g) :
    zke p nb k R gh s g (zF s g).1 (zF s g).2 := by
  have S' := (zkj hp X.S M h5o).1
  have hP := X.S.P
  have hpc := G.pc
  have hmd := G.md
  have hob := G.ob
  revert S'
  unfold zF
  by_cases h0 : g.Out = 0
  rotate_left
  · rw [if_pos (.inl h0)]
    intro S'
    exact .quiet X S' rfl rfl rfl rfl rfl G.c0 G
  rw [if_neg (by omega)]
  have hc0 : g.Mode = 1 → gh.c g.Who = 0 := fun h => G.c0 h h0
  by_cases p7 : g.PC = 7
  · rw [if_pos p7]
    obtain ⟨c1, c2, c3, c4, c5⟩ := G.c7 p7 h0
    obtain ⟨m1, m2, m3, m4, m5⟩ := M.c7 p7
    have eo : w8 g = [g.Bin] := zfw h0 (.inr p7)
    have eh : wp g = [g.Obj] := ve h0 (by omega) (by omega)
    rw [eo] at X
    intro S'
    have S' : SOk p nb { s with M := (zm s.M g.C).1 } := S'
    unfold zcv
    dsimp only
    rcases SX.pushF hp (o1 := []) (o2 := R) (b := g.Bin) X hk m1 m2 m3 c3 c1 c2 c4 m5 S' with ⟨a, b, c, d⟩ | ⟨a, b, d⟩
    · rw [a]
      rw [if_neg (by decide)]
      have hout := zet s.M c1 c2 (.inl m1)
      have hsame := zkI s.M g.C
      have hpc' : 0 ≤ (zm s.M g.C).2.PC ∧ (zm s.M g.C).2.PC ≤ 2 := by omega
      refine ⟨gh, by rw [show w8 { g with C := (zm s.M g.C).2 } = [g.Bin] from zfw h0 (.inr p7)]; exact b, ?_, by rw [eo]; exact d _ _ (by simp), fun h _ => hc0 h, fun _ h => .inl h, [], ?_, .inl ⟨rfl, rfl⟩⟩
      · exact ⟨.inl h0, hpc, hmd, hob, fun h _ => hc0 h, fun e => by have e : g.PC = 5 := e; omega, fun _ _ => ⟨a, hpc', (hsame.2.2.2 m1).trans c3, c, c5⟩, fun e => by have e : g.PC = 3 := e; omega⟩
      · rw [WI rfl, show wp { g with C := (zm s.M g.C).2 } = [g.Obj] from ve h0 (by show (3 : Int) ≤ g.PC; omega) (by show g.PC ≤ 7; omega), eh]
        exact List.Perm.refl _
    · rw [a, if_pos rfl]
      have e1 : w8 { g with C := (zm s.M g.C).2, Out := 1 } = [] := vY (.inl (by show (1 : Int) ≠ 0; decide))
      have e2 : wp { g with C := (zm s.M g.C).2, Out := 1 } = [] := YH (.inl (by show (1 : Int) ≠ 0; decide))
      refine ⟨{ gh with F := g.Bin :: gh.F }, by rw [e1]; exact b, ?_, by rw [eo]; exact d _ _, fun h _ => hc0 h, fun y hy => (List.mem_cons.1 hy).elim (fun e => .inr (by rw [e]; unfold un; rw [show ({ s with M := (zm s.M g.C).1 } : za).Bins = s.Bins from rfl, c5]; exact List.cons_ne_nil _ _)) .inl, [], ?_, .inl ⟨rfl, rfl⟩⟩
      · exact GX.plain (.inr rfl) hpc hmd hob (fun _ e => by cases e) (.inl (by show (1 : Int) ≠ 0; decide))
      · rw [e2, eh, zxv, WI rfl, List.append_nil]
        have : un { s with M := (zm s.M g.C).1 } g.Bin = [g.Obj] := by unfold un; rw [show ({ s with M := (zm s.M g.C).1 } : za).Bins = s.Bins from rfl, c5]; rfl
        rw [this]
        exact List.perm_append_comm
  rw [if_neg p7]
  by_cases p6 : g.PC = 6
  · rw [if_pos p6]
    have eo : w8 g = [g.Bin] := zfw h0 (.inl p6)
    have eh : wp g = [g.Obj] := ve h0 (by omega) (by omega)
    have hb := M.b6 p6
    have hbl := X.S.bins
    intro S'
    unfold zpv
    unfold zpv at S'
    have e1 : w8 { g with PC := 7, C := ⟨1, 0, z7 s.P, zD s.P, 0#64, g.Bin, 0, 0⟩ } = [g.Bin] := zfw h0 (.inr rfl)
    have hget : ∀ b, 1 ≤ b → b ∉ w8 g → (s.Bins.set g.Bin.toNat [g.Obj])[b.toNat]? = s.Bins[b.toNat]? := fun b b1 b2 => by
      rw [List.getElem?_set_ne]
      intro e
      rw [eo] at b2
      exact b2 (by rw [show b = g.Bin by omega]; simp)
    refine ⟨gh, by rw [e1, ← eo]; exact X.quiet S' rfl, ?_, FX.quiet rfl hget, fun h _ => hc0 h, fun _ h => .inl h, [], ?_, .inl ⟨rfl, rfl⟩⟩
    · refine ⟨.inl h0, ⟨by show (0 : Int) ≤ 7; decide, by show (7 : Int) ≤ 7; decide⟩, hmd, hob, fun h _ => hc0 h, fun e => absurd e (by show ¬ (7 : Int) = 5; decide), fun _ _ => ⟨rfl, ⟨by show (0 : Int) ≤ 0; decide, by show (0 : Int) ≤ 2; decide⟩, rfl, ⟨fun e => absurd e (by show ¬ (1 : Int) ≤ 0; decide), fun e => absurd e (by show ¬ (0 : Int) = 2; decide), fun e => absurd e (by show ¬ (0 : Int) = 2; decide)⟩, ?_⟩, fun e => absurd e (by show ¬ (7 : Int) = 3; decide)⟩
      show (s.Bins.set g.Bin.toNat [g.Obj])[g.Bin.toNat]? = _
      rw [List.getElem?_set_self (by omega)]
    · rw [show wp { g with PC := 7, C := ⟨1, 0, z7 s.P, zD s.P, 0#64, g.Bin, 0, 0⟩ } = [g.Obj] from ve h0 (by show (3 : Int) ≤ 7; decide) (by show (7 : Int) ≤ 7; decide), eh]
      have : wb p { s with Bins := s.Bins.set g.Bin.toNat [g.Obj] } gh = wb p s gh := by
        unfold wb
        congr 1
        refine YD (fun b hb => ?_)
        have hm := X.L.cF.mem b hb
        have hno := (X.L.notF (x := g.Bin) (by rw [eo]; simp)).1
        unfold un
        rw [show ({ s with Bins := s.Bins.set g.Bin.toNat [g.Obj] } : za).Bins = s.Bins.set g.Bin.toNat [g.Obj] from rfl, hget b hm.1 (by rw [eo]; intro e; rw [List.mem_singleton.1 e] at hb; exact hno hb)]
      rw [this]; exact List.Perm.refl _
  rw [if_neg p6]
  have eo : w8 g = [] := vY (.inr ⟨p6, p7⟩)
  by_cases p5 : g.PC = 5
  · rw [if_pos p5]
    obtain ⟨c1, c2, c3⟩ := G.c5 p5 h0
    obtain ⟨m1, m2, m3, m4, m5⟩ := M.c5 p5
    have eh : wp g = [g.Obj] := ve h0 (by omega) (by omega)
    intro S'
    have S' : SOk p nb { s with M := (zm s.M g.C).1 } := S'
    unfold ziK
    dsimp only
    rcases SX.popE hp X hk m1 m2 m3 c1 c2 c3 m4 S' with ⟨a, b, c, d⟩ | ⟨x, l, a, b, c, d, e⟩
    · rw [if_neg b]
      have hout := zet s.M c1 c2 (.inr m1)
      by_cases o2 : (zm s.M g.C).2.Out = 2
      · rw [if_pos o2]
        refine .quiet X S' a rfl rfl ?_ ?_ G.c0 (GX.ask h0 hmd hob hc0 _)
        · rw [eo]; exact vY (.inr ⟨by show (5 : Int) ≠ 6; decide, by show (5 : Int) ≠ 7; decide⟩)
        · rw [eh]; exact ve h0 (by show (3 : Int) ≤ 5; decide) (by show (5 : Int) ≤ 7; decide)
      · rw [if_neg o2]
        have hpc' : (zm s.M g.C).2.Out = 0 ∧ 0 ≤ (zm s.M g.C).2.PC ∧ (zm s.M g.C).2.PC ≤ 2 := by omega
        refine .quiet X S' a rfl rfl ?_ ?_ G.c0 ⟨.inl h0, hpc, hmd, hob, G.c0, fun _ _ => ⟨hpc'.1, hpc'.2, by rw [show ({ s with M := (zm s.M g.C).1 } : za).M = s.M from a]; exact c⟩, fun e => by have e : g.PC = 7 := e; omega, fun e => by have e : g.PC = 3 := e; omega⟩
        · rw [eo]; exact vY (.inr ⟨p6, p7⟩)
        · rw [eh]; exact ve h0 (by show (3 : Int) ≤ g.PC; omega) (by show g.PC ≤ 7; omega)
    · rw [if_pos b]
      have e1 : w8 { g with PC := 6, C := (zm s.M g.C).2, Bin := (zm s.M g.C).2.X } = [x] := by rw [← c]; exact zfw (g := { g with PC := 6, C := (zm s.M g.C).2, Bin := (zm s.M g.C).2.X }) h0 (.inl rfl)
      refine ⟨{ gh with E := l }, by rw [e1]; rw [eo] at d; exact d, ?_, e _ _, fun h _ => hc0 h, fun _ h => .inl h, [], ?_, .inl ⟨rfl, rfl⟩⟩
      · exact GX.plain (.inl h0) ⟨by show (0 : Int) ≤ 6; decide, by show (6 : Int) ≤ 7; decide⟩ hmd hob (fun h _ => hc0 h) (.inr ⟨by show (6 : Int) ≠ 3; decide, by show (6 : Int) ≠ 5; decide, by show (6 : Int) ≠ 7; decide⟩)
      · rw [zxn, WI rfl, eh, show wp { g with PC := 6, C := (zm s.M g.C).2, Bin := (zm s.M g.C).2.X } = [g.Obj] from ve h0 (by show (3 : Int) ≤ 6; decide) (by show (6 : Int) ≤ 7; decide)]
        exact List.Perm.refl _
  rw [if_neg p5]
  by_cases p4 : g.PC = 4
  · rw [if_pos p4]
    intro S'
    refine .quiet X S' rfl rfl rfl ?_ ?_ G.c0 (GX.ask h0 hmd hob hc0 _)
    · rw [eo]; exact vY (.inr ⟨by show (5 : Int) ≠ 6; decide, by show (5 : Int) ≠ 7; decide⟩)
    · rw [ve h0 (by omega) (by omega)]; exact ve h0 (by show (3 : Int) ≤ 5; decide) (by show (5 : Int) ≤ 7; decide)
  rw [if_neg p4]
  by_cases p3 : g.PC = 3
  · rw [if_pos p3]
    obtain ⟨c1, c2, c3⟩ := G.d3 p3 h0
    have hw := M.who c1
    have eh : wp g = [g.Obj] := ve h0 (by omega) (by omega)
    have hdk := X.dk g.Who hw.1 hw.2
    have hlen := X.L.len
    have hE := wm hp
    have hc00 := c3.c0
    have c3' := c3
    rw [hc00] at c3'
    have D0 := X.D g.Who hw.1 hw.2
    rw [hc00] at D0
    obtain ⟨a, b, r⟩ := zpr hp hw (by omega) D0 c3' (by omega) (by rw [c2]; omega)
    intro S'
    have S' : SOk p nb { s with M := (yK s.M g.D).1 } := S'
    unfold zil
    dsimp only
    rcases r with ⟨r1, r2, r3⟩ | ⟨r1, r2⟩ | ⟨r1, r2⟩
    · rw [r1, if_neg (by decide), if_neg (by decide)]
      have e1 : w8 { g with D := (yK s.M g.D).2 } = [] := vY (.inr ⟨p6, p7⟩)
      refine ⟨Xl gh g.Who (gh.t g.Who) (gh.D g.Who) 0, ?_, ?_, FX.own (O := zpA g) (s := s) (s' := { s with M := (yK s.M g.D).1 }) (g := gh) hp hw a rfl ⟨c1, rfl⟩ (Dv.refl _ _), fun _ _ => xY.2.2, fun _ h => .inl h, [], ?_, .inl ⟨rfl, rfl⟩⟩
      · rw [e1]; rw [eo] at X; exact X.dq hp S' (zen _ _) hw a r2 (by omega)
      · refine ⟨.inl h0, hpc, hmd, hob, fun _ _ => xY.2.2, fun e => by have e : g.PC = 5 := e; omega, fun e => by have e : g.PC = 7 := e; omega, fun _ _ => ⟨c1, b.trans c2, ?_⟩⟩
        show DK p (yK s.M g.D).1 g.Who ((Xl gh g.Who (gh.t g.Who) (gh.D g.Who) 0).t g.Who) _ _ _
        rw [xY.1, xY.2.1, xY.2.2]; exact r3
      · obtain ⟨u, v, f1, f2⟩ := zi6 (p := p) (s := s) (s' := { s with M := (yK s.M g.D).1 }) (g := gh) rfl hw (t := gh.t g.Who) (c := 0) (l := gh.D g.Who)
        rw [f1, f2, eh, show wp { g with D := (yK s.M g.D).2 } = [g.Obj] from ve h0 (by show (3 : Int) ≤ g.PC; omega) (by show g.PC ≤ 7; omega)]
        exact List.Perm.refl _
    · rw [r1, if_neg (by decide), if_pos rfl]
      have e1 : w8 (ziM s.P { g with D := (yK s.M g.D).2 }) = [] := vY (.inr ⟨by show (5 : Int) ≠ 6; decide, by show (5 : Int) ≠ 7; decide⟩)
      refine ⟨Xl gh g.Who (gh.t g.Who) (gh.D g.Who) 0, ?_, ?_, FX.own (O := zpA g) (s := s) (s' := { s with M := (yK s.M g.D).1 }) (g := gh) hp hw a rfl ⟨c1, rfl⟩ (Dv.refl _ _), fun _ _ => xY.2.2, fun _ h => .inl h, [], ?_, .inl ⟨rfl, rfl⟩⟩
      · rw [e1]; rw [eo] at X; exact X.dq hp S' (zen _ _) hw a r2 (by omega)
      · exact GX.ask (g := { g with D := (yK s.M g.D).2 }) h0 hmd hob (fun _ => xY.2.2) _
      · obtain ⟨u, v, f1, f2⟩ := zi6 (p := p) (s := s) (s' := { s with M := (yK s.M g.D).1 }) (g := gh) rfl hw (t := gh.t g.Who) (c := 0) (l := gh.D g.Who)
        rw [f1, f2, eh, show wp (ziM s.P { g with D := (yK s.M g.D).2 }) = [g.Obj] from ve h0 (by show (3 : Int) ≤ 5; decide) (by show (5 : Int) ≤ 7; decide)]
        exact List.Perm.refl _
    · rw [r1, if_pos rfl]
      have e1 : w8 { g with D := (yK s.M g.D).2, Out := 1 } = [] := vY (.inl (by show (1 : Int) ≠ 0; decide))
      refine ⟨Xl gh g.Who (gh.t g.Who) (gh.D g.Who ++ [g.D.X]) 0, ?_, ?_, FX.own (O := zpA g) (s := s) (s' := { s with M := (yK s.M g.D).1 }) (g := gh) hp hw a rfl ⟨c1, rfl⟩ zu6, fun _ _ => xY.2.2, fun _ h => .inl h, [], ?_, .inl ⟨rfl, rfl⟩⟩
      · rw [e1]; rw [eo] at X; exact X.dq hp S' (zen _ _) hw a r2 (by rw [List.length_append, List.length_singleton]; omega)
      · exact GX.plain (.inr rfl) hpc hmd hob (fun _ e => by cases e) (.inl (by show (1 : Int) ≠ 0; decide))
      · obtain ⟨u, v, f1, f2⟩ := zi6 (p := p) (s := s) (s' := { s with M := (yK s.M g.D).1 }) (g := gh) rfl hw (t := gh.t g.Who) (c := 0) (l := gh.D g.Who ++ [g.D.X])
        rw [f1, f2, eh, show wp { g with D := (yK s.M g.D).2, Out := 1 } = [] from YH (.inl (by show (1 : Int) ≠ 0; decide)), c2, List.append_nil, List.nil_append]
        simp only [List.append_assoc]
        refine List.Perm.append_left _ (List.Perm.append_left _ ?_)
        exact List.perm_append_comm
  rw [if_neg p3]
  by_cases p2 : g.PC = 2
  · rw [if_pos p2]
    intro S'
    refine .quiet X S' rfl rfl rfl ?_ ?_ G.c0 (GX.plain (.inr rfl) hpc hmd hob (fun _ e => by cases e) (.inl (by show (1 : Int) ≠ 0; decide)))
    · rw [eo]; exact vY (.inl (by show (1 : Int) ≠ 0; decide))
    · rw [YH (g := g) (.inr (.inl (by omega)))]; exact YH (.inl (by show (1 : Int) ≠ 0; decide))
  rw [if_neg p2]
  by_cases p1 : g.PC = 1
  · rw [if_pos p1]
    have eh : wp g = [] := YH (.inr (.inl (by omega)))
    intro S'
    unfold ziy
    unfold ziy at S'
    dsimp only at S' ⊢
    by_cases hs : (wn s.T g.Obj).2 = false
    · have eT : (wn s.T g.Obj).1 = s.T := by
        unfold wn at hs ⊢
        split at hs
        · rename_i h1; rw [if_pos h1]
        · rename_i h1
          split at hs
          · cases hs
          · rename_i h2; rw [if_neg h1, if_neg h2]
      rw [if_pos hs]
      refine .quiet X S' rfl rfl eT ?_ ?_ G.c0 (GX.plain (.inl h0) ⟨by show (0 : Int) ≤ 2; decide, by show (2 : Int) ≤ 7; decide⟩ hmd hob G.c0 (.inr ⟨by show (2 : Int) ≠ 3; decide, by show (2 : Int) ≠ 5; decide, by show (2 : Int) ≠ 7; decide⟩))
      · rw [eo]; exact vY (.inr ⟨by show (2 : Int) ≠ 6; decide, by show (2 : Int) ≠ 7; decide⟩)
      · rw [eh]; exact YH (.inr (.inl (by show (2 : Int) < 3; decide)))
    · have eT : ¬ (s.T.Marks ||| bit g.Obj = s.T.Marks) ∧ (wn s.T g.Obj).1 = { s.T with Marks := s.T.Marks ||| bit g.Obj } := by
        unfold wn at hs ⊢
        split at hs
        · exact absurd rfl hs
        · rename_i h1
          split at hs
          · rename_i h2; exact ⟨h1, by rw [if_neg h1, if_pos h2]⟩
          · exact absurd rfl hs
      rw [if_neg hs]
      have fin : ∀ g' : zA, w8 g' = [] → wp g' = [g.Obj] → GX p { s with T := (wn s.T g.Obj).1 } gh g' → zke p nb k R gh s g { s with T := (wn s.T g.Obj).1 } g' := fun g' a b c =>
        ⟨gh, by rw [a, ← eo]; exact X.quiet S' rfl, c, FX.quiet rfl (fun _ _ _ => rfl), fun h _ => hc0 h, fun _ h => .inl h, [g.Obj], by rw [WI rfl, b, eh, List.append_nil]; exact List.perm_append_comm, .inr ⟨rfl, eT.1, eT.2⟩⟩
      by_cases q1 : g.Mode = 1
      · rw [if_pos q1]
        have hw := M.who q1
        refine fin _ (vY (.inr ⟨by show (3 : Int) ≠ 6; decide, by show (3 : Int) ≠ 7; decide⟩)) (ve h0 (by show (3 : Int) ≤ 3; decide) (by show (3 : Int) ≤ 7; decide))
          ⟨.inl h0, ⟨by show (0 : Int) ≤ 3; decide, by show (3 : Int) ≤ 7; decide⟩, hmd, hob, G.c0, fun e => absurd e (by show ¬ (3 : Int) = 5; decide), fun e => absurd e (by show ¬ (3 : Int) = 7; decide), fun _ _ => ⟨q1, rfl, ⟨rfl, by rw [hP], by rw [hP], rfl, hc0 q1, ⟨by show (0 : Int) ≤ 0; decide, by show (0 : Int) ≤ 3; decide⟩, fun e => absurd e (by show ¬ (1 : Int) ≤ 0; decide), fun e => absurd e (by show ¬ (2 : Int) ≤ 0; decide), fun e => absurd e (by show ¬ (3 : Int) ≤ 0; decide)⟩⟩⟩
      rw [if_neg q1]
      by_cases q2 : g.Mode = 2
      · rw [if_pos q2]
        exact fin _ (vY (.inr ⟨by show (4 : Int) ≠ 6; decide, by show (4 : Int) ≠ 7; decide⟩)) (ve h0 (by show (3 : Int) ≤ 4; decide) (by show (4 : Int) ≤ 7; decide))
          (GX.plain (.inl h0) ⟨by show (0 : Int) ≤ 4; decide, by show (4 : Int) ≤ 7; decide⟩ hmd hob G.c0 (.inr ⟨by show (4 : Int) ≠ 3; decide, by show (4 : Int) ≠ 5; decide, by show (4 : Int) ≠ 7; decide⟩))
      · rw [if_neg q2]
        exact fin _ (vY (.inr ⟨by show (5 : Int) ≠ 6; decide, by show (5 : Int) ≠ 7; decide⟩)) (ve h0 (by show (3 : Int) ≤ 5; decide) (by show (5 : Int) ≤ 7; decide)) (GX.ask h0 hmd hob hc0 _)
  · rw [if_neg p1]
    intro S'
    refine .quiet X S' rfl rfl rfl ?_ ?_ G.c0 (GX.plain (.inl h0) ⟨by show (0 : Int) ≤ 1; decide, by show (1 : Int) ≤ 7; decide⟩ hmd hob G.c0 (.inr ⟨by show (1 : Int) ≠ 3; decide, by show (1 : Int) ≠ 5; decide, by show (1 : Int) ≠ 7; decide⟩))
    · rw [eo]; exact vY (.inr ⟨by show (1 : Int) ≠ 6; decide, by show (1 : Int) ≠ 7; decide⟩)
    · rw [YH (g := g) (.inr (.inl (by omega)))]; exact YH (.inr (.inl (by show (1 : Int) < 3; decide)))
end
end Go.Pe.G
namespace Go.Pe.G
open Go.Pe
noncomputable section
def wJ (x : ze) : List Int := if x.PC = 3 ∨ x.PC = 4 then [x.Bin] else if x.PC = 6 then w8 x.G else []
def XX (s : za) (x : ze) : List Int := if x.PC = 0 then Yg s.M x.D else if x.PC = 3 then un s x.Bin else if x.PC = 5 ∨ x.PC = 8 then [x.Obj] else if x.PC = 6 then x.Obj :: wp x.G else []
def yc (s : za) (x : ze) : List Int := x.Batch ++ XX s x
structure WX (p : zb) (s : za) (gh : Gh) (w : Int) (x : ze) : Prop where
  c0 : x.PC ≠ 0 → gh.c w = 0
  bt : x.PC ≤ 3 → x.Batch = []
  p0 : x.PC = 0 → PK p s.M w (gh.t w) (gh.D w) (gh.c w) x.D
  p1 : x.PC = 1 → TK p s.M x.Victim (gh.t x.Victim) (gh.D x.Victim) x.D
  p2 : x.PC = 2 → x.C.Out = 0 ∧ (0 ≤ x.C.PC ∧ x.C.PC ≤ 2) ∧ CK p s.M x.C
  p4 : x.PC = 4 → x.C.Out = 0 ∧ (0 ≤ x.C.PC ∧ x.C.PC ≤ 2) ∧ x.C.X = x.Bin ∧ CK p s.M x.C
  p6 : x.PC = 6 → GX p s gh x.G ∧ x.G.Mode = 1 ∧ x.G.Who = w ∧ x.G.Out = 0
theorem WX.plain {p : zb} {s : za} {gh : Gh} {w : Int} {x : ze} (h : x.PC = 5 ∨ x.PC = 7 ∨ x.PC = 8 ∨ x.PC = 9) (c : gh.c w = 0) : WX p s gh w x :=
  ⟨fun _ => c, fun e => by omega, fun e => by omega, fun e => by omega, fun e => by omega, fun e => by omega, fun e => by omega⟩
theorem CK.start {p : zb} {m : List (BitVec 64)} {k h x : Int} : CK p m ⟨k, 0, h, zD p, 0#64, x, 0, 0⟩ :=
  ⟨fun e => absurd e (by show ¬ (1 : Int) ≤ 0; decide), fun e => absurd e (by show ¬ (0 : Int) = 2; decide), fun e => absurd e (by show ¬ (0 : Int) = 2; decide)⟩
theorem WX.begin {p : zb} {s : za} {gh : Gh} {w : Int} {x : ze} (c : gh.c w = 0) (hb : x.Batch = []) : WX p s gh w (Ub p w x) := by
  refine ⟨fun e => absurd rfl e, fun _ => hb, fun _ => ⟨rfl, rfl, rfl, rfl, ⟨by show (0 : Int) ≤ 0; decide, by show (0 : Int) ≤ 6; decide⟩, fun _ => c, ?_, ?_, ?_, ?_, ?_, ?_, ?_, ?_⟩, fun e => (by cases e), fun e => (by cases e), fun e => (by cases e), fun e => (by cases e)⟩
  all_goals (intro e; first | (exact absurd e (by show ¬ ((0 : Int) = 2 ∨ (4 : Int) ≤ 0); decide)) | (exact absurd e (by show ¬ (0 : Int) = 3; decide)) | (exact absurd e (by show ¬ (0 : Int) = 4; decide)) | (exact absurd e (by show ¬ ((0 : Int) = 3 ∨ (0 : Int) = 4); decide)) | (exact absurd e (by show ¬ (5 : Int) ≤ 0; decide)) | skip)
  rcases e with e | e | e | e
  · exact absurd e (by show ¬ (0 : Int) = 1; decide)
  · exact absurd e (by show ¬ (0 : Int) = 2; decide)
  · exact absurd e (by show ¬ (4 : Int) ≤ 0; decide)
  · exact absurd e.1 (by show ¬ (0 : Int) = 3; decide)
theorem ziE {p : zb} {s : za} {w : Int} {x : ze} : XX s (Ub p w x) = [] := by
  unfold XX
  rw [if_pos (show (Ub p w x).PC = 0 from rfl)]
  exact w9 (.inl (by show (0 : Int) ≠ 3; decide)) (by show (0 : Int) ≠ 6; decide)
theorem WX.look {p : zb} {s : za} {gh : Gh} {w : Int} {x : ze} (c : gh.c w = 0) (hb : x.Batch = []) : WX p s gh w (Yq p w x) ∧ XX s (Yq p w x) = [] ∧ wJ (Yq p w x) = [] := by
  unfold Yq
  split
  · refine ⟨⟨fun _ => c, fun _ => hb, fun e => (by cases e), fun e => (by cases e), fun _ => ⟨rfl, ⟨by show (0 : Int) ≤ 0; decide, by show (0 : Int) ≤ 2; decide⟩, CK.start⟩, fun e => (by cases e), fun e => (by cases e)⟩, ?_, ?_⟩
    · unfold XX; rw [if_neg (by show ¬ (2 : Int) = 0; decide), if_neg (by show ¬ (2 : Int) = 3; decide), if_neg (by show ¬ ((2 : Int) = 5 ∨ (2 : Int) = 8); decide), if_neg (by show ¬ (2 : Int) = 6; decide)]
    · unfold wJ; rw [if_neg (by show ¬ ((2 : Int) = 3 ∨ (2 : Int) = 4); decide), if_neg (by show ¬ (2 : Int) = 6; decide)]
  · refine ⟨⟨fun _ => c, fun _ => hb, fun e => (by cases e), fun _ => ⟨rfl, rfl, rfl, rfl, ⟨by show (0 : Int) ≤ 0; decide, by show (0 : Int) ≤ 3; decide⟩, fun e => absurd e (by show ¬ (1 : Int) ≤ 0; decide), fun e => absurd e (by show ¬ (2 : Int) ≤ 0; decide), fun e => absurd e (by show ¬ (0 : Int) = 3; decide)⟩, fun e => (by cases e), fun e => (by cases e), fun e => (by cases e)⟩, ?_, ?_⟩
    · unfold XX; rw [if_neg (by show ¬ (1 : Int) = 0; decide), if_neg (by show ¬ (1 : Int) = 3; decide), if_neg (by show ¬ ((1 : Int) = 5 ∨ (1 : Int) = 8); decide), if_neg (by show ¬ (1 : Int) = 6; decide)]
    · unfold wJ; rw [if_neg (by show ¬ ((1 : Int) = 3 ∨ (1 : Int) = 4); decide), if_neg (by show ¬ (1 : Int) = 6; decide)]
theorem WX.other {p : zb} (hp : zC p) {nb k : Nat} {s s' : za} {gh gh' : Gh} {X R : List Int} {O : Int → Prop} {w : Int} {x : ze} (hw : 1 ≤ w ∧ w ≤ p.Workers) (Y : SX p nb s gh (X ++ R) k) (Fx : FX p nb X O s s' gh gh') (K : WX p s gh w x) (W : WOk p nb w x)
    (hR : ∀ b ∈ wJ x, b ∈ R) (apart : ¬ O w) : WX p s' gh' w x ∧ yc s' x = yc s x := by
  have hsub : ∀ b ∈ X, b ∈ X ++ R := fun b hb => List.mem_append_left _ hb
  have hnd := (List.nodup_append.1 Y.L.nodup).2.1
  have hnot : ∀ b, b ∈ wJ x → b ∉ X := fun b hb hg => (List.nodup_append.1 hnd).2.2 b hg b (hR b hb) rfl
  have hc : gh'.c w = gh.c w := by
    rcases Fx.dq w hw.1 hw.2 with h | h
    · cases h with
      | same e1 e2 e3 e4 => exact e3
      | stolen y e1 e2 e3 e4 => exact e3
    · exact absurd h.1 apart
  have hcell : ∀ a, zI p w < a → a < zI p w + p.Cap + 2 → ld s'.M a = ld s.M a := by
    rcases Fx.dq w hw.1 hw.2 with h | h
    · cases h with
      | same e1 e2 e3 e4 => exact fun a h1 h2 => e4 a (by omega) h2
      | stolen y e1 e2 e3 e4 => exact e4
    · exact absurd h.1 apart
  refine ⟨⟨fun e => hc.trans (K.c0 e), K.bt, fun e => Fx.pk hp hw.1 hw.2 apart (K.p0 e), fun e => Fx.tk W.vic.1 W.vic.2 (K.p1 e), fun e => ?_, fun e => ?_, fun e => ?_⟩, ?_⟩
  · obtain ⟨a, b, c⟩ := K.p2 e
    have C := W.c2 e
    exact ⟨a, b, c.mv Y.L Fx.mv hsub (.inl C.h) (fun h _ => C.v h) (fun e2 => by have := C.k; omega)⟩
  · obtain ⟨a, b, c, d⟩ := K.p4 e
    have C := W.c4 e
    have hno := hnot x.Bin (by unfold wJ; rw [if_pos (.inr e)]; simp)
    exact ⟨a, b, c, d.mv Y.L Fx.mv hsub (.inr C.h) (fun _ e2 => by have := C.k; omega) (fun _ => ⟨C.x.1, C.x.2, by rw [c]; exact hno⟩)⟩
  · obtain ⟨a, b, c, d⟩ := K.p6 e
    have M := (W.g6 e).1
    refine ⟨a.other hp Y Fx M (fun y hy => hR y ?_) (fun _ => by rw [c]; exact apart), b, c, d⟩
    unfold wJ; rw [if_neg (by omega), if_pos e]; exact hy
  · unfold yc XX
    congr 1
    by_cases e0 : x.PC = 0
    · rw [if_pos e0, if_pos e0]
      have P := K.p0 e0
      unfold Yg
      have hpl := (zk0 hp hw.1 hw.2 P.base P.size (x.D.B - 1#64)).2
      rw [hcell _ (by rw [P.base] at hpl; omega) (by rw [P.base] at hpl; omega)]
    · rw [if_neg e0, if_neg e0]
      by_cases e3 : x.PC = 3
      · rw [if_pos e3, if_pos e3]
        have hb := W.b3 e3
        have hno := hnot x.Bin (by unfold wJ; rw [if_pos (.inl e3)]; simp)
        unfold un
        rw [Fx.bn x.Bin hb.1 hno]
      · rw [if_neg e3, if_neg e3]
theorem zuJ (s : za) (b : Int) : zbd s b = un s b := by unfold zbd un; rw [List.getD_eq_getElem?_getD]
theorem FX.mono {p : zb} {nb : Nat} {X : List Int} {O O' : Int → Prop} {s s' : za} {g g' : Gh} (h : FX p nb X O s s' g g') (i : ∀ v, O v → O' v) : FX p nb X O' s s' g g' :=
  ⟨h.mv, h.bn, fun v a b => (h.dq v a b).imp id (fun e => ⟨i v e.1, e.2⟩)⟩
theorem vu {x : ze} (h3 : x.PC ≠ 3) (h4 : x.PC ≠ 4) (h6 : x.PC ≠ 6) : wJ x = [] := by unfold wJ; rw [if_neg (by omega), if_neg h6]
theorem zeK {x : ze} (h : x.PC = 3 ∨ x.PC = 4) : wJ x = [x.Bin] := by unfold wJ; rw [if_pos h]
theorem zre {x : ze} (h : x.PC = 6) : wJ x = w8 x.G := by unfold wJ; rw [if_neg (by omega), if_pos h]
theorem ztI {s : za} {x : ze} (h : x.PC = 0) : XX s x = Yg s.M x.D := by unfold XX; rw [if_pos h]
theorem zuv {s : za} {x : ze} (h : x.PC = 3) : XX s x = un s x.Bin := by unfold XX; rw [if_neg (by omega), if_pos h]
theorem V8 {s : za} {x : ze} (h : x.PC = 5 ∨ x.PC = 8) : XX s x = [x.Obj] := by unfold XX; rw [if_neg (by omega), if_neg (by omega), if_pos h]
theorem zq6 {s : za} {x : ze} (h : x.PC = 6) : XX s x = x.Obj :: wp x.G := by unfold XX; rw [if_neg (by omega), if_neg (by omega), if_neg (by omega), if_pos h]
theorem Zw {s : za} {x : ze} (h : x.PC = 1 ∨ x.PC = 2 ∨ x.PC = 4 ∨ x.PC = 7 ∨ x.PC = 9) : XX s x = [] := by unfold XX; rw [if_neg (by omega), if_neg (by omega), if_neg (by omega), if_neg (by omega)]
def zfg (p : zb) (nb k : Nat) (R : List Int) (gh : Gh) (s : za) (w : Int) (x : ze) (s' : za) (x' : ze) : Prop :=
  ∃ gh', SX p nb s' gh' (wJ x' ++ R) (k + 1) ∧ WX p s' gh' w x' ∧ FX p nb (wJ x) (fun v => v = w) s s' gh gh' ∧
    ∃ N B, List.Perm (wb p s' gh' ++ yc s' x' ++ B) (N ++ (wb p s gh ++ yc s x)) ∧
      ((N = [] ∧ B = [] ∧ s'.T = s.T) ∨ (N = [x.G.Obj] ∧ B = [] ∧ x.PC = 6 ∧ ¬ (s.T.Marks ||| bit x.G.Obj = s.T.Marks) ∧ s'.T = { s.T with Marks := s.T.Marks ||| bit x.G.Obj }) ∨ (N = [] ∧ B = [x.Obj] ∧ x.PC = 8 ∧ s'.T = u6 s.T x.Obj))
theorem zfg.quiet {p : zb} {nb k : Nat} {R : List Int} {gh : Gh} {s s' : za} {w : Int} {x x' : ze} (X : SX p nb s gh (wJ x ++ R) k) (S' : SOk p nb s') (hm : s'.M = s.M) (hb : s'.Bins = s.Bins) (hT : s'.T = s.T)
    (ho : wJ x' = wJ x) (hh : List.Perm (yc s' x') (yc s x)) (W' : WX p s' gh w x') : zfg p nb k R gh s w x s' x' :=
  ⟨gh, by rw [ho]; exact X.quiet S' hm, W', FX.quiet hm (fun _ _ _ => by rw [hb]), [], [], by rw [WI hb, List.append_nil]; exact List.Perm.append_left _ hh, .inl ⟨rfl, rfl, hT⟩⟩
theorem nz8 {x : Int} : (5 : Int) ≠ 3 ∧ (5 : Int) ≠ 4 ∧ (5 : Int) ≠ 6 := by decide
theorem zxA {p : zb} (hp : zC p) {nb k : Nat} {R : List Int} {gh : Gh} {s : za} {w : Int} {x : ze} (hk : k < 4294960000) (hw : 1 ≤ w ∧ w ≤ p.Workers) (X : SX p nb s gh (wJ x ++ R) k) (W : WOk p nb w x) (K : WX p s gh w x)
    (hH : ∀ o i, 0 ≤ xG s.H o i ∧ xG s.H o i ≤ 64) : zfg p nb k R gh s w x (zw s w x).1 (zw s w x).2 := by
  have S' := (zr8 hp hw X.S W).1
  have hP := X.S.P
  have eL : ∀ y, Yq s.P w y = Yq p w y := fun y => by rw [hP]
  have eB : ∀ y, Ub s.P w y = Ub p w y := fun y => by rw [hP]
  have eC : zgg s.P (zD s.P) x.Bin = zgg p (zD p) x.Bin := by rw [hP]
  have hpc := W.pc
  have hlen := X.L.len
  have hE := wm hp
  revert S'
  unfold zw
  by_cases p01 : x.PC = 0 ∨ x.PC = 1
  · rw [if_pos p01]
    intro S'
    have S' : SOk p nb { s with M := (zN s.M x.D).1 } := S'
    have hl := (zgG s.M x.D).1
    have eo : wJ x = [] := vu (by omega) (by omega) (by omega)
    have hbt := K.bt (by omega)
    rw [eo] at X
    dsimp only
    by_cases p0 : x.PC = 0
    · have K0 := K.p0 p0
      have D0 := X.D w hw.1 hw.2
      have hdk := X.dk w hw.1 hw.2
      obtain ⟨t', l', c', D', hm, V, hle, r⟩ := zqV hp hw (by omega) D0 K0
      have hc := hp.cap
      have hm' : ∀ a, (a < zI p w ∨ zI p w + p.Cap + 2 ≤ a) → ld (zN s.M x.D).1 a = ld s.M a := fun a ha => hm a (by omega) (by omega)
      have X' := X.dq hp S' hl hw hm' D' (by omega)
      have Fx : FX p nb (wJ x) (fun v => v = w) s { s with M := (zN s.M x.D).1 } gh (Xl gh w t' l' c') := FX.own (O := fun v => v = w) (s := s) (s' := { s with M := (zN s.M x.D).1 }) (g := gh) hp hw hm' rfl rfl V
      obtain ⟨u, v, f1, f2⟩ := zi6 (p := p) (s := s) (s' := { s with M := (zN s.M x.D).1 }) (g := gh) rfl hw (t := t') (c := c') (l := l')
      have fin : ∀ x' : ze, wJ x' = [] → WX p { s with M := (zN s.M x.D).1 } (Xl gh w t' l' c') w x' → List.Perm (l' ++ yc { s with M := (zN s.M x.D).1 } x') (gh.D w ++ yc s x) → zfg p nb k R gh s w x { s with M := (zN s.M x.D).1 } x' := by
        intro x' a b c
        refine ⟨_, by rw [a]; exact X', b, Fx, [], [], ?_, .inl ⟨rfl, rfl, rfl⟩⟩
        rw [f1, f2, List.append_nil, List.nil_append]
        simp only [List.append_assoc]
        refine List.Perm.append_left _ ?_
        refine (List.perm_append_comm_assoc l' v _).trans (List.Perm.trans ?_ (List.perm_append_comm_assoc v (gh.D w) _))
        exact List.Perm.append_left _ c
      have hh : yc s x = Yg s.M x.D := by unfold yc; rw [hbt, ztI p0, List.nil_append]
      rw [hh] at fin
      rcases r with ⟨r1, r2, r3⟩ | ⟨r1, r2, r3⟩ | ⟨r1, r2, r3, r4, r5⟩
      · rw [r1, if_neg (by decide), if_neg (by decide)]
        refine fin _ (vu (by show x.PC ≠ 3; omega) (by show x.PC ≠ 4; omega) (by show x.PC ≠ 6; omega)) ⟨fun e => absurd p0 e, fun _ => hbt, fun _ => ?_, fun e => by have e : x.PC = 1 := e; omega, fun e => by have e : x.PC = 2 := e; omega, fun e => by have e : x.PC = 4 := e; omega, fun e => by have e : x.PC = 6 := e; omega⟩ ?_
        · rw [xY.1, xY.2.1, xY.2.2]; exact r2
        · unfold yc
          rw [ztI (x := { x with D := (zN s.M x.D).2 }) p0]
          show List.Perm (l' ++ (x.Batch ++ Yg (zN s.M x.D).1 (zN s.M x.D).2)) _
          rw [hbt, List.nil_append]; exact r3
      · rw [r1, if_pos rfl]
        refine fin _ (vu (by show (5 : Int) ≠ 3; decide) (by show (5 : Int) ≠ 4; decide) (by show (5 : Int) ≠ 6; decide)) (WX.plain (.inl rfl) (by rw [xY.2.2]; exact r2)) ?_
        unfold yc
        rw [V8 (.inl rfl)]
        show List.Perm (l' ++ (x.Batch ++ [(zN s.M x.D).2.X])) _
        rw [hbt, List.nil_append]; exact r3
      · rw [r1, if_neg (by decide), if_pos (.inl rfl), eL]
        obtain ⟨a, b, c⟩ := WX.look (p := p) (s := { s with M := (zN s.M x.D).1 }) (gh := Xl gh w t' l' c') (w := w) (x := { x with D := (zN s.M x.D).2 }) (by rw [xY.2.2]; exact r2) hbt
        refine fin _ c a ?_
        unfold yc
        rw [b, r3, r4, r5, show (Yq p w { x with D := (zN s.M x.D).2 }).Batch = x.Batch by unfold Yq; split <;> rfl, hbt]
        exact List.Perm.refl _
    · have p1 : x.PC = 1 := by omega
      have K1 := K.p1 p1
      have hv := W.vic
      have hc0 := K.c0 p0
      have D0 := X.D x.Victim hv.1 hv.2
      have hdk := X.dk x.Victim hv.1 hv.2
      have hh : yc s x = [] := by unfold yc; rw [hbt, Zw (.inl p1)]; rfl
      rcases ztg hp hv (by omega) D0 K1 with ⟨hm, r⟩ | ⟨y, l', e1, e2, e3, e4, e5⟩
      · have S2 := S'
        have q : ∀ x' : ze, wJ x' = [] → yc { s with M := (zN s.M x.D).1 } x' = [] → WX p { s with M := (zN s.M x.D).1 } gh w x' → zfg p nb k R gh s w x { s with M := (zN s.M x.D).1 } x' :=
          fun x' a b c => .quiet (by rw [eo]; exact X) S' hm rfl rfl (by rw [a, eo]) (by rw [b, hh]) c
        rcases r with ⟨r1, r2⟩ | r
        · rw [r1, if_neg (by decide), if_neg (by decide)]
          refine q _ (vu (by show x.PC ≠ 3; omega) (by show x.PC ≠ 4; omega) (by show x.PC ≠ 6; omega)) ?_ ⟨fun _ => hc0, fun _ => hbt, fun e => absurd e p0, fun _ => ?_, fun e => by have e : x.PC = 2 := e; omega, fun e => by have e : x.PC = 4 := e; omega, fun e => by have e : x.PC = 6 := e; omega⟩
          · unfold yc
            rw [Zw (x := { x with D := (zN s.M x.D).2 }) (.inl p1)]
            show x.Batch ++ [] = []
            rw [hbt]; rfl
          · show TK p (zN s.M x.D).1 _ _ _ _
            rw [hm]; exact r2
        · rw [if_neg (by omega), if_pos r, eL]
          obtain ⟨a, b, c⟩ := WX.look (p := p) (s := { s with M := (zN s.M x.D).1 }) (gh := gh) (w := w) (x := { x with D := (zN s.M x.D).2 }) hc0 hbt
          refine q _ c ?_ a
          unfold yc
          rw [b, show (Yq p w { x with D := (zN s.M x.D).2 }).Batch = x.Batch by unfold Yq; split <;> rfl, hbt]; rfl
      · have hc := hp.cap
        have hm' : ∀ a, (a < zI p x.Victim ∨ zI p x.Victim + p.Cap + 2 ≤ a) → ld (zN s.M x.D).1 a = ld s.M a := fun a ha => e5 a (by omega)
        have X' := X.dq hp S' hl hv hm' e4 (by rw [e1] at hdk; simp at hdk; omega)
        obtain ⟨h1, h2⟩ := znP hp hv hm'
        obtain ⟨u, v, f1, f2⟩ := zi6 (p := p) (s := s) (s' := { s with M := (zN s.M x.D).1 }) (g := gh) rfl hv (t := gh.t x.Victim + 1) (c := gh.c x.Victim) (l := l')
        rw [e2, if_pos rfl]
        refine ⟨Xl gh x.Victim (gh.t x.Victim + 1) l' (gh.c x.Victim), by rw [vu (by show (5 : Int) ≠ 3; decide) (by show (5 : Int) ≠ 4; decide) (by show (5 : Int) ≠ 6; decide)]; exact X', WX.plain (.inl rfl) ?_, ⟨Mv.low hp h1, fun _ _ _ => rfl, fun v' a b => .inl ?_⟩, [], [], ?_, .inl ⟨rfl, rfl, rfl⟩⟩
        · by_cases e : w = x.Victim
          · rw [e, xY.2.2, ← e]; exact hc0
          · rw [(ZR e).2.2]; exact hc0
        · by_cases e : v' = x.Victim
          · subst e
            exact .stolen y xY.2.1 (by rw [xY.1]; exact e1) xY.2.2 (fun a h1 _ => e5 a (by omega))
          · exact .same (ZR e).2.1 (ZR e).1 (ZR e).2.2 (h2 v' a b e)
        · rw [f1, f2, hh, List.append_nil, List.append_nil, List.nil_append, e1]
          unfold yc
          rw [V8 (.inl rfl)]
          show List.Perm (u ++ l' ++ v ++ (x.Batch ++ [(zN s.M x.D).2.X])) _
          rw [hbt, List.nil_append, e3]
          simp only [List.append_assoc]
          refine List.Perm.append_left _ ?_
          show List.Perm (l' ++ (v ++ [y])) (y :: (l' ++ v))
          rw [← List.append_assoc]
          exact List.perm_append_comm
  rw [if_neg p01]
  have hc0 := K.c0 (by omega)
  by_cases p2 : x.PC = 2
  · rw [if_pos p2]
    intro S'
    have S' : SOk p nb { s with M := (zm s.M x.C).1 } := S'
    have C := W.c2 p2
    obtain ⟨c1, c2, c3⟩ := K.p2 p2
    have hbt := K.bt (by omega)
    have eo : wJ x = [] := vu (by omega) (by omega) (by omega)
    have hh : yc s x = [] := by unfold yc; rw [hbt, Zw (.inr (.inl p2))]; rfl
    dsimp only
    rcases SX.popF hp X hk C.k C.h C.n c1 c2 c3 C.v S' with ⟨a, b, c, d⟩ | ⟨y, l, a, b, c, d, e⟩
    · rw [if_neg b]
      have hout := zet s.M c1 c2 (.inr C.k)
      by_cases o2 : (zm s.M x.C).2.Out = 2
      · rw [if_pos o2, eB]
        refine .quiet X S' a rfl rfl ?_ ?_ (WX.begin hc0 hbt)
        · rw [eo]; exact vu (by show (0 : Int) ≠ 3; decide) (by show (0 : Int) ≠ 4; decide) (by show (0 : Int) ≠ 6; decide)
        · unfold yc
          rw [ziE, show (Ub p w { x with C := (zm s.M x.C).2 }).Batch = x.Batch from rfl]
          rw [hbt, Zw (.inr (.inl p2))]
      · rw [if_neg o2]
        have hpc' : (zm s.M x.C).2.Out = 0 ∧ 0 ≤ (zm s.M x.C).2.PC ∧ (zm s.M x.C).2.PC ≤ 2 := by omega
        refine .quiet X S' a rfl rfl ?_ ?_ ⟨fun _ => hc0, fun _ => hbt, fun e => by have e : x.PC = 0 := e; omega, fun e => by have e : x.PC = 1 := e; omega, fun _ => ⟨hpc'.1, hpc'.2, ?_⟩, fun e => by have e : x.PC = 4 := e; omega, fun e => by have e : x.PC = 6 := e; omega⟩
        · rw [eo]; exact vu (by show x.PC ≠ 3; omega) (by show x.PC ≠ 4; omega) (by show x.PC ≠ 6; omega)
        · unfold yc
          rw [Zw (x := { x with C := (zm s.M x.C).2 }) (.inr (.inl p2)), Zw (.inr (.inl p2))]
        · rw [show ({ s with M := (zm s.M x.C).1 } : za).M = s.M from a]; exact c
    · rw [if_pos b]
      have e1 : wJ { x with C := (zm s.M x.C).2, Bin := (zm s.M x.C).2.X, PC := 3 } = [y] := by rw [← c]; exact zeK (x := { x with C := (zm s.M x.C).2, Bin := (zm s.M x.C).2.X, PC := 3 }) (.inl rfl)
      refine ⟨{ gh with F := l }, by rw [e1]; rw [eo] at d; exact d, ⟨fun _ => hc0, fun _ => hbt, fun e => (by cases e), fun e => (by cases e), fun e => (by cases e), fun e => (by cases e), fun e => (by cases e)⟩, e _ _, [], [], ?_, .inl ⟨rfl, rfl, rfl⟩⟩
      rw [hh, List.append_nil, List.append_nil, List.nil_append]
      unfold yc
      rw [zuv (x := { x with C := (zm s.M x.C).2, Bin := (zm s.M x.C).2.X, PC := 3 }) rfl]
      show List.Perm (wb p s { gh with F := l } ++ (x.Batch ++ un s (zm s.M x.C).2.X)) _
      rw [hbt, List.nil_append, c]
      have : wb p s gh = un s y ++ wb p s { gh with F := l } := by unfold wb; rw [a]; simp [List.append_assoc]
      rw [this]
      exact List.perm_append_comm
  rw [if_neg p2]
  by_cases p3 : x.PC = 3
  · rw [if_pos p3]
    intro S'
    have hb := W.b3 p3
    have hbt := K.bt (by omega)
    have eo : wJ x = [x.Bin] := zeK (.inl p3)
    rw [eC]
    have e1 : wJ { x with Batch := zbd s x.Bin, PC := 4, C := zgg p (zD p) x.Bin } = [x.Bin] := zeK (x := { x with Batch := zbd s x.Bin, PC := 4, C := zgg p (zD p) x.Bin }) (.inr rfl)
    have hget : ∀ b, 1 ≤ b → b ∉ wJ x → (s.Bins.set x.Bin.toNat [])[b.toNat]? = s.Bins[b.toNat]? := fun b b1 b2 => by
      rw [List.getElem?_set_ne]
      intro e
      rw [eo] at b2
      exact b2 (by rw [show b = x.Bin by omega]; simp)
    refine ⟨gh, by rw [e1, ← eo]; exact X.quiet S' rfl, ⟨fun _ => hc0, fun e => absurd e (by show ¬ (4 : Int) ≤ 3; decide), fun e => (by cases e), fun e => (by cases e), fun e => (by cases e), fun _ => ⟨rfl, ⟨by show (0 : Int) ≤ 0; decide, by show (0 : Int) ≤ 2; decide⟩, rfl, CK.start⟩, fun e => (by cases e)⟩, FX.quiet rfl hget, [], [], ?_, .inl ⟨rfl, rfl, rfl⟩⟩
    have hbag : wb p { s with Bins := s.Bins.set x.Bin.toNat [] } gh = wb p s gh := by
      unfold wb
      congr 1
      refine YD (fun b hb => ?_)
      have hm := X.L.cF.mem b hb
      have hno := (X.L.notF (x := x.Bin) (by rw [eo]; simp)).1
      unfold un
      rw [show ({ s with Bins := s.Bins.set x.Bin.toNat [] } : za).Bins = s.Bins.set x.Bin.toNat [] from rfl, hget b hm.1 (by rw [eo]; intro e; rw [List.mem_singleton.1 e] at hb; exact hno hb)]
    rw [hbag, List.append_nil, List.nil_append]
    unfold yc
    rw [zuv p3, Zw (x := { x with Batch := zbd s x.Bin, PC := 4, C := zgg p (zD p) x.Bin }) (.inr (.inr (.inl rfl)))]
    show List.Perm (wb p s gh ++ (zbd s x.Bin ++ [])) _
    rw [hbt, List.append_nil, List.nil_append, zuJ]
  rw [if_neg p3]
  by_cases p4 : x.PC = 4
  · rw [if_pos p4]
    intro S'
    have S' : SOk p nb { s with M := (zm s.M x.C).1 } := S'
    have C := W.c4 p4
    obtain ⟨c1, c2, c3, c4⟩ := K.p4 p4
    have eo : wJ x = [x.Bin] := zeK (.inr p4)
    have hh : yc s x = x.Batch := by unfold yc; rw [Zw (.inr (.inr (.inl p4))), List.append_nil]
    rw [eo] at X
    dsimp only
    rcases SX.pushE hp (o1 := []) (o2 := R) (b := x.Bin) X hk C.k C.h C.n c3 c1 c2 c4 C.v S' with ⟨a, b, c, d⟩ | ⟨a, b, d⟩
    · rw [a, if_neg (by decide)]
      have hout := zet s.M c1 c2 (.inl C.k)
      have hsame := zkI s.M x.C
      have hpc' : 0 ≤ (zm s.M x.C).2.PC ∧ (zm s.M x.C).2.PC ≤ 2 := by omega
      have e1 : wJ { x with C := (zm s.M x.C).2 } = [x.Bin] := zeK (x := { x with C := (zm s.M x.C).2 }) (.inr p4)
      refine ⟨gh, by rw [e1]; exact b, ⟨fun _ => hc0, fun e => by have e : x.PC ≤ 3 := e; omega, fun e => by have e : x.PC = 0 := e; omega, fun e => by have e : x.PC = 1 := e; omega, fun e => by have e : x.PC = 2 := e; omega, fun _ => ⟨a, hpc', (hsame.2.2.2 C.k).trans c3, c⟩, fun e => by have e : x.PC = 6 := e; omega⟩, by rw [eo]; exact d _ _ (by simp), [], [], ?_, .inl ⟨rfl, rfl, rfl⟩⟩
      rw [WI rfl, hh, List.append_nil]
      unfold yc
      rw [Zw (x := { x with C := (zm s.M x.C).2 }) (.inr (.inr (.inl p4))), List.append_nil]
      exact List.Perm.refl _
    · rw [a, if_pos rfl]
      refine ⟨{ gh with E := x.Bin :: gh.E }, by rw [vu (by show (7 : Int) ≠ 3; decide) (by show (7 : Int) ≠ 4; decide) (by show (7 : Int) ≠ 6; decide)]; exact b, WX.plain (.inr (.inl rfl)) hc0, by rw [eo]; exact d _ _, [], [], ?_, .inl ⟨rfl, rfl, rfl⟩⟩
      rw [hh, List.append_nil]
      unfold yc
      rw [Zw (.inr (.inr (.inr (.inl rfl)))), List.append_nil]
      exact List.Perm.refl _
  rw [if_neg p4]
  by_cases p5 : x.PC = 5
  · rw [if_pos p5]
    intro S'
    have eo : wJ x = [] := vu (by omega) (by omega) (by omega)
    have hv := hH x.Obj x.Slot
    dsimp only
    split
    · rcases zjD s (wc (x.Slot + 1)) with e | e <;> rw [e]
      · refine .quiet X S' rfl rfl rfl (by rw [eo]; exact vu (by show (5 : Int) ≠ 3; decide) (by show (5 : Int) ≠ 4; decide) (by show (5 : Int) ≠ 6; decide)) ?_ (WX.plain (.inl rfl) hc0)
        unfold yc
        rw [V8 (.inl p5), V8 (.inl rfl)]
      · refine .quiet X S' rfl rfl rfl (by rw [eo]; exact vu (by show (8 : Int) ≠ 3; decide) (by show (8 : Int) ≠ 4; decide) (by show (8 : Int) ≠ 6; decide)) ?_ (WX.plain (.inr (.inr (.inl rfl))) hc0)
        unfold yc
        rw [V8 (.inl p5), V8 (.inr rfl)]
    · rename_i hne
      have e0 : (zdl 1 (xG s.H x.Obj x.Slot) w).PC = 0 := rfl
      refine .quiet X S' rfl rfl rfl ?_ ?_ ⟨fun _ => hc0, fun e => absurd e (by show ¬ (6 : Int) ≤ 3; decide), fun e => (by cases e), fun e => (by cases e), fun e => (by cases e), fun e => (by cases e), fun _ => ⟨GX.plain (.inl rfl) ⟨by show (0 : Int) ≤ 0; decide, by show (0 : Int) ≤ 7; decide⟩ ⟨by show (1 : Int) ≤ 1; decide, by show (1 : Int) ≤ 3; decide⟩ ⟨by show 1 ≤ xG s.H x.Obj x.Slot; omega, hv.2⟩ (fun _ _ => hc0) (.inr ⟨by show (0 : Int) ≠ 3; decide, by show (0 : Int) ≠ 5; decide, by show (0 : Int) ≠ 7; decide⟩), rfl, rfl, rfl⟩⟩
      · rw [eo, zre (x := { x with Slot := wc (x.Slot + 1), PC := 6, G := zdl 1 (xG s.H x.Obj x.Slot) w }) rfl]
        exact vY (.inr ⟨by show (0 : Int) ≠ 6; decide, by show (0 : Int) ≠ 7; decide⟩)
      · unfold yc
        rw [V8 (.inl p5), zq6 (x := { x with Slot := wc (x.Slot + 1), PC := 6, G := zdl 1 (xG s.H x.Obj x.Slot) w }) rfl]
        rw [YH (g := zdl 1 (xG s.H x.Obj x.Slot) w) (.inr (.inl (by show (0 : Int) < 3; decide)))]
  rw [if_neg p5]
  by_cases p6 : x.PC = 6
  · rw [if_pos p6]
    intro S'
    obtain ⟨G, gm, gw, g0⟩ := K.p6 p6
    obtain ⟨M, h5o, _, hn4⟩ := W.g6 p6
    have eo : wJ x = w8 x.G := zre p6
    have hh : yc s x = x.Batch ++ x.Obj :: wp x.G := by unfold yc; rw [zq6 p6]
    rw [eo] at X
    obtain ⟨gh', X', G', Fx, hc', hFb, N, hN, hT⟩ := zxK hp hk X M h5o G
    have so := zfi s x.G
    have Fx' : FX p nb (wJ x) (fun v => v = w) s (zF s x.G).1 gh gh' := by
      rw [eo]
      exact Fx.mono (fun v e => e.2.trans gw)
    have hcw : gh'.c w = 0 := by have := hc' gm g0; rwa [gw] at this
    dsimp only
    have hT' : (N = [] ∧ ([] : List Int) = [] ∧ (zF s x.G).1.T = s.T) ∨ (N = [x.G.Obj] ∧ ([] : List Int) = [] ∧ x.PC = 6 ∧ ¬ (s.T.Marks ||| bit x.G.Obj = s.T.Marks) ∧ (zF s x.G).1.T = { s.T with Marks := s.T.Marks ||| bit x.G.Obj }) ∨ (N = [] ∧ ([] : List Int) = [x.Obj] ∧ x.PC = 8 ∧ (zF s x.G).1.T = u6 s.T x.Obj) := by
      rcases hT with ⟨a, b⟩ | ⟨a, b, c⟩
      · exact .inl ⟨a, rfl, b⟩
      · exact .inr (.inl ⟨a, rfl, p6, b, c⟩)
    have perm : ∀ H' : List Int, H' = x.Batch ++ x.Obj :: wp (zF s x.G).2 → List.Perm (wb p (zF s x.G).1 gh' ++ H' ++ []) (N ++ (wb p s gh ++ yc s x)) := by
      intro H' e
      rw [e, hh, List.append_nil]
      have a1 : List.Perm (wb p (zF s x.G).1 gh' ++ (x.Batch ++ x.Obj :: wp (zF s x.G).2)) ((x.Batch ++ [x.Obj]) ++ (wb p (zF s x.G).1 gh' ++ wp (zF s x.G).2)) := by
        rw [show x.Batch ++ x.Obj :: wp (zF s x.G).2 = (x.Batch ++ [x.Obj]) ++ wp (zF s x.G).2 by simp]
        exact List.perm_append_comm_assoc _ _ _
      have a2 : List.Perm (N ++ (wb p s gh ++ (x.Batch ++ x.Obj :: wp x.G))) ((x.Batch ++ [x.Obj]) ++ (N ++ (wb p s gh ++ wp x.G))) := by
        rw [show x.Batch ++ x.Obj :: wp x.G = (x.Batch ++ [x.Obj]) ++ wp x.G by simp]
        exact (List.Perm.append_left N (List.perm_append_comm_assoc _ _ _)).trans (List.perm_append_comm_assoc _ _ _)
      exact a1.trans ((List.Perm.append_left _ hN).trans a2.symm)
    split
    · rename_i o1
      have n1 : w8 (zF s x.G).2 = [] := vY (.inl (by omega))
      have n2 : wp (zF s x.G).2 = [] := YH (.inl (by omega))
      rw [n1] at X'
      rcases zjD s x.Slot with e | e <;> rw [e]
      · refine ⟨gh', by rw [vu (by show (5 : Int) ≠ 3; decide) (by show (5 : Int) ≠ 4; decide) (by show (5 : Int) ≠ 6; decide)]; exact X', WX.plain (.inl rfl) hcw, Fx', N, [], perm _ ?_, hT'⟩
        unfold yc; rw [V8 (.inl rfl), n2]
      · refine ⟨gh', by rw [vu (by show (8 : Int) ≠ 3; decide) (by show (8 : Int) ≠ 4; decide) (by show (8 : Int) ≠ 6; decide)]; exact X', WX.plain (.inr (.inr (.inl rfl))) hcw, Fx', N, [], perm _ ?_, hT'⟩
        unfold yc; rw [V8 (.inr rfl), n2]
    · rename_i o1
      have o0 : (zF s x.G).2.Out = 0 := by have := G'.o; omega
      refine ⟨gh', by rw [zre (x := { x with G := (zF s x.G).2 }) p6]; exact X', ⟨fun _ => hcw, fun e => by have e : x.PC ≤ 3 := e; omega, fun e => by have e : x.PC = 0 := e; omega, fun e => by have e : x.PC = 1 := e; omega, fun e => by have e : x.PC = 2 := e; omega, fun e => by have e : x.PC = 4 := e; omega, fun _ => ⟨G', so.2.2.trans gm, so.2.1.trans gw, o0⟩⟩, Fx', N, [], perm _ ?_, hT'⟩
      unfold yc; rw [zq6 (x := { x with G := (zF s x.G).2 }) p6]
  rw [if_neg p6]
  have eo : wJ x = [] := vu (by omega) (by omega) (by omega)
  by_cases p7 : x.PC = 7
  · rw [if_pos p7]
    intro S'
    dsimp only
    split
    · rename_i hb
      rw [eB]
      refine .quiet X S' rfl rfl rfl (by rw [eo]; exact vu (by show (0 : Int) ≠ 3; decide) (by show (0 : Int) ≠ 4; decide) (by show (0 : Int) ≠ 6; decide)) ?_ (WX.begin hc0 hb)
      unfold yc
      rw [ziE, Zw (.inr (.inr (.inr (.inl p7))))]
      exact List.Perm.refl _
    · rename_i o l hb
      refine .quiet X S' rfl rfl rfl (by rw [eo]; exact vu (by show (5 : Int) ≠ 3; decide) (by show (5 : Int) ≠ 4; decide) (by show (5 : Int) ≠ 6; decide)) ?_ (WX.plain (.inl rfl) hc0)
      unfold yc
      rw [V8 (.inl rfl), Zw (.inr (.inr (.inr (.inl p7)))), hb, List.append_nil]
      exact List.perm_append_comm
  rw [if_neg p7]
  by_cases p8 : x.PC = 8
  · rw [if_pos p8]
    intro S'
    refine ⟨gh, by rw [vu (by show (9 : Int) ≠ 3; decide) (by show (9 : Int) ≠ 4; decide) (by show (9 : Int) ≠ 6; decide)]; rw [eo] at X; exact X.quiet S' rfl, WX.plain (.inr (.inr (.inr rfl))) hc0, FX.quiet rfl (fun _ _ _ => rfl), [], [x.Obj], ?_, .inr (.inr ⟨rfl, rfl, p8, rfl⟩)⟩
    rw [WI rfl, List.nil_append]
    unfold yc
    rw [V8 (.inr p8), Zw (.inr (.inr (.inr (.inr rfl)))), List.append_nil, List.append_assoc]
    exact List.Perm.refl _
  rw [if_neg p8]
  have p9 : x.PC = 9 := by omega
  rw [if_pos p9]
  intro S'
  refine .quiet X S' rfl rfl rfl (by rw [eo]; exact vu (by show (7 : Int) ≠ 3; decide) (by show (7 : Int) ≠ 4; decide) (by show (7 : Int) ≠ 6; decide)) ?_ (WX.plain (.inr (.inl rfl)) hc0)
  unfold yc
  rw [Zw (.inr (.inr (.inr (.inr p9)))), Zw (.inr (.inr (.inr (.inl rfl))))]
end
end Go.Pe.G
namespace Go.Pe.G
open Go.Pe
noncomputable section
theorem zol {o : Int} (h : 1 ≤ o ∧ o ≤ 64) (j : Nat) : (bit o).getLsbD j = decide ((o - 1).toNat = j) := by
  unfold bit
  rw [if_pos h, ← BitVec.twoPow_eq, BitVec.getLsbD_twoPow, decide_eq_true (by omega : (o - 1).toNat < 64), Bool.true_and]
theorem xV (s : BitVec 64) (o : Int) : yA s o = true ↔ 1 ≤ o ∧ o ≤ 64 ∧ s.getLsbD (o - 1).toNat = true := by
  unfold yA
  rw [Bool.not_eq_true', decide_eq_false_iff_not]
  by_cases h : 1 ≤ o ∧ o ≤ 64
  · constructor
    · intro h1
      refine ⟨h.1, h.2, Classical.byContradiction (fun h2 => h1 ?_)⟩
      apply BitVec.eq_of_getLsbD_eq
      intro j hj
      rw [BitVec.getLsbD_and, zol h, BitVec.getLsbD_zero]
      by_cases e : (o - 1).toNat = j
      · rw [← e]; simp only [Bool.not_eq_true] at h2; rw [h2]; rfl
      · rw [decide_eq_false e, Bool.and_false]
    · rintro ⟨_, _, h1⟩ h2
      have := congrArg (fun v => BitVec.getLsbD v (o - 1).toNat) h2
      simp only [BitVec.getLsbD_and, zol h, h1, BitVec.getLsbD_zero] at this
      simp at this
  · constructor
    · intro h1
      exact absurd (by unfold bit; rw [if_neg h, BitVec.and_zero]) h1
    · rintro ⟨a, b, _⟩; exact absurd ⟨a, b⟩ h
theorem Zt (s : BitVec 64) {o : Int} (h : 1 ≤ o ∧ o ≤ 64) (q : Int) : yA (s ||| bit o) q = true ↔ yA s q = true ∨ q = o := by
  rw [xV, xV, BitVec.getLsbD_or, zol h]
  simp only [Bool.or_eq_true, decide_eq_true_eq]
  constructor
  · rintro ⟨a, b, c | c⟩
    · exact .inl ⟨a, b, c⟩
    · exact .inr (by omega)
  · rintro (⟨a, b, c⟩ | rfl)
    · exact ⟨a, b, .inl c⟩
    · exact ⟨h.1, h.2, .inr rfl⟩
theorem zct (s t : BitVec 64) (q : Int) : yA (s &&& t) q = true ↔ yA s q = true ∧ yA t q = true := by
  rw [xV, xV, xV, BitVec.getLsbD_and]
  simp only [Bool.and_eq_true]
  constructor
  · rintro ⟨a, b, c, d⟩; exact ⟨⟨a, b, c⟩, a, b, d⟩
  · rintro ⟨⟨a, b, c⟩, _, _, d⟩; exact ⟨a, b, c, d⟩
theorem WF (q : Int) : ¬ yA 0#64 q = true := by
  rw [xV, BitVec.getLsbD_zero]; exact fun h => by cases h.2.2
theorem zn0 {s t : BitVec 64} (h : ∀ o, yA s o = true ↔ yA t o = true) : s = t := by
  apply BitVec.eq_of_getLsbD_eq
  intro j hj
  have := h ((j : Int) + 1)
  rw [xV, xV, show ((j : Int) + 1 - 1).toNat = j by omega] at this
  rw [Bool.eq_iff_iff]
  exact ⟨fun e => (this.1 ⟨by omega, by omega, e⟩).2.2, fun e => (this.2 ⟨by omega, by omega, e⟩).2.2⟩
theorem XG {m : BitVec 64} {o : Int} (h : 1 ≤ o ∧ o ≤ 64) : ¬ (m ||| bit o = m) ↔ ¬ yA m o = true := by
  constructor
  · intro h1 h2
    refine h1 (zn0 (fun q => ?_))
    rw [Zt _ h]
    exact ⟨fun e => e.elim id (fun e => by rw [e]; exact h2), .inl⟩
  · intro h1 h2
    refine h1 ?_
    rw [← h2, Zt _ h]; exact .inr rfl
theorem VS (t : zj) (o : Int) : uj t o = 1 ↔ yA t.Marks o = true ∧ ¬ yA t.Black o = true := by
  unfold uj
  by_cases h1 : yA (t.Marks &&& t.Black) o = true
  · rw [if_pos h1]
    rw [zct] at h1
    exact ⟨fun e => (by cases e), fun e => absurd h1.2 e.2⟩
  · rw [if_neg h1]
    rw [zct] at h1
    by_cases h2 : yA t.Marks o = true
    · rw [if_pos h2]; exact ⟨fun _ => ⟨h2, fun e => h1 ⟨h2, e⟩⟩, fun _ => rfl⟩
    · rw [if_neg h2]; exact ⟨fun e => (by cases e), fun e => absurd e.1 h2⟩
end
end Go.Pe.G
namespace Go.Pe.G
open Go.Pe
noncomputable section
theorem zvp {α : Type} {l : List α} {i : Nat} {x : α} (h : l[i]? = some x) : ∃ a b, l = a ++ x :: b ∧ (∀ y, l.set i y = a ++ y :: b) ∧ (∀ z ∈ a ++ b, ∃ j, j ≠ i ∧ l[j]? = some z) ∧
    (∀ j z, j ≠ i → l[j]? = some z → z ∈ a ++ b) := by
  obtain ⟨hi, e⟩ := List.getElem?_eq_some_iff.1 h
  have hl : (l.take i).length = i := by rw [List.length_take]; omega
  have el : l = l.take i ++ x :: l.drop (i + 1) := by
    conv => lhs; rw [← List.take_append_drop i l, List.drop_eq_getElem_cons hi, e]
  refine ⟨l.take i, l.drop (i + 1), el, fun y => ?_, fun z hz => ?_, fun j z hj hz => ?_⟩
  · rw [List.set_eq_take_append_cons_drop, if_pos hi]
  · rcases List.mem_append.1 hz with hz | hz
    · obtain ⟨j, hj⟩ := List.mem_iff_getElem?.1 hz
      obtain ⟨hj1, hj2⟩ := List.getElem?_eq_some_iff.1 hj
      have hj3 : j < i := by omega
      exact ⟨j, by omega, by rw [List.getElem?_take_of_lt hj3] at hj; exact hj⟩
    · obtain ⟨j, hj⟩ := List.mem_iff_getElem?.1 hz
      exact ⟨i + 1 + j, by omega, by rw [List.getElem?_drop] at hj; exact hj⟩
  · rw [el] at hz
    rcases Nat.lt_or_ge j i with h1 | h1
    · rw [List.getElem?_append_left (by omega)] at hz
      exact List.mem_append_left _ (List.mem_of_getElem? hz)
    · rw [List.getElem?_append_right (by omega), hl] at hz
      rw [show j - i = (j - i - 1) + 1 by omega, List.getElem?_cons_succ] at hz
      exact List.mem_append_right _ (List.mem_of_getElem? hz)
theorem zdZ {α β : Type} {f : α → List β} {a b : List α} {x : α} : List.Perm ((a ++ x :: b).flatMap f) (f x ++ (a ++ b).flatMap f) := by
  rw [List.flatMap_append, List.flatMap_cons, List.flatMap_append]
  exact List.perm_append_comm_assoc _ _ _
theorem SX.perm {p : zb} {nb k : Nat} {s : za} {g : Gh} {o o' : List Int} (X : SX p nb s g o k) (h : List.Perm o' o) : SX p nb s g o' k :=
  ⟨X.S, ⟨X.L.hs, X.L.cF, X.L.cE, (List.Perm.append_left _ h).trans X.L.all, X.L.len⟩, X.D, X.v, X.dk⟩
theorem SX.state {p : zb} {nb k : Nat} {s s' : za} {g : Gh} {o : List Int} (X : SX p nb s g o k) (S' : SOk p nb s') (hm : s'.M = s.M) : SX p nb s' g o k :=
  ⟨S', by rw [hm]; exact X.L, by rw [hm]; exact X.D, by rw [hm]; exact X.v, X.dk⟩
theorem GX.state {p : zb} {s s' : za} {gh : Gh} {g : zA} (G : GX p s gh g) (hm : s'.M = s.M) (hb : s'.Bins = s.Bins) : GX p s' gh g :=
  ⟨G.o, G.pc, G.md, G.ob, G.c0, by rw [hm]; exact G.c5, by rw [hm, hb]; exact G.c7, by rw [hm]; exact G.d3⟩
theorem WX.state {p : zb} {s s' : za} {gh : Gh} {w : Int} {x : ze} (W : WX p s gh w x) (hm : s'.M = s.M) (hb : s'.Bins = s.Bins) : WX p s' gh w x :=
  ⟨W.c0, W.bt, by rw [hm]; exact W.p0, by rw [hm]; exact W.p1, by rw [hm]; exact W.p2, by rw [hm]; exact W.p4, fun e => ⟨(W.p6 e).1.state hm hb, (W.p6 e).2⟩⟩
theorem zrn {s s' : za} {x : ze} (hm : s'.M = s.M) (hb : s'.Bins = s.Bins) : yc s' x = yc s x := by
  unfold yc XX un; rw [hm, hb]
def zhc (p : zb) (s : za) (g : Gh) : List Int := wb p s g ++ s.Ws.flatMap (yc s)
structure zf6 (B : List Int) (t : zj) : Prop where
  blk : ∀ o, yA t.Black o = true → yA t.Marks o = true
  nd : B.Nodup
  gr : ∀ o, o ∈ B ↔ uj t o = 1
theorem zee {t : zj} {o : Int} (h : uj t o = 1) : 1 ≤ o ∧ o ≤ 64 := by
  have := (xV _ _).1 ((VS t o).1 h).1
  exact ⟨this.1, this.2.1⟩
theorem zf6.more {B B' : List Int} {t : zj} {o : Int} (K : zf6 B t) (ho : 1 ≤ o ∧ o ≤ 64) (hn : ¬ (t.Marks ||| bit o = t.Marks)) (h : List.Perm B' (o :: B)) : zf6 B' { t with Marks := t.Marks ||| bit o } := by
  have hn := (XG ho).1 hn
  have hnb : ¬ yA t.Black o = true := fun e => hn (K.blk o e)
  have hno : o ∉ B := fun e => hn ((VS t o).1 ((K.gr o).1 e)).1
  refine ⟨fun q hq => (Zt _ ho q).2 (.inl (K.blk q hq)), h.nodup_iff.2 (List.nodup_cons.2 ⟨hno, K.nd⟩), fun q => ?_⟩
  rw [h.mem_iff, List.mem_cons, K.gr, VS, VS]
  show q = o ∨ _ ↔ yA (t.Marks ||| bit o) q = true ∧ ¬ yA t.Black q = true
  rw [Zt _ ho]
  constructor
  · rintro (rfl | ⟨a, b⟩)
    · exact ⟨.inr rfl, hnb⟩
    · exact ⟨.inl a, b⟩
  · rintro ⟨a | a, b⟩
    · exact .inr ⟨a, b⟩
    · exact .inl a
theorem zf6.less {B B' : List Int} {t : zj} {o : Int} (K : zf6 B t) (h : List.Perm (B' ++ [o]) B) : zf6 B' (u6 t o) ∧ (u6 t o).Marks = t.Marks ∧ uj t o = 1 ∧ ∀ q, yA (u6 t o).Black q = true ↔ yA t.Black q = true ∨ q = o := by
  have ho : uj t o = 1 := (K.gr o).1 (h.mem_iff.1 (by simp))
  have hr := zee ho
  have hm := ((VS t o).1 ho)
  have hnd := h.nodup_iff.2 K.nd
  have hnd := List.nodup_append.1 hnd
  unfold u6
  rw [if_pos ho]
  refine ⟨⟨fun q hq => ?_, hnd.1, fun q => ?_⟩, rfl, ho, fun q => Zt _ hr q⟩
  · rcases (Zt _ hr q).1 hq with e | e
    · exact K.blk q e
    · rw [e]; exact hm.1
  · have e1 : q ∈ B ↔ q ∈ B' ∨ q = o := by rw [← h.mem_iff, List.mem_append, List.mem_singleton]
    rw [K.gr, VS] at e1
    rw [VS]
    show _ ↔ yA t.Marks q = true ∧ ¬ yA (t.Black ||| bit o) q = true
    rw [Zt _ hr]
    constructor
    · intro hq
      have := e1.2 (.inl hq)
      exact ⟨this.1, fun e => e.elim this.2 (fun e => hnd.2.2 q hq o (by simp) e)⟩
    · rintro ⟨a, b⟩
      rcases e1.1 ⟨a, fun e => b (.inl e)⟩ with e | e
      · exact e
      · exact absurd (.inr e) b
theorem HOk.get {p : zb} (hp : zC p) {h : zo} (H : HOk p h) (o i : Int) : 0 ≤ xG h o i ∧ xG h o i ≤ 64 := by
  have h1 := H.n
  have h2 : p.Most ≤ 64 := by have := hp.most; have := hp.n; omega
  unfold xG
  split
  · unfold zO
    rw [List.getD_eq_getElem?_getD, List.getD_eq_getElem?_getD]
    cases hx : h.Objs[(o - 1).toNat]? with
    | none => show 0 ≤ (([] : List Int)[i.toNat]?).getD 0 ∧ _; simp
    | some l =>
      show 0 ≤ (l[i.toNat]?).getD 0 ∧ (l[i.toNat]?).getD 0 ≤ 64
      cases hv : l[i.toNat]? with
      | none => show (0 : Int) ≤ 0 ∧ (0 : Int) ≤ 64; decide
      | some v =>
        have := (H.objs l (List.mem_of_getElem? hx)).2 v (List.mem_of_getElem? hv)
        show 0 ≤ v ∧ v ≤ 64; omega
  · exact ⟨by decide, by decide⟩
structure WG (p : zb) (nb k : Nat) (s : za) (gh : Gh) : Prop where
  E : EOk p nb s
  X : SX p nb s gh (s.Ws.flatMap wJ) k
  W : ∀ (i : Nat) x, s.Ws[i]? = some x → WX p s gh ((i : Int) + 1) x
  B : zf6 (zhc p s gh) s.T
def zpw (s s' : za) (w : Int) : Prop :=
  s'.T = s.T ∨ (∃ x o, s.Ws[(w - 1).toNat]? = some x ∧ x.PC = 6 ∧ o = x.G.Obj ∧ (1 ≤ o ∧ o ≤ 64) ∧ ¬ yA s.T.Marks o = true ∧ s'.T = { s.T with Marks := s.T.Marks ||| bit o }) ∨
    (∃ x, s.Ws[(w - 1).toNat]? = some x ∧ x.PC = 8 ∧ uj s.T x.Obj = 1 ∧ s'.T = { s.T with Black := s.T.Black ||| bit x.Obj })
theorem WG.step {p : zb} (hp : zC p) {nb k : Nat} {s : za} {gh : Gh} (hk : k < 4294960000) (G : WG p nb k s gh) {w : Int} (hw : 1 ≤ w ∧ w ≤ p.Workers) (hd : s.Done = false) : ∃ gh', WG p nb (k + 1) (zW s w) gh' ∧ zpw s (zW s w) w := by
  have hE := zlo hp G.E w
  have hwl := G.E.wl
  have e0 : ¬ (s.Done = true ∨ w < 1 ∨ (s.Ws.length : Int) < w) := by rw [hd]; rintro (e | e | e) <;> first | cases e | omega
  revert hE
  unfold zW
  rw [if_neg e0]
  have hi : (w - 1).toNat < s.Ws.length := by omega
  have hx := List.getElem?_eq_getElem hi
  generalize s.Ws[(w - 1).toNat] = x at hx
  rw [hx]
  dsimp only
  intro hE
  obtain ⟨a, b, el, es, hab, hba⟩ := zvp hx
  have ei : (((w - 1).toNat : Nat) : Int) + 1 = w := by omega
  have hWX := G.W _ x hx
  have hWO := G.E.W _ x hx
  rw [ei] at hWX hWO
  have X0 : SX p nb s gh (wJ x ++ (a ++ b).flatMap wJ) k := G.X.perm (by rw [el]; exact zdZ.symm)
  obtain ⟨gh', X', W', Fx, N, C, hN, hT⟩ := zxA hp hk hw X0 hWO hWX (fun o i => G.E.H.get hp o i)
  have hoth : ∀ (j : Nat) y, j ≠ (w - 1).toNat → s.Ws[j]? = some y → WX p (zw s w x).1 gh' ((j : Int) + 1) y ∧ yc (zw s w x).1 y = yc s y := by
    intro j y hj hy
    have hjl := (List.getElem?_eq_some_iff.1 hy).1
    exact WX.other hp (w := (j : Int) + 1) (by omega) X0 Fx (G.W j y hy) (G.E.W j y hy) (fun z hz => List.mem_flatMap.2 ⟨y, hba j y hj hy, hz⟩) (fun e => hj (by omega))
  have hbag : List.Perm (zhc p { (zw s w x).1 with Ws := s.Ws.set (w - 1).toNat (zw s w x).2 } gh' ++ C) (N ++ zhc p s gh) := by
    unfold zhc
    have q1 : wb p { (zw s w x).1 with Ws := s.Ws.set (w - 1).toNat (zw s w x).2 } gh' = wb p (zw s w x).1 gh' := rfl
    have q2 : (s.Ws.set (w - 1).toNat (zw s w x).2).flatMap (yc { (zw s w x).1 with Ws := s.Ws.set (w - 1).toNat (zw s w x).2 }) = (a ++ (zw s w x).2 :: b).flatMap (yc (zw s w x).1) := by
      rw [es]; exact YD (fun y _ => zrn rfl rfl)
    have q3 : (a ++ b).flatMap (yc (zw s w x).1) = (a ++ b).flatMap (yc s) := YD (fun y hy => by
      obtain ⟨j, hj, hjy⟩ := hab y hy
      exact (hoth j y hj hjy).2)
    rw [q1]
    show List.Perm (wb p (zw s w x).1 gh' ++ (s.Ws.set (w - 1).toNat (zw s w x).2).flatMap (yc { (zw s w x).1 with Ws := s.Ws.set (w - 1).toNat (zw s w x).2 }) ++ C) _
    rw [q2]
    have r1 : List.Perm (wb p (zw s w x).1 gh' ++ (a ++ (zw s w x).2 :: b).flatMap (yc (zw s w x).1) ++ C) ((a ++ b).flatMap (yc s) ++ (wb p (zw s w x).1 gh' ++ yc (zw s w x).1 (zw s w x).2 ++ C)) := by
      refine ((List.Perm.append_left _ zdZ).append_right C).trans ?_
      rw [q3, List.append_assoc, List.append_assoc, List.append_assoc]
      refine (List.perm_append_comm_assoc _ _ _).trans ?_
      refine (List.Perm.append_left _ (List.perm_append_comm_assoc _ _ _)).trans ?_
      refine (List.perm_append_comm_assoc _ _ _).trans (List.Perm.append_left _ ?_)
      exact List.perm_append_comm_assoc _ _ _
    have r2 : List.Perm (N ++ (wb p s gh ++ s.Ws.flatMap (yc s))) ((a ++ b).flatMap (yc s) ++ (N ++ (wb p s gh ++ yc s x))) := by
      conv => lhs; rw [el]
      refine (List.Perm.append_left _ (List.Perm.append_left _ zdZ)).trans ?_
      refine (List.Perm.append_left _ ?_).trans (List.perm_append_comm_assoc _ _ _)
      rw [← List.append_assoc]
      exact List.perm_append_comm
    exact r1.trans ((List.Perm.append_left _ hN).trans r2.symm)
  have fin : zf6 (zhc p { (zw s w x).1 with Ws := s.Ws.set (w - 1).toNat (zw s w x).2 } gh') (zw s w x).1.T → WG p nb (k + 1) { (zw s w x).1 with Ws := s.Ws.set (w - 1).toNat (zw s w x).2 } gh' := by
    intro hB
    refine ⟨hE, ?_, fun j y hy => ?_, hB⟩
    · refine (X'.state hE.S rfl).perm ?_
      show List.Perm ((s.Ws.set (w - 1).toNat (zw s w x).2).flatMap wJ) _
      rw [es]; exact zdZ
    · have hy : (s.Ws.set (w - 1).toNat (zw s w x).2)[j]? = some y := hy
      by_cases hj : j = (w - 1).toNat
      · subst hj
        rw [List.getElem?_set_self hi] at hy
        injection hy with hy
        rw [← hy, ei]
        exact W'.state rfl rfl
      · rw [List.getElem?_set_ne (fun e => hj e.symm)] at hy
        exact (hoth j y hj hy).1.state rfl rfl
  refine ⟨gh', ?_⟩
  rcases hT with ⟨rfl, rfl, t1⟩ | ⟨rfl, rfl, t1, t2, t3⟩ | ⟨rfl, rfl, t1, t2⟩
  · rw [List.append_nil, List.nil_append] at hbag
    refine ⟨fin ⟨?_, hbag.nodup_iff.2 G.B.nd, fun o => ?_⟩, .inl t1⟩
    · rw [t1]; exact G.B.blk
    · rw [t1, hbag.mem_iff]; exact G.B.gr o
  · have ho := ((hWX.p6 t1).1).ob
    rw [List.append_nil] at hbag
    refine ⟨fin ?_, .inr (.inl ⟨x, x.G.Obj, hx, t1, rfl, ho, (XG ho).1 t2, t3⟩)⟩
    rw [t3]
    exact G.B.more ho t2 hbag
  · rw [List.nil_append] at hbag
    obtain ⟨b1, b2, b3, b4⟩ := G.B.less hbag
    refine ⟨fin ?_, .inr (.inr ⟨x, hx, t1, b3, ?_⟩)⟩
    · rw [t2]; exact b1
    · show (zw s w x).1.T = _
      rw [t2]; unfold u6; rw [if_pos b3]
end
end Go.Pe.G
namespace Go.Pe.G
open Go.Pe
noncomputable section
theorem zik {N : Int} {nb : Nat} (hN : 0 ≤ N ∧ N < 1000) (hnb : nb < 1000) : ∀ (l : List Int) (m : List (BitVec 64)) (a : Int), (∀ x ∈ l, 1 ≤ x ∧ x < nb) → (∀ x ∈ l, a ≠ N + x) → ld (links m N l) a = ld m a
  | [], m, a, _, _ => rfl
  | [x], m, a, h, h2 => by
    have := h x (by simp)
    have := h2 x (by simp)
    rw [links, wO (by omega) (by omega)]
    exact yp (by omega)
  | x :: y :: l, m, a, h, h2 => by
    have := h x (by simp)
    have := h2 x (by simp)
    rw [links, zik hN hnb (y :: l) _ a (fun z hz => h z (List.mem_cons_of_mem _ hz)) (fun z hz => h2 z (List.mem_cons_of_mem _ hz)), wO (by omega) (by omega)]
    exact yp (by omega)
theorem zjT {N : Int} {nb : Nat} (hN : 0 ≤ N ∧ N < 1000) (hnb : nb < 1000) : ∀ (l : List Int) (m : List (BitVec 64)), (∀ x ∈ l, 1 ≤ x ∧ x < nb) → l.Nodup → N + nb ≤ m.length → Chn (links m N l) N nb (l.headD 0) l
  | [], m, _, _, _ => rfl
  | [x], m, h, _, hl => by
    have := h x (by simp)
    refine ⟨rfl, this.1, this.2, ?_⟩
    rw [links, wO (by omega) (by omega), Y9, if_pos ⟨rfl, by omega, by omega⟩]
    rfl
  | x :: y :: l, m, h, hd, hl => by
    have hx := h x (by simp)
    have hy := h y (by simp)
    have hd := List.nodup_cons.1 hd
    refine ⟨rfl, hx.1, hx.2, ?_⟩
    have ih := zjT hN hnb (y :: l) (st m (wc (N + x)) (BitVec.ofInt 64 y)) (fun z hz => h z (List.mem_cons_of_mem _ hz)) hd.2 (by rw [u0]; exact hl)
    rw [links, zik hN hnb (y :: l) _ (N + x) (fun z hz => h z (List.mem_cons_of_mem _ hz)) (fun z hz e => hd.1 (by rw [zhH e] at hz; exact hz)), wO (by omega) (by omega), Y9, if_pos ⟨rfl, by omega, by omega⟩, toInt_ofInt (by omega) (by omega)]
    rw [wO (by omega) (by omega)] at ih
    exact ih
theorem Chn.links {N : Int} {nb : Nat} (hN : 0 ≤ N ∧ N < 1000) (hnb : nb < 1000) {l r : List Int} {h : Int} {m : List (BitVec 64)} (hr : ∀ x ∈ r, 1 ≤ x ∧ x < nb) (hd : ∀ x ∈ l, x ∉ r) (c : Chn m N nb h l) : Chn (Go.Pe.G.links m N r) N nb h l := by
  induction l generalizing h with
  | nil => exact c
  | cons y l ih =>
    refine ⟨c.1, c.2.1, c.2.2.1, ?_⟩
    rw [zik hN hnb r m (N + y) hr (fun z hz e => hd y (by simp) (by rw [zhH e] at hz; exact hz))]
    exact ih (fun x hx => hd x (List.mem_cons_of_mem _ hx)) c.2.2.2
theorem zxz (k : Nat) : xe k = zj8 (k + 1) := rfl
theorem zri {l : List Int} {nb : Nat} (h : ∀ x ∈ l, 1 ≤ x ∧ x < nb) (hnb : nb < 1000) : 0 ≤ l.headD 0 ∧ l.headD 0 < 4294967296 := by
  cases l with
  | nil => exact ⟨by decide, by decide⟩
  | cons a r => have := h a (by simp); show 0 ≤ a ∧ a < 4294967296; omega
theorem ztY {p : zb} (h : zC p) : LI p (zX p + 1) (vg p).M (z7 p) (zD p) ((xe (zX p)).take (xg p).length) ((xe (zX p)).drop (xg p).length) [] ∧ yR (ld (vg p).M (z7 p)) = 0 ∧ yR (ld (vg p).M (zD p)) = 0 := by
  have hb := zfd h
  have hF := u9 h
  have hE := wm h
  have hcl := W5 p p.Workers.toNat
  have hw := h.wk
  have hc := h.cap
  have hfe : z7 p = ((p.Workers.toNat * (p.Cap.toNat + 2) : Nat) : Int) := by
    rw [hF.1]
    have e1 : p.Workers = ((p.Workers.toNat : Nat) : Int) := by omega
    have e2 : p.Cap + 2 = ((p.Cap.toNat + 2 : Nat) : Int) := by omega
    rw [e2, Int.natCast_mul]
    rw [← e1]
  have hN : 0 ≤ zD p ∧ zD p < 1000 := by omega
  have hnb : zX p + 1 < 1000 := by omega
  generalize hk : (xg p).length = k
  have t1 : ∀ x ∈ (xe (zX p)).take k, 1 ≤ x ∧ x < ((zX p + 1 : Nat) : Int) := fun x hx => by have := zbV (List.mem_of_mem_take hx); omega
  have t2 : ∀ x ∈ (xe (zX p)).drop k, 1 ≤ x ∧ x < ((zX p + 1 : Nat) : Int) := fun x hx => by have := zbV (List.mem_of_mem_drop hx); omega
  have nd : ((xe (zX p)).take k ++ (xe (zX p)).drop k).Nodup := by rw [List.take_append_drop]; exact zkM (zX p + 1)
  have nd3 := List.nodup_append.1 nd
  have eM : (vg p).M = zas (zas (ZJ p p.Workers.toNat ++ List.replicate (2 + zX p) 0#64) (z7 p) (zD p) ((xe (zX p)).take k)) (zD p) (zD p) ((xe (zX p)).drop k) := by rw [← hk]; rfl
  rw [eM]
  generalize hm0 : ZJ p p.Workers.toNat ++ List.replicate (2 + zX p) 0#64 = m0
  have l0 : zD p + ((zX p + 1 : Nat) : Int) ≤ m0.length := by
    rw [← hm0, List.length_append, hcl, List.length_replicate]; omega
  have p1 := zri t1 hnb
  have p2 := zri t2 hnb
  have v0 : ∀ n : Int, 0 ≤ n → n < 4294967296 → yR (yU 0#64 n) = 0 := fun n h1 h2 => by
    unfold yR; rw [zmx _ h1 h2]; show (0 * 4294967296 + n.toNat) / 4294967296 = 0; omega
  have c1 := zjT hN hnb _ m0 t1 nd3.1 l0
  generalize hm1 : links m0 (zD p) ((xe (zX p)).take k) = m1 at c1
  have l1 : m1.length = m0.length := by rw [← hm1, zav]
  have c1' := (c1.st_head h (a := z7 p) (v := yU 0#64 (((xe (zX p)).take k).headD 0)) (.inl rfl)).links hN hnb t2 (fun x hx hx2 => nd3.2.2 x hx x hx2 rfl)
  have c2 := zjT hN hnb _ (st m1 (z7 p) (yU 0#64 (((xe (zX p)).take k).headD 0))) t2 nd3.2.1 (by rw [u0, l1]; exact l0)
  have hd1 : ld (links (st m1 (z7 p) (yU 0#64 (((xe (zX p)).take k).headD 0))) (zD p) ((xe (zX p)).drop k)) (z7 p) = yU 0#64 (((xe (zX p)).take k).headD 0) := by
    rw [zik hN hnb _ _ _ t2 (fun x hx => by have := t2 x hx; omega), Y9, if_pos ⟨rfl, by omega, by omega⟩]
  unfold zas
  rw [hm1]
  generalize hm2 : links (st m1 (z7 p) (yU 0#64 (((xe (zX p)).take k).headD 0))) (zD p) ((xe (zX p)).drop k) = m2 at c1' c2 hd1
  have l2 : m2.length = m0.length := by rw [← hm2, zav, u0, l1]
  have g1 : ld (st m2 (zD p) (yU 0#64 (((xe (zX p)).drop k).headD 0))) (z7 p) = yU 0#64 (((xe (zX p)).take k).headD 0) := by rw [yp (by omega), hd1]
  have g2 : ld (st m2 (zD p) (yU 0#64 (((xe (zX p)).drop k).headD 0))) (zD p) = yU 0#64 (((xe (zX p)).drop k).headD 0) := by rw [Y9, if_pos ⟨rfl, by omega, by omega⟩]
  refine ⟨⟨.inl ⟨rfl, rfl⟩, ?_, ?_, ?_, by rw [u0, l2]; exact l0⟩, ?_, ?_⟩
  · rw [g1, zaG _ p1.1 p1.2]
    exact c1'.st_head h (.inr rfl)
  · rw [g2, zaG _ p2.1 p2.2]
    exact c2.st_head h (.inr rfl)
  · rw [List.append_nil, List.take_append_drop]
    exact List.Perm.refl _
  · rw [g1]; exact v0 _ p1.1 p1.2
  · rw [g2]; exact v0 _ p2.1 p2.2
end
end Go.Pe.G
namespace Go.Pe.G
open Go.Pe
noncomputable section
theorem zjr {N : Int} (hN : 0 ≤ N ∧ N < 1000) : ∀ (l : List Int) (m : List (BitVec 64)) (a : Int), (∀ x ∈ l, 1 ≤ x ∧ x < 1000) → a ≤ N → ld (links m N l) a = ld m a
  | [], m, a, _, _ => rfl
  | [x], m, a, h, h2 => by
    have := h x (by simp)
    rw [links, wO (by omega) (by omega)]
    exact yp (by omega)
  | x :: y :: l, m, a, h, h2 => by
    have := h x (by simp)
    rw [links, zjr hN (y :: l) _ a (fun z hz => h z (List.mem_cons_of_mem _ hz)) h2, wO (by omega) (by omega)]
    exact yp (by omega)
theorem zvX {p : zb} (h : zC p) {a : Int} (ha : a < z7 p) : ld (vg p).M a = ld (ZJ p p.Workers.toNat ++ List.replicate (2 + zX p) 0#64) a := by
  have hb := zfd h
  have hF := u9 h
  have hE := wm h
  have t1 : ∀ x ∈ (xe (zX p)).take (xg p).length, 1 ≤ x ∧ x < 1000 := fun x hx => by have := zbV (List.mem_of_mem_take hx); omega
  have t2 : ∀ x ∈ (xe (zX p)).drop (xg p).length, 1 ≤ x ∧ x < 1000 := fun x hx => by have := zbV (List.mem_of_mem_drop hx); omega
  show ld (zas (zas _ (z7 p) (zD p) _) (zD p) (zD p) _) a = _
  unfold zas
  rw [yp (by omega), zjr (by omega) _ _ _ t2 (by omega), yp (by omega), zjr (by omega) _ _ _ t1 (by omega)]
theorem zoH (p : zb) : ∀ (k i j : Nat), i < k → j < p.Cap.toNat + 2 → (ZJ p k)[i * (p.Cap.toNat + 2) + j]? = (zcX p.Cap)[j]?
  | 0, i, j, h, _ => by omega
  | k + 1, i, j, h, hj => by
    rw [zgS]
    have hl := W5 p k
    rcases Nat.lt_or_ge i k with h1 | h1
    · have h2 := Nat.mul_le_mul_right (p.Cap.toNat + 2) (show i + 1 ≤ k from h1)
      rw [Nat.succ_mul] at h2
      rw [List.getElem?_append_left (by omega)]
      exact zoH p k i j h1 hj
    · have : i = k := by omega
      subst this
      rw [List.getElem?_append_right (by omega), hl, show i * (p.Cap.toNat + 2) + j - i * (p.Cap.toNat + 2) = j by omega]
theorem zql {p : zb} (h : zC p) {w : Int} (hw : 1 ≤ w ∧ w ≤ p.Workers) {j : Nat} (hj : j < 2) : ld (vg p).M (zI p w + j) = 1#64 := by
  have hd := Zy h hw.1 hw.2
  have hc := h.cap
  have hl := W5 p p.Workers.toNat
  have hlt : (w - 1).toNat < p.Workers.toNat := by omega
  have e1 : (zI p w + j).toNat = (w - 1).toNat * (p.Cap.toNat + 2) + j := by
    obtain ⟨n, hn⟩ : ∃ n : Nat, w - 1 = (n : Int) := ⟨(w - 1).toNat, by omega⟩
    have e2 : p.Cap + 2 = ((p.Cap.toNat + 2 : Nat) : Int) := by omega
    rw [hd.1, hn, e2, ← Int.natCast_mul, Int.toNat_natCast]
    omega
  have h2 := Nat.mul_le_mul_right (p.Cap.toNat + 2) (show (w - 1).toNat + 1 ≤ p.Workers.toNat from hlt)
  rw [Nat.succ_mul] at h2
  rw [zvX h (by omega)]
  unfold ld
  rw [if_pos (by omega), e1, List.getD_eq_getElem?_getD, List.getElem?_append_left (by omega), zoH p _ _ _ hlt (by omega)]
  unfold zcX
  match j, hj with
  | 0, _ => rfl
  | 1, _ => rfl
theorem zkO (n : Nat) (hn : 1 ≤ n) : ∀ (f : Nat) (l : List Int), l.length ≤ f → (ui n f l).flatten = l
  | 0, l, h => by
    have : l = [] := List.length_eq_zero_iff.1 (by omega)
    subst this; simp [ui]
  | f + 1, [], _ => by simp [ui]
  | f + 1, x :: l, h => by
    have := zkO n hn f ((x :: l).drop n) (by rw [List.length_drop]; simp at h ⊢; omega)
    simp only [ui, List.flatten_cons] at this ⊢
    rw [this, List.take_append_drop]
theorem zup {α : Type} (l : List (List α)) : (List.range l.length).flatMap (fun i : Nat => (l[i]?).getD []) = l.flatten := by
  rw [List.flatMap_def]
  congr 1
  apply List.ext_getElem
  · simp
  · intro i h1 h2
    simp [List.getElem?_eq_getElem h2]
def gh0 (p : zb) : Gh := ⟨(xe (zX p)).take (xg p).length, (xe (zX p)).drop (xg p).length, fun _ => [], fun _ => 1, fun _ => 0⟩
theorem zh8 {α β : Type} {f : α → List β} : ∀ {l : List α}, (∀ x ∈ l, f x = []) → l.flatMap f = []
  | [], _ => rfl
  | a :: l, h => by rw [List.flatMap_cons, h a (by simp), zh8 (fun x hx => h x (List.mem_cons_of_mem _ hx))]; rfl
theorem zwk {p : zb} (h : zC p) : wb p (vg p) (gh0 p) = WM (vQ p) := by
  have hb := h.bin
  have hfl := zlA h
  have hbs := zfd h
  have hmost := h.most
  have hw := h.wk
  have hm := h.mt
  have e1 : wb p (vg p) (gh0 p) = ((xe (zX p)).take (xg p).length).flatMap (un (vg p)) := by
    show ((xe (zX p)).take (xg p).length).flatMap (un (vg p)) ++ (List.range p.Workers.toNat).flatMap (fun _ => ([] : List Int)) = _
    rw [zh8 (f := fun _ => ([] : List Int)) (fun _ _ => rfl), List.append_nil]
  have e2 : (xe (zX p)).take (xg p).length = (List.range (xg p).length).map (fun i : Nat => (i : Int) + 1) := by
    unfold xe
    rw [← List.map_take, List.take_range, Nat.min_eq_left (by omega)]
  rw [e1, e2, List.flatMap_map]
  have e3 : (List.range (xg p).length).flatMap (fun i : Nat => un (vg p) ((i : Int) + 1)) = (List.range (xg p).length).flatMap (fun i : Nat => ((xg p)[i]?).getD []) := by
    refine YD (fun i hi => ?_)
    have hi := List.mem_range.1 hi
    unfold un
    show (([[]] ++ xg p ++ List.replicate (zX p - (xg p).length) [])[((i : Int) + 1).toNat]?).getD [] = _
    rw [show ((i : Int) + 1).toNat = i + 1 by omega, List.append_assoc]
    show ((xg p ++ List.replicate (zX p - (xg p).length) [])[i]?).getD [] = _
    rw [List.getElem?_append_left hi]
  rw [e3, zup]
  exact zkO _ (by omega) _ _ (Nat.le_refl _)
theorem zrW (s : BitVec 64) : (WM s).Nodup := by
  unfold WM
  rw [List.Nodup, List.pairwise_map]
  exact (List.nodup_range.filter _).imp (fun h e => h (by omega))
theorem zmt {s : BitVec 64} (h : s &&& ~~~63#64 = 0#64) {j : Nat} (hs : s.getLsbD j = true) : j < 6 := by
  have hj : j < 64 := BitVec.lt_of_getLsbD hs
  have := congrArg (fun x => x.getLsbD j) h
  simp only [BitVec.getLsbD_and, BitVec.getLsbD_not, hs, hj, decide_true, Bool.true_and, BitVec.getLsbD_zero] at this
  have h63 : (63#64).getLsbD j = decide (j < 6) := by
    have : ∀ j : Fin 64, (63#64).getLsbD j.1 = decide (j.1 < 6) := by decide
    exact this ⟨j, hj⟩
  rw [h63] at this
  by_cases e : j < 6
  · exact e
  · rw [decide_eq_false e] at this; cases this
theorem zux {s : BitVec 64} (h : s &&& ~~~63#64 = 0#64) (o : Int) : o ∈ WM s ↔ yA s o = true := by
  unfold WM
  rw [xV, List.mem_map]
  constructor
  · rintro ⟨i, hi, rfl⟩
    obtain ⟨h1, h2⟩ := List.mem_filter.1 hi
    have := List.mem_range.1 h1
    exact ⟨by omega, by omega, by rw [show ((i : Int) + 1 - 1).toNat = i by omega]; exact h2⟩
  · rintro ⟨h1, h2, h3⟩
    exact ⟨(o - 1).toNat, List.mem_filter.2 ⟨List.mem_range.2 (zmt h h3), h3⟩, by omega⟩
theorem zwM {p : zb} (h : zC p) : WG p (zX p + 1) 0 (vg p) (gh0 p) := by
  have hE := zur h
  obtain ⟨L, v1, v2⟩ := ztY h
  have hc := h.cap
  have hws : ∀ x ∈ (vg p).Ws, ∃ i : Nat, x = ux p i := fun x hx => by
    obtain ⟨i, _, rfl⟩ := List.mem_map.1 (show x ∈ (List.range p.Workers.toNat).map (ux p) from hx)
    exact ⟨i, rfl⟩
  have hb : ∀ i : Nat, ux p i = Ub p ((i : Int) + 1) (ux p i) := fun i => rfl
  have own : (vg p).Ws.flatMap wJ = [] := zh8 (fun x hx => by
    obtain ⟨i, rfl⟩ := hws x hx
    exact vu (by show (0 : Int) ≠ 3; decide) (by show (0 : Int) ≠ 4; decide) (by show (0 : Int) ≠ 6; decide))
  have hold : (vg p).Ws.flatMap (yc (vg p)) = [] := zh8 (fun x hx => by
    obtain ⟨i, rfl⟩ := hws x hx
    unfold yc
    rw [hb i, ziE]; rfl)
  refine ⟨hE, ⟨hE.S, by rw [own]; exact L, fun w h1 h2 => ?_, ?_, fun w _ _ => by show 1 + 0 ≤ 0 + 1000; decide⟩, fun i x hx => ?_, ?_⟩
  · have c0 := zql h ⟨h1, h2⟩ (j := 0) (by decide)
    have c1 := zql h ⟨h1, h2⟩ (j := 1) (by decide)
    rw [show zI p w + ((0 : Nat) : Int) = zI p w by omega] at c0
    exact ⟨c0, c1, by show (0 : Nat) ≤ 1; decide, by show (1 : Nat) ≤ 1; decide, Nat.zero_le _, by show 1 + 0 < 4294967296; decide, fun i hi => absurd hi (Nat.not_lt_zero _)⟩
  · rw [v1, v2]; exact ⟨Nat.le_refl _, Nat.le_refl _⟩
  · have hx : ((List.range p.Workers.toNat).map (ux p))[i]? = some x := hx
    rw [List.getElem?_map] at hx
    cases hr : (List.range p.Workers.toNat)[i]? with
    | none => rw [hr] at hx; cases hx
    | some j =>
      rw [hr] at hx
      injection hx with hx
      obtain ⟨h1, h2⟩ := List.getElem?_eq_some_iff.1 hr
      rw [List.getElem_range] at h2
      subst h2
      rw [← hx, hb i]
      exact WX.begin rfl rfl
  · have hs := zcP h
    unfold zhc
    rw [hold, List.append_nil, zwk h]
    refine ⟨fun o ho => absurd ho (WF o), zrW _, fun o => ?_⟩
    rw [zux hs, VS]
    exact ⟨fun e => ⟨e, WF o⟩, fun e => e.1⟩
end
end Go.Pe.G
namespace Go.Pe.G
open Go.Pe
noncomputable section
def noD (base cap : Int) : zg := ⟨0, 0, base, cap, 0#64, 0#64, 0, 0⟩
def zeG (o : zg) : Prop := o.Kind = 2 ∧ o.Out = 0 ∧ (o.PC = 2 ∨ o.PC = 4 ∨ o.PC = 5 ∨ (o.PC = 3 ∧ o.T = o.B - 1#64))
instance (o : zg) : Decidable (zeG o) := by unfold zeG; infer_instance
def zgZ (m : List (BitVec 64)) (base : Int) (o : zg) : BitVec 64 := if zeG o then ld m (wc (base + 1)) + 1#64 else ld m (wc (base + 1))
def ztV (m : List (BitVec 64)) (base cap : Int) (top : BitVec 64) (n : Nat) : List Int := (List.range n).map (fun j : Nat => (ld m (ZE (noD base cap) (top + BitVec.ofNat 64 j))).toInt)
def UT (m : List (BitVec 64)) (base cap : Int) (o : zg) : List Int :=
  if ¬ 0 < (zgZ m base o - ld m base).toInt ∨ (min (Yl (noD base cap)).toNat 64) < (zgZ m base o - ld m base).toNat then []
  else ztV m base cap (ld m base) (zgZ m base o - ld m base).toNat
theorem zvW {p : zb} (h : zC p) (b : Int) : (Yl (noD b p.Cap)).toNat = p.Cap.toNat := by
  have hc := h.cap
  have hx : p.Cap = 1 ∨ p.Cap = 2 ∨ p.Cap = 3 := by omega
  unfold Yl noD
  rcases hx with e | e | e <;> simp only [e] <;> decide
theorem zr2 {a b : Nat} (h : b ≤ a) (h2 : a < 4294967296) : BitVec.ofNat 64 a - BitVec.ofNat 64 b = BitVec.ofNat 64 (a - b) := zay h (by omega)
theorem zlM {p : zb} (h : zC p) {m : List (BitVec 64)} {w : Int} {t c : Nat} {l : List Int} {o : zg} (hw : 1 ≤ w ∧ w ≤ p.Workers) (D : DQ p m w t l c) (he : zgZ m (zI p w) o = BitVec.ofNat 64 (t + l.length)) : UT m (zI p w) p.Cap o = l := by
  have hs := D.small
  have hcap := D.cap
  have hc := h.cap
  have ed : zgZ m (zI p w) o - ld m (zI p w) = BitVec.ofNat 64 l.length := by
    rw [he, D.top, zr2 (by omega) hs]; congr 1; omega
  unfold UT
  rw [ed, uE (by omega), zvW h]
  by_cases hl : l = []
  · subst hl
    rw [if_pos (.inl (by decide))]
  · have hpos : 0 < l.length := List.length_pos_iff.2 hl
    have : 0 < (BitVec.ofNat 64 l.length).toInt := by
      have := (zda (a := t + l.length) (b := t) hs (by omega)).2 (by omega)
      rw [zr2 (by omega) hs] at this
      rwa [show t + l.length - t = l.length by omega] at this
    rw [if_neg (by omega)]
    unfold ztV
    apply List.ext_getElem
    · simp
    · intro i h1 h2
      rw [List.getElem_map, List.getElem_range, D.top, zaH (by omega), zax h hw rfl rfl (by omega), D.cell i h2]
theorem zt7 {p : zb} (h : zC p) {m : List (BitVec 64)} {w : Int} {t c : Nat} {o : zg} (D : DQ p m w t [] c) (he : zgZ m (zI p w) o = BitVec.ofNat 64 (t - 1)) : UT m (zI p w) p.Cap o = [] := by
  have hs := D.small
  unfold UT
  refine if_pos (.inl (fun e => ?_))
  rw [he, D.top] at e
  have := (zda (by have : t + 0 < 4294967296 := hs; omega) (by have : t + 0 < 4294967296 := hs; omega)).1 e
  omega
theorem zmY {p : zb} (h : zC p) {w : Int} (hw : 1 ≤ w ∧ w ≤ p.Workers) : wc (zI p w + 1) = zI p w + 1 := by
  have hd := Zy h hw.1 hw.2
  have hf := u9 h
  have hc := h.cap
  exact wO (by omega) (by omega)
theorem zlC {p : zb} (h : zC p) {m : List (BitVec 64)} {w : Int} {t : Nat} {l : List Int} {o : zg} (hw : 1 ≤ w ∧ w ≤ p.Workers) (D : DQ p m w t l 0) (ho : ¬ zeG o) : UT m (zI p w) p.Cap o = l := by
  refine zlM h hw D ?_
  unfold zgZ
  rw [if_neg ho, zmY h hw, D.bot]; rfl
theorem ztM {p : zb} (h : zC p) {m : List (BitVec 64)} {w : Int} {t c : Nat} {l : List Int} {o : zg} (hw : 1 ≤ w ∧ w ≤ p.Workers) (D : DQ p m w t l c) (K : PK p m w t l c o) : UT m (zI p w) p.Cap o = l := by
  have hs := D.small
  have ht := D.t1
  have hpc := K.pc
  by_cases h1 : zeG o
  · have hc : c = 1 := by
      rcases h1.2.2 with e | e | e | ⟨e, e2⟩
      · exact K.c1 (.inl e)
      · exact K.c1 (.inr (by omega))
      · exact K.c1 (.inr (by omega))
      · exact K.c3 e e2
    subst hc
    refine zlM h hw D ?_
    unfold zgZ
    rw [if_pos h1, zmY h hw, D.bot, show (1#64 : BitVec 64) = BitVec.ofNat 64 1 from rfl, zaH (by omega)]
    congr 1; omega
  · have hn : ¬ (o.PC = 2 ∨ o.PC = 4 ∨ o.PC = 5 ∨ (o.PC = 3 ∧ o.T = o.B - 1#64)) := fun e => h1 ⟨K.kind, K.out, e⟩
    by_cases h6 : o.PC = 6
    · have hl := K.e5 (by omega)
      have hc := K.c1 (.inr (by omega))
      subst hl; subst hc
      refine zt7 h D ?_
      unfold zgZ
      rw [if_neg h1, zmY h hw, D.bot]; rfl
    · have hc : c = 0 := by
        by_cases h3 : o.PC = 3
        · exact (K.n3 h3 (fun e => hn (.inr (.inr (.inr ⟨h3, e⟩))))).1
        · exact K.c0 (by omega)
      subst hc
      exact zlC h hw D h1
def zqK (l : List Int) : List Int := l.drop (l.length - 1)
def zuT : zg := ⟨2, 2, 0, 0, 0#64, 0#64, 0, 0⟩
theorem zsI {p : zb} (h : zC p) {m : List (BitVec 64)} {w : Int} {t c : Nat} {l : List Int} {o : zg} (hw : 1 ≤ w ∧ w ≤ p.Workers) (D : DQ p m w t l c) (K : PK p m w t l c o) (h3 : o.PC = 3) (hT : o.T ≠ o.B - 1#64) :
    zqK (UT m (zI p w) p.Cap zuT) = [(ld m (ZE o (o.B - 1#64))).toInt] := by
  obtain ⟨n1, n2, n3, n4⟩ := K.n3 h3 hT
  subst n1
  have hcp := h.cap
  have eB : o.B - 1#64 = BitVec.ofNat 64 (t + l.length) := by
    rw [n2, show (1#64 : BitVec 64) = BitVec.ofNat 64 1 from rfl, zay (by omega) (by omega)]; rfl
  have D' : DQ p m w t (l ++ [(ld m (ZE o (o.B - 1#64))).toInt]) 1 := by
    refine ⟨D.top, ?_, Nat.le_refl _, D.t1, by rw [List.length_append, List.length_singleton]; omega, by rw [List.length_append, List.length_singleton]; omega, fun i hi => ?_⟩
    · rw [D.bot, List.length_append, List.length_singleton]; congr 1
    · rw [List.length_append, List.length_singleton] at hi
      by_cases hl : i < l.length
      · rw [List.getElem_append_left hl]; exact D.cell i hl
      · have : i = l.length := by omega
        subst this
        rw [List.getElem_append_right (by omega)]
        simp only [Nat.sub_self, List.getElem_cons_zero]
        rw [eB, zax h hw K.base K.size (by omega)]
  rw [zlM h hw D' ?_]
  · unfold zqK
    rw [List.length_append, List.length_singleton, Nat.add_sub_cancel, List.drop_left]
  · have hl : (l ++ [(ld m (ZE o (o.B - 1#64))).toInt]).length = l.length + 1 := by rw [List.length_append, List.length_singleton]
    unfold zgZ
    rw [if_pos (show zeG zuT from ⟨rfl, rfl, .inl rfl⟩), zmY h hw, D'.bot, hl, show (1#64 : BitVec 64) = BitVec.ofNat 64 1 from rfl, zaH (by omega)]
    congr 1
def zp1 (x : ze) : zg := if x.PC = 0 then x.D else if x.PC = 6 ∧ x.G.PC = 3 then x.G.D else ⟨0, 0, 0, 0, 0#64, 0#64, 0, 0⟩
def zsP (p : zb) (s : za) (w : Int) (x : ze) : List Int :=
  if x.PC = 0 then (if x.D.PC = 3 ∧ x.D.T ≠ x.D.B - 1#64 then zqK (UT s.M (zI p w) p.Cap zuT) else []) ++ (if x.D.PC = 6 then [x.D.X] else [])
  else if x.PC = 3 then un s x.Bin
  else if x.PC = 5 ∨ x.PC = 8 then [x.Obj]
  else if x.PC = 6 then x.Obj :: (if x.G.Out = 0 ∧ 3 ≤ x.G.PC ∧ x.G.PC ≤ 7 then [x.G.Obj] else [])
  else []
def zst (p : zb) (s : za) (w : Int) (x : ze) : List Int := x.Batch ++ zsP p s w x ++ UT s.M (zI p w) p.Cap (zp1 x)
theorem zwn {p : zb} (h : zC p) {nb k : Nat} {s : za} {gh : Gh} {own : List Int} {w : Int} {x : ze} (hw : 1 ≤ w ∧ w ≤ p.Workers) (X : SX p nb s gh own k) (W : WX p s gh w x) (O : WOk p nb w x) : zst p s w x = yc s x ++ gh.D w := by
  have D := X.D w hw.1 hw.2
  have e1 : zsP p s w x = XX s x := by
    unfold zsP XX
    by_cases p0 : x.PC = 0
    · rw [if_pos p0, if_pos p0]
      have K := W.p0 p0
      unfold Yg
      by_cases e : x.D.PC = 3 ∧ x.D.T ≠ x.D.B - 1#64
      · rw [if_pos e, if_pos e, zsI h hw D K e.1 e.2, if_neg (by omega), List.append_nil]
      · rw [if_neg e, if_neg e, List.nil_append]
    · rw [if_neg p0, if_neg p0]
      rfl
  have e2 : UT s.M (zI p w) p.Cap (zp1 x) = gh.D w := by
    unfold zp1
    by_cases p0 : x.PC = 0
    · rw [if_pos p0]; exact ztM h hw D (W.p0 p0)
    · have hc := W.c0 p0
      rw [hc] at D
      rw [if_neg p0]
      by_cases p6 : x.PC = 6 ∧ x.G.PC = 3
      · rw [if_pos p6]
        obtain ⟨G, g1, g2, g3⟩ := W.p6 p6.1
        have := (G.d3 p6.2 g3).2.2.kind
        exact zlC h hw D (fun e => by have := e.1; omega)
      · rw [if_neg p6]
        exact zlC h hw D (fun e => absurd e.1 (by show ¬ (0 : Int) = 2; decide))
  unfold zst yc
  rw [e1, e2]
end
end Go.Pe.G
namespace Go.Pe.G
open Go.Pe
noncomputable section
theorem zvx : ∀ (t : Fin 512) (k : Fin 9), BitVec.ofNat 64 t.1 ||| bit ((k.1 : Int) + 1) = BitVec.ofNat 64 t.1 ∨ cnt (BitVec.ofNat 64 t.1 ||| bit ((k.1 : Int) + 1)) = cnt (BitVec.ofNat 64 t.1) + 1 := by decide +kernel
theorem zpQ {s : BitVec 64} (h : ∀ o, yA s o = true → o ≤ 9) : ∃ t : Fin 512, s = BitVec.ofNat 64 t.1 := by
  have h2 : s = s &&& 511#64 := by
    apply BitVec.eq_of_getLsbD_eq
    intro j hj
    rw [BitVec.getLsbD_and]
    have h63 : (511#64).getLsbD j = decide (j < 9) := by
      have : ∀ j : Fin 64, (511#64).getLsbD j.1 = decide (j.1 < 9) := by decide
      exact this ⟨j, hj⟩
    rw [h63]
    cases hs : s.getLsbD j with
    | false => rfl
    | true =>
      have := h ((j : Int) + 1) ((xV _ _).2 ⟨by omega, by omega, by rw [show ((j : Int) + 1 - 1).toNat = j by omega]; exact hs⟩)
      rw [decide_eq_true (by omega : j < 9)]; rfl
  have h3 : s.toNat < 512 := by
    rw [h2, BitVec.toNat_and]
    exact Nat.lt_of_le_of_lt Nat.and_le_right (by decide)
  exact ⟨⟨s.toNat, h3⟩, by rw [BitVec.ofNat_toNat, BitVec.setWidth_eq]⟩
theorem ztB {s : BitVec 64} (h : ∀ o, yA s o = true → o ≤ 9) {o : Int} (ho : 1 ≤ o ∧ o ≤ 9) (hn : ¬ yA s o = true) : cnt (s ||| bit o) = cnt s + 1 := by
  obtain ⟨t, rfl⟩ := zpQ h
  have := zvx t ⟨(o - 1).toNat, by omega⟩
  rw [show (((o - 1).toNat : Nat) : Int) + 1 = o by omega] at this
  rcases this with e | e
  · exact absurd e ((XG ⟨ho.1, by omega⟩).2 hn)
  · exact e
theorem zp4 : ∀ (l : List Int) (s : BitVec 64) (q : Int), (∀ o ∈ l, 1 ≤ o ∧ o ≤ 64) → (yA (l.foldl (fun s o => s ||| bit o) s) q = true ↔ yA s q = true ∨ q ∈ l)
  | [], s, q, _ => by simp
  | a :: l, s, q, h => by
    rw [List.foldl_cons, zp4 l _ q (fun o ho => h o (List.mem_cons_of_mem _ ho)), Zt _ (h a (by simp)), List.mem_cons, or_assoc]
theorem zqq : ∀ (l : List Int) (s : BitVec 64), (∀ o ∈ l, 1 ≤ o ∧ o ≤ 9) → (∀ o, yA s o = true → o ≤ 9) → l.Nodup → (∀ o ∈ l, ¬ yA s o = true) → cnt (l.foldl (fun s o => s ||| bit o) s) = cnt s + (l.length : Int)
  | [], s, _, _, _, _ => by simp
  | a :: l, s, h, hs, hd, hn => by
    have ha := h a (by simp)
    have hd := List.nodup_cons.1 hd
    have ha64 : 1 ≤ a ∧ a ≤ 64 := by omega
    rw [List.foldl_cons, zqq l _ (fun o ho => h o (List.mem_cons_of_mem _ ho)) (fun o ho => ?_) hd.2 (fun o ho e => ?_), ztB hs ha (hn a (by simp)), List.length_cons]
    · omega
    · rcases (Zt _ ha64 o).1 ho with e | e
      · exact hs o e
      · omega
    · rcases (Zt _ ha64 o).1 e with e | e
      · exact hn o (List.mem_cons_of_mem _ ho) e
      · exact hd.1 (e ▸ ho)
theorem ztj : ∀ t : Fin 512, cnt (BitVec.ofNat 64 t.1) ≤ 9 := by decide +kernel
theorem zsF {s : BitVec 64} (h : ∀ o, yA s o = true → o ≤ 9) : cnt s ≤ 9 := by
  obtain ⟨t, rfl⟩ := zpQ h
  exact ztj t
theorem zqt : cnt 0#64 = 0 := by decide +kernel
theorem zvT {l : List Int} (h : ∀ o ∈ l, 1 ≤ o ∧ o ≤ 9) (hd : l.Nodup) : cnt (zbk l) = (l.length : Int) ∧ ∀ q, yA (zbk l) q = true ↔ q ∈ l := by
  refine ⟨?_, fun q => ?_⟩
  · unfold zbk
    rw [zqq l _ h (fun o e => absurd e (WF o)) hd (fun o _ => WF o), zqt, Int.zero_add]
  · unfold zbk
    rw [zp4 l _ q (fun o ho => by have := h o ho; omega)]
    exact ⟨fun e => e.resolve_left (WF q), .inr⟩
theorem zic (s : BitVec 64) {q : Int} (h : 1 ≤ q ∧ q ≤ 64) : yA (~~~s) q = true ↔ ¬ yA s q = true := by
  rw [xV, xV, BitVec.getLsbD_not]
  simp only [show (q - 1).toNat < 64 by omega, decide_true, Bool.true_and, Bool.not_eq_true']
  constructor
  · rintro ⟨_, _, e⟩ ⟨_, _, e2⟩; rw [e] at e2; cases e2
  · intro e
    refine ⟨h.1, h.2, ?_⟩
    cases hs : s.getLsbD (q - 1).toNat with
    | false => rfl
    | true => exact absurd ⟨h.1, h.2, hs⟩ e
end
end Go.Pe.G
namespace Go.Pe.G
open Go.Pe
noncomputable section
structure zlS (s : za) : Prop where
  mks : ∀ o, yA s.T.Marks o = true → o ≤ 9
  ob : ∀ (i : Nat) x, s.Ws[i]? = some x → x.PC = 6 → x.G.Obj ≤ 9
theorem HOk.get9 {p : zb} (hp : zC p) {h : zo} (H : HOk p h) (o i : Int) : xG h o i ≤ 9 := by
  have h1 := H.n
  have h2 : p.Most ≤ 9 := by have := hp.most; have := hp.n; omega
  unfold xG
  split
  · unfold zO
    rw [List.getD_eq_getElem?_getD, List.getD_eq_getElem?_getD]
    cases hx : h.Objs[(o - 1).toNat]? with
    | none => show (([] : List Int)[i.toNat]?).getD 0 ≤ 9; simp
    | some l =>
      show (l[i.toNat]?).getD 0 ≤ 9
      cases hv : l[i.toNat]? with
      | none => show (0 : Int) ≤ 9; decide
      | some v =>
        have := (H.objs l (List.mem_of_getElem? hx)).2 v (List.mem_of_getElem? hv)
        show v ≤ 9; omega
  · decide
theorem zqg (s : za) (w : Int) (x : ze) (h : (zw s w x).2.PC = 6) : (x.PC = 6 ∧ (zw s w x).2.G.Obj = x.G.Obj) ∨ (x.PC = 5 ∧ (zw s w x).2.G.Obj = xG s.H x.Obj x.Slot) := by
  revert h
  have hon : ∀ i, onW s i ≠ 6 := fun i e => by rcases zjD s i with h | h <;> omega
  have hlk : ∀ y : ze, (Yq s.P w y).PC ≠ 6 := fun y e => by unfold Yq at e; split at e <;> cases e
  unfold zw
  split
  · rename_i h0
    dsimp only
    split
    · exact fun e => by cases e
    split
    · exact fun e => absurd e (hlk _)
    · exact fun e => by have e : x.PC = 6 := e; omega
  split
  · dsimp only
    split
    · exact fun e => by cases e
    split
    · exact fun e => by cases e
    · exact fun e => by have e : x.PC = 6 := e; omega
  split
  · exact fun e => by cases e
  split
  · dsimp only
    split
    · exact fun e => by cases e
    · exact fun e => by have e : x.PC = 6 := e; omega
  split
  · rename_i h5
    dsimp only
    split
    · exact fun e => absurd e (hon _)
    · exact fun _ => .inr ⟨h5, rfl⟩
  split
  · rename_i h6
    dsimp only
    split
    · exact fun e => absurd e (hon _)
    · exact fun _ => .inl ⟨h6, (zfi s x.G).1⟩
  split
  · dsimp only
    split
    · exact fun e => by cases e
    · exact fun e => by cases e
  split
  · exact fun e => by cases e
  split
  · exact fun e => by cases e
  · exact fun e => .inl ⟨e, rfl⟩
theorem zlS.step {p : zb} (hp : zC p) {nb k : Nat} {s : za} {gh : Gh} (L : zlS s) (G : WG p nb k s gh) {w : Int} (hw : 1 ≤ w ∧ w ≤ p.Workers) (hd : s.Done = false) (T : zpw s (zW s w) w) : zlS (zW s w) := by
  have hwl := G.E.wl
  refine ⟨fun o ho => ?_, fun i y hy h6 => ?_⟩
  · rcases T with e | ⟨x, q, hx, h6, rfl, hr, hn, e⟩ | ⟨x, hx, h8, h1, e⟩
    · rw [e] at ho; exact L.mks o ho
    · rw [e] at ho
      rcases (Zt _ hr o).1 ho with e | e
      · exact L.mks o e
      · rw [e]; exact L.ob _ x hx h6
    · rw [e] at ho; exact L.mks o ho
  · have e0 : ¬ (s.Done = true ∨ w < 1 ∨ (s.Ws.length : Int) < w) := by rw [hd]; rintro (e | e | e) <;> first | cases e | omega
    have hi : (w - 1).toNat < s.Ws.length := by omega
    have hx := List.getElem?_eq_getElem hi
    generalize s.Ws[(w - 1).toNat] = x at hx
    unfold zW at hy
    rw [if_neg e0, hx] at hy
    have hy : (s.Ws.set (w - 1).toNat (zw s w x).2)[i]? = some y := hy
    by_cases hj : i = (w - 1).toNat
    · subst hj
      rw [List.getElem?_set_self hi] at hy
      injection hy with hy
      subst hy
      rcases zqg s w x h6 with ⟨a, b⟩ | ⟨a, b⟩
      · rw [b]; exact L.ob _ x hx a
      · rw [b]; exact G.E.H.get9 hp _ _
    · rw [List.getElem?_set_ne (fun e => hj e.symm)] at hy
      exact L.ob i y hy h6
theorem zvk {p : zb} (h : zC p) : zlS (vg p) := by
  refine ⟨fun o ho => ?_, fun i x hx h6 => ?_⟩
  · have hs := zcP h
    obtain ⟨a, b, c⟩ := (xV _ _).1 (show yA (vQ p) o = true from ho)
    have := zmt hs c
    omega
  · have hx := List.mem_of_getElem? hx
    obtain ⟨j, _, rfl⟩ := List.mem_map.1 (show x ∈ (List.range p.Workers.toNat).map (ux p) from hx)
    exact absurd h6 (by show ¬ (0 : Int) = 6; decide)
def znt (p : zb) (s : za) (n : Nat) : List Int := (List.range n).flatMap (fun i : Nat => (s.Ws[i]?).elim [] (zst p s ((i : Int) + 1)))
theorem zoT {α β : Type} {f g : α → List β} : ∀ (l : List α), List.Perm (l.flatMap (fun x => f x ++ g x)) (l.flatMap f ++ l.flatMap g)
  | [] => List.Perm.refl _
  | a :: l => by
    rw [List.flatMap_cons, List.flatMap_cons, List.flatMap_cons]
    refine (List.Perm.append_left _ (zoT l)).trans ?_
    simp only [List.append_assoc]
    exact List.Perm.append_left _ (List.perm_append_comm_assoc _ _ _)
theorem zte {α β : Type} {f : α → List β} (l : List α) : (List.range l.length).flatMap (fun i : Nat => (l[i]?).elim [] f) = l.flatMap f := by
  rw [List.flatMap_def, List.flatMap_def]
  congr 1
  apply List.ext_getElem
  · simp
  · intro i h1 h2
    have hi : i < l.length := by simpa using h2
    simp [List.getElem?_eq_getElem hi]
theorem zxN {p : zb} (h : zC p) {nb k : Nat} {s : za} {gh : Gh} (G : WG p nb k s gh) : List.Perm (gh.F.flatMap (un s) ++ znt p s s.Ws.length) (zhc p s gh) := by
  have hwl := G.E.wl
  have hw := h.wk
  have e : znt p s s.Ws.length = (List.range s.Ws.length).flatMap (fun i : Nat => (s.Ws[i]?).elim [] (yc s) ++ gh.D ((i : Int) + 1)) := by
    unfold znt
    refine YD (fun i hi => ?_)
    have hi := List.mem_range.1 hi
    have hx := List.getElem?_eq_getElem hi
    rw [hx]
    exact zwn h (by omega) G.X (G.W i _ hx) (G.E.W i _ hx)
  rw [e]
  unfold zhc wb
  have en : p.Workers.toNat = s.Ws.length := by omega
  rw [en, List.append_assoc]
  refine List.Perm.append_left _ ?_
  refine (zoT (List.range s.Ws.length) (f := fun i : Nat => (s.Ws[i]?).elim [] (yc s)) (g := fun i : Nat => gh.D ((i : Int) + 1))).trans ?_
  rw [zte (f := yc s) s.Ws]
  exact List.perm_append_comm
theorem zxM {p : zb} {nb k : Nat} {s : za} {gh : Gh} (G : WG p nb k s gh) (L : zlS s) {B : List Int} (h : List.Perm B (zhc p s gh)) : cnt (zbk B) = (B.length : Int) ∧ zbk B = s.T.Marks &&& ~~~s.T.Black := by
  have hm : ∀ o, o ∈ B ↔ uj s.T o = 1 := fun o => by rw [h.mem_iff]; exact G.B.gr o
  have hr : ∀ o ∈ B, 1 ≤ o ∧ o ≤ 9 := fun o ho => ⟨(zee ((hm o).1 ho)).1, L.mks o ((VS _ _).1 ((hm o).1 ho)).1⟩
  obtain ⟨e1, e2⟩ := zvT hr (h.nodup_iff.2 G.B.nd)
  refine ⟨e1, zn0 (fun o => ?_)⟩
  rw [e2, hm, VS, zct]
  constructor
  · rintro ⟨a, b⟩
    have := (xV _ _).1 a
    exact ⟨a, (zic _ ⟨this.1, this.2.1⟩).2 b⟩
  · rintro ⟨a, b⟩
    have := (xV _ _).1 a
    exact ⟨a, (zic _ ⟨this.1, this.2.1⟩).1 b⟩
end
end Go.Pe.G
namespace Go.Pe.G
open Go.Pe
noncomputable section
inductive Reach (h : zo) (R : BitVec 64) : Int → Prop
  | root (o : Int) (h1 : yA R o = true) (h2 : 1 ≤ o ∧ o ≤ (h.Objs.length : Int)) : Reach h R o
  | step (o v : Int) (h1 : Reach h R o) (h2 : v ∈ zO h o) (h3 : 1 ≤ v ∧ v ≤ (h.Objs.length : Int)) : Reach h R v
theorem Reach.in {h : zo} {R : BitVec 64} {o : Int} (r : Reach h R o) : 1 ≤ o ∧ o ≤ (h.Objs.length : Int) := by
  cases r with
  | root _ _ h2 => exact h2
  | step _ _ _ _ h3 => exact h3
theorem zmi : ∀ (n : Fin 10) (j : Fin 64), (wX (n.1 : Int)).getLsbD j.1 = decide (j.1 < n.1) := by decide +kernel
theorem ziA {n : Nat} (hn : n ≤ 9) (o : Int) : yA (wX (n : Int)) o = true ↔ 1 ≤ o ∧ o ≤ (n : Int) := by
  rw [xV]
  constructor
  · rintro ⟨a, b, c⟩
    have := zmi ⟨n, by omega⟩ ⟨(o - 1).toNat, by omega⟩
    rw [this] at c
    have : (o - 1).toNat < n := by simpa using c
    omega
  · rintro ⟨a, b⟩
    have := zmi ⟨n, by omega⟩ ⟨(o - 1).toNat, by omega⟩
    refine ⟨a, by omega, ?_⟩
    rw [this]
    exact decide_eq_true (by show (o - 1).toNat < n; omega)
theorem zsu : ∀ t : Fin 512, zis 66 (BitVec.ofNat 64 t.1) = some (((List.range 9).filter fun i => (BitVec.ofNat 64 t.1).getLsbD i).map fun i : Nat => (i : Int) + 1) := by decide +kernel
def zh6 (s : BitVec 64) : List Int := ((List.range 9).filter fun i => s.getLsbD i).map fun i : Nat => (i : Int) + 1
theorem zwi : ∀ t : Fin 512, Go.Lib.ctz 64 t.1 ≤ 64 := by decide +kernel
theorem zoY : ∀ (f : Nat) (s : BitVec 64), s.toNat < 512 → WA f s = zis f s
  | 0, _, _ => rfl
  | f + 1, s, h => by
    simp only [WA, zis]
    rw [zoY f _ (by rw [BitVec.toNat_and]; exact Nat.lt_of_le_of_lt Nat.and_le_left h)]
    have : Go.Lib.ctz 64 s.toNat ≤ 64 := zwi ⟨s.toNat, h⟩
    have e : w64 (tz s + 1) = ((Go.Lib.ctz 64 s.toNat : Nat) : Int) + 1 := by
      unfold tz
      exact yh (by omega) (by omega)
    rw [e]
theorem ztQ (s : BitVec 64) (o : Int) : o ∈ zh6 s ↔ 1 ≤ o ∧ o ≤ 9 ∧ yA s o = true := by
  unfold zh6
  rw [List.mem_map]
  constructor
  · rintro ⟨i, hi, rfl⟩
    obtain ⟨a, b⟩ := List.mem_filter.1 hi
    have a := List.mem_range.1 a
    exact ⟨by omega, by omega, (xV _ _).2 ⟨by omega, by omega, by rw [show ((i : Int) + 1 - 1).toNat = i by omega]; exact b⟩⟩
  · rintro ⟨a, b, c⟩
    obtain ⟨_, _, d⟩ := (xV _ _).1 c
    exact ⟨(o - 1).toNat, List.mem_filter.2 ⟨List.mem_range.2 (by omega), d⟩, by omega⟩
theorem zow (s : BitVec 64) : (zh6 s).length ≤ 9 := by
  unfold zh6
  rw [List.length_map]
  exact Nat.le_trans (List.length_filter_le _ _) (by simp)
theorem ztU {s : BitVec 64} (h : ∀ o, yA s o = true → o ≤ 9) : za1 s = some (zh6 s, ()) := by
  obtain ⟨t, rfl⟩ := zpQ h
  have e : zfE (BitVec.ofNat 64 t.1) = some (zh6 (BitVec.ofNat 64 t.1)) := by
    show WA 66 _ = _
    rw [zoY 66 _ (by simp; omega), zsu t]; rfl
  have := zow (BitVec.ofNat 64 t.1)
  rw [ziQ, ziT, Option.bind_some, e, Option.bind_some, zit _ _ (by simp; omega)]
  rfl
theorem zkl {α : Type} {l : List α} {n : Nat} {i : Int} (h : 0 ≤ i) (h1 : i < l.length) (h2 : i < n) : zcu l n i = some i.toNat := by
  unfold zcu; simp [h, h1, h2]
def mt (met : List Int) (o : Int) : Int := met.getD (o - 1).toNat 0
def Xc (met : List Int) : Nat := met.countP (fun x => decide (x = 0))
theorem zm5 {met : List Int} {o : Int} (h : 1 ≤ o ∧ o ≤ (met.length : Int)) : met[(o - 1).toNat]? = some (mt met o) := by
  have e := List.getElem?_eq_getElem (show (o - 1).toNat < met.length by omega)
  unfold mt
  rw [List.getD_eq_getElem?_getD, e]; rfl
theorem zfo {met : List Int} {o q x : Int} (h : 1 ≤ o ∧ o ≤ (met.length : Int)) (hq : 1 ≤ q) : mt (met.set (o - 1).toNat x) q = if q = o then x else mt met q := by
  unfold mt
  rw [List.getD_eq_getElem?_getD, List.getD_eq_getElem?_getD, List.getElem?_set]
  by_cases e : q = o
  · subst e; rw [if_pos rfl, if_pos rfl, if_pos (by omega)]; rfl
  · rw [if_neg (by omega), if_neg e]
theorem zt5 {met : List Int} {o x : Int} (h : 1 ≤ o ∧ o ≤ (met.length : Int)) (h0 : mt met o = 0) (hx : x ≠ 0) : Xc (met.set (o - 1).toNat x) + 1 = Xc met := by
  have hl : (o - 1).toNat < met.length := by omega
  have e : met[(o - 1).toNat]'hl = 0 := by
    have := zm5 h
    rw [h0, List.getElem?_eq_getElem hl] at this
    exact Option.some.inj this
  have hm : (0 : Int) ∈ met := by rw [← e]; exact List.getElem_mem hl
  have hp : 0 < Xc met := List.countP_pos_iff.2 ⟨0, hm, by simp⟩
  unfold Xc at hp ⊢
  rw [List.countP_set hl, e]
  simp [hx]
  omega
structure RI (h : zo) (R : BitVec 64) (met wait : List Int) : Prop where
  len : met.length = 64
  val : ∀ o, 1 ≤ o → 0 ≤ mt met o ∧ mt met o ≤ 100 - (Xc met : Int)
  rc : ∀ o, 1 ≤ o → 0 < mt met o → Reach h R o
  rt : ∀ o, yA R o = true → 1 ≤ o ∧ o ≤ (h.Objs.length : Int) → 0 < mt met o
  wt : ∀ o ∈ wait, (1 ≤ o ∧ o ≤ (h.Objs.length : Int)) ∧ 0 < mt met o
  cl : ∀ o, 1 ≤ o → 0 < mt met o → o ∉ wait → ∀ v ∈ zO h o, 1 ≤ v ∧ v ≤ (h.Objs.length : Int) → 0 < mt met v
  zl : Xc met ≤ 64
theorem zuK (met : List Int) : Xc met ≤ met.length := List.countP_le_length
theorem RI.add {h : zo} {R : BitVec 64} {met wait : List Int} {o v : Int} (hn : h.Objs.length ≤ 9) (I : RI h R met wait) (ho : o ∈ wait) (hv : v ∈ zO h o) (hr : 1 ≤ v ∧ v ≤ (h.Objs.length : Int)) (h0 : mt met v = 0) :
    RI h R (met.set (v - 1).toNat (mt met o + 1)) (wait ++ [v]) ∧ Xc (met.set (v - 1).toNat (mt met o + 1)) + 1 = Xc met := by
  obtain ⟨ho1, ho2⟩ := I.wt o ho
  have hlen := I.len
  have hvl : 1 ≤ v ∧ v ≤ (met.length : Int) := by omega
  have hz := zt5 (x := mt met o + 1) hvl h0 (by omega)
  have hval := I.val o ho1.1
  have hzl := I.zl
  have key : ∀ q, 1 ≤ q → 0 < mt met q → 0 < mt (met.set (v - 1).toNat (mt met o + 1)) q := fun q hq hp => by
    rw [zfo hvl hq]; split <;> omega
  refine ⟨⟨by rw [List.length_set]; exact hlen, fun q hq => ?_, fun q hq hp => ?_, fun q a b => key q b.1 (I.rt q a b), fun q hq => ?_, fun q hq hp hw u hu hur => ?_, by omega⟩, hz⟩
  · have := I.val q hq
    rw [zfo hvl hq]; split <;> omega
  · rw [zfo hvl hq] at hp
    split at hp
    · rename_i e; subst e; exact .step o q (I.rc o ho1.1 ho2) hv hr
    · exact I.rc q hq hp
  · rcases List.mem_append.1 hq with hq | hq
    · exact ⟨(I.wt q hq).1, key q (I.wt q hq).1.1 (I.wt q hq).2⟩
    · simp at hq; subst hq
      refine ⟨hr, ?_⟩
      rw [zfo hvl hr.1, if_pos rfl]; omega
  · have hw1 : q ∉ wait := fun e => hw (List.mem_append_left _ e)
    have hw2 : q ≠ v := fun e => hw (by rw [e]; simp)
    rw [zfo hvl hq, if_neg hw2] at hp
    exact key u hur.1 (I.cl q hq hp hw1 u hu hur)
theorem RI.rm {h : zo} {R : BitVec 64} {met : List Int} {o : Int} {w : List Int} (I : RI h R met (o :: w)) (hd : ∀ v ∈ zO h o, 1 ≤ v ∧ v ≤ (h.Objs.length : Int) → 0 < mt met v) : RI h R met w :=
  ⟨I.len, I.val, I.rc, I.rt, fun q hq => I.wt q (List.mem_cons_of_mem _ hq), fun q hq hp hw v hv hr => by
    by_cases e : q = o
    · rw [e] at hv; exact hd v hv hr
    · exact I.cl q hq hp (fun h => (List.mem_cons.1 h).elim e hw) v hv hr, I.zl⟩
theorem ztp {h : zo} {R : BitVec 64} (hn : h.Objs.length ≤ 9) {o : Int} {w0 : List Int} {a7 : List Int} (hs : (zO h o).length < 1000000) : ∀ (n : Nat) (met added : List Int) (i : Nat), (zO h o).length - i = n → i ≤ (zO h o).length → RI h R met (o :: w0 ++ added) → (o :: w0 ++ added).length + Xc met ≤ 200 →
    (∀ v ∈ (zO h o).take i, 1 ≤ v ∧ v ≤ (h.Objs.length : Int) → 0 < mt met v) → ∀ m, n < m →
    ∃ met' added', xr wP m (wX (h.Objs.length : Int), o, zO h o, ((zO h o).length : Int), (i : Int), h, a7, met, o :: w0 ++ added, ()) = some (.brk (wX (h.Objs.length : Int), h, a7, met', o :: w0 ++ added', ())) ∧
      RI h R met' (o :: w0 ++ added') ∧ (o :: w0 ++ added').length + Xc met' = (o :: w0 ++ added).length + Xc met ∧ Xc met' ≤ Xc met ∧ (∀ v ∈ zO h o, 1 ≤ v ∧ v ≤ (h.Objs.length : Int) → 0 < mt met' v) := by
  intro n
  induction n with
  | zero =>
    intro met added i hk hi I hz hd m hm
    obtain ⟨m, rfl⟩ : ∃ x, m = x + 1 := ⟨m - 1, by omega⟩
    have e : i = (zO h o).length := by omega
    subst e
    rw [List.take_length] at hd
    refine ⟨met, added, ?_, I, rfl, Nat.le_refl _, hd⟩
    rw [xr, ZO, zn, if_neg (by omega)]; rfl
  | succ n ih =>
    intro met added i hk hi I hz hd m hm
    obtain ⟨m, rfl⟩ : ∃ x, m = x + 1 := ⟨m - 1, by omega⟩
    have hx := List.getElem?_eq_getElem (show i < (zO h o).length by omega)
    generalize hxv : (zO h o)[i]'(by omega) = v at hx
    have hv : v ∈ zO h o := List.mem_of_getElem? hx
    have hlen := I.len
    have ho := I.wt o (by simp)
    have hval := I.val o ho.1.1
    have htk : (zO h o).take (i + 1) = (zO h o).take i ++ [v] := by rw [List.take_add_one, hx]; rfl
    rw [xr, ZO, zn, if_pos (by omega), wy hx, Option.bind_some, zkd, Option.bind_some]
    have hb := ziA hn v
    unfold yA at hb
    by_cases hr : 1 ≤ v ∧ v ≤ (h.Objs.length : Int)
    · have hb1 := hb.2 hr
      dsimp only
      rw [hb1, cond_true, yh (a := v - 1) (by omega) (by omega), zkl (by omega) (by omega) (by omega), Option.bind_some, zm5 (by omega), Option.bind_some, zn]
      by_cases h0 : mt met v = 0
      · rw [if_pos h0, yh (a := o - 1) (by omega) (by omega), zkl (by omega) (by omega) (by omega), Option.bind_some, zm5 (by omega), Option.bind_some, Option.bind_some, vJ (by rw [List.length_append]; show _ + 1 < _; omega), Option.bind_some, yh (a := (i : Int) + 1) (by omega) (by omega), yh (a := mt met o + 1) (by omega) (by omega), Option.bind_some]
        obtain ⟨I', hz'⟩ := I.add hn (by simp) hv hr h0
        dsimp only
        rw [List.append_assoc] at I' ⊢
        have hz2 : (o :: w0 ++ (added ++ [v])).length = (o :: w0 ++ added).length + 1 := by simp; omega
        obtain ⟨met', added', e1, e2, e3, e4, e5⟩ := ih (met.set (v - 1).toNat (mt met o + 1)) (added ++ [v]) (i + 1) (by omega) (by omega) I' (by omega) (fun q hq hqr => by
          rw [zfo (by omega) hqr.1]
          split
          · omega
          · rename_i hne
            rw [htk] at hq
            rcases List.mem_append.1 hq with hq | hq
            · exact hd q hq hqr
            · simp at hq; exact absurd hq hne) m (by omega)
        refine ⟨met', added', ?_, e2, by omega, by omega, e5⟩
        have : ((i + 1 : Nat) : Int) = (i : Int) + 1 := by omega
        rw [← this]
        exact e1
      · rw [if_neg h0, yh (a := (i : Int) + 1) (by omega) (by omega), Option.bind_some]
        have hp : 0 < mt met v := by have := I.val v hr.1; omega
        obtain ⟨met', added', e1, e2⟩ := ih met added (i + 1) (by omega) (by omega) I hz (fun q hq hqr => by
          rw [htk] at hq
          rcases List.mem_append.1 hq with hq | hq
          · exact hd q hq hqr
          · simp at hq; rw [hq]; exact hp) m (by omega)
        refine ⟨met', added', ?_, e2⟩
        have : ((i + 1 : Nat) : Int) = (i : Int) + 1 := by omega
        rw [← this]
        exact e1
    · have hb1 : (!(decide (wX (h.Objs.length : Int) &&& bit v = 0#64))) = false := by
        cases hc : (!(decide (wX (h.Objs.length : Int) &&& bit v = 0#64))) with
        | false => rfl
        | true => exact absurd (hb.1 hc) hr
      dsimp only
      rw [hb1, cond_false, yh (a := (i : Int) + 1) (by omega) (by omega), Option.bind_some]
      obtain ⟨met', added', e1, e2⟩ := ih met added (i + 1) (by omega) (by omega) I hz (fun q hq hqr => by
        rw [htk] at hq
        rcases List.mem_append.1 hq with hq | hq
        · exact hd q hq hqr
        · simp at hq; rw [hq] at hqr; exact absurd hqr hr) m (by omega)
      refine ⟨met', added', ?_, e2⟩
      have : ((i + 1 : Nat) : Int) = (i : Int) + 1 := by omega
      rw [← this]
      exact e1
theorem zlK {A B D : Type} {f : A → Option (yY A B D)} {x : A} {b : B} {n : Nat} (h : xr f n x = some (.brk b)) (hn : n ≤ uX) : yy f x = some (.brk b) := by
  rw [XU]
  have key : ∀ (n m : Nat) (x : A), xr f n x = some (.brk b) → n ≤ m → xr f m x = some (.brk b) := by
    intro n
    induction n with
    | zero => intro m x h; cases h
    | succ n ih =>
      intro m x h hm
      obtain ⟨m, rfl⟩ : ∃ q, m = q + 1 := ⟨m - 1, by omega⟩
      simp only [xr, Option.bind_eq_some_iff] at h ⊢
      obtain ⟨s, h1, h2⟩ := h
      refine ⟨s, h1, ?_⟩
      cases s with
      | again y => exact ih m y h2 (by omega)
      | brk b' => exact h2
      | ret c => exact h2
  exact key n uX x h hn
theorem zuF {h : zo} {R : BitVec 64} (hn : h.Objs.length ≤ 9) (hs : ∀ o, (zO h o).length < 1000000) {a7 : List Int} : ∀ (n : Nat) (met wait : List Int), wait.length + 2 * Xc met ≤ n → wait.length + Xc met ≤ 200 → RI h R met wait → ∀ m, n < m →
    ∃ met', xr uO m (wX (h.Objs.length : Int), h, a7, met, wait, ()) = some (.brk (a7, met', ())) ∧ RI h R met' [] := by
  intro n
  induction n with
  | zero =>
    intro met wait hz hz2 I m hm
    obtain ⟨m, rfl⟩ : ∃ x, m = x + 1 := ⟨m - 1, by omega⟩
    have : wait = [] := List.eq_nil_of_length_eq_zero (by omega)
    subst this
    refine ⟨met, ?_, I⟩
    rw [xr, vX, zn, if_neg (by simp)]; rfl
  | succ n ih =>
    intro met wait hz hz2 I m hm
    obtain ⟨m, rfl⟩ : ∃ x, m = x + 1 := ⟨m - 1, by omega⟩
    cases wait with
    | nil =>
      refine ⟨met, ?_, I⟩
      rw [xr, vX, zn, if_neg (by simp)]; rfl
    | cons o w =>
      have ho := (I.wt o (by simp)).1
      have hso := hs o
      have eo := List.getElem?_eq_getElem (show (o - 1).toNat < h.Objs.length by omega)
      have es : h.Objs[(o - 1).toNat]'(by omega) = zO h o := by unfold zO; rw [List.getD_eq_getElem?_getD, eo]; rfl
      obtain ⟨met', added', e1, e2, e3, e4, e5⟩ := ztp (a7 := a7) hn (o := o) (w0 := w) hso _ met [] 0 rfl (Nat.zero_le _) (by simpa using I) (by simpa using hz2) (fun v hv => by simp at hv) ((zO h o).length + 1) (by omega)
      simp only [List.append_nil, Int.natCast_zero] at e1 e3
      have e1 : xr wP ((zO h o).length + 1) (wX (h.Objs.length : Int), o, zO h o, ((zO h o).length : Int), 0, h, a7, met, o :: w, ()) = some (.brk (wX (h.Objs.length : Int), h, a7, met', o :: w ++ added', ())) := e1
      have hidx : Zh (o :: w) 0 = some 0 := by rw [Xw (by omega) (by simp)]; rfl
      rw [xr, vX, zn, if_pos (by simp), hidx, Option.bind_some]
      simp only [List.getElem?_cons_zero, Option.bind_some, zkG, Bool.not_true, cond_false]
      rw [yh (a := o - 1) (by omega) (by omega), Wz (by omega), eo, Option.bind_some, es, zlK e1 (by have : uX = 18446744073709551616 := rfl; omega)]
      dsimp only [Option.bind_some]
      rw [List.cons_append, zqZ, Option.bind_some, Option.bind_some]
      dsimp only
      rw [List.cons_append] at e2
      exact ih met' (w ++ added') (by simp at e3 hz ⊢; omega) (by simp at e3 hz2 ⊢; omega) (e2.rm e5) m (by omega)
theorem zv3 (o : Int) : mt (List.replicate 64 (0 : Int)) o = 0 := by
  unfold mt
  rw [List.getD_eq_getElem?_getD, List.getElem?_replicate]; split <;> rfl
theorem zsD {h : zo} {a1 : BitVec 64} {a5 : List Int} : ∀ (n i : Nat) (l met : List Int), l.length - i = n → i ≤ l.length → l.length < 1000000 → (∀ o ∈ l, 1 ≤ o ∧ o ≤ 9) → met.length = 64 → (∀ o, 1 ≤ o → mt met o = if o ∈ l.take i then 1 else 0) → ∀ m, n < m →
    ∃ met', xr uK m (a1, (l.length : Int), (i : Int), h, a5, met, l, ()) = some (.brk (a1, h, a5, met', l, ())) ∧ met'.length = 64 ∧ ∀ o, 1 ≤ o → mt met' o = if o ∈ l then 1 else 0 := by
  intro n
  induction n with
  | zero =>
    intro i l met hk hi hl hr hm ht m hm2
    obtain ⟨m, rfl⟩ : ∃ x, m = x + 1 := ⟨m - 1, by omega⟩
    have e : i = l.length := by omega
    subst e
    rw [List.take_length] at ht
    refine ⟨met, ?_, hm, ht⟩
    rw [xr, Ya, zn, if_neg (by omega)]; rfl
  | succ n ih =>
    intro i l met hk hi hl hr hm ht m hm2
    obtain ⟨m, rfl⟩ : ∃ x, m = x + 1 := ⟨m - 1, by omega⟩
    have hx := List.getElem?_eq_getElem (show i < l.length by omega)
    generalize hxv : l[i]'(by omega) = v at hx
    have hv := hr v (List.mem_of_getElem? hx)
    have htk : l.take (i + 1) = l.take i ++ [v] := by rw [List.take_add_one, hx]; rfl
    rw [xr, Ya, zn, if_pos (by omega), Xw (by omega) (by omega), Option.bind_some, Int.toNat_natCast, hx, Option.bind_some, yh (a := v - 1) (by omega) (by omega), zkl (by omega) (by omega) (by omega), Option.bind_some, yh (a := (i : Int) + 1) (by omega) (by omega), Option.bind_some]
    obtain ⟨met', e1, e2⟩ := ih (i + 1) l (met.set (v - 1).toNat 1) (by omega) (by omega) hl hr (by rw [List.length_set]; exact hm) (fun o ho => by
      rw [zfo (by omega) ho, ht o ho, htk]
      by_cases e : o = v
      · rw [if_pos e, if_pos (by rw [e]; simp)]
      · rw [if_neg e]
        by_cases e2 : o ∈ l.take i
        · rw [if_pos e2, if_pos (List.mem_append_left _ e2)]
        · rw [if_neg e2, if_neg (fun h => (List.mem_append.1 h).elim e2 (fun h => e (by simpa using h)))]) m (by omega)
    refine ⟨met', ?_, e2⟩
    have : ((i + 1 : Nat) : Int) = (i : Int) + 1 := by omega
    rw [← this]
    exact e1
theorem zrM {met : List Int} (hl : met.length = 64) : ∃ S, zaj met = some (S, ()) ∧ ∀ o, yA S o = true ↔ 1 ≤ o ∧ 0 < mt met o := by
  rw [zi0, zn, if_pos hl]
  have key := uq (f := VC) (fun a => ∃ (i : Nat) (S : BitVec 64), i ≤ 64 ∧ a = (S, met, (i : Int), ()) ∧ ∀ o, yA S o = true ↔ (1 ≤ o ∧ o ≤ (i : Int)) ∧ 0 < mt met o) (fun a => 64 - a.2.2.1.toNat) (fun o => ∃ S, o = .brk (S, ()) ∧ ∀ o, yA S o = true ↔ 1 ≤ o ∧ 0 < mt met o) (by
    rintro _ ⟨i, S, hi, rfl, hS⟩
    rw [zha, zn]
    by_cases c : (i : Int) < 64
    · have hx := zm5 (met := met) (o := (i : Int) + 1) (by omega)
      rw [show ((i : Int) + 1 - 1).toNat = i by omega] at hx
      rw [if_pos c, zkl (by omega) (by omega) c, Option.bind_some, Int.toNat_natCast, hx, Option.bind_some, zn, yh (a := (i : Int) + 1) (by omega) (by omega), zhf, Option.bind_some]
      by_cases hp : 0 < mt met ((i : Int) + 1)
      · rw [if_pos hp]
        refine ⟨_, rfl, ⟨i + 1, _, by omega, rfl, fun o => ?_⟩, ?_⟩
        · dsimp only
          rw [Zt _ (by omega), hS o]
          constructor
          · rintro (⟨a, b⟩ | rfl)
            · exact ⟨by omega, b⟩
            · exact ⟨by omega, hp⟩
          · rintro ⟨a, b⟩
            by_cases e : o = (i : Int) + 1
            · exact .inr e
            · exact .inl ⟨by omega, b⟩
        · show 64 - ((i : Int) + 1).toNat < 64 - (i : Int).toNat
          omega
      · rw [if_neg hp]
        refine ⟨_, rfl, ⟨i + 1, S, by omega, rfl, fun o => ?_⟩, ?_⟩
        · rw [hS o]
          constructor
          · rintro ⟨a, b⟩; exact ⟨by omega, b⟩
          · rintro ⟨a, b⟩
            by_cases e : o = (i : Int) + 1
            · rw [e] at b; exact absurd b hp
            · exact ⟨by omega, b⟩
        · show 64 - ((i : Int) + 1).toNat < 64 - (i : Int).toNat
          omega
    · rw [if_neg c]
      refine ⟨_, rfl, S, rfl, fun o => ?_⟩
      rw [hS o]
      have hi : i = 64 := by omega
      subst hi
      constructor
      · rintro ⟨a, b⟩; exact ⟨a.1, b⟩
      · rintro ⟨a, b⟩
        refine ⟨⟨a, ?_⟩, b⟩
        by_cases h : 64 < o
        · exfalso
          unfold mt at b
          rw [List.getD_eq_getElem?_getD, List.getElem?_eq_none (by omega)] at b
          exact absurd b (by show ¬ (0 : Int) < 0; decide)
        · show o ≤ 64; omega) (0#64, met, 0, ()) ⟨0, 0#64, by omega, rfl, fun o => ⟨fun e => absurd e (WF o), fun e => by have := e.1; omega⟩⟩ (by show 64 - 0 < 18446744073709551616; decide)
  obtain ⟨o, e, S, rfl, hS⟩ := key
  refine ⟨S, ?_, hS⟩
  exact congrArg (fun o => Option.bind o _) e
theorem zq0 {h : zo} (hn : h.Objs.length ≤ 9) (hs : ∀ l ∈ h.Objs, l.length < 1000000) (R : BitVec 64) : ∃ S, Ud h R = some (S, ()) ∧ ∀ o, yA S o = true ↔ Reach h R o := by
  have hso : ∀ o, (zO h o).length < 1000000 := fun o => by
    unfold zO
    rw [List.getD_eq_getElem?_getD]
    cases hx : h.Objs[(o - 1).toNat]? with
    | none => show ([] : List Int).length < _; simp
    | some l => exact hs l (List.mem_of_getElem? hx)
  have hF := fun o => ziA hn o
  have hA : ∀ o, yA (R &&& wX (h.Objs.length : Int)) o = true ↔ yA R o = true ∧ 1 ≤ o ∧ o ≤ (h.Objs.length : Int) := fun o => by rw [zct, hF]
  have h9 : ∀ o, yA (R &&& wX (h.Objs.length : Int)) o = true → o ≤ 9 := fun o e => by have := (hA o).1 e; omega
  have hw := ztQ (R &&& wX (h.Objs.length : Int))
  have hwl := zow (R &&& wX (h.Objs.length : Int))
  generalize hwd : zh6 (R &&& wX (h.Objs.length : Int)) = wait at hw hwl
  obtain ⟨met, e1, m1, m2⟩ := zsD (h := h) (a1 := wX (h.Objs.length : Int)) (a5 := List.replicate 64 (0 : Int)) wait.length 0 wait (List.replicate 64 (0 : Int)) rfl (Nat.zero_le _) (by omega) (fun o ho => by have := (hw o).1 ho; omega) (by simp) (fun o _ => by rw [zv3]; simp) (wait.length + 1) (by omega)
  have hz := zuK met
  have I : RI h R met wait := by
    refine ⟨m1, fun o ho => ?_, fun o ho hp => ?_, fun o ho hr => ?_, fun o ho => ?_, fun o ho hp hno => ?_, by omega⟩
    · rw [m2 o ho]; split <;> omega
    · rw [m2 o ho] at hp
      split at hp
      · rename_i hm
        have a := (hA o).1 ((hw o).1 hm).2.2
        exact .root o a.1 a.2
      · omega
    · rw [m2 o hr.1, if_pos ((hw o).2 ⟨hr.1, by omega, (hA o).2 ⟨ho, hr⟩⟩)]; decide
    · have a := (hA o).1 ((hw o).1 ho).2.2
      refine ⟨a.2, ?_⟩
      rw [m2 o a.2.1, if_pos ho]; decide
    · rw [m2 o ho, if_neg hno] at hp; omega
  obtain ⟨met', e2, I'⟩ := zuF (a7 := List.replicate 64 (0 : Int)) hn hso (wait.length + 2 * Xc met) met wait (Nat.le_refl _) (by omega) I (wait.length + 2 * Xc met + 1) (by omega)
  obtain ⟨S, e3, hS⟩ := zrM I'.len
  refine ⟨S, ?_, fun o => ?_⟩
  · have hrd : uX = 18446744073709551616 := rfl
    have ew : Zx h R = some (met', ()) := by
      rw [zaO, zoQ _ (by omega), Option.bind_some, ztU h9, Option.bind_some, hwd]
      refine (congrArg (fun o => Option.bind o _) (zlK e1 (by omega))).trans ?_
      rw [Option.bind_some]
      dsimp only
      refine (congrArg (fun o => Option.bind o _) (zlK e2 (by omega))).trans ?_
      rw [Option.bind_some]
      dsimp only
      rw [zn, zn, zn, if_pos I'.len, if_pos (by simp), if_pos I'.len]
    rw [zl1, ew, Option.bind_some, e3]; rfl
  · rw [hS o]
    constructor
    · rintro ⟨a, b⟩; exact I'.rc o a b
    · intro r
      induction r with
      | root o h1 h2 => exact ⟨h2.1, I'.rt o h1 h2⟩
      | step o v _ h2 h3 ih => exact ⟨h3.1, I'.cl o ih.1 ih.2 (by simp) v h2 h3⟩
def zmg (h : zo) (R : BitVec 64) : BitVec 64 := match Ud h R with | some x => x.1 | none => 0#64
theorem zsS {h : zo} (hn : h.Objs.length ≤ 9) (hs : ∀ l ∈ h.Objs, l.length < 1000000) (R : BitVec 64) : Ud h R = some (zmg h R, ()) := by
  obtain ⟨S, e, _⟩ := zq0 hn hs R
  unfold zmg
  rw [e]
theorem zuz {h : zo} (hn : h.Objs.length ≤ 9) (hs : ∀ l ∈ h.Objs, l.length < 1000000) (R : BitVec 64) (o : Int) : yA (zmg h R) o = true ↔ Reach h R o := by
  obtain ⟨S, e, h2⟩ := zq0 hn hs R
  unfold zmg
  rw [e]
  exact h2 o
end
end Go.Pe.G
namespace Go.Pe.G
open Go.Pe
noncomputable section
instance : DecidableEq zj := fun a b => if h : a.Marks = b.Marks ∧ a.Black = b.Black then isTrue (by cases a; cases b; simp_all) else isFalse (fun e => h (by rw [e]; exact ⟨rfl, rfl⟩))
theorem zkc (a b : zj) : ((decide (a.Marks = b.Marks)) && (decide (a.Black = b.Black))) = decide (a = b) := by
  rw [Bool.eq_iff_iff]
  simp only [Bool.and_eq_true, decide_eq_true_eq]
  constructor
  · rintro ⟨h1, h2⟩; cases a; cases b; simp_all
  · intro h; rw [h]; exact ⟨rfl, rfl⟩
def Zv (t : zj) (o : Int) : zj × Bool := if (wn t o).2 = true then (u6 (wn t o).1 o, decide (uj (wn t o).1 o = 1)) else (t, false)
theorem zrN (t : zj) (o : Int) : ze2 t o = some ((Zv t o).1, (Zv t o).2, ()) := by
  rw [zlY, ziv, Option.bind_some]
  unfold Zv
  dsimp only
  cases hs : (wn t o).2 with
  | false => rw [if_neg (by simp)]; rfl
  | true => rw [Bool.not_true, cond_false, zjP, if_pos rfl]; rfl
def zag (a b : zj) (o : Int) : Option (Int × Int) :=
  if (wn a o).2 = true ∧ (wn a o).1 = b then some (1, o) else if uj a o = 1 ∧ u6 a o = b then some (2, o) else if (Zv a o).2 = true ∧ (Zv a o).1 = b then some (3, o) else none
def Z3 (a b : zj) : Int × Int := if a = b then (0, 0) else ((List.range 64).findSome? fun i : Nat => zag a b ((i : Int) + 1)).getD (-1, 0)
theorem zpl (a b : zj) (i : Int) (hi : 0 ≤ i ∧ i < 64) : yy vd (i, 1, i, a, b, ()) = some (match zag a b (i + 1) with | some r => .ret (r.1, r.2, ()) | none => .brk (i, a, b, ())) := by
  have w1 : w64 (i + 1) = i + 1 := yh (by omega) (by omega)
  have s1 : vd (i, 1, i, a, b, ()) = if (wn a (i + 1)).2 = true ∧ (wn a (i + 1)).1 = b then some (.ret (1, i + 1, ())) else some (.again (i, 2, i, a, b, ())) := by
    rw [Yw]
    simp only [zn, zkc, w1]
    rw [if_pos (by decide), if_neg (by decide), if_neg (by decide), if_pos trivial, ziv, Option.bind_some, yh (a := 1 + 1) (by decide) (by decide)]
    dsimp only
    cases hs : (wn a (i + 1)).2 with
    | false => simp
    | true =>
      rw [cond_true]
      by_cases e : (wn a (i + 1)).1 = b
      · rw [if_pos e, if_pos ⟨rfl, e⟩]
      · rw [if_neg e, if_neg (fun h => e h.2)]; rfl
  have s2 : vd (i, 2, i, a, b, ()) = if uj a (i + 1) = 1 ∧ u6 a (i + 1) = b then some (.ret (2, i + 1, ())) else some (.again (i, 3, i, a, b, ())) := by
    rw [Yw]
    simp only [zn, zkc, w1]
    rw [if_pos (by decide), if_neg (by decide), if_pos trivial, zjP, Option.bind_some, yh (a := 2 + 1) (by decide) (by decide)]
    dsimp only
    rw [zn]
    by_cases h : uj a (i + 1) = 1
    · rw [if_pos h]
      by_cases e : u6 a (i + 1) = b
      · rw [if_pos e, if_pos ⟨h, e⟩]
      · rw [if_neg e, if_neg (fun h => e h.2)]; rfl
    · rw [if_neg h, if_neg (fun e => h e.1)]; rfl
  have s3 : vd (i, 3, i, a, b, ()) = if (Zv a (i + 1)).2 = true ∧ (Zv a (i + 1)).1 = b then some (.ret (3, i + 1, ())) else some (.again (i, 4, i, a, b, ())) := by
    rw [Yw]
    simp only [zn, zkc, w1]
    rw [if_pos (by decide), if_pos trivial, zrN, Option.bind_some, yh (a := 3 + 1) (by decide) (by decide)]
    dsimp only
    cases hs : (Zv a (i + 1)).2 with
    | false => simp
    | true =>
      rw [cond_true]
      by_cases e : (Zv a (i + 1)).1 = b
      · rw [if_pos e, if_pos ⟨rfl, e⟩]
      · rw [if_neg e, if_neg (fun h => e h.2)]; rfl
  have s4 : vd (i, 4, i, a, b, ()) = some (.brk (i, a, b, ())) := by
    rw [Yw, zn, if_neg (by decide)]
  rw [XU]
  show xr vd (18446744073709551612 + 1 + 1 + 1 + 1) (i, 1, i, a, b, ()) = _
  unfold zag
  rw [xr, s1]
  by_cases c1 : (wn a (i + 1)).2 = true ∧ (wn a (i + 1)).1 = b
  · rw [if_pos c1, if_pos c1]; rfl
  rw [if_neg c1, if_neg c1, Option.bind_some]
  dsimp only
  rw [xr, s2]
  by_cases c2 : uj a (i + 1) = 1 ∧ u6 a (i + 1) = b
  · rw [if_pos c2, if_pos c2]; rfl
  rw [if_neg c2, if_neg c2, Option.bind_some]
  dsimp only
  rw [xr, s3]
  by_cases c3 : (Zv a (i + 1)).2 = true ∧ (Zv a (i + 1)).1 = b
  · rw [if_pos c3, if_pos c3]; rfl
  rw [if_neg c3, if_neg c3, Option.bind_some]
  dsimp only
  rw [xr, s4]; rfl
theorem zxC (n : Nat) : ∀ k, k ≤ n → List.range' k (n - k) = (List.range n).drop k := by
  intro k hk
  rw [List.range_eq_range', List.drop_range']
  simp
theorem zqS (a b : zj) : zcn a b = some ((Z3 a b).1, (Z3 a b).2, ()) := by
  rw [zkB, zkc, zn]
  unfold Z3
  by_cases h : a = b
  · rw [if_pos h, if_pos h]
  rw [if_neg h, if_neg h]
  have key : ∀ (n k : Nat), 64 - k = n → k ≤ 64 → ∀ m, n < m → xr UR m ((k : Int), a, b, ()) = some (match (List.range' k n).findSome? fun i : Nat => zag a b ((i : Int) + 1) with | some r => .ret (r.1, r.2, ()) | none => .brk ()) := by
    intro n
    induction n with
    | zero =>
      intro k hk hk2 m hm
      obtain ⟨m, rfl⟩ : ∃ x, m = x + 1 := ⟨m - 1, by omega⟩
      rw [xr, zaX, zn, if_neg (by omega)]; rfl
    | succ n ih =>
      intro k hk hk2 m hm
      obtain ⟨m, rfl⟩ : ∃ x, m = x + 1 := ⟨m - 1, by omega⟩
      rw [xr, zaX, zn, if_pos (by omega), zpl a b (k : Int) (by omega), List.range'_succ, List.findSome?_cons]
      cases hk3 : zag a b ((k : Int) + 1) with
      | some r => rfl
      | none =>
        have := ih (k + 1) (by omega) (by omega) m (by omega)
        rw [show ((k + 1 : Nat) : Int) = (k : Int) + 1 by omega] at this
        rw [Option.bind_some]
        dsimp only
        rw [Option.bind_some]
        dsimp only
        rw [yh (a := (k : Int) + 1) (by omega) (by omega)]
        exact this
  have := key 64 0 rfl (by omega) uX (by have : uX = 18446744073709551616 := rfl; omega)
  rw [XU]
  refine (congrArg (fun o => Option.bind o _) this).trans ?_
  rw [Option.bind_some, List.range_eq_range']
  cases (List.range' 0 64).findSome? fun i : Nat => zag a b ((i : Int) + 1) <;> rfl
theorem zjm {α : Type} {f : Nat → Option α} {j : Nat} {r : α} : ∀ {l : List Nat}, j ∈ l → (∀ i ∈ l, i ≠ j → f i = none) → f j = some r → l.findSome? f = some r
  | a :: l, hj, h, hr => by
    rw [List.findSome?_cons]
    by_cases e : a = j
    · rw [e, hr]
    · rw [h a (by simp) e]
      exact zjm ((List.mem_cons.1 hj).resolve_left (fun h => e h.symm)) (fun i hi => h i (List.mem_cons_of_mem _ hi)) hr
theorem zvl {t : zj} {o : Int} (ho : 1 ≤ o ∧ o ≤ 64) (hm : ¬ yA t.Marks o = true) (hb : ¬ yA t.Black o = true) : wn t o = ({ t with Marks := t.Marks ||| bit o }, true) := by
  unfold wn
  rw [if_neg ((XG ho).2 hm), if_pos]
  unfold yA at hb
  simpa using hb
theorem zd9 {t : zj} {o : Int} (h : (wn t o).2 = true) : (wn t o).1 = { t with Marks := t.Marks ||| bit o } ∧ t.Marks ||| bit o ≠ t.Marks := by
  unfold wn at h ⊢
  split
  · rename_i e; rw [if_pos e] at h; cases h
  · rename_i e
    rw [if_neg e] at h
    split
    · exact ⟨rfl, e⟩
    · rename_i e2; rw [if_neg e2] at h; cases h
theorem zuw {m : BitVec 64} {o q : Int} (hq : ¬ (m ||| bit q = m)) (h : m ||| bit o = m ||| bit q) : o = q := by
  have hqr : 1 ≤ q ∧ q ≤ 64 := by
    rcases Classical.em (1 ≤ q ∧ q ≤ 64) with h | h
    · exact h
    · exact absurd (by unfold bit; rw [if_neg h, BitVec.or_zero]) hq
  have hor : 1 ≤ o ∧ o ≤ 64 := by
    rcases Classical.em (1 ≤ o ∧ o ≤ 64) with h2 | h2
    · exact h2
    · exact absurd (by rw [← h]; unfold bit; rw [if_neg h2, BitVec.or_zero]) hq
  have a : yA (m ||| bit o) q = true := by rw [h, Zt _ hqr]; exact .inr rfl
  rw [Zt _ hor] at a
  rcases a with a | a
  · exact absurd a ((XG hqr).1 hq)
  · exact a.symm
theorem zkQ {t : zj} {o : Int} (h : (Zv t o).2 = true) : (Zv t o).1.Black ≠ t.Black ∧ (Zv t o).1.Marks ≠ t.Marks := by
  unfold Zv at h ⊢
  by_cases hs : (wn t o).2 = true
  · rw [if_pos hs] at h ⊢
    obtain ⟨e, hne⟩ := zd9 hs
    have h1 : uj (wn t o).1 o = 1 := by simpa using h
    have hr : 1 ≤ o ∧ o ≤ 64 := by
      rcases Classical.em (1 ≤ o ∧ o ≤ 64) with h | h
      · exact h
      · exact absurd (by unfold bit; rw [if_neg h, BitVec.or_zero]) hne
    have hb := ((VS _ _).1 h1).2
    dsimp only
    unfold u6
    rw [if_pos h1]
    rw [e] at hb ⊢
    exact ⟨(XG hr).2 hb, hne⟩
  · rw [if_neg hs] at h; cases h
theorem zqN (t : zj) : Z3 t t = (0, 0) := by unfold Z3; rw [if_pos rfl]
theorem zo5 {t : zj} {o : Int} (ho : 1 ≤ o ∧ o ≤ 64) (hm : ¬ yA t.Marks o = true) (hb : ¬ yA t.Black o = true) : Z3 t { t with Marks := t.Marks ||| bit o } = (1, o) := by
  have hne := (XG ho).2 hm
  have hs := zvl ho hm hb
  unfold Z3
  rw [if_neg (fun e => hne (congrArg zj.Marks e).symm)]
  have hf : ((List.range 64).findSome? fun i : Nat => zag t ({ t with Marks := t.Marks ||| bit o }) ((i : Int) + 1)) = some (1, o) := by
    refine zjm (j := (o - 1).toNat) (List.mem_range.2 (by omega)) (fun i _ hi => ?_) ?_
    · unfold zag
      rw [if_neg, if_neg, if_neg]
      · rintro ⟨a, b⟩
        exact (zkQ a).1 (by rw [b])
      · rintro ⟨a, b⟩
        have := congrArg zj.Marks b
        unfold u6 at this
        rw [if_pos a] at this
        exact hne this.symm
      · rintro ⟨a, b⟩
        obtain ⟨c, d⟩ := zd9 a
        rw [c] at b
        have := zuw hne (congrArg zj.Marks b)
        omega
    · rw [show (((o - 1).toNat : Nat) : Int) + 1 = o by omega]
      unfold zag
      rw [if_pos ⟨by rw [hs], by rw [hs]⟩]
  rw [hf]; rfl
theorem zqY {t : zj} {o : Int} (h : uj t o = 1) (ho : 1 ≤ o ∧ o ≤ 64) : Z3 t { t with Black := t.Black ||| bit o } = (2, o) := by
  have hb := ((VS _ _).1 h).2
  have hne := (XG ho).2 hb
  unfold Z3
  rw [if_neg (fun e => hne (congrArg zj.Black e).symm)]
  have hf : ((List.range 64).findSome? fun i : Nat => zag t ({ t with Black := t.Black ||| bit o }) ((i : Int) + 1)) = some (2, o) := by
    refine zjm (j := (o - 1).toNat) (List.mem_range.2 (by omega)) (fun i _ hi => ?_) ?_
    · unfold zag
      rw [if_neg, if_neg, if_neg]
      · rintro ⟨a, b⟩
        exact (zkQ a).2 (by rw [b])
      · rintro ⟨a, b⟩
        have := congrArg zj.Black b
        unfold u6 at this
        rw [if_pos a] at this
        have := zuw hne this
        omega
      · rintro ⟨a, b⟩
        obtain ⟨c, d⟩ := zd9 a
        rw [c] at b
        exact d (congrArg zj.Marks b)
    · rw [show (((o - 1).toNat : Nat) : Int) + 1 = o by omega]
      unfold zag
      rw [if_neg, if_pos]
      · refine ⟨h, ?_⟩
        unfold u6; rw [if_pos h]
      · rintro ⟨a, b⟩
        obtain ⟨c, d⟩ := zd9 a
        rw [c] at b
        exact d (congrArg zj.Marks b)
  rw [hf]; rfl
end
end Go.Pe.G
namespace Go.Pe.G
open Go.Pe
noncomputable section
theorem zxj (s : za) (g : zA) : (zF s g).1 = { s with M := (zF s g).1.M, Bins := (zF s g).1.Bins, T := (zF s g).1.T, Work := (zF s g).1.Work, Flag := (zF s g).1.Flag } := by
  obtain ⟨m, b, t, wk, f, e, _⟩ := XN s g
  rw [e]
theorem zmr {p : zb} {nb : Nat} {s : za} {w : Int} {x : ze} (W : WOk p nb w x) : (zw s w x).1 = { s with M := (zw s w x).1.M, Bins := (zw s w x).1.Bins, T := (zw s w x).1.T, Work := (zw s w x).1.Work, L := (zw s w x).1.L } := by
  unfold zw
  split
  · rfl
  split
  · rfl
  split
  · rfl
  split
  · rfl
  split
  · rfl
  split
  · rename_i h6
    obtain ⟨g1, g2, g3, g4⟩ := W.g6 h6
    have hf := (zsf s g3 g4).2
    obtain ⟨m, b, t, wk, f, e, _⟩ := XN s x.G
    dsimp only
    rw [e] at hf ⊢
    have hf : f = s.Flag := hf
    rw [hf]
  split
  · rfl
  split
  · rfl
  split <;> rfl
theorem zo1 (s : za) (m : Int) (x : zd) : (yr s m x).1 = { s with H := (yr s m x).1.H, M := (yr s m x).1.M, Bins := (yr s m x).1.Bins, T := (yr s m x).1.T, Work := (yr s m x).1.Work, Flag := (yr s m x).1.Flag, Acks := (yr s m x).1.Acks, L := (yr s m x).1.L } := by
  have g : ∀ g : zA, (zF s g).1 = { s with H := (zF s g).1.H, M := (zF s g).1.M, Bins := (zF s g).1.Bins, T := (zF s g).1.T, Work := (zF s g).1.Work, Flag := (zF s g).1.Flag, Acks := (zF s g).1.Acks, L := (zF s g).1.L } := fun g => by
    obtain ⟨m, b, t, wk, f, e, _⟩ := XN s g
    rw [e]
  refine Z2 (motive := fun r => r.1 = { s with H := r.1.H, M := r.1.M, Bins := r.1.Bins, T := r.1.T, Work := r.1.Work, Flag := r.1.Flag, Acks := r.1.Acks, L := r.1.L }) s m x ?_ ?_ ?_ ?_ ?_ ?_ ?_ ?_ ?_ ?_ ?_ ?_ ?_ ?_ ?_ ?_ ?_ ?_ ?_ ?_
  · exact fun _ => rfl
  · exact fun _ => rfl
  · exact fun _ => rfl
  · exact fun _ => g x.G
  · exact fun _ => rfl
  · exact fun _ => rfl
  · exact fun _ => rfl
  · exact fun _ => rfl
  · exact fun _ => rfl
  · intro _
    unfold ziC
    split
    · split <;> rfl
    · rfl
  · exact fun _ => rfl
  · exact fun _ => rfl
  · exact fun _ => rfl
  · exact fun _ => rfl
  · exact fun _ => rfl
  · exact fun _ => rfl
  · exact fun _ => g x.G
  · exact fun _ => rfl
  · exact fun _ => rfl
  · rfl
theorem zxQ (s : za) (m : Int) {x : zd} (h : x.PC ≠ 2) : (yr s m x).1.Acks = s.Acks := by
  have g : ∀ g : zA, (zF s g).1.Acks = s.Acks := fun g => by
    obtain ⟨m, b, t, wk, f, e, _⟩ := XN s g
    rw [e]
  refine Z2 (motive := fun r => r.1.Acks = s.Acks) s m x ?_ ?_ ?_ ?_ ?_ ?_ ?_ ?_ ?_ ?_ ?_ ?_ ?_ ?_ ?_ ?_ ?_ ?_ ?_ ?_
  · exact fun _ => rfl
  · exact fun _ => rfl
  · exact fun c => absurd c h
  · exact fun _ => g x.G
  · exact fun _ => rfl
  · exact fun _ => rfl
  · exact fun _ => rfl
  · exact fun _ => rfl
  · exact fun _ => rfl
  · intro _
    unfold ziC
    split
    · split <;> rfl
    · rfl
  · exact fun _ => rfl
  · exact fun _ => rfl
  · exact fun _ => rfl
  · exact fun _ => rfl
  · exact fun _ => rfl
  · exact fun _ => rfl
  · exact fun _ => g x.G
  · exact fun _ => rfl
  · exact fun _ => rfl
  · rfl
def zms (s : za) (k : Int) : za := if k = 0 then zj9 s else if k ≤ (s.Ws.length : Int) then zW s k else wj s (k - s.Ws.length)
theorem zx1 {p : zb} {nb : Nat} {s : za} (h : zC p) (E : EOk p nb s) (k : Int) : EOk p nb (zms s k) := by
  unfold zms
  split
  · exact zxo h E
  split
  · exact zlo h E k
  · exact ztG h E _
theorem zlV {p : zb} {nb : Nat} {s : za} (E : EOk p nb s) (w : Int) : zW s w = { s with M := (zW s w).M, Bins := (zW s w).Bins, T := (zW s w).T, Work := (zW s w).Work, L := (zW s w).L, Ws := (zW s w).Ws } := by
  unfold zW
  split
  · rfl
  rename_i hc
  cases hx : s.Ws[(w - 1).toNat]? with
  | none => rfl
  | some x =>
    have hW := E.W _ _ hx
    rw [show (((w - 1).toNat : Nat) : Int) + 1 = w by omega] at hW
    dsimp only
    rw [zmr hW]
theorem zuE (s : za) (m : Int) : wj s m = { s with H := (wj s m).H, M := (wj s m).M, Bins := (wj s m).Bins, T := (wj s m).T, Work := (wj s m).Work, Flag := (wj s m).Flag, Acks := (wj s m).Acks, L := (wj s m).L, Ms := (wj s m).Ms } := by
  unfold wj
  split
  · rfl
  cases hx : s.Ms[(m - 1).toNat]? with
  | none => rfl
  | some x =>
    dsimp only
    rw [zo1]
structure AI (k : Int) (s : za) : Prop where
  ep : 0 ≤ s.Epoch ∧ s.Epoch ≤ k
  m : ∀ (i : Nat) x, s.Ms[i]? = some x → s.Acks.getD i 0 ≤ s.Epoch ∧ (x.PC = 2 ∨ ((x.PC = 1 ∨ x.PC = 3) ∧ x.Ret = 2) → s.Acks.getD i 0 ≤ x.Want ∧ x.Want ≤ s.Epoch) ∧ (x.PC = 2 → x.Buf = [])
def zto (s s' : za) : Prop := ∀ (i : Nat) x', s'.Ms[i]? = some x' → s.Acks.getD i 0 ≤ s'.Acks.getD i 0 ∧ s'.Acks.getD i 0 ≤ s'.Epoch ∧ (s.Acks.getD i 0 < s'.Acks.getD i 0 → x'.Buf = [])
theorem AI.same {k : Int} {s s' : za} (A : AI k s) (e1 : s'.Epoch = s.Epoch) (e2 : s'.Ms = s.Ms) (e3 : s'.Acks = s.Acks) : AI (k + 1) s' ∧ zto s s' := by
  refine ⟨⟨by rw [e1]; have := A.ep; omega, by rw [e1, e2, e3]; exact A.m⟩, fun i x hx => ?_⟩
  rw [e2] at hx
  rw [e3, e1]
  exact ⟨Int.le_refl _, (A.m i x hx).1, fun e => by omega⟩
theorem zpF {α : Type} {l : List α} {i j : Nat} {v d : α} (h : i < l.length) : (l.set i v).getD j d = if i = j then v else l.getD j d := by
  rw [List.getD_eq_getElem?_getD, List.getD_eq_getElem?_getD, List.getElem?_set]
  by_cases e : i = j
  · rw [if_pos e, if_pos e, if_pos h]; rfl
  · rw [if_neg e, if_neg e]
theorem zwN {p : zb} {nb : Nat} {k : Int} {s : za} (hp : zC p) (E : EOk p nb s) (A : AI k s) {m : Int} (hm : 1 ≤ m ∧ m ≤ (s.Ms.length : Int)) {x : zd} (hx : s.Ms[(m - 1).toNat]? = some x) :
    let y := (yr s m x).2
    let s' := (yr s m x).1
    (s.Acks.getD (m - 1).toNat 0 ≤ s'.Acks.getD (m - 1).toNat 0 ∧ s'.Acks.getD (m - 1).toNat 0 ≤ s.Epoch ∧ (s.Acks.getD (m - 1).toNat 0 < s'.Acks.getD (m - 1).toNat 0 → y.Buf = [])) ∧ (∀ j, j ≠ (m - 1).toNat → s'.Acks.getD j 0 = s.Acks.getD j 0) ∧
      (y.PC = 2 ∨ ((y.PC = 1 ∨ y.PC = 3) ∧ y.Ret = 2) → s'.Acks.getD (m - 1).toNat 0 ≤ y.Want ∧ y.Want ≤ s.Epoch) ∧ (y.PC = 2 → y.Buf = []) := by
  obtain ⟨a1, a2, a3⟩ := A.m _ _ hx
  have X := E.X _ _ hx
  rw [show (((m - 1).toNat : Nat) : Int) + 1 = m by omega] at X
  have hal := E.al
  have same : ∀ {s' : za} {y : zd}, s'.Acks = s.Acks → (y.PC = 2 ∨ ((y.PC = 1 ∨ y.PC = 3) ∧ y.Ret = 2) → s.Acks.getD (m - 1).toNat 0 ≤ y.Want ∧ y.Want ≤ s.Epoch) → (y.PC = 2 → y.Buf = []) →
      (s.Acks.getD (m - 1).toNat 0 ≤ s'.Acks.getD (m - 1).toNat 0 ∧ s'.Acks.getD (m - 1).toNat 0 ≤ s.Epoch ∧ (s.Acks.getD (m - 1).toNat 0 < s'.Acks.getD (m - 1).toNat 0 → y.Buf = [])) ∧ (∀ j, j ≠ (m - 1).toNat → s'.Acks.getD j 0 = s.Acks.getD j 0) ∧
      (y.PC = 2 ∨ ((y.PC = 1 ∨ y.PC = 3) ∧ y.Ret = 2) → s'.Acks.getD (m - 1).toNat 0 ≤ y.Want ∧ y.Want ≤ s.Epoch) ∧ (y.PC = 2 → y.Buf = []) := fun e h1 h2 => by
    rw [e]; exact ⟨⟨Int.le_refl _, a1, fun e => by omega⟩, fun _ _ => rfl, h1, h2⟩
  have far : ∀ {s' : za} {y : zd}, s'.Acks = s.Acks → (y.PC = 0 ∨ 10 ≤ y.PC) → _ := fun {s' y} e h => same (s' := s') (y := y) e (fun e => by omega) (fun e => by omega)
  have gacks : ∀ g : zA, (zF s g).1.Acks = s.Acks := fun g => by
    obtain ⟨m, b, t, wk, f, e, _⟩ := XN s g
    rw [e]
  refine Z2 (motive := fun r => (s.Acks.getD (m - 1).toNat 0 ≤ r.1.Acks.getD (m - 1).toNat 0 ∧ r.1.Acks.getD (m - 1).toNat 0 ≤ s.Epoch ∧ (s.Acks.getD (m - 1).toNat 0 < r.1.Acks.getD (m - 1).toNat 0 → r.2.Buf = [])) ∧ (∀ j, j ≠ (m - 1).toNat → r.1.Acks.getD j 0 = s.Acks.getD j 0) ∧
      (r.2.PC = 2 ∨ ((r.2.PC = 1 ∨ r.2.PC = 3) ∧ r.2.Ret = 2) → r.1.Acks.getD (m - 1).toNat 0 ≤ r.2.Want ∧ r.2.Want ≤ s.Epoch) ∧ (r.2.PC = 2 → r.2.Buf = [])) s m x ?_ ?_ ?_ ?_ ?_ ?_ ?_ ?_ ?_ ?_ ?_ ?_ ?_ ?_ ?_ ?_ ?_ ?_ ?_ ?_
  · intro c
    unfold mu0 zjz
    split
    · rename_i hlt
      exact same rfl (fun _ => ⟨Int.le_of_lt hlt, Int.le_refl _⟩) (fun e => by cases e)
    split
    · exact far rfl (.inl c)
    split
    · exact far rfl (.inr (by show (10 : Int) ≤ 10; decide))
    split
    · exact far rfl (.inr (by show (10 : Int) ≤ 20; decide))
    split
    · exact far rfl (.inr (by show (10 : Int) ≤ 30; decide))
    split <;> exact far rfl (.inl rfl)
  · intro c
    unfold mu1
    split
    · rename_i hb
      have hb : x.Buf = [] := List.eq_nil_of_length_eq_zero hb
      refine same rfl (fun e => ?_) (fun _ => hb)
      have e : x.Ret = 2 ∨ ((x.Ret = 1 ∨ x.Ret = 3) ∧ x.Ret = 2) := e
      exact a2 (.inr ⟨.inl c, by omega⟩)
    · refine same rfl (fun e => a2 (.inr ⟨.inl c, ?_⟩)) (fun e => by cases e)
      rcases e with e | e
      · cases e
      · exact e.2
  · intro c
    have hlt : (m - 1).toNat < s.Acks.length := by omega
    obtain ⟨b1, b2⟩ := a2 (.inl c)
    unfold mu2
    have e0 : (s.Acks.set (m - 1).toNat x.Want).getD (m - 1).toNat 0 = x.Want := by rw [zpF hlt, if_pos rfl]
    refine ⟨⟨by dsimp only; rw [e0]; exact b1, by dsimp only; rw [e0]; exact b2, fun _ => a3 c⟩, fun j hj => ?_, fun (e : (0 : Int) = 2 ∨ (((0 : Int) = 1 ∨ (0 : Int) = 3) ∧ x.Ret = 2)) => by omega, fun (e : (0 : Int) = 2) => by omega⟩
    dsimp only
    rw [zpF hlt, if_neg (fun e => hj e.symm)]
  · intro c
    unfold mu3
    dsimp only
    split
    · refine same (gacks _) (fun e => a2 (.inr ⟨.inr c, ?_⟩)) (fun e => by cases e)
      rcases e with e | e
      · cases e
      · exact e.2
    · refine same (gacks _) (fun e => a2 ?_) (fun e => by have e : x.PC = 2 := e; omega)
      rcases e with e | e
      · exact .inl e
      · exact .inr e
  · exact fun c => far rfl (.inl rfl)
  · intro c
    unfold zlQ
    split
    · exact far rfl (.inl rfl)
    · exact far rfl (.inr (by show (10 : Int) ≤ 21; decide))
  · intro c
    unfold zlf
    split
    · exact far rfl (.inr (by show (10 : Int) ≤ 23; decide))
    · exact far rfl (.inr (by show (10 : Int) ≤ 22; decide))
  · intro c
    unfold zk8
    split
    · refine same rfl (fun e => ?_) (fun e => by cases e)
      rcases e with e | ⟨_, e⟩ <;> cases e
    · exact far rfl (.inr (by show (10 : Int) ≤ 23; decide))
  · exact fun c => far rfl (.inl rfl)
  · intro c
    unfold ziC
    split
    · split
      · exact far rfl (.inl rfl)
      · exact far rfl (.inl rfl)
    · exact far rfl (.inr (by show (10 : Int) ≤ 31; decide))
  · intro c
    unfold zlN
    dsimp only
    split
    · exact far rfl (.inr (by show (10 : Int) ≤ 32; decide))
    · exact far rfl (.inl rfl)
  · intro c
    unfold zlq
    dsimp only
    split
    · exact far rfl (.inr (by show (10 : Int) ≤ 33; decide))
    split
    · exact far rfl (.inl rfl)
    · exact far rfl (.inr (by show 10 ≤ x.PC; omega))
  · exact fun c => far rfl (.inr (by show (10 : Int) ≤ 34; decide))
  · intro c
    unfold zlU
    dsimp only
    split
    · exact far rfl (.inr (by show (10 : Int) ≤ 35; decide))
    · exact far rfl (.inr (by show 10 ≤ x.PC; omega))
  · intro c
    unfold zlE
    dsimp only
    split
    · exact far rfl (.inl rfl)
    · exact far rfl (.inr (by show (10 : Int) ≤ 36; decide))
  · intro c
    unfold zlw
    dsimp only
    split
    · exact far rfl (.inr (by show 10 ≤ onM s (wc (x.Slot + 1)); rcases zmj s (wc (x.Slot + 1)) with e | e <;> rw [e] <;> decide))
    · exact far rfl (.inr (by show (10 : Int) ≤ 37; decide))
  · intro c
    unfold zlc
    dsimp only
    split
    · exact far (gacks _) (.inr (by show 10 ≤ onM s x.Slot; rcases zmj s x.Slot with e | e <;> rw [e] <;> decide))
    · exact far (gacks _) (.inr (by show 10 ≤ x.PC; omega))
  · exact fun c => far rfl (.inr (by show (10 : Int) ≤ 39; decide))
  · exact fun c => far rfl (.inr (by show (10 : Int) ≤ 35; decide))
  · exact same rfl a2 a3
theorem zx0 {p : zb} {nb : Nat} {k : Int} {s : za} (hp : zC p) (E : EOk p nb s) (hk : k < 1000000) (A : AI k s) (j : Int) : AI (k + 1) (zms s j) ∧ zto s (zms s j) := by
  unfold zms
  split
  · -- the detector
    have up : ∀ s' : za, s'.Epoch = s.Epoch + 1 → s'.Ms = s.Ms → s'.Acks = s.Acks → AI (k + 1) s' ∧ zto s s' := fun s' e1 e2 e3 => by
      have := A.ep
      refine ⟨⟨by omega, fun i x hx => ?_⟩, fun i x hx => ?_⟩
      · rw [e2] at hx
        obtain ⟨b1, b2, b3⟩ := A.m i x hx
        rw [e3, e1]
        exact ⟨by omega, fun e => by have := b2 e; omega, b3⟩
      · rw [e2] at hx
        have := (A.m i x hx).1
        rw [e3, e1]
        exact ⟨Int.le_refl _, by omega, fun e => by omega⟩
    have he := A.ep
    unfold zj9
    split
    · exact A.same rfl rfl rfl
    split
    · exact A.same rfl rfl rfl
    split
    · split <;> exact A.same rfl rfl rfl
    split
    · exact up _ (wO (by omega) (by omega)) rfl rfl
    split
    · split <;> exact A.same rfl rfl rfl
    split
    · split <;> exact A.same rfl rfl rfl
    split
    · split <;> exact A.same rfl rfl rfl
    split <;> exact A.same rfl rfl rfl
  split
  · rw [zlV E]
    exact A.same rfl rfl rfl
  · generalize j - (s.Ws.length : Int) = m
    unfold wj
    split
    · exact A.same rfl rfl rfl
    rename_i hc
    cases hx : s.Ms[(m - 1).toNat]? with
    | none => exact A.same rfl rfl rfl
    | some x =>
      have hm : 1 ≤ m ∧ m ≤ (s.Ms.length : Int) := by
        constructor
        · exact Int.not_lt.1 (fun e => hc (.inr (.inl e)))
        · exact Int.not_lt.1 (fun e => hc (.inr (.inr e)))
      obtain ⟨b1, b2, b3, b4⟩ := zwN hp E A hm hx
      have hE : (yr s m x).1.Epoch = s.Epoch := by rw [zo1]
      have he := A.ep
      have hl := (List.getElem?_eq_some_iff.1 hx).1
      refine ⟨⟨by show 0 ≤ (yr s m x).1.Epoch ∧ _; rw [hE]; omega, fun i y hy => ?_⟩, fun i y hy => ?_⟩
      · show (yr s m x).1.Acks.getD i 0 ≤ (yr s m x).1.Epoch ∧ (_ → (yr s m x).1.Acks.getD i 0 ≤ y.Want ∧ y.Want ≤ (yr s m x).1.Epoch) ∧ _
        rw [hE]
        have hy : (s.Ms.set (m - 1).toNat (yr s m x).2)[i]? = some y := hy
        by_cases hi : i = (m - 1).toNat
        · subst hi
          rw [List.getElem?_set_self hl] at hy
          injection hy with hy
          subst hy
          exact ⟨b1.2.1, b3, b4⟩
        · rw [List.getElem?_set_ne (fun e => hi e.symm)] at hy
          rw [b2 i hi]
          exact A.m i y hy
      · show s.Acks.getD i 0 ≤ (yr s m x).1.Acks.getD i 0 ∧ (yr s m x).1.Acks.getD i 0 ≤ (yr s m x).1.Epoch ∧ _
        rw [hE]
        have hy : (s.Ms.set (m - 1).toNat (yr s m x).2)[i]? = some y := hy
        by_cases hi : i = (m - 1).toNat
        · subst hi
          rw [List.getElem?_set_self hl] at hy
          injection hy with hy
          subst hy
          exact b1
        · rw [List.getElem?_set_ne (fun e => hi e.symm)] at hy
          show _ ∧ _ ∧ (s.Acks.getD i 0 < (yr s m x).1.Acks.getD i 0 → _)
          rw [b2 i hi]
          exact ⟨Int.le_refl _, (A.m i y hy).1, fun e => by omega⟩
theorem zx4 (p : zb) : AI 0 (vg p) := by
  refine ⟨⟨Int.le_refl _, Int.le_refl _⟩, fun i x hx => ?_⟩
  have e : (vg p).Acks.getD i 0 = 0 := by
    show (List.replicate p.Mutators.toNat (0 : Int)).getD i 0 = 0
    rw [List.getD_eq_getElem?_getD, List.getElem?_replicate]; split <;> rfl
  have hx : (p.Regs.map vD)[i]? = some x := hx
  rw [List.getElem?_map] at hx
  cases hr : p.Regs[i]? with
  | none => rw [hr] at hx; cases hx
  | some r =>
    rw [hr] at hx
    injection hx with hx
    subst hx
    rw [e]
    refine ⟨Int.le_refl _, fun e => ?_, fun e => ?_⟩
    · simp [vD] at e
    · simp [vD] at e
end
end Go.Pe.G
namespace Go.Pe.G
open Go.Pe
noncomputable section
theorem zoA (a b : BitVec 64) : a &&& ~~~b = 0#64 ↔ ∀ o, yA a o = true → yA b o = true := by
  constructor
  · intro h o ho
    have hr := (xV _ _).1 ho
    refine Classical.byContradiction (fun hb => ?_)
    have : yA (a &&& ~~~b) o = true := (zct _ _ _).2 ⟨ho, (zic b ⟨hr.1, hr.2.1⟩).2 hb⟩
    rw [h] at this
    exact WF o this
  · intro h
    refine zn0 (fun o => ⟨fun e => ?_, fun e => absurd e (WF o)⟩)
    obtain ⟨e1, e2⟩ := (zct _ _ _).1 e
    have hr := (xV _ _).1 e1
    exact absurd (h o e1) ((zic b ⟨hr.1, hr.2.1⟩).1 e2)
theorem zv2 (s : BitVec 64) : 0 ≤ cnt s := by
  unfold cnt
  rw [BitVec.toInt_eq_toNat_cond, BitVec.toNat_and]
  have h1 : (BitVec.ofInt 64 (zvN s).toInt).toNat &&& (BitVec.ofInt 64 127).toNat ≤ (BitVec.ofInt 64 127).toNat := Nat.and_le_right
  have h2 : (BitVec.ofInt 64 127).toNat = 127 := by decide
  split <;> omega
def ztf (p : zb) : BitVec 64 := zmg p.H (vQ p)
theorem zC.heap9 {p : zb} (h : zC p) : p.H.Objs.length ≤ 9 ∧ ∀ l ∈ p.H.Objs, l.length < 1000000 := by
  have := h.n
  have := h.slots
  exact ⟨by omega, fun l hl => by have := (h.objs l hl).1; omega⟩
theorem zuk {p : zb} (h : zC p) : zgN p = some (ztf p, ()) := by
  have hr := h.regs
  have hm := h.mt
  rw [zok, zmG (by omega) (fun r hr => by have := (h.reg r hr).1; omega), Option.bind_some, zsS h.heap9.1 h.heap9.2]; rfl
theorem zuQ {p : zb} (h : zC p) (o : Int) : yA (ztf p) o = true ↔ Reach p.H (vQ p) o := zuz h.heap9.1 h.heap9.2 _ o
theorem zwt {h : zo} (hv : ∀ l ∈ h.Objs, ∀ v ∈ l, 0 ≤ v ∧ v ≤ (h.Objs.length : Int)) {o i : Int} (hne : xG h o i ≠ 0) : xG h o i ∈ zO h o ∧ 1 ≤ xG h o i ∧ xG h o i ≤ (h.Objs.length : Int) := by
  unfold xG at hne ⊢
  split
  · rename_i hs
    rw [if_pos hs] at hne
    unfold Ui at hs
    simp only [Bool.and_eq_true, decide_eq_true_eq] at hs
    obtain ⟨⟨⟨h1, h2⟩, h3⟩, h4⟩ := hs
    have eo := List.getElem?_eq_getElem (show (o - 1).toNat < h.Objs.length by omega)
    have es : zO h o = h.Objs[(o - 1).toNat]'(by omega) := by unfold zO; rw [List.getD_eq_getElem?_getD, eo]; rfl
    have ei := List.getElem?_eq_getElem (show i.toNat < (zO h o).length by omega)
    have eg : (zO h o).getD i.toNat 0 = (zO h o)[i.toNat]'(by omega) := by rw [List.getD_eq_getElem?_getD, ei]; rfl
    rw [eg] at hne ⊢
    have hm : (zO h o)[i.toNat]'(by omega) ∈ zO h o := List.getElem_mem _
    have := hv _ (by rw [es]; exact List.getElem_mem _) _ hm
    exact ⟨hm, by omega, this.2⟩
  · rename_i hs; rw [if_neg hs] at hne; exact absurd rfl hne
theorem zwH (s : za) (w : Int) (x : ze) : (zw s w x).1.L = if x.PC = 8 then zcG s.L 0 else s.L := by
  by_cases h8 : x.PC = 8
  · rw [if_pos h8]
    unfold zw
    rw [if_neg (by omega), if_neg (by omega), if_neg (by omega), if_neg (by omega), if_neg (by omega), if_neg (by omega), if_neg (by omega), if_pos h8]
  · rw [if_neg h8]
    unfold zw
    split
    · rfl
    split
    · rfl
    split
    · rfl
    split
    · rfl
    split
    · rfl
    split
    · obtain ⟨m, b, t, wk, f, e, _⟩ := XN s x.G
      dsimp only
      rw [e]
    split
    · rfl
    split <;> rfl
theorem zwr (s : za) (w : Int) {x : ze} (h : x.PC = 8) : (zw s w x).1.T = u6 s.T x.Obj := by
  unfold zw
  rw [if_neg (by omega), if_neg (by omega), if_neg (by omega), if_neg (by omega), if_neg (by omega), if_neg (by omega), if_neg (by omega), if_pos h]
structure WD (p : zb) (s : za) : Prop where
  H : s.H = p.H
  lv : ∀ o, yA s.T.Marks o = true → Reach p.H (vQ p) o
  gob : ∀ (i : Nat) x, s.Ws[i]? = some x → x.PC = 6 → Reach p.H (vQ p) x.G.Obj
  sc : s.L.Scanned = cnt s.T.Black ∧ s.L.Pool = s.L.Scanned
  rest : s.Flag = false ∧ s.Done = false ∧ s.Epoch = 0 ∧ s.L.Spent = 0
theorem zwD {p : zb} (h : zC p) : WD p (vg p) := by
  refine ⟨rfl, fun o ho => ?_, fun i x hx h6 => ?_, ?_, rfl, rfl, rfl, rfl⟩
  · have ho : yA (vQ p) o = true := ho
    refine .root o ho ?_
    have hr := (xV _ _).1 ho
    have hn := h.n
    have := (ziA (n := p.H.Objs.length) (by omega) o).1 (((zoA _ _).1 (zgE h)) o ho)
    exact this
  · have hx := List.mem_of_getElem? hx
    obtain ⟨j, _, rfl⟩ := List.mem_map.1 (show x ∈ (List.range p.Workers.toNat).map (ux p) from hx)
    exact absurd h6 (by show ¬ (0 : Int) = 6; decide)
  · exact ⟨zqt.symm, rfl⟩
theorem zlX {p : zb} {s : za} {gh : Gh} {i : Nat} {x : ze} (hx : s.Ws[i]? = some x) {o : Int} (ho : o ∈ yc s x) : o ∈ zhc p s gh :=
  List.mem_append_right _ (List.mem_flatMap.2 ⟨x, List.mem_of_getElem? hx, ho⟩)
theorem zqC {s : za} {x : ze} (h : x.PC = 5 ∨ x.PC = 6 ∨ x.PC = 8) : x.Obj ∈ yc s x := by
  unfold yc XX
  refine List.mem_append_right _ ?_
  rw [if_neg (by omega), if_neg (by omega)]
  by_cases h6 : x.PC = 6
  · rw [if_neg (by omega), if_pos h6]; simp
  · rw [if_pos (by omega)]; simp
theorem WD.step {p : zb} (hp : zC p) {nb k : Nat} {s : za} {gh : Gh} (D : WD p s) (G : WG p nb k s gh) (L : zlS s) {w : Int} (hw : 1 ≤ w ∧ w ≤ p.Workers) (T : zpw s (zW s w) w) : WD p (zW s w) := by
  have hwl := G.E.wl
  have hd := D.rest.2.1
  have e0 : ¬ (s.Done = true ∨ w < 1 ∨ (s.Ws.length : Int) < w) := by rw [hd]; rintro (e | e | e) <;> first | cases e | omega
  have hi : (w - 1).toNat < s.Ws.length := by omega
  have hx := List.getElem?_eq_getElem hi
  generalize s.Ws[(w - 1).toNat] = x at hx
  have hWO := G.E.W _ _ hx
  rw [show (((w - 1).toNat : Nat) : Int) + 1 = w by omega] at hWO
  have eS : zW s w = { (zw s w x).1 with Ws := s.Ws.set (w - 1).toNat (zw s w x).2 } := by
    unfold zW
    rw [if_neg e0, hx]
  have live_obj : (x.PC = 5 ∨ x.PC = 6 ∨ x.PC = 8) → Reach p.H (vQ p) x.Obj := fun h => D.lv _ ((VS _ _).1 ((G.B.gr _).1 (zlX hx (zqC h)))).1
  have fr := zmr (s := s) hWO
  have eL := zwH s w x
  refine ⟨?_, fun o ho => ?_, fun i y hy h6 => ?_, ?_, ?_⟩
  · rw [eS]; show (zw s w x).1.H = _; rw [fr]; exact D.H
  · rcases T with e | ⟨y, q, hy, h6, rfl, hr, hn, e⟩ | ⟨y, hy, h8, h1, e⟩
    · rw [e] at ho; exact D.lv o ho
    · rw [e] at ho
      rcases (Zt _ hr o).1 ho with e | e
      · exact D.lv o e
      · rw [e]; exact D.gob _ y hy h6
    · rw [e] at ho; exact D.lv o ho
  · rw [eS] at hy
    have hy : (s.Ws.set (w - 1).toNat (zw s w x).2)[i]? = some y := hy
    by_cases hj : i = (w - 1).toNat
    · subst hj
      rw [List.getElem?_set_self hi] at hy
      injection hy with hy
      subst hy
      rcases zqg s w x h6 with ⟨a, b⟩ | ⟨a, b⟩
      · rw [b]; exact D.gob _ x hx a
      · rw [b, D.H]
        have hne : xG p.H x.Obj x.Slot ≠ 0 := fun e => by
          revert h6
          unfold zw
          rw [if_neg (by omega), if_neg (by omega), if_neg (by omega), if_neg (by omega), if_pos a]
          dsimp only
          rw [D.H, if_pos e]
          unfold onW
          split <;> (intro h; cases h)
        have hs := zwt (fun l hl => (hp.objs l hl).2) hne
        exact .step _ _ (live_obj (.inl a)) hs.1 hs.2
    · rw [List.getElem?_set_ne (fun e => hj e.symm)] at hy
      exact D.gob i y hy h6
  · have eL2 : (zW s w).L = if x.PC = 8 then zcG s.L 0 else s.L := by rw [eS]; exact eL
    have eT2 : (zW s w).T = (zw s w x).1.T := by rw [eS]
    by_cases h8 : x.PC = 8
    · have h1 := (G.B.gr _).1 (zlX (p := p) (gh := gh) hx (zqC (.inr (.inr h8))))
      have hr := zee h1
      have hb := (VS _ _).1 h1
      have h9 : ∀ o, yA s.T.Black o = true → o ≤ 9 := fun o e => L.mks o (G.B.blk o e)
      have hc := zsF h9
      rw [eL2, if_pos h8, eT2, zwr s w h8]
      unfold u6 zcG
      rw [if_pos h1, if_neg (by omega)]
      dsimp only
      rw [ztB h9 ⟨hr.1, L.mks _ hb.1⟩ hb.2, D.sc.2, D.sc.1]
      have hn : 0 ≤ cnt s.T.Black := zv2 _
      exact ⟨wO (by omega) (by omega), rfl⟩
    · have : (zW s w).T.Black = s.T.Black := by
        rcases T with e | ⟨y, q, hy, h6, rfl, hr, hn, e⟩ | ⟨y, hy, h8', h1, e⟩
        · rw [e]
        · rw [e]
        · rw [hx] at hy; injection hy with hy; subst hy; exact absurd h8' h8
      rw [eL2, if_neg h8, this]
      exact D.sc
  · rw [eS]
    have e1 : (zw s w x).1.L.Spent = s.L.Spent := by
      rw [eL]
      split
      · unfold zcG; split <;> rfl
      · rfl
    show (zw s w x).1.Flag = false ∧ (zw s w x).1.Done = false ∧ (zw s w x).1.Epoch = 0 ∧ (zw s w x).1.L.Spent = 0
    rw [e1, fr]
    exact D.rest
end
end Go.Pe.G
namespace Go.Pe.G
open Go.Pe
noncomputable section
namespace B15
def zmd (w : Int) (n : Nat) (s : za) : za := goF (fun _ s => zW s w) 0 n s
theorem zuV {p : zb} {nb : Nat} (h : zC p) {s : za} (E : EOk p nb s) (w : Int) {n : Nat} (hn : n < 1000000) : wK s w (n : Int) = some (zmd w n s, ()) := by
  have e := zwm (f := uC) (fun i s => (w, (n : Int), i, s, 0, 0, 0, 0, 0, 0, 0, 0, 0, 0#64, 0, zj.mk 0#64 0#64, 0, 0, false, false, 0, 0, 0, 0, zr.mk 0 0, ([] : List (List Int)), ([] : List (List Int)), ([] : List (List zi)), ([] : List zk), ([] : List (List Int)), ([] : List (BitVec 64)), ([] : List (List Int)), ([] : List Int), ([] : List Int), ([] : List ze), ([] : List zd), ())) (fun s => (s, 0, 0, 0, 0, 0, 0, 0, 0, 0, 0#64, 0, zj.mk 0#64 0#64, 0, 0, false, false, 0, 0, 0, 0, zr.mk 0 0, ([] : List (List Int)), ([] : List (List Int)), ([] : List (List zi)), ([] : List zk), ([] : List (List Int)), ([] : List (BitVec 64)), ([] : List (List Int)), ([] : List Int), ([] : List Int), ([] : List ze), ([] : List zd), ())) n hn (fun _ s => zW s w) (EOk p nb) (fun _ s E => zlo h E w)
    (fun i s hi E => by
      show uC (w, (n : Int), (i : Int), s, 0, 0, 0, 0, 0, 0, 0, 0, 0, 0#64, 0, zj.mk 0#64 0#64, 0, 0, false, false, 0, 0, 0, 0, zr.mk 0 0, ([] : List (List Int)), ([] : List (List Int)), ([] : List (List zi)), ([] : List zk), ([] : List (List Int)), ([] : List (BitVec 64)), ([] : List (List Int)), ([] : List Int), ([] : List Int), ([] : List ze), ([] : List zd), ()) = _
      rw [VY, zn, if_pos (by omega), zgD h E, Option.bind_some, xM (by omega)])
    (fun s E => by
      show uC (w, (n : Int), (n : Int), s, 0, 0, 0, 0, 0, 0, 0, 0, 0, 0#64, 0, zj.mk 0#64 0#64, 0, 0, false, false, 0, 0, 0, 0, zr.mk 0 0, ([] : List (List Int)), ([] : List (List Int)), ([] : List (List zi)), ([] : List zk), ([] : List (List Int)), ([] : List (BitVec 64)), ([] : List (List Int)), ([] : List Int), ([] : List Int), ([] : List ze), ([] : List zd), ()) = _
      rw [VY, zn, if_neg (by omega)]) E
  rw [zhq]
  exact congrArg (fun o => Option.bind o _) e
def zxU (ord : List (BitVec 8)) (i : Nat) (s : za) : Int := 1 + ((ord.getD i 0#8).toNat : Int).tmod (s.Ws.length : Int)
def zx3 (ord : List (BitVec 8)) (n : Nat) (s : za) : za := goF (fun i s => zW s (zxU ord i s)) 0 n s
theorem zw0 {p : zb} {nb : Nat} (h : zC p) {s : za} (E : EOk p nb s) (b : BitVec 8) : w64 (1 + (b.toNat : Int).tmod (s.Ws.length : Int)) = 1 + (b.toNat : Int).tmod (s.Ws.length : Int) ∧ 1 ≤ 1 + (b.toNat : Int).tmod (s.Ws.length : Int) ∧ 1 + (b.toNat : Int).tmod (s.Ws.length : Int) ≤ (s.Ws.length : Int) := by
  have hw := h.wk
  have hl := E.wl
  have := vb (show (0 : Int) ≤ (b.toNat : Int) by omega) (show (0 : Int) < (s.Ws.length : Int) by omega)
  exact ⟨yh (by omega) (by omega), by omega, by omega⟩
theorem zuU {A B D : Type} {f : A → Option (yY A B D)} {x : A} {b : B} (h : f x = some (.brk b)) : yy f x = some (.brk b) := by
  rw [XU]
  show xr f (18446744073709551615 + 1) x = _
  rw [xr, h]; rfl
def Vh : zb := ⟨1, 0, 2, 1, 1, 4, 2, 2, ⟨1, [[2], [0], [0]]⟩, 1#64, [], [], []⟩
theorem zuS : Uc [] = some (Vh, ()) := by
  rw [zhA, zuU (by rw [zfb]; rfl)]; rfl
theorem zbu : zC Vh := by
  constructor
  case objs => intro o ho; simp [Vh] at ho ⊢; rcases ho with rfl | rfl | rfl <;> simp
  case roots => exact ⟨1, by decide, by decide, by decide⟩
  case reg => intro r hr; cases hr
  case prog => intro k r ops hr; cases hr
  all_goals first | decide | rfl
theorem zo6 : Wi = some (true, ()) := by
  have E := zur zbu
  have r := fun n hn => zuV zbu E 1 (n := n) hn
  have e4 : wK (vg Vh) 1 4 = some (zmd 1 4 (vg Vh), ()) := r 4 (by decide)
  have e11 : wK (vg Vh) 1 11 = some (zmd 1 11 (vg Vh), ()) := r 11 (by decide)
  have e100 : wK (vg Vh) 1 100 = some (zmd 1 100 (vg Vh), ()) := r 100 (by decide)
  have out : ∀ w : Int, w < 1 ∨ 1 < w → zW (vg Vh) w = vg Vh := fun w hw => by
    unfold zW
    rw [if_pos (.inr (hw.imp id (fun e => by show (((List.range 1).map (ux Vh)).length : Int) < w; rw [List.length_map, List.length_range]; omega)))]
  rw [zfm, zuS]
  simp only [Option.bind_some, zov zbu, e4, e11, e100, zgD zbu E, out 2 (.inr (by decide)), out 0 (.inl (by decide)), zs1 (zoZ zbu)]
  decide +kernel
theorem zpn {p : zb} {nb k : Nat} {s : za} {gh : Gh} (G : WG p nb k s gh) {w : Int} (T : zpw s (zW s w) w) : (Z3 s.T (zW s w).T).1 = 0 ∨ (Z3 s.T (zW s w).T).1 = 1 ∨ (Z3 s.T (zW s w).T).1 = 2 := by
  rcases T with e | ⟨x, o, hx, h6, rfl, hr, hn, e⟩ | ⟨x, hx, h8, h1, e⟩
  · rw [e, zqN]; exact .inl rfl
  · rw [e, zo5 hr hn (fun h => hn (G.B.blk _ h))]; exact .inr (.inl rfl)
  · rw [e, zqY h1 (zee h1)]; exact .inr (.inr rfl)
theorem workerDarker_plain (l ord : List (BitVec 8)) : vk l ord = some (true, ()) := by
  obtain ⟨p, ep, h⟩ := zwA l
  have hw := h.wk
  rw [zb3, zo6]
  simp only [Option.bind_some, Bool.not_true, cond_false, ep, zov h]
  obtain ⟨o, e, rfl⟩ := uq (f := Zq) (fun a => ∃ (i : Nat) (s : za) (gh : Gh), i ≤ 250 ∧ a = (ord, true, (i : Int), p, s, ()) ∧ WG p (zX p + 1) i s gh ∧ zlS s ∧ WD p s) (fun a => 250 - a.2.2.1.toNat) (fun o => o = .brk (true, ())) (by
    rintro _ ⟨i, s, gh, hi, rfl, G, L, D⟩
    have hwl := G.E.wl
    rw [zaM, zn, zn]
    by_cases c1 : (i : Int) < (ord.length : Int)
    rotate_left
    · rw [if_neg c1]; exact ⟨_, rfl, rfl⟩
    rw [if_pos c1]
    by_cases c2 : (i : Int) < 250
    rotate_left
    · rw [if_neg c2]; exact ⟨_, rfl, rfl⟩
    have hx := List.getElem?_eq_getElem (show i < ord.length by omega)
    have hwho := zw0 h G.E (ord[i]'(by omega))
    rw [if_pos c2, wy hx, Option.bind_some, zn, if_neg (by omega), hwho.1, zgD h G.E, Option.bind_some]
    generalize hk : (1 : Int) + ((ord[i]'(by omega)).toNat : Int).tmod (s.Ws.length : Int) = w at hwho
    obtain ⟨gh', G', T⟩ := G.step h (by omega) (w := w) (by omega) D.rest.2.1
    have L' := L.step h G (w := w) (by omega) D.rest.2.1 T
    have D' := D.step h G L (w := w) (by omega) T
    have hb := zpn G T
    have hu : (zW s w).T.Marks &&& ~~~ztf p = 0#64 := (zoA _ _).2 (fun o ho => (zuQ h o).2 (D'.lv o ho))
    dsimp only
    rw [zqS, Option.bind_some]
    dsimp only
    rw [zn, if_neg (by omega), zn, if_neg (by omega), zuk h, Option.bind_some, zhp, Option.bind_some]
    dsimp only
    rw [decide_eq_true hu, Bool.not_true, cond_false, zoR, Option.bind_some]
    dsimp only
    rw [yG, if_pos D'.sc.1, D'.rest.1, D'.rest.2.1, D'.rest.2.2.1, xM (by omega)]
    refine ⟨_, rfl, ⟨i + 1, zW s w, gh', by omega, rfl, G', L', D'⟩, ?_⟩
    show 250 - ((i + 1 : Nat) : Int).toNat < 250 - (i : Int).toNat
    omega) (ord, true, 0, p, vg p, ()) ⟨0, vg p, gh0 p, by omega, rfl, zwM h, zvk h, zwD h⟩ (by show 250 - 0 < 18446744073709551616; decide)
  exact congrArg (fun o => Option.bind o _) e
end B15
end
end Go.Pe.G
