/- Own work of this seat: PMstep, PBits, PWAll, PLists, PWNew, PHp, PFirst, PNewI, PCnt, PFull, PReach, PLiveP, PProt, PMProt, PMSnap, PRegs, PUnder, PLaw16. -/
import Derived.Test.YtcjjhmfdiiookaaGreatDoorMSPa
set_option linter.unusedVariables false
set_option linter.unusedSimpArgs false
set_option linter.unnecessarySimpa false
set_option linter.unusedSectionVars false
set_option linter.deprecated false
set_option maxRecDepth 20000
namespace Go.Pe.G
open Go.Pe
noncomputable section
def ua (x : zb) : List Int := if x.PC = 33 ∨ x.PC = 34 then [x.Bin] else if x.PC = 3 ∨ x.PC = 37 then wy x.G else []
def zbc (s : za) (x : zb) : List Int := if x.PC = 33 then ui s x.Bin else if x.PC = 36 ∨ x.PC = 38 then [x.Obj] else if x.PC = 37 then x.Obj :: xf x.G else if x.PC = 3 then xf x.G else []
def yu (s : za) (x : zb) : List Int := x.Batch ++ zbc s x
structure MX (p : zc) (s : za) (gh : Gh) (x : zb) : Prop where
  bt : x.PC ≤ 33 → x.Batch = []
  bf : ∀ v ∈ x.Buf, 1 ≤ v ∧ v ≤ 64
  ol : (x.PC = 21 → 0 ≤ x.Old ∧ x.Old ≤ 64) ∧ (x.PC = 22 ∨ ((x.PC = 1 ∨ x.PC = 3) ∧ x.Ret = 22) → 1 ≤ x.Old ∧ x.Old ≤ 64)
  p3 : x.PC = 3 → GX p s gh x.G ∧ x.G.Mode = 2 ∧ x.G.Out = 0
  p32 : x.PC = 32 → x.C.Out = 0 ∧ (0 ≤ x.C.PC ∧ x.C.PC ≤ 2) ∧ CK p s.M x.C
  p34 : x.PC = 34 → x.C.Out = 0 ∧ (0 ≤ x.C.PC ∧ x.C.PC ≤ 2) ∧ x.C.X = x.Bin ∧ CK p s.M x.C
  p37 : x.PC = 37 → GX p s gh x.G ∧ x.G.Mode = 3 ∧ x.G.Out = 0
theorem MX.plain {p : zc} {s : za} {gh : Gh} {x : zb} (h : x.PC ≠ 3 ∧ x.PC ≠ 32 ∧ x.PC ≠ 34 ∧ x.PC ≠ 37) (bt : x.PC ≤ 33 → x.Batch = []) (bf : ∀ v ∈ x.Buf, 1 ≤ v ∧ v ≤ 64)
    (ol : (x.PC = 21 → 0 ≤ x.Old ∧ x.Old ≤ 64) ∧ (x.PC = 22 ∨ ((x.PC = 1 ∨ x.PC = 3) ∧ x.Ret = 22) → 1 ≤ x.Old ∧ x.Old ≤ 64)) : MX p s gh x :=
  ⟨bt, bf, ol, fun e => by omega, fun e => by omega, fun e => by omega, fun e => by omega⟩
theorem ve {x : zb} (h : x.PC ≠ 3 ∧ x.PC ≠ 33 ∧ x.PC ≠ 34 ∧ x.PC ≠ 37) : ua x = [] := by unfold ua; rw [if_neg (by omega), if_neg (by omega)]
theorem zba {x : zb} (h : x.PC = 33 ∨ x.PC = 34) : ua x = [x.Bin] := by unfold ua; rw [if_pos h]
theorem zez {x : zb} (h : x.PC = 3 ∨ x.PC = 37) : ua x = wy x.G := by unfold ua; rw [if_neg (by omega), if_pos h]
theorem uo {s : za} {x : zb} (h : x.PC ≠ 3 ∧ x.PC ≠ 33 ∧ x.PC ≠ 36 ∧ x.PC ≠ 37 ∧ x.PC ≠ 38) : zbc s x = [] := by unfold zbc; rw [if_neg (by omega), if_neg (by omega), if_neg (by omega), if_neg (by omega)]
theorem zm5 {s : za} {x : zb} (h : x.PC = 33) : zbc s x = ui s x.Bin := by unfold zbc; rw [if_pos h]
theorem VP {s : za} {x : zb} (h : x.PC = 36 ∨ x.PC = 38) : zbc s x = [x.Obj] := by unfold zbc; rw [if_neg (by omega), if_pos h]
theorem zmU {s : za} {x : zb} (h : x.PC = 37) : zbc s x = x.Obj :: xf x.G := by unfold zbc; rw [if_neg (by omega), if_neg (by omega), if_pos h]
theorem zmD {s : za} {x : zb} (h : x.PC = 3) : zbc s x = xf x.G := by unfold zbc; rw [if_neg (by omega), if_neg (by omega), if_neg (by omega), if_pos h]
theorem MX.other {p : zc} (hp : zG p) {nb k : Nat} {s s' : za} {gh gh' : Gh} {X R : List Int} {O : Int → Prop} {m : Int} {x : zb} (Y : SX p nb s gh (X ++ R) k) (Fx : FX p nb X O s s' gh gh') (K : MX p s gh x) (W : XOk p nb m x)
    (hR : ∀ b ∈ ua x, b ∈ R) : MX p s' gh' x ∧ yu s' x = yu s x := by
  have hsub : ∀ b ∈ X, b ∈ X ++ R := fun b hb => List.mem_append_left _ hb
  have hnd := (List.nodup_append.1 Y.L.nodup).2.1
  have hnot : ∀ b, b ∈ ua x → b ∉ X := fun b hb hg => (List.nodup_append.1 hnd).2.2 b hg b (hR b hb) rfl
  refine ⟨⟨K.bt, K.bf, K.ol, fun e => ?_, fun e => ?_, fun e => ?_, fun e => ?_⟩, ?_⟩
  · obtain ⟨a, b, c⟩ := K.p3 e
    obtain ⟨M, _, _⟩ := W.g (.inl e)
    exact ⟨a.other hp Y Fx M (fun y hy => hR y (by rw [zez (.inl e)]; exact hy)) (fun e2 => by omega), b, c⟩
  · obtain ⟨a, b, c⟩ := K.p32 e
    have C := W.c32 e
    exact ⟨a, b, c.mv Y.L Fx.mv hsub (.inl C.h) (fun h _ => C.v h) (fun e2 => by have := C.k; omega)⟩
  · obtain ⟨a, b, c, d⟩ := K.p34 e
    have C := W.c34 e
    have hno := hnot x.Bin (by rw [zba (.inr e)]; simp)
    exact ⟨a, b, c, d.mv Y.L Fx.mv hsub (.inr C.h) (fun _ e2 => by have := C.k; omega) (fun _ => ⟨C.x.1, C.x.2, by rw [c]; exact hno⟩)⟩
  · obtain ⟨a, b, c⟩ := K.p37 e
    obtain ⟨M, _, _⟩ := W.g (.inr e)
    exact ⟨a.other hp Y Fx M (fun y hy => hR y (by rw [zez (.inr e)]; exact hy)) (fun e2 => by omega), b, c⟩
  · unfold yu
    congr 1
    by_cases e3 : x.PC = 33
    · rw [zm5 e3, zm5 e3]
      have hb := W.b33 e3
      have hno := hnot x.Bin (by rw [zba (.inl e3)]; simp)
      unfold ui
      rw [Fx.bn x.Bin hb.1 hno]
    · unfold zbc
      rw [if_neg e3, if_neg e3]
def zdb (p : zc) (nb k : Nat) (R : List Int) (gh : Gh) (s : za) (x : zb) (s' : za) (x' : zb) : Prop :=
  ∃ gh', SX p nb s' gh' (ua x' ++ R) (k + 1) ∧ MX p s' gh' x' ∧ FX p nb (ua x) (fun _ => False) s s' gh gh' ∧
    ∃ N B, List.Perm (xJ p s' gh' ++ yu s' x' ++ B) (N ++ (xJ p s gh ++ yu s x)) ∧
      ((N = [] ∧ B = [] ∧ s'.T = s.T) ∨ (N = [x.G.Obj] ∧ B = [] ∧ (x.PC = 3 ∨ x.PC = 37) ∧ ¬ (s.T.Marks ||| bit x.G.Obj = s.T.Marks) ∧ s'.T = { s.T with Marks := s.T.Marks ||| bit x.G.Obj }) ∨ (N = [] ∧ B = [x.Obj] ∧ x.PC = 38 ∧ s'.T = ZP s.T x.Obj) ∨
       (N = [] ∧ B = [] ∧ x.PC = 30 ∧ WA s.H s.P.Most = true ∧ s'.H = vr s.H ∧ s'.T = WJ s.T (wc (s.H.Objs.length + 1))))
theorem zdb.quiet {p : zc} {nb k : Nat} {R : List Int} {gh : Gh} {s s' : za} {x x' : zb} (X : SX p nb s gh (ua x ++ R) k) (S' : SOk p nb s') (hm : s'.M = s.M) (hb : s'.Bins = s.Bins) (hT : s'.T = s.T)
    (ho : ua x' = ua x) (hh : List.Perm (yu s' x') (yu s x)) (W' : MX p s' gh x') : zdb p nb k R gh s x s' x' :=
  ⟨gh, by rw [ho]; exact X.quiet S' hm, W', FX.quiet hm (fun _ _ _ => by rw [hb]), [], [], by rw [XL hb, List.append_nil]; exact List.Perm.append_left _ hh, .inl ⟨rfl, rfl, hT⟩⟩
theorem zdb.calm {p : zc} {nb k : Nat} {R : List Int} {gh : Gh} {s s' : za} {x x' : zb} (X : SX p nb s gh (ua x ++ R) k) (S' : SOk p nb s') (hm : s'.M = s.M) (hb : s'.Bins = s.Bins) (hT : s'.T = s.T)
    (h : x.PC ≠ 3 ∧ x.PC ≠ 33 ∧ x.PC ≠ 34 ∧ x.PC ≠ 36 ∧ x.PC ≠ 37 ∧ x.PC ≠ 38) (h' : x'.PC ≠ 3 ∧ x'.PC ≠ 32 ∧ x'.PC ≠ 33 ∧ x'.PC ≠ 34 ∧ x'.PC ≠ 36 ∧ x'.PC ≠ 37 ∧ x'.PC ≠ 38) (eb : x'.Batch = x.Batch)
    (bt : x'.PC ≤ 33 → x'.Batch = []) (bf : ∀ v ∈ x'.Buf, 1 ≤ v ∧ v ≤ 64) (ol : (x'.PC = 21 → 0 ≤ x'.Old ∧ x'.Old ≤ 64) ∧ (x'.PC = 22 ∨ ((x'.PC = 1 ∨ x'.PC = 3) ∧ x'.Ret = 22) → 1 ≤ x'.Old ∧ x'.Old ≤ 64)) : zdb p nb k R gh s x s' x' := by
  refine .quiet X S' hm hb hT ?_ ?_ (MX.plain (by omega) bt bf ol)
  · rw [ve (by omega), ve (by omega)]
  · unfold yu
    rw [uo (by omega), uo (by omega), eb]
theorem zpO {p : zc} {s : za} {gh : Gh} {md o w : Int} (hmd : md = 2 ∨ md = 3) (ho : 1 ≤ o ∧ o ≤ 64) : GX p s gh (zaG md o w) ∧ (zaG md o w).Mode = md ∧ (zaG md o w).Out = 0 ∧ wy (zaG md o w) = [] ∧ xf (zaG md o w) = [] := by
  refine ⟨GX.plain (.inl rfl) ⟨by show (0 : Int) ≤ 0; decide, by show (0 : Int) ≤ 7; decide⟩ ⟨by show 1 ≤ md; omega, by show md ≤ 3; omega⟩ ho (fun e => by have e : md = 1 := e; omega) (.inr ⟨by show (0 : Int) ≠ 3; decide, by show (0 : Int) ≠ 5; decide, by show (0 : Int) ≠ 7; decide⟩), rfl, rfl,
    vP (.inr ⟨by show (0 : Int) ≠ 6; decide, by show (0 : Int) ≠ 7; decide⟩), ZZ (.inr (.inl (by show (0 : Int) < 3; decide)))⟩
theorem zAv {p : zc} (hp : zG p) {nb k : Nat} {R : List Int} {gh : Gh} {s : za} {m : Int} {x : zb} (hk : k < 4294960000) (X : SX p nb s gh (ua x ++ R) k) (W : XOk p nb m x) (K : MX p s gh x) (hpl : ((wu p m).length : Int) ≤ 64)
    (hH : ∀ o i, 0 ≤ zQ s.H o i ∧ zQ s.H o i ≤ 64) : zdb p nb k R gh s x (zn s m x).1 (zn s m x).2 := by
  have S' := (zxs hp hpl X.S W).1
  have hP := X.S.P
  have eC : zkx s.P (zE s.P) x.Bin = zkx p (zE p) x.Bin := by rw [hP]
  have hbf := K.bf
  have hol := K.ol
  revert S'
  refine wH (motive := fun r => SOk p nb r.1 → zdb p nb k R gh s x r.1 r.2) s m x ?_ ?_ ?_ ?_ ?_ ?_ ?_ ?_ ?_ ?_ ?_ ?_ ?_ ?_ ?_ ?_ ?_ ?_ ?_ ?_
  · intro c; unfold mu0 VW; dsimp only
    have hbt := K.bt (by omega)
    repeat' split
    all_goals (intro S')
    all_goals (refine .calm X S' rfl rfl rfl (by omega) (by (try dsimp only [setM]); omega) rfl (fun _ => hbt) hbf ⟨fun e => ?_, fun e => ?_⟩ <;> ((try dsimp only [setM] at e); omega))
  · intro c; unfold mu1; dsimp only
    have hbt := K.bt (by omega)
    have hrt := W.ret (.inl c)
    split
    · intro S'
      exact .calm X S' rfl rfl rfl (by omega) (by dsimp only; omega) rfl (fun _ => hbt) hbf ⟨fun e => by dsimp only at e; omega, fun e => by dsimp only at e ⊢; exact hol.2 (by omega)⟩
    · rename_i hl
      intro S'
      have hv : 1 ≤ x.Buf.getD (x.Buf.length - 1) 0 ∧ x.Buf.getD (x.Buf.length - 1) 0 ≤ 64 := by
        rw [List.getD_eq_getElem?_getD, List.getElem?_eq_getElem (show x.Buf.length - 1 < x.Buf.length by omega)]
        exact hbf _ (List.getElem_mem _)
      obtain ⟨g1, g2, g3, g4, g5⟩ := zpO (p := p) (s := s) (gh := gh) (w := m) (.inl rfl) hv
      refine .quiet X S' rfl rfl rfl ?_ ?_ ⟨fun _ => hbt, fun v hv => hbf v (List.mem_of_mem_take hv), ⟨fun e => (by cases e), fun e => ?_⟩, fun _ => ⟨g1, g2, g3⟩, fun e => (by cases e), fun e => (by cases e), fun e => (by cases e)⟩
      · rw [ve (x := x) (by omega), zez (.inl rfl)]; exact g4
      · unfold yu
        rw [uo (x := x) (by omega), zmD rfl]
        show List.Perm (x.Batch ++ xf (zaG 2 (x.Buf.getD (x.Buf.length - 1) 0) m)) _
        rw [g5]
      · rcases e with e | e
        · cases e
        · exact hol.2 (.inr ⟨.inl c, e.2⟩)
  · intro c S'; unfold mu2 at S' ⊢
    exact .calm X S' rfl rfl rfl (by omega) (by dsimp only; omega) rfl (fun _ => K.bt (by omega)) hbf ⟨fun e => by dsimp only at e; omega, fun e => by dsimp only at e; omega⟩
  · intro c; unfold mu3; dsimp only
    have hbt := K.bt (by omega)
    obtain ⟨G, gm, g0⟩ := K.p3 c
    obtain ⟨M, h5o, hn1⟩ := W.g (.inl c)
    have eo : ua x = wy x.G := zez (.inl c)
    have hh : yu s x = xf x.G := by unfold yu; rw [zmD c, hbt, List.nil_append]
    rw [eo] at X
    obtain ⟨gh', X', G', Fx, hc', hFb, N, hN, hT⟩ := zyH hp hk X M h5o G
    have so := zcS s x.G
    have Fx' : FX p nb (ua x) (fun _ => False) s (zB s x.G).1 gh gh' := by rw [eo]; exact Fx.mono (fun v e => by have := e.1; omega)
    have hT' : (N = [] ∧ ([] : List Int) = [] ∧ (zB s x.G).1.T = s.T) ∨ (N = [x.G.Obj] ∧ ([] : List Int) = [] ∧ (x.PC = 3 ∨ x.PC = 37) ∧ ¬ (s.T.Marks ||| bit x.G.Obj = s.T.Marks) ∧ (zB s x.G).1.T = { s.T with Marks := s.T.Marks ||| bit x.G.Obj }) := by
      rcases hT with ⟨a, b⟩ | ⟨a, b, c'⟩
      · exact .inl ⟨a, rfl, b⟩
      · exact .inr ⟨a, rfl, .inl c, b, c'⟩
    split
    · rename_i o1
      intro S'
      have n1 : wy (zB s x.G).2 = [] := vP (.inl (by omega))
      have n2 : xf (zB s x.G).2 = [] := ZZ (.inl (by omega))
      rw [n1] at X'
      refine ⟨gh', by rw [ve (by dsimp only; omega)]; exact X', MX.plain (by dsimp only; omega) (fun _ => hbt) hbf ⟨fun e => (by cases e), fun e => ?_⟩, Fx', N, [], ?_, hT'.elim .inl (fun h => .inr (.inl h))⟩
      · rcases e with e | e
        · cases e
        · exact hol.2 (.inr ⟨.inr c, e.2⟩)
      · unfold yu
        rw [uo (by dsimp only; omega), List.append_nil, List.append_nil]
        rw [n2, List.append_nil] at hN
        show List.Perm (xJ p (zB s x.G).1 gh' ++ x.Batch) (N ++ (xJ p s gh ++ (x.Batch ++ zbc s x)))
        rw [hbt, zmD c, List.append_nil, List.nil_append]
        exact hN
    · rename_i o1
      intro S'
      have o0 : (zB s x.G).2.Out = 0 := by have := G'.o; omega
      refine ⟨gh', by rw [zez (x := { x with G := (zB s x.G).2 }) (.inl c)]; exact X', ⟨fun _ => hbt, hbf, hol, fun _ => ⟨G', so.2.2.trans gm, o0⟩, fun e => by have e : x.PC = 32 := e; omega, fun e => by have e : x.PC = 34 := e; omega, fun e => by have e : x.PC = 37 := e; omega⟩, Fx', N, [], ?_, hT'.elim .inl (fun h => .inr (.inl h))⟩
      unfold yu
      rw [zmD (x := { x with G := (zB s x.G).2 }) c, List.append_nil]
      show List.Perm (xJ p (zB s x.G).1 gh' ++ (x.Batch ++ xf (zB s x.G).2)) (N ++ (xJ p s gh ++ (x.Batch ++ zbc s x)))
      rw [hbt, zmD c, List.nil_append, List.nil_append]
      exact hN
  · intro c S'; unfold zg2 at S' ⊢
    exact .calm X S' rfl rfl rfl (by omega) (by dsimp only [setM]; omega) rfl (fun _ => K.bt (by omega)) hbf ⟨fun e => by dsimp only [setM] at e; omega, fun e => by dsimp only [setM] at e; omega⟩
  · intro c; unfold ze7; dsimp only
    have hbt := K.bt (by omega)
    split
    · intro S'
      exact .calm X S' rfl rfl rfl (by omega) (by dsimp only [vF]; omega) rfl (fun _ => hbt) hbf ⟨fun e => by dsimp only [vF] at e; omega, fun e => by dsimp only [vF] at e; omega⟩
    · intro S'
      exact .calm X S' rfl rfl rfl (by omega) (by dsimp only; omega) rfl (fun _ => hbt) hbf ⟨fun _ => hH _ _, fun e => by dsimp only at e; omega⟩
  · intro c; unfold zeS; dsimp only
    have hbt := K.bt (by omega)
    have h21 := hol.1 c
    split
    · intro S'
      exact .calm X S' rfl rfl rfl (by omega) (by dsimp only; omega) rfl (fun _ => hbt) hbf ⟨fun e => by dsimp only at e; omega, fun e => by dsimp only at e; omega⟩
    · rename_i hn
      intro S'
      have : ¬ x.Old = 0 := fun e => hn (.inl e)
      exact .calm X S' rfl rfl rfl (by omega) (by dsimp only; omega) rfl (fun _ => hbt) hbf ⟨fun e => by dsimp only at e; omega, fun e => by dsimp only; omega⟩
  · intro c; unfold zeR; dsimp only
    have hbt := K.bt (by omega)
    have h22 := hol.2 (.inl c)
    split
    · intro S'
      exact .calm X S' rfl rfl rfl (by omega) (by dsimp only; omega) rfl (fun _ => hbt) hbf ⟨fun e => by dsimp only at e; omega, fun e => h22⟩
    · intro S'
      refine .calm X S' rfl rfl rfl (by omega) (by dsimp only; omega) rfl (fun _ => hbt) (fun v hv => ?_) ⟨fun e => by dsimp only at e; omega, fun e => by dsimp only at e; omega⟩
      rcases List.mem_append.1 hv with h | h
      · exact hbf v h
      · rw [List.mem_singleton.1 h]; exact h22
  · intro c S'; unfold zfo at S' ⊢
    exact .calm X S' rfl rfl rfl (by omega) (by dsimp only [vF]; omega) rfl (fun _ => K.bt (by omega)) hbf ⟨fun e => by dsimp only [vF] at e; omega, fun e => by dsimp only [vF] at e; omega⟩
  · intro c; unfold zal
    have hbt := K.bt (by omega)
    split
    · split
      · rename_i h1 h2
        intro S'
        refine ⟨gh, by rw [ve (by dsimp only [setM]; omega)]; rw [ve (x := x) (by omega)] at X; exact X.quiet S' rfl, MX.plain (by dsimp only [setM]; omega) (fun _ => hbt) hbf ⟨fun e => by dsimp only [setM] at e; omega, fun e => by dsimp only [setM] at e; omega⟩, FX.quiet rfl (fun _ _ _ => rfl), [], [], ?_, .inr (.inr (.inr ⟨rfl, rfl, c, h2, rfl, rfl⟩))⟩
        rw [XL rfl, List.append_nil, List.nil_append]
        unfold yu
        rw [uo (by dsimp only [setM]; omega), uo (x := x) (by omega)]
        exact List.Perm.refl _
      · intro S'
        exact .calm X S' rfl rfl rfl (by omega) (by dsimp only [vF]; omega) rfl (fun _ => hbt) hbf ⟨fun e => by dsimp only [vF] at e; omega, fun e => by dsimp only [vF] at e; omega⟩
    · intro S'
      exact .calm X S' rfl rfl rfl (by omega) (by dsimp only; omega) rfl (fun _ => hbt) hbf ⟨fun e => by dsimp only at e; omega, fun e => by dsimp only at e; omega⟩
  · intro c; unfold ze4; dsimp only
    have hbt := K.bt (by omega)
    split
    · intro S'
      refine .quiet X S' rfl rfl rfl (by rw [ve (by dsimp only; omega), ve (x := x) (by omega)]) ?_ ⟨fun _ => hbt, hbf, ⟨fun e => by dsimp only at e; omega, fun e => by dsimp only at e; omega⟩, fun e => by dsimp only at e; omega, fun _ => ⟨rfl, ⟨by show (0 : Int) ≤ 0; decide, by show (0 : Int) ≤ 2; decide⟩, by show CK p s.M (zvy s.P (yc s.P) x.Bin); rw [hP]; exact CK.start⟩, fun e => by dsimp only at e; omega, fun e => by dsimp only at e; omega⟩
      unfold yu
      rw [uo (by dsimp only; omega), uo (x := x) (by omega)]
    · intro S'
      exact .calm X S' rfl rfl rfl (by omega) (by dsimp only; omega) rfl (fun _ => hbt) hbf ⟨fun e => by dsimp only at e; omega, fun e => by dsimp only at e; omega⟩
  · intro c; unfold ze2; dsimp only
    have C := W.c32 c
    obtain ⟨c1, c2, c3⟩ := K.p32 c
    have hbt := K.bt (by omega)
    have eo : ua x = [] := ve (by omega)
    have hh : yu s x = [] := by unfold yu; rw [hbt, uo (by omega)]; rfl
    have nn : ∀ e : x.PC = 21, False := fun e => by omega
    intro S'
    have S' : SOk p nb { s with M := (zp s.M x.C).1 } := S'
    rcases SX.popF hp X hk C.k C.h C.n c1 c2 c3 C.v S' with ⟨a, b, cc, d⟩ | ⟨y, l, a, b, cc, d, e⟩
    · rw [if_neg b]
      have hout := zf2 s.M c1 c2 (.inr C.k)
      by_cases o2 : (zp s.M x.C).2.Out = 2
      · rw [if_pos o2]
        exact .calm X S' a rfl rfl (by omega) (by dsimp only; omega) rfl (fun _ => hbt) hbf ⟨fun e => by dsimp only at e; omega, fun e => by dsimp only at e; omega⟩
      · rw [if_neg o2]
        have hpc' : (zp s.M x.C).2.Out = 0 ∧ 0 ≤ (zp s.M x.C).2.PC ∧ (zp s.M x.C).2.PC ≤ 2 := by omega
        refine .quiet X S' a rfl rfl ?_ ?_ ⟨fun _ => hbt, hbf, hol, fun e => by have e : x.PC = 3 := e; omega, fun _ => ⟨hpc'.1, hpc'.2, ?_⟩, fun e => by have e : x.PC = 34 := e; omega, fun e => by have e : x.PC = 37 := e; omega⟩
        · rw [eo]; exact ve (by dsimp only; omega)
        · unfold yu
          rw [uo (by dsimp only; omega), uo (x := x) (by omega)]
        · rw [show ({ s with M := (zp s.M x.C).1 } : za).M = s.M from a]; exact cc
    · rw [if_pos b]
      have e1 : ua { x with PC := 33, Bin := (zp s.M x.C).2.X, C := (zp s.M x.C).2 } = [y] := by rw [← cc]; exact zba (x := { x with PC := 33, Bin := (zp s.M x.C).2.X, C := (zp s.M x.C).2 }) (.inl rfl)
      refine ⟨{ gh with F := l }, by rw [e1]; rw [eo] at d; exact d, MX.plain (by dsimp only; omega) (fun _ => hbt) hbf ⟨fun e => by dsimp only at e; omega, fun e => by dsimp only at e; omega⟩, e _ _, [], [], ?_, .inl ⟨rfl, rfl, rfl⟩⟩
      rw [hh, List.append_nil, List.append_nil, List.nil_append]
      unfold yu
      rw [zm5 (x := { x with PC := 33, Bin := (zp s.M x.C).2.X, C := (zp s.M x.C).2 }) rfl]
      show List.Perm (xJ p s { gh with F := l } ++ (x.Batch ++ ui s (zp s.M x.C).2.X)) _
      rw [hbt, List.nil_append, cc]
      have : xJ p s gh = ui s y ++ xJ p s { gh with F := l } := by unfold xJ; rw [a]; simp [List.append_assoc]
      rw [this]
      exact List.perm_append_comm
  · intro c; unfold zha; dsimp only
    intro S'
    have hb := W.b33 c
    have hbt := K.bt (by omega)
    have eo : ua x = [x.Bin] := zba (.inl c)
    rw [eC] at *
    have e1 : ua { x with Batch := zcl s x.Bin, PC := 34, C := zkx p (zE p) x.Bin } = [x.Bin] := zba (x := { x with Batch := zcl s x.Bin, PC := 34, C := zkx p (zE p) x.Bin }) (.inr rfl)
    have hget : ∀ b, 1 ≤ b → b ∉ ua x → (s.Bins.set x.Bin.toNat [])[b.toNat]? = s.Bins[b.toNat]? := fun b b1 b2 => by
      rw [List.getElem?_set_ne]
      intro e
      rw [eo] at b2
      exact b2 (by rw [show b = x.Bin by omega]; simp)
    refine ⟨gh, by rw [e1, ← eo]; exact X.quiet S' rfl, ⟨fun e => absurd e (by show ¬ (34 : Int) ≤ 33; decide), hbf, ⟨fun e => by dsimp only at e; omega, fun e => by dsimp only at e; omega⟩, fun e => by dsimp only at e; omega, fun e => by dsimp only at e; omega, fun _ => ⟨rfl, ⟨by show (0 : Int) ≤ 0; decide, by show (0 : Int) ≤ 2; decide⟩, rfl, CK.start⟩, fun e => by dsimp only at e; omega⟩, FX.quiet rfl hget, [], [], ?_, .inl ⟨rfl, rfl, rfl⟩⟩
    have hbag : xJ p { s with Bins := s.Bins.set x.Bin.toNat [] } gh = xJ p s gh := by
      unfold xJ
      congr 1
      refine YC (fun b hb => ?_)
      have hm := X.L.cF.mem b hb
      have hno := (X.L.notF (x := x.Bin) (by rw [eo]; simp)).1
      unfold ui
      rw [show ({ s with Bins := s.Bins.set x.Bin.toNat [] } : za).Bins = s.Bins.set x.Bin.toNat [] from rfl, hget b hm.1 (by rw [eo]; intro e; rw [List.mem_singleton.1 e] at hb; exact hno hb)]
    rw [hbag, List.append_nil, List.nil_append]
    unfold yu
    rw [zm5 c, uo (x := { x with Batch := zcl s x.Bin, PC := 34, C := zkx p (zE p) x.Bin }) (by dsimp only; omega)]
    show List.Perm (xJ p s gh ++ (zcl s x.Bin ++ [])) _
    rw [hbt, List.append_nil, List.nil_append, zxQ]
  · intro c; unfold ze9; dsimp only
    intro S'
    have S' : SOk p nb { s with M := (zp s.M x.C).1 } := S'
    have C := W.c34 c
    obtain ⟨c1, c2, c3, c4⟩ := K.p34 c
    have eo : ua x = [x.Bin] := zba (.inr c)
    have hh : yu s x = x.Batch := by unfold yu; rw [uo (by omega), List.append_nil]
    rw [eo] at X
    rcases SX.pushE hp (o1 := []) (o2 := R) (b := x.Bin) X hk C.k C.h C.n c3 c1 c2 c4 C.v S' with ⟨a, b, cc, d⟩ | ⟨a, b, d⟩
    · rw [a, if_neg (by decide)]
      have hout := zf2 s.M c1 c2 (.inl C.k)
      have hsame := znD s.M x.C
      have hpc' : 0 ≤ (zp s.M x.C).2.PC ∧ (zp s.M x.C).2.PC ≤ 2 := by omega
      have e1 : ua { x with C := (zp s.M x.C).2 } = [x.Bin] := zba (x := { x with C := (zp s.M x.C).2 }) (.inr c)
      refine ⟨gh, by rw [e1]; exact b, ⟨fun e => by have e : x.PC ≤ 33 := e; omega, hbf, hol, fun e => by have e : x.PC = 3 := e; omega, fun e => by have e : x.PC = 32 := e; omega, fun _ => ⟨a, hpc', (hsame.2.2.2 C.k).trans c3, cc⟩, fun e => by have e : x.PC = 37 := e; omega⟩, by rw [eo]; exact d _ _ (by simp), [], [], ?_, .inl ⟨rfl, rfl, rfl⟩⟩
      rw [XL rfl, hh, List.append_nil]
      unfold yu
      rw [uo (x := { x with C := (zp s.M x.C).2 }) (by dsimp only; omega), List.append_nil]
      exact List.Perm.refl _
    · rw [a, if_pos rfl]
      refine ⟨{ gh with E := x.Bin :: gh.E }, by rw [ve (by dsimp only; omega)]; exact b, MX.plain (by dsimp only; omega) (fun e => absurd e (by show ¬ (35 : Int) ≤ 33; decide)) hbf ⟨fun e => by dsimp only at e; omega, fun e => by dsimp only at e; omega⟩, by rw [eo]; exact d _ _, [], [], ?_, .inl ⟨rfl, rfl, rfl⟩⟩
      rw [hh, List.append_nil]
      unfold yu
      rw [uo (by dsimp only; omega), List.append_nil]
      exact List.Perm.refl _
  · intro c; unfold zeK; dsimp only
    split
    · rename_i hb
      intro S'
      exact .calm X S' rfl rfl rfl (by omega) (by dsimp only; omega) rfl (fun _ => hb) hbf ⟨fun e => by dsimp only at e; omega, fun e => by dsimp only at e; omega⟩
    · rename_i o l hb
      intro S'
      refine .quiet X S' rfl rfl rfl (by rw [ve (by dsimp only; omega), ve (x := x) (by omega)]) ?_ (MX.plain (by dsimp only; omega) (fun e => absurd e (by show ¬ (36 : Int) ≤ 33; decide)) hbf ⟨fun e => by dsimp only at e; omega, fun e => by dsimp only at e; omega⟩)
      unfold yu
      rw [VP (.inl rfl), uo (x := x) (by omega), hb, List.append_nil]
      exact List.perm_append_comm
  · intro c; unfold zeU; dsimp only
    have hv := hH x.Obj x.Slot
    have eo : ua x = [] := ve (by omega)
    split
    · rcases zeq s (wc (x.Slot + 1)) with e | e <;> rw [e] <;> intro S'
      · refine .quiet X S' rfl rfl rfl (by rw [eo, ve (by dsimp only; omega)]) ?_ (MX.plain (by dsimp only; omega) (fun e => absurd e (by show ¬ (36 : Int) ≤ 33; decide)) hbf ⟨fun e => by dsimp only at e; omega, fun e => by dsimp only at e; omega⟩)
        unfold yu
        rw [VP (.inl c), VP (.inl rfl)]
      · refine .quiet X S' rfl rfl rfl (by rw [eo, ve (by dsimp only; omega)]) ?_ (MX.plain (by dsimp only; omega) (fun e => absurd e (by show ¬ (38 : Int) ≤ 33; decide)) hbf ⟨fun e => by dsimp only at e; omega, fun e => by dsimp only at e; omega⟩)
        unfold yu
        rw [VP (.inl c), VP (.inr rfl)]
    · rename_i hne
      intro S'
      obtain ⟨g1, g2, g3, g4, g5⟩ := zpO (p := p) (s := s) (gh := gh) (w := m) (.inr rfl) (show 1 ≤ zQ s.H x.Obj x.Slot ∧ zQ s.H x.Obj x.Slot ≤ 64 by omega)
      refine .quiet X S' rfl rfl rfl ?_ ?_ ⟨fun e => absurd e (by show ¬ (37 : Int) ≤ 33; decide), hbf, ⟨fun e => by dsimp only at e; omega, fun e => by dsimp only at e; omega⟩, fun e => by dsimp only at e; omega, fun e => by dsimp only at e; omega, fun e => by dsimp only at e; omega, fun _ => ⟨g1, g2, g3⟩⟩
      · rw [eo, zez (.inr rfl)]; exact g4
      · unfold yu
        rw [VP (.inl c), zmU rfl]
        show List.Perm (x.Batch ++ x.Obj :: xf (zaG 3 (zQ s.H x.Obj x.Slot) m)) _
        rw [g5]
  · intro c; unfold za8; dsimp only
    obtain ⟨G, gm, g0⟩ := K.p37 c
    obtain ⟨M, h5o, hn1⟩ := W.g (.inr c)
    have eo : ua x = wy x.G := zez (.inr c)
    have hh : yu s x = x.Batch ++ x.Obj :: xf x.G := by unfold yu; rw [zmU c]
    rw [eo] at X
    obtain ⟨gh', X', G', Fx, hc', hFb, N, hN, hT⟩ := zyH hp hk X M h5o G
    have so := zcS s x.G
    have Fx' : FX p nb (ua x) (fun _ => False) s (zB s x.G).1 gh gh' := by rw [eo]; exact Fx.mono (fun v e => by have := e.1; omega)
    have hT' : (N = [] ∧ ([] : List Int) = [] ∧ (zB s x.G).1.T = s.T) ∨ (N = [x.G.Obj] ∧ ([] : List Int) = [] ∧ (x.PC = 3 ∨ x.PC = 37) ∧ ¬ (s.T.Marks ||| bit x.G.Obj = s.T.Marks) ∧ (zB s x.G).1.T = { s.T with Marks := s.T.Marks ||| bit x.G.Obj }) := by
      rcases hT with ⟨a, b⟩ | ⟨a, b, c'⟩
      · exact .inl ⟨a, rfl, b⟩
      · exact .inr ⟨a, rfl, .inr c, b, c'⟩
    have perm : ∀ H' : List Int, H' = x.Batch ++ x.Obj :: xf (zB s x.G).2 → List.Perm (xJ p (zB s x.G).1 gh' ++ H' ++ []) (N ++ (xJ p s gh ++ yu s x)) := by
      intro H' e
      rw [e, hh, List.append_nil]
      have a1 : List.Perm (xJ p (zB s x.G).1 gh' ++ (x.Batch ++ x.Obj :: xf (zB s x.G).2)) ((x.Batch ++ [x.Obj]) ++ (xJ p (zB s x.G).1 gh' ++ xf (zB s x.G).2)) := by
        rw [show x.Batch ++ x.Obj :: xf (zB s x.G).2 = (x.Batch ++ [x.Obj]) ++ xf (zB s x.G).2 by simp]
        exact List.perm_append_comm_assoc _ _ _
      have a2 : List.Perm (N ++ (xJ p s gh ++ (x.Batch ++ x.Obj :: xf x.G))) ((x.Batch ++ [x.Obj]) ++ (N ++ (xJ p s gh ++ xf x.G))) := by
        rw [show x.Batch ++ x.Obj :: xf x.G = (x.Batch ++ [x.Obj]) ++ xf x.G by simp]
        exact (List.Perm.append_left N (List.perm_append_comm_assoc _ _ _)).trans (List.perm_append_comm_assoc _ _ _)
      exact a1.trans ((List.Perm.append_left _ hN).trans a2.symm)
    split
    · rename_i o1
      intro S'
      have n1 : wy (zB s x.G).2 = [] := vP (.inl (by omega))
      have n2 : xf (zB s x.G).2 = [] := ZZ (.inl (by omega))
      rw [n1] at X'
      rcases zeq s x.Slot with e | e <;> rw [e]
      · refine ⟨gh', by rw [ve (by dsimp only; omega)]; exact X', MX.plain (by dsimp only; omega) (fun e => absurd e (by show ¬ (36 : Int) ≤ 33; decide)) hbf ⟨fun e => by dsimp only at e; omega, fun e => by dsimp only at e; omega⟩, Fx', N, [], perm _ ?_, hT'.elim .inl (fun h => .inr (.inl h))⟩
        unfold yu; rw [VP (.inl rfl), n2]
      · refine ⟨gh', by rw [ve (by dsimp only; omega)]; exact X', MX.plain (by dsimp only; omega) (fun e => absurd e (by show ¬ (38 : Int) ≤ 33; decide)) hbf ⟨fun e => by dsimp only at e; omega, fun e => by dsimp only at e; omega⟩, Fx', N, [], perm _ ?_, hT'.elim .inl (fun h => .inr (.inl h))⟩
        unfold yu; rw [VP (.inr rfl), n2]
    · rename_i o1
      intro S'
      have o0 : (zB s x.G).2.Out = 0 := by have := G'.o; omega
      refine ⟨gh', by rw [zez (x := { x with G := (zB s x.G).2 }) (.inr c)]; exact X', ⟨fun e => by have e : x.PC ≤ 33 := e; omega, hbf, hol, fun e => by have e : x.PC = 3 := e; omega, fun e => by have e : x.PC = 32 := e; omega, fun e => by have e : x.PC = 34 := e; omega, fun _ => ⟨G', so.2.2.trans gm, o0⟩⟩, Fx', N, [], perm _ ?_, hT'.elim .inl (fun h => .inr (.inl h))⟩
      unfold yu; rw [zmU (x := { x with G := (zB s x.G).2 }) c]
  · intro c S'; unfold zgL at S' ⊢
    have eo : ua x = [] := ve (by omega)
    refine ⟨gh, by rw [ve (by dsimp only; omega)]; rw [eo] at X; exact X.quiet S' rfl, MX.plain (by dsimp only; omega) (fun e => absurd e (by show ¬ (39 : Int) ≤ 33; decide)) hbf ⟨fun e => by dsimp only at e; omega, fun e => by dsimp only at e; omega⟩, FX.quiet rfl (fun _ _ _ => rfl), [], [x.Obj], ?_, .inr (.inr (.inl ⟨rfl, rfl, c, rfl⟩))⟩
    rw [XL rfl, List.nil_append]
    unfold yu
    rw [VP (.inr c), uo (by dsimp only; omega), List.append_nil, List.append_assoc]
    exact List.Perm.refl _
  · intro c S'; unfold zi7 at S' ⊢
    exact .calm X S' rfl rfl rfl (by omega) (by dsimp only; omega) rfl (fun e => absurd e (by show ¬ (35 : Int) ≤ 33; decide)) hbf ⟨fun e => by dsimp only at e; omega, fun e => by dsimp only at e; omega⟩
  · intro S'
    exact ⟨gh, X.quiet S' rfl, K, FX.quiet rfl (fun _ _ _ => rfl), [], [], by rw [List.append_nil]; exact List.Perm.refl _, .inl ⟨rfl, rfl, rfl⟩⟩
end
end Go.Pe.G
namespace Go.Pe.G
open Go.Pe
noncomputable section
theorem zqf {o : Int} (h : 1 ≤ o ∧ o ≤ 64) (j : Nat) : (bit o).getLsbD j = decide ((o - 1).toNat = j) := by
  unfold bit
  rw [if_pos h, ← BitVec.twoPow_eq, BitVec.getLsbD_twoPow, decide_eq_true (by omega : (o - 1).toNat < 64), Bool.true_and]
theorem wi (s : BitVec 64) (o : Int) : zJ s o = true ↔ 1 ≤ o ∧ o ≤ 64 ∧ s.getLsbD (o - 1).toNat = true := by
  unfold zJ
  rw [Bool.not_eq_true', decide_eq_false_iff_not]
  by_cases h : 1 ≤ o ∧ o ≤ 64
  · constructor
    · intro h1
      refine ⟨h.1, h.2, Classical.byContradiction (fun h2 => h1 ?_)⟩
      apply BitVec.eq_of_getLsbD_eq
      intro j hj
      rw [BitVec.getLsbD_and, zqf h, BitVec.getLsbD_zero]
      by_cases e : (o - 1).toNat = j
      · rw [← e]; simp only [Bool.not_eq_true] at h2; rw [h2]; rfl
      · rw [decide_eq_false e, Bool.and_false]
    · rintro ⟨_, _, h1⟩ h2
      have := congrArg (fun v => BitVec.getLsbD v (o - 1).toNat) h2
      simp only [BitVec.getLsbD_and, zqf h, h1, BitVec.getLsbD_zero] at this
      simp at this
  · constructor
    · intro h1
      exact absurd (by unfold bit; rw [if_neg h, BitVec.and_zero]) h1
    · rintro ⟨a, b, _⟩; exact absurd ⟨a, b⟩ h
theorem wT (s : BitVec 64) {o : Int} (h : 1 ≤ o ∧ o ≤ 64) (q : Int) : zJ (s ||| bit o) q = true ↔ zJ s q = true ∨ q = o := by
  rw [wi, wi, BitVec.getLsbD_or, zqf h]
  simp only [Bool.or_eq_true, decide_eq_true_eq]
  constructor
  · rintro ⟨a, b, c | c⟩
    · exact .inl ⟨a, b, c⟩
    · exact .inr (by omega)
  · rintro (⟨a, b, c⟩ | rfl)
    · exact ⟨a, b, .inl c⟩
    · exact ⟨h.1, h.2, .inr rfl⟩
theorem UN (s t : BitVec 64) (q : Int) : zJ (s &&& t) q = true ↔ zJ s q = true ∧ zJ t q = true := by
  rw [wi, wi, wi, BitVec.getLsbD_and]
  simp only [Bool.and_eq_true]
  constructor
  · rintro ⟨a, b, c, d⟩; exact ⟨⟨a, b, c⟩, a, b, d⟩
  · rintro ⟨⟨a, b, c⟩, _, _, d⟩; exact ⟨a, b, c, d⟩
theorem YQ (q : Int) : ¬ zJ 0#64 q = true := by
  rw [wi, BitVec.getLsbD_zero]; exact fun h => by cases h.2.2
theorem zuO {s t : BitVec 64} (h : ∀ o, zJ s o = true ↔ zJ t o = true) : s = t := by
  apply BitVec.eq_of_getLsbD_eq
  intro j hj
  have := h ((j : Int) + 1)
  rw [wi, wi, show ((j : Int) + 1 - 1).toNat = j by omega] at this
  rw [Bool.eq_iff_iff]
  exact ⟨fun e => (this.1 ⟨by omega, by omega, e⟩).2.2, fun e => (this.2 ⟨by omega, by omega, e⟩).2.2⟩
theorem zfL {m : BitVec 64} {o : Int} (h : 1 ≤ o ∧ o ≤ 64) : ¬ (m ||| bit o = m) ↔ ¬ zJ m o = true := by
  constructor
  · intro h1 h2
    refine h1 (zuO (fun q => ?_))
    rw [wT _ h]
    exact ⟨fun e => e.elim id (fun e => by rw [e]; exact h2), .inl⟩
  · intro h1 h2
    refine h1 ?_
    rw [← h2, wT _ h]; exact .inr rfl
theorem Zh (t : zt) (o : Int) : xX t o = 1 ↔ zJ t.Marks o = true ∧ ¬ zJ t.Black o = true := by
  unfold xX
  by_cases h1 : zJ (t.Marks &&& t.Black) o = true
  · rw [if_pos h1]
    rw [UN] at h1
    exact ⟨fun e => (by cases e), fun e => absurd h1.2 e.2⟩
  · rw [if_neg h1]
    rw [UN] at h1
    by_cases h2 : zJ t.Marks o = true
    · rw [if_pos h2]; exact ⟨fun _ => ⟨h2, fun e => h1 ⟨h2, e⟩⟩, fun _ => rfl⟩
    · rw [if_neg h2]; exact ⟨fun e => (by cases e), fun e => absurd e.1 h2⟩
end
end Go.Pe.G
namespace Go.Pe.G
open Go.Pe
noncomputable section
theorem zxJ {α : Type} {l : List α} {i : Nat} {x : α} (h : l[i]? = some x) : ∃ a b, l = a ++ x :: b ∧ (∀ y, l.set i y = a ++ y :: b) ∧ (∀ z ∈ a ++ b, ∃ j, j ≠ i ∧ l[j]? = some z) ∧
    (∀ j z, j ≠ i → l[j]? = some z → z ∈ a ++ b) := by
  obtain ⟨hi, e⟩ := List.getElem?_eq_some_iff.1 h
  have hl : (l.take i).length = i := by rw [List.length_take]; omega
  have el : l = l.take i ++ x :: l.drop (i + 1) := by
    conv => lhs; rw [← List.take_append_drop i l, List.drop_eq_getElem_cons hi, e]
  refine ⟨l.take i, l.drop (i + 1), el, fun y => ?_, fun z hz => ?_, fun j z hj hz => ?_⟩
  · rw [List.set_eq_take_append_cons_drop, if_pos hi]
  · rcases List.mem_append.1 hz with hz | hz
    · obtain ⟨j, hj⟩ := List.mem_iff_getElem?.1 hz
      obtain ⟨hj1, hj2⟩ := List.getElem?_eq_some_iff.1 hj
      have hj3 : j < i := by omega
      exact ⟨j, by omega, by rw [List.getElem?_take_of_lt hj3] at hj; exact hj⟩
    · obtain ⟨j, hj⟩ := List.mem_iff_getElem?.1 hz
      exact ⟨i + 1 + j, by omega, by rw [List.getElem?_drop] at hj; exact hj⟩
  · rw [el] at hz
    rcases Nat.lt_or_ge j i with h1 | h1
    · rw [List.getElem?_append_left (by omega)] at hz
      exact List.mem_append_left _ (List.mem_of_getElem? hz)
    · rw [List.getElem?_append_right (by omega), hl] at hz
      rw [show j - i = (j - i - 1) + 1 by omega, List.getElem?_cons_succ] at hz
      exact List.mem_append_right _ (List.mem_of_getElem? hz)
theorem zf9 {α β : Type} {f : α → List β} {a b : List α} {x : α} : List.Perm ((a ++ x :: b).flatMap f) (f x ++ (a ++ b).flatMap f) := by
  rw [List.flatMap_append, List.flatMap_cons, List.flatMap_append]
  exact List.perm_append_comm_assoc _ _ _
theorem SX.perm {p : zc} {nb k : Nat} {s : za} {g : Gh} {o o' : List Int} (X : SX p nb s g o k) (h : List.Perm o' o) : SX p nb s g o' k :=
  ⟨X.S, ⟨X.L.hs, X.L.cF, X.L.cE, (List.Perm.append_left _ h).trans X.L.all, X.L.len⟩, X.D, X.v, X.dk⟩
theorem SX.state {p : zc} {nb k : Nat} {s s' : za} {g : Gh} {o : List Int} (X : SX p nb s g o k) (S' : SOk p nb s') (hm : s'.M = s.M) : SX p nb s' g o k :=
  ⟨S', by rw [hm]; exact X.L, by rw [hm]; exact X.D, by rw [hm]; exact X.v, X.dk⟩
theorem GX.state {p : zc} {s s' : za} {gh : Gh} {g : zA} (G : GX p s gh g) (hm : s'.M = s.M) (hb : s'.Bins = s.Bins) : GX p s' gh g :=
  ⟨G.o, G.pc, G.md, G.ob, G.c0, by rw [hm]; exact G.c5, by rw [hm, hb]; exact G.c7, by rw [hm]; exact G.d3⟩
theorem WX.state {p : zc} {s s' : za} {gh : Gh} {w : Int} {x : zh} (W : WX p s gh w x) (hm : s'.M = s.M) (hb : s'.Bins = s.Bins) : WX p s' gh w x :=
  ⟨W.c0, W.bt, by rw [hm]; exact W.p0, by rw [hm]; exact W.p1, by rw [hm]; exact W.p2, by rw [hm]; exact W.p4, fun e => ⟨(W.p6 e).1.state hm hb, (W.p6 e).2⟩⟩
theorem zuN {s s' : za} {x : zh} (hm : s'.M = s.M) (hb : s'.Bins = s.Bins) : Zc s' x = Zc s x := by
  unfold Zc zeT ui; rw [hm, hb]
def zv4 (p : zc) (s : za) (g : Gh) : List Int := xJ p s g ++ s.Ws.flatMap (Zc s)
structure zaV (B : List Int) (t : zt) : Prop where
  blk : ∀ o, zJ t.Black o = true → zJ t.Marks o = true
  nd : B.Nodup
  gr : ∀ o, o ∈ B ↔ xX t o = 1
theorem zqa {t : zt} {o : Int} (h : xX t o = 1) : 1 ≤ o ∧ o ≤ 64 := by
  have := (wi _ _).1 ((Zh t o).1 h).1
  exact ⟨this.1, this.2.1⟩
theorem zaV.more {B B' : List Int} {t : zt} {o : Int} (K : zaV B t) (ho : 1 ≤ o ∧ o ≤ 64) (hn : ¬ (t.Marks ||| bit o = t.Marks)) (h : List.Perm B' (o :: B)) : zaV B' { t with Marks := t.Marks ||| bit o } := by
  have hn := (zfL ho).1 hn
  have hnb : ¬ zJ t.Black o = true := fun e => hn (K.blk o e)
  have hno : o ∉ B := fun e => hn ((Zh t o).1 ((K.gr o).1 e)).1
  refine ⟨fun q hq => (wT _ ho q).2 (.inl (K.blk q hq)), h.nodup_iff.2 (List.nodup_cons.2 ⟨hno, K.nd⟩), fun q => ?_⟩
  rw [h.mem_iff, List.mem_cons, K.gr, Zh, Zh]
  show q = o ∨ _ ↔ zJ (t.Marks ||| bit o) q = true ∧ ¬ zJ t.Black q = true
  rw [wT _ ho]
  constructor
  · rintro (rfl | ⟨a, b⟩)
    · exact ⟨.inr rfl, hnb⟩
    · exact ⟨.inl a, b⟩
  · rintro ⟨a | a, b⟩
    · exact .inr ⟨a, b⟩
    · exact .inl a
theorem zaV.less {B B' : List Int} {t : zt} {o : Int} (K : zaV B t) (h : List.Perm (B' ++ [o]) B) : zaV B' (ZP t o) ∧ (ZP t o).Marks = t.Marks ∧ xX t o = 1 ∧ ∀ q, zJ (ZP t o).Black q = true ↔ zJ t.Black q = true ∨ q = o := by
  have ho : xX t o = 1 := (K.gr o).1 (h.mem_iff.1 (by simp))
  have hr := zqa ho
  have hm := ((Zh t o).1 ho)
  have hnd := h.nodup_iff.2 K.nd
  have hnd := List.nodup_append.1 hnd
  unfold ZP
  rw [if_pos ho]
  refine ⟨⟨fun q hq => ?_, hnd.1, fun q => ?_⟩, rfl, ho, fun q => wT _ hr q⟩
  · rcases (wT _ hr q).1 hq with e | e
    · exact K.blk q e
    · rw [e]; exact hm.1
  · have e1 : q ∈ B ↔ q ∈ B' ∨ q = o := by rw [← h.mem_iff, List.mem_append, List.mem_singleton]
    rw [K.gr, Zh] at e1
    rw [Zh]
    show _ ↔ zJ t.Marks q = true ∧ ¬ zJ (t.Black ||| bit o) q = true
    rw [wT _ hr]
    constructor
    · intro hq
      have := e1.2 (.inl hq)
      exact ⟨this.1, fun e => e.elim this.2 (fun e => hnd.2.2 q hq o (by simp) e)⟩
    · rintro ⟨a, b⟩
      rcases e1.1 ⟨a, fun e => b (.inl e)⟩ with e | e
      · exact e
      · exact absurd (.inr e) b
theorem HOk.get {p : zc} (hp : zG p) {h : zo} (H : HOk p h) (o i : Int) : 0 ≤ zQ h o i ∧ zQ h o i ≤ 64 := by
  have h1 := H.n
  have h2 : p.Most ≤ 64 := by have := hp.most; have := hp.n; omega
  unfold zQ
  split
  · unfold zH
    rw [List.getD_eq_getElem?_getD, List.getD_eq_getElem?_getD]
    cases hx : h.Objs[(o - 1).toNat]? with
    | none => show 0 ≤ (([] : List Int)[i.toNat]?).getD 0 ∧ _; simp
    | some l =>
      show 0 ≤ (l[i.toNat]?).getD 0 ∧ (l[i.toNat]?).getD 0 ≤ 64
      cases hv : l[i.toNat]? with
      | none => show (0 : Int) ≤ 0 ∧ (0 : Int) ≤ 64; decide
      | some v =>
        have := (H.objs l (List.mem_of_getElem? hx)).2 v (List.mem_of_getElem? hv)
        show 0 ≤ v ∧ v ≤ 64; omega
  · exact ⟨by decide, by decide⟩
structure WG (p : zc) (nb k : Nat) (s : za) (gh : Gh) : Prop where
  E : EOk p nb s
  X : SX p nb s gh (s.Ws.flatMap zbf) k
  W : ∀ (i : Nat) x, s.Ws[i]? = some x → WX p s gh ((i : Int) + 1) x
  B : zaV (zv4 p s gh) s.T
end
end Go.Pe.G
namespace Go.Pe.G
open Go.Pe
noncomputable section
theorem zkc {N : Int} {nb : Nat} (hN : 0 ≤ N ∧ N < 1000) (hnb : nb < 1000) : ∀ (l : List Int) (m : List (BitVec 64)) (a : Int), (∀ x ∈ l, 1 ≤ x ∧ x < nb) → (∀ x ∈ l, a ≠ N + x) → ld (links m N l) a = ld m a
  | [], m, a, _, _ => rfl
  | [x], m, a, h, h2 => by
    have := h x (by simp)
    have := h2 x (by simp)
    rw [links, vD (by omega) (by omega)]
    exact yP (by omega)
  | x :: y :: l, m, a, h, h2 => by
    have := h x (by simp)
    have := h2 x (by simp)
    rw [links, zkc hN hnb (y :: l) _ a (fun z hz => h z (List.mem_cons_of_mem _ hz)) (fun z hz => h2 z (List.mem_cons_of_mem _ hz)), vD (by omega) (by omega)]
    exact yP (by omega)
theorem zlD {N : Int} {nb : Nat} (hN : 0 ≤ N ∧ N < 1000) (hnb : nb < 1000) : ∀ (l : List Int) (m : List (BitVec 64)), (∀ x ∈ l, 1 ≤ x ∧ x < nb) → l.Nodup → N + nb ≤ m.length → Chn (links m N l) N nb (l.headD 0) l
  | [], m, _, _, _ => rfl
  | [x], m, h, _, hl => by
    have := h x (by simp)
    refine ⟨rfl, this.1, this.2, ?_⟩
    rw [links, vD (by omega) (by omega), Vu, if_pos ⟨rfl, by omega, by omega⟩]
    rfl
  | x :: y :: l, m, h, hd, hl => by
    have hx := h x (by simp)
    have hy := h y (by simp)
    have hd := List.nodup_cons.1 hd
    refine ⟨rfl, hx.1, hx.2, ?_⟩
    have ih := zlD hN hnb (y :: l) (st m (wc (N + x)) (BitVec.ofInt 64 y)) (fun z hz => h z (List.mem_cons_of_mem _ hz)) hd.2 (by rw [ZD]; exact hl)
    rw [links, zkc hN hnb (y :: l) _ (N + x) (fun z hz => h z (List.mem_cons_of_mem _ hz)) (fun z hz e => hd.1 (by rw [zjv e] at hz; exact hz)), vD (by omega) (by omega), Vu, if_pos ⟨rfl, by omega, by omega⟩, toInt_ofInt (by omega) (by omega)]
    rw [vD (by omega) (by omega)] at ih
    exact ih
theorem Chn.links {N : Int} {nb : Nat} (hN : 0 ≤ N ∧ N < 1000) (hnb : nb < 1000) {l r : List Int} {h : Int} {m : List (BitVec 64)} (hr : ∀ x ∈ r, 1 ≤ x ∧ x < nb) (hd : ∀ x ∈ l, x ∉ r) (c : Chn m N nb h l) : Chn (Go.Pe.G.links m N r) N nb h l := by
  induction l generalizing h with
  | nil => exact c
  | cons y l ih =>
    refine ⟨c.1, c.2.1, c.2.2.1, ?_⟩
    rw [zkc hN hnb r m (N + y) hr (fun z hz e => hd y (by simp) (by rw [zjv e] at hz; exact hz))]
    exact ih (fun x hx => hd x (List.mem_cons_of_mem _ hx)) c.2.2.2
theorem zt0 {l : List Int} {nb : Nat} (h : ∀ x ∈ l, 1 ≤ x ∧ x < nb) (hnb : nb < 1000) : 0 ≤ l.headD 0 ∧ l.headD 0 < 4294967296 := by
  cases l with
  | nil => exact ⟨by decide, by decide⟩
  | cons a r => have := h a (by simp); show 0 ≤ a ∧ a < 4294967296; omega
theorem zxx {p : zc} (h : zG p) : LI p (zW p + 1) (yR p).M (yc p) (zE p) ((xl (zW p)).take (xk p).length) ((xl (zW p)).drop (xk p).length) [] ∧ yY (ld (yR p).M (yc p)) = 0 ∧ yY (ld (yR p).M (zE p)) = 0 := by
  have hb := zgu h
  have hF := XG h
  have hE := wJ h
  have hcl := Vn p p.Workers.toNat
  have hw := h.wk
  have hc := h.cap
  have hfe : yc p = ((p.Workers.toNat * (p.Cap.toNat + 2) : Nat) : Int) := by
    rw [hF.1]
    have e1 : p.Workers = ((p.Workers.toNat : Nat) : Int) := by omega
    have e2 : p.Cap + 2 = ((p.Cap.toNat + 2 : Nat) : Int) := by omega
    rw [e2, Int.natCast_mul]
    rw [← e1]
  have hN : 0 ≤ zE p ∧ zE p < 1000 := by omega
  have hnb : zW p + 1 < 1000 := by omega
  generalize hk : (xk p).length = k
  have t1 : ∀ x ∈ (xl (zW p)).take k, 1 ≤ x ∧ x < ((zW p + 1 : Nat) : Int) := fun x hx => by have := zdw (List.mem_of_mem_take hx); omega
  have t2 : ∀ x ∈ (xl (zW p)).drop k, 1 ≤ x ∧ x < ((zW p + 1 : Nat) : Int) := fun x hx => by have := zdw (List.mem_of_mem_drop hx); omega
  have nd : ((xl (zW p)).take k ++ (xl (zW p)).drop k).Nodup := by rw [List.take_append_drop]; exact zny (zW p + 1)
  have nd3 := List.nodup_append.1 nd
  have eM : (yR p).M = za6 (za6 (ZY p p.Workers.toNat ++ List.replicate (2 + zW p) 0#64) (yc p) (zE p) ((xl (zW p)).take k)) (zE p) (zE p) ((xl (zW p)).drop k) := by rw [← hk]; rfl
  rw [eM]
  generalize hm0 : ZY p p.Workers.toNat ++ List.replicate (2 + zW p) 0#64 = m0
  have l0 : zE p + ((zW p + 1 : Nat) : Int) ≤ m0.length := by
    rw [← hm0, List.length_append, hcl, List.length_replicate]; omega
  have p1 := zt0 t1 hnb
  have p2 := zt0 t2 hnb
  have v0 : ∀ n : Int, 0 ≤ n → n < 4294967296 → yY (yW 0#64 n) = 0 := fun n h1 h2 => by
    unfold yY; rw [zpM _ h1 h2]; show (0 * 4294967296 + n.toNat) / 4294967296 = 0; omega
  have c1 := zlD hN hnb _ m0 t1 nd3.1 l0
  generalize hm1 : links m0 (zE p) ((xl (zW p)).take k) = m1 at c1
  have l1 : m1.length = m0.length := by rw [← hm1, zbo]
  have c1' := (c1.st_head h (a := yc p) (v := yW 0#64 (((xl (zW p)).take k).headD 0)) (.inl rfl)).links hN hnb t2 (fun x hx hx2 => nd3.2.2 x hx x hx2 rfl)
  have c2 := zlD hN hnb _ (st m1 (yc p) (yW 0#64 (((xl (zW p)).take k).headD 0))) t2 nd3.2.1 (by rw [ZD, l1]; exact l0)
  have hd1 : ld (links (st m1 (yc p) (yW 0#64 (((xl (zW p)).take k).headD 0))) (zE p) ((xl (zW p)).drop k)) (yc p) = yW 0#64 (((xl (zW p)).take k).headD 0) := by
    rw [zkc hN hnb _ _ _ t2 (fun x hx => by have := t2 x hx; omega), Vu, if_pos ⟨rfl, by omega, by omega⟩]
  unfold za6
  rw [hm1]
  generalize hm2 : links (st m1 (yc p) (yW 0#64 (((xl (zW p)).take k).headD 0))) (zE p) ((xl (zW p)).drop k) = m2 at c1' c2 hd1
  have l2 : m2.length = m0.length := by rw [← hm2, zbo, ZD, l1]
  have g1 : ld (st m2 (zE p) (yW 0#64 (((xl (zW p)).drop k).headD 0))) (yc p) = yW 0#64 (((xl (zW p)).take k).headD 0) := by rw [yP (by omega), hd1]
  have g2 : ld (st m2 (zE p) (yW 0#64 (((xl (zW p)).drop k).headD 0))) (zE p) = yW 0#64 (((xl (zW p)).drop k).headD 0) := by rw [Vu, if_pos ⟨rfl, by omega, by omega⟩]
  refine ⟨⟨.inl ⟨rfl, rfl⟩, ?_, ?_, ?_, by rw [ZD, l2]; exact l0⟩, ?_, ?_⟩
  · rw [g1, zby _ p1.1 p1.2]
    exact c1'.st_head h (.inr rfl)
  · rw [g2, zby _ p2.1 p2.2]
    exact c2.st_head h (.inr rfl)
  · rw [List.append_nil, List.take_append_drop]
    exact List.Perm.refl _
  · rw [g1]; exact v0 _ p1.1 p1.2
  · rw [g2]; exact v0 _ p2.1 p2.2
end
end Go.Pe.G
namespace Go.Pe.G
open Go.Pe
noncomputable section
theorem zlW {N : Int} (hN : 0 ≤ N ∧ N < 1000) : ∀ (l : List Int) (m : List (BitVec 64)) (a : Int), (∀ x ∈ l, 1 ≤ x ∧ x < 1000) → a ≤ N → ld (links m N l) a = ld m a
  | [], m, a, _, _ => rfl
  | [x], m, a, h, h2 => by
    have := h x (by simp)
    rw [links, vD (by omega) (by omega)]
    exact yP (by omega)
  | x :: y :: l, m, a, h, h2 => by
    have := h x (by simp)
    rw [links, zlW hN (y :: l) _ a (fun z hz => h z (List.mem_cons_of_mem _ hz)) h2, vD (by omega) (by omega)]
    exact yP (by omega)
theorem zzs {p : zc} (h : zG p) {a : Int} (ha : a < yc p) : ld (yR p).M a = ld (ZY p p.Workers.toNat ++ List.replicate (2 + zW p) 0#64) a := by
  have hb := zgu h
  have hF := XG h
  have hE := wJ h
  have t1 : ∀ x ∈ (xl (zW p)).take (xk p).length, 1 ≤ x ∧ x < 1000 := fun x hx => by have := zdw (List.mem_of_mem_take hx); omega
  have t2 : ∀ x ∈ (xl (zW p)).drop (xk p).length, 1 ≤ x ∧ x < 1000 := fun x hx => by have := zdw (List.mem_of_mem_drop hx); omega
  show ld (za6 (za6 _ (yc p) (zE p) _) (zE p) (zE p) _) a = _
  unfold za6
  rw [yP (by omega), zlW (by omega) _ _ _ t2 (by omega), yP (by omega), zlW (by omega) _ _ _ t1 (by omega)]
theorem zrm (p : zc) : ∀ (k i j : Nat), i < k → j < p.Cap.toNat + 2 → (ZY p k)[i * (p.Cap.toNat + 2) + j]? = (zeH p.Cap)[j]?
  | 0, i, j, h, _ => by omega
  | k + 1, i, j, h, hj => by
    rw [zi0]
    have hl := Vn p k
    rcases Nat.lt_or_ge i k with h1 | h1
    · have h2 := Nat.mul_le_mul_right (p.Cap.toNat + 2) (show i + 1 ≤ k from h1)
      rw [Nat.succ_mul] at h2
      rw [List.getElem?_append_left (by omega)]
      exact zrm p k i j h1 hj
    · have : i = k := by omega
      subst this
      rw [List.getElem?_append_right (by omega), hl, show i * (p.Cap.toNat + 2) + j - i * (p.Cap.toNat + 2) = j by omega]
theorem ztr {p : zc} (h : zG p) {w : Int} (hw : 1 ≤ w ∧ w ≤ p.Workers) {j : Nat} (hj : j < 2) : ld (yR p).M (yq p w + j) = 1#64 := by
  have hd := VB h hw.1 hw.2
  have hc := h.cap
  have hl := Vn p p.Workers.toNat
  have hlt : (w - 1).toNat < p.Workers.toNat := by omega
  have e1 : (yq p w + j).toNat = (w - 1).toNat * (p.Cap.toNat + 2) + j := by
    obtain ⟨n, hn⟩ : ∃ n : Nat, w - 1 = (n : Int) := ⟨(w - 1).toNat, by omega⟩
    have e2 : p.Cap + 2 = ((p.Cap.toNat + 2 : Nat) : Int) := by omega
    rw [hd.1, hn, e2, ← Int.natCast_mul, Int.toNat_natCast]
    omega
  have h2 := Nat.mul_le_mul_right (p.Cap.toNat + 2) (show (w - 1).toNat + 1 ≤ p.Workers.toNat from hlt)
  rw [Nat.succ_mul] at h2
  rw [zzs h (by omega)]
  unfold ld
  rw [if_pos (by omega), e1, List.getD_eq_getElem?_getD, List.getElem?_append_left (by omega), zrm p _ _ _ hlt (by omega)]
  unfold zeH
  match j, hj with
  | 0, _ => rfl
  | 1, _ => rfl
theorem znz (n : Nat) (hn : 1 ≤ n) : ∀ (f : Nat) (l : List Int), l.length ≤ f → (ur n f l).flatten = l
  | 0, l, h => by
    have : l = [] := List.length_eq_zero_iff.1 (by omega)
    subst this; simp [ur]
  | f + 1, [], _ => by simp [ur]
  | f + 1, x :: l, h => by
    have := znz n hn f ((x :: l).drop n) (by rw [List.length_drop]; simp at h ⊢; omega)
    simp only [ur, List.flatten_cons] at this ⊢
    rw [this, List.take_append_drop]
theorem zwF {α : Type} (l : List (List α)) : (List.range l.length).flatMap (fun i : Nat => (l[i]?).getD []) = l.flatten := by
  rw [List.flatMap_def]
  congr 1
  apply List.ext_getElem
  · simp
  · intro i h1 h2
    simp [List.getElem?_eq_getElem h2]
def gh0 (p : zc) : Gh := ⟨(xl (zW p)).take (xk p).length, (xl (zW p)).drop (xk p).length, fun _ => [], fun _ => 1, fun _ => 0⟩
theorem zdz {α β : Type} {f : α → List β} : ∀ {l : List α}, (∀ x ∈ l, f x = []) → l.flatMap f = []
  | [], _ => rfl
  | a :: l, h => by rw [List.flatMap_cons, h a (by simp), zdz (fun x hx => h x (List.mem_cons_of_mem _ hx))]; rfl
theorem zzx {p : zc} (h : zG p) : xJ p (yR p) (gh0 p) = VF (Zn p) := by
  have hb := h.bin
  have hfl := zn5 h
  have hbs := zgu h
  have hmost := h.most
  have hw := h.wk
  have hm := h.mt
  have e1 : xJ p (yR p) (gh0 p) = ((xl (zW p)).take (xk p).length).flatMap (ui (yR p)) := by
    show ((xl (zW p)).take (xk p).length).flatMap (ui (yR p)) ++ (List.range p.Workers.toNat).flatMap (fun _ => ([] : List Int)) = _
    rw [zdz (f := fun _ => ([] : List Int)) (fun _ _ => rfl), List.append_nil]
  have e2 : (xl (zW p)).take (xk p).length = (List.range (xk p).length).map (fun i : Nat => (i : Int) + 1) := by
    unfold xl
    rw [← List.map_take, List.take_range, Nat.min_eq_left (by omega)]
  rw [e1, e2, List.flatMap_map]
  have e3 : (List.range (xk p).length).flatMap (fun i : Nat => ui (yR p) ((i : Int) + 1)) = (List.range (xk p).length).flatMap (fun i : Nat => ((xk p)[i]?).getD []) := by
    refine YC (fun i hi => ?_)
    have hi := List.mem_range.1 hi
    unfold ui
    show (([[]] ++ xk p ++ List.replicate (zW p - (xk p).length) [])[((i : Int) + 1).toNat]?).getD [] = _
    rw [show ((i : Int) + 1).toNat = i + 1 by omega, List.append_assoc]
    show ((xk p ++ List.replicate (zW p - (xk p).length) [])[i]?).getD [] = _
    rw [List.getElem?_append_left hi]
  rw [e3, zwF]
  exact znz _ (by omega) _ _ (Nat.le_refl _)
theorem zuk (s : BitVec 64) : (VF s).Nodup := by
  unfold VF
  rw [List.Nodup, List.pairwise_map]
  exact (List.nodup_range.filter _).imp (fun h e => h (by omega))
theorem zvC {s : BitVec 64} (h : s &&& ~~~63#64 = 0#64) {j : Nat} (hs : s.getLsbD j = true) : j < 6 := by
  have hj : j < 64 := BitVec.lt_of_getLsbD hs
  have := congrArg (fun x => x.getLsbD j) h
  simp only [BitVec.getLsbD_and, BitVec.getLsbD_not, hs, hj, decide_true, Bool.true_and, BitVec.getLsbD_zero] at this
  have h63 : (63#64).getLsbD j = decide (j < 6) := by
    have : ∀ j : Fin 64, (63#64).getLsbD j.1 = decide (j.1 < 6) := by decide
    exact this ⟨j, hj⟩
  rw [h63] at this
  by_cases e : j < 6
  · exact e
  · rw [decide_eq_false e] at this; cases this
theorem zwN {s : BitVec 64} (h : s &&& ~~~63#64 = 0#64) (o : Int) : o ∈ VF s ↔ zJ s o = true := by
  unfold VF
  rw [wi, List.mem_map]
  constructor
  · rintro ⟨i, hi, rfl⟩
    obtain ⟨h1, h2⟩ := List.mem_filter.1 hi
    have := List.mem_range.1 h1
    exact ⟨by omega, by omega, by rw [show ((i : Int) + 1 - 1).toNat = i by omega]; exact h2⟩
  · rintro ⟨h1, h2, h3⟩
    exact ⟨(o - 1).toNat, List.mem_filter.2 ⟨List.mem_range.2 (zvC h h3), h3⟩, by omega⟩
theorem zzJ {p : zc} (h : zG p) : WG p (zW p + 1) 0 (yR p) (gh0 p) := by
  have hE := zs7 h
  obtain ⟨L, v1, v2⟩ := zxx h
  have hc := h.cap
  have hws : ∀ x ∈ (yR p).Ws, ∃ i : Nat, x = uK p i := fun x hx => by
    obtain ⟨i, _, rfl⟩ := List.mem_map.1 (show x ∈ (List.range p.Workers.toNat).map (uK p) from hx)
    exact ⟨i, rfl⟩
  have hb : ∀ i : Nat, uK p i = zmj p ((i : Int) + 1) (uK p i) := fun i => rfl
  have own : (yR p).Ws.flatMap zbf = [] := zdz (fun x hx => by
    obtain ⟨i, rfl⟩ := hws x hx
    exact zyO (by show (0 : Int) ≠ 3; decide) (by show (0 : Int) ≠ 4; decide) (by show (0 : Int) ≠ 6; decide))
  have hold : (yR p).Ws.flatMap (Zc (yR p)) = [] := zdz (fun x hx => by
    obtain ⟨i, rfl⟩ := hws x hx
    unfold Zc
    rw [hb i, zwc]; rfl)
  refine ⟨hE, ⟨hE.S, by rw [own]; exact L, fun w h1 h2 => ?_, ?_, fun w _ _ => by show 1 + 0 ≤ 0 + 1000; decide⟩, fun i x hx => ?_, ?_⟩
  · have c0 := ztr h ⟨h1, h2⟩ (j := 0) (by decide)
    have c1 := ztr h ⟨h1, h2⟩ (j := 1) (by decide)
    rw [show yq p w + ((0 : Nat) : Int) = yq p w by omega] at c0
    exact ⟨c0, c1, by show (0 : Nat) ≤ 1; decide, by show (1 : Nat) ≤ 1; decide, Nat.zero_le _, by show 1 + 0 < 4294967296; decide, fun i hi => absurd hi (Nat.not_lt_zero _)⟩
  · rw [v1, v2]; exact ⟨Nat.le_refl _, Nat.le_refl _⟩
  · have hx : ((List.range p.Workers.toNat).map (uK p))[i]? = some x := hx
    rw [List.getElem?_map] at hx
    cases hr : (List.range p.Workers.toNat)[i]? with
    | none => rw [hr] at hx; cases hx
    | some j =>
      rw [hr] at hx
      injection hx with hx
      obtain ⟨h1, h2⟩ := List.getElem?_eq_some_iff.1 hr
      rw [List.getElem_range] at h2
      subst h2
      rw [← hx, hb i]
      exact WX.begin rfl rfl
  · have hs := ziY h
    unfold zv4
    rw [hold, List.append_nil, zzx h]
    refine ⟨fun o ho => absurd ho (YQ o), zuk _, fun o => ?_⟩
    rw [zwN hs, Zh]
    exact ⟨fun e => ⟨e, YQ o⟩, fun e => e.1⟩
end
end Go.Pe.G
namespace Go.Pe.G
open Go.Pe
noncomputable section
theorem wb (a b : BitVec 64) (q : Int) : zJ (a ||| b) q = true ↔ zJ a q = true ∨ zJ b q = true := by
  rw [wi, wi, wi, BitVec.getLsbD_or, Bool.or_eq_true]
  constructor
  · rintro ⟨h1, h2, h | h⟩
    · exact .inl ⟨h1, h2, h⟩
    · exact .inr ⟨h1, h2, h⟩
  · rintro (⟨h1, h2, h⟩ | ⟨h1, h2, h⟩)
    · exact ⟨h1, h2, .inl h⟩
    · exact ⟨h1, h2, .inr h⟩
theorem zbn (h : zo) (a i v : Int) : (Zm h a i v).Objs.length = h.Objs.length := by
  unfold Zm; split <;> simp
theorem zl4 (h : zo) : (vr h).Objs.length = h.Objs.length + 1 := by unfold vr; simp
end
end Go.Pe.G
namespace Go.Pe.G
open Go.Pe
noncomputable section
theorem zo6 : ∀ (n : Fin 10) (j : Fin 64), (wS (n.1 : Int)).getLsbD j.1 = decide (j.1 < n.1) := by decide +kernel
theorem zkf {n : Nat} (hn : n ≤ 9) (o : Int) : zJ (wS (n : Int)) o = true ↔ 1 ≤ o ∧ o ≤ (n : Int) := by
  rw [wi]
  constructor
  · rintro ⟨a, b, c⟩
    have := zo6 ⟨n, by omega⟩ ⟨(o - 1).toNat, by omega⟩
    rw [this] at c
    have : (o - 1).toNat < n := by simpa using c
    omega
  · rintro ⟨a, b⟩
    have := zo6 ⟨n, by omega⟩ ⟨(o - 1).toNat, by omega⟩
    refine ⟨a, by omega, ?_⟩
    rw [this]
    exact decide_eq_true (by show (o - 1).toNat < n; omega)
end
end Go.Pe.G
namespace Go.Pe.G
open Go.Pe
noncomputable section
theorem zxl {t : zt} {o : Int} (ho : 1 ≤ o ∧ o ≤ 64) (hm : ¬ zJ t.Marks o = true) (hb : ¬ zJ t.Black o = true) : Zl t o = ({ t with Marks := t.Marks ||| bit o }, true) := by
  unfold Zl
  rw [if_neg ((zfL ho).2 hm), if_pos]
  unfold zJ at hb
  simpa using hb
theorem zxH {o q : Int} (h : zJ (bit o) q = true) : q = o := by
  by_cases ho : 1 ≤ o ∧ o ≤ 64
  · have := (wT 0#64 ho q).1 (by simpa using h)
    exact this.resolve_left (YQ q)
  · unfold bit at h; rw [if_neg ho] at h; exact absurd h (YQ q)
theorem zbb {m : BitVec 64} {o q : Int} (h : zJ (m ||| bit o) q = true) : zJ m q = true ∨ q = o := ((wb _ _ _).1 h).imp id zxH
theorem zzd (t : zt) (o : Int) : (ZP t o).Marks = t.Marks ∧ ((ZP t o).Black = t.Black ∨ ((ZP t o).Black = t.Black ||| bit o ∧ zJ t.Marks o = true)) := by
  unfold ZP
  split
  · rename_i h; exact ⟨rfl, .inr ⟨rfl, ((Zh t o).1 h).1⟩⟩
  · exact ⟨rfl, .inl rfl⟩
theorem zxg (s : za) (g : zA) : (zB s g).1.T = s.T ∨ (zB s g).1.T = (Zl s.T g.Obj).1 := by
  unfold zB
  split
  · exact .inl rfl
  split
  · exact .inl rfl
  split
  · exact .inl rfl
  split
  · exact .inl rfl
  split
  · exact .inl rfl
  split
  · exact .inl rfl
  split
  · exact .inl rfl
  split
  · exact .inr rfl
  · exact .inl rfl
theorem ztK (s : za) (m : Int) (x : zb) :
    ((zn s m x).1.H.Objs.length = s.H.Objs.length ∧ ((zn s m x).1.T = s.T ∨ ((zn s m x).1.T = (Zl s.T x.G.Obj).1 ∧ (x.PC = 3 ∨ x.PC = 37)) ∨ (zn s m x).1.T = ZP s.T x.Obj) ∧
      ((zn s m x).1.L = s.L ∨ (∃ w, (zn s m x).1.L = (zd1 s.L m w).1) ∨ (zn s m x).1.L = zk9 s.L m)) ∨
    ((zn s m x).1.H = vr s.H ∧ (zn s m x).1.T = WJ s.T (wc (s.H.Objs.length + 1)) ∧ (zn s m x).1.L = zg5 s.L m s.P.Price ∧ zg9 s.L m s.P.Price s.P.Limit = true ∧ WA s.H s.P.Most = true) := by
  refine wH (motive := fun r => (r.1.H.Objs.length = s.H.Objs.length ∧ (r.1.T = s.T ∨ (r.1.T = (Zl s.T x.G.Obj).1 ∧ (x.PC = 3 ∨ x.PC = 37)) ∨ r.1.T = ZP s.T x.Obj) ∧ (r.1.L = s.L ∨ (∃ w, r.1.L = (zd1 s.L m w).1) ∨ r.1.L = zk9 s.L m)) ∨
    (r.1.H = vr s.H ∧ r.1.T = WJ s.T (wc (s.H.Objs.length + 1)) ∧ r.1.L = zg5 s.L m s.P.Price ∧ zg9 s.L m s.P.Price s.P.Limit = true ∧ WA s.H s.P.Most = true)) s m x ?_ ?_ ?_ ?_ ?_ ?_ ?_ ?_ ?_ ?_ ?_ ?_ ?_ ?_ ?_ ?_ ?_ ?_ ?_ ?_
  · intro c; exact .inl ⟨rfl, .inl rfl, .inl rfl⟩
  · intro c; exact .inl ⟨rfl, .inl rfl, .inl rfl⟩
  · intro c; exact .inl ⟨rfl, .inl rfl, .inl rfl⟩
  · intro c; unfold mu3
    refine .inl ⟨by rw [VI], (zxg s x.G).imp id (fun h => .inl ⟨h, .inl c⟩), .inl (by rw [VI])⟩
  · intro c; exact .inl ⟨rfl, .inl rfl, .inl rfl⟩
  · intro c; exact .inl ⟨rfl, .inl rfl, .inl rfl⟩
  · intro c; exact .inl ⟨rfl, .inl rfl, .inl rfl⟩
  · intro c; exact .inl ⟨rfl, .inl rfl, .inl rfl⟩
  · intro c; exact .inl ⟨zbn _ _ _ _, .inl rfl, .inl rfl⟩
  · intro c; unfold zal
    split
    · split
      · rename_i h1 h2; exact .inr ⟨rfl, rfl, rfl, h1, h2⟩
      · exact .inl ⟨rfl, .inl rfl, .inl rfl⟩
    · exact .inl ⟨rfl, .inl rfl, .inl rfl⟩
  · intro c; exact .inl ⟨rfl, .inl rfl, .inr (.inl ⟨_, rfl⟩)⟩
  · intro c; exact .inl ⟨rfl, .inl rfl, .inl rfl⟩
  · intro c; exact .inl ⟨rfl, .inl rfl, .inl rfl⟩
  · intro c; exact .inl ⟨rfl, .inl rfl, .inl rfl⟩
  · intro c; exact .inl ⟨rfl, .inl rfl, .inl rfl⟩
  · intro c; exact .inl ⟨rfl, .inl rfl, .inl rfl⟩
  · intro c; unfold za8
    refine .inl ⟨by rw [VI], (zxg s x.G).imp id (fun h => .inl ⟨h, .inr c⟩), .inl (by rw [VI])⟩
  · intro c; exact .inl ⟨rfl, .inr (.inr rfl), .inr (.inr rfl)⟩
  · intro c; exact .inl ⟨rfl, .inl rfl, .inl rfl⟩
  · exact .inl ⟨rfl, .inl rfl, .inl rfl⟩
def zie (n : Int) (x : zb) : Prop := (∀ v ∈ x.Buf, v ≤ n) ∧ x.Old ≤ n ∧ (x.PC = 3 ∨ x.PC = 37 → x.G.Obj ≤ n)
theorem zwK {h : zo} {n : Int} (h0 : 0 ≤ n) (hv : ∀ l ∈ h.Objs, ∀ v ∈ l, v ≤ n) (o i : Int) : zQ h o i ≤ n := by
  unfold zQ
  split
  · rw [List.getD_eq_getElem?_getD]
    cases hx : (zH h o)[i.toNat]? with
    | none => exact h0
    | some v =>
      have hm := List.mem_of_getElem? hx
      unfold zH at hm
      rw [List.getD_eq_getElem?_getD] at hm
      cases hy : h.Objs[(o - 1).toNat]? with
      | none => rw [hy] at hm; cases hm
      | some l => rw [hy] at hm; exact hv l (List.mem_of_getElem? hy) v hm
  · exact h0
theorem zwl {p : zc} {nb : Nat} {s : za} {m : Int} {x : zb} (X : XOk p nb m x) {n : Int} (h0 : 0 ≤ n) (hv : ∀ l ∈ s.H.Objs, ∀ v ∈ l, v ≤ n) (B : zie n x) : zie n (zn s m x).2 := by
  obtain ⟨b1, b2, b3⟩ := B
  have no : ∀ {y : zb}, (∀ v ∈ y.Buf, v ≤ n) → y.Old ≤ n → ¬ (y.PC = 3 ∨ y.PC = 37) → zie n y := fun h1 h2 h3 => ⟨h1, h2, fun e => absurd e h3⟩
  refine wH (motive := fun r => zie n r.2) s m x ?_ ?_ ?_ ?_ ?_ ?_ ?_ ?_ ?_ ?_ ?_ ?_ ?_ ?_ ?_ ?_ ?_ ?_ ?_ ?_
  · intro c; unfold mu0 VW
    repeat' split
    all_goals exact no b1 b2 (by dsimp only [setM]; omega)
  · intro c; unfold mu1; dsimp only
    split
    · exact no b1 b2 (by have := X.ret (.inl c); show ¬ (x.Ret = 3 ∨ x.Ret = 37); omega)
    · rename_i hl
      refine ⟨fun v hv => b1 v (List.mem_of_mem_take hv), b2, fun _ => ?_⟩
      show x.Buf.getD (x.Buf.length - 1) 0 ≤ n
      rw [List.getD_eq_getElem?_getD, List.getElem?_eq_getElem (show x.Buf.length - 1 < x.Buf.length by omega)]
      exact b1 _ (List.getElem_mem _)
  · intro c; unfold mu2; exact no b1 b2 (by show ¬ ((0 : Int) = 3 ∨ (0 : Int) = 37); decide)
  · intro c; unfold mu3; dsimp only
    split
    · exact no b1 b2 (by show ¬ ((1 : Int) = 3 ∨ (1 : Int) = 37); decide)
    · exact ⟨b1, b2, fun _ => by show (zB s x.G).2.Obj ≤ n; rw [(zcS s x.G).1]; exact b3 (.inl c)⟩
  · intro c; unfold zg2; exact no b1 b2 (by show ¬ ((0 : Int) = 3 ∨ (0 : Int) = 37); decide)
  · intro c; unfold ze7; dsimp only
    split
    · exact no b1 b2 (by show ¬ ((0 : Int) = 3 ∨ (0 : Int) = 37); decide)
    · exact no b1 (zwK h0 hv _ _) (by show ¬ ((21 : Int) = 3 ∨ (21 : Int) = 37); decide)
  · intro c; unfold zeS; dsimp only
    split
    · exact no b1 h0 (by show ¬ ((23 : Int) = 3 ∨ (23 : Int) = 37); decide)
    · exact no b1 b2 (by show ¬ ((22 : Int) = 3 ∨ (22 : Int) = 37); decide)
  · intro c; unfold zeR; dsimp only
    split
    · exact no b1 b2 (by show ¬ ((1 : Int) = 3 ∨ (1 : Int) = 37); decide)
    · refine no (fun v hv => ?_) h0 (by show ¬ ((23 : Int) = 3 ∨ (23 : Int) = 37); decide)
      rcases List.mem_append.1 hv with h | h
      · exact b1 v h
      · rw [List.mem_singleton.1 h]; exact b2
  · intro c; unfold zfo; exact no b1 b2 (by show ¬ ((0 : Int) = 3 ∨ (0 : Int) = 37); decide)
  · intro c; unfold zal
    split
    · split
      · exact no b1 b2 (by show ¬ ((0 : Int) = 3 ∨ (0 : Int) = 37); decide)
      · exact no b1 b2 (by show ¬ ((0 : Int) = 3 ∨ (0 : Int) = 37); decide)
    · exact no b1 b2 (by show ¬ ((31 : Int) = 3 ∨ (31 : Int) = 37); decide)
  · intro c; unfold ze4; dsimp only
    split
    · exact no b1 b2 (by show ¬ ((32 : Int) = 3 ∨ (32 : Int) = 37); decide)
    · exact no b1 b2 (by show ¬ ((0 : Int) = 3 ∨ (0 : Int) = 37); decide)
  · intro c; unfold ze2; dsimp only
    split
    · exact no b1 b2 (by show ¬ ((33 : Int) = 3 ∨ (33 : Int) = 37); decide)
    split
    · exact no b1 b2 (by show ¬ ((0 : Int) = 3 ∨ (0 : Int) = 37); decide)
    · exact no b1 b2 (by show ¬ (x.PC = 3 ∨ x.PC = 37); omega)
  · intro c; unfold zha; exact no b1 b2 (by show ¬ ((34 : Int) = 3 ∨ (34 : Int) = 37); decide)
  · intro c; unfold ze9; dsimp only
    split
    · exact no b1 b2 (by show ¬ ((35 : Int) = 3 ∨ (35 : Int) = 37); decide)
    · exact no b1 b2 (by show ¬ (x.PC = 3 ∨ x.PC = 37); omega)
  · intro c; unfold zeK; dsimp only
    split
    · exact no b1 b2 (by show ¬ ((0 : Int) = 3 ∨ (0 : Int) = 37); decide)
    · exact no b1 b2 (by show ¬ ((36 : Int) = 3 ∨ (36 : Int) = 37); decide)
  · intro c; unfold zeU; dsimp only
    split
    · exact no b1 b2 (by have := zeq s (wc (x.Slot + 1)); show ¬ (onM s (wc (x.Slot + 1)) = 3 ∨ onM s (wc (x.Slot + 1)) = 37); omega)
    · exact ⟨b1, b2, fun _ => zwK h0 hv _ _⟩
  · intro c; unfold za8; dsimp only
    split
    · exact no b1 b2 (by have := zeq s x.Slot; show ¬ (onM s x.Slot = 3 ∨ onM s x.Slot = 37); omega)
    · exact ⟨b1, b2, fun _ => by show (zB s x.G).2.Obj ≤ n; rw [(zcS s x.G).1]; exact b3 (.inr c)⟩
  · intro c; unfold zgL; exact no b1 b2 (by show ¬ ((39 : Int) = 3 ∨ (39 : Int) = 37); decide)
  · intro c; unfold zi7; exact no b1 b2 (by show ¬ ((35 : Int) = 3 ∨ (35 : Int) = 37); decide)
  · exact ⟨b1, b2, b3⟩
end
end Go.Pe.G
namespace Go.Pe.G
open Go.Pe
noncomputable section
theorem zzS {s : BitVec 64} (h : ∀ o, zJ s o = true → o ≤ 9) : ∃ t : Fin 512, s = BitVec.ofNat 64 t.1 := by
  have h2 : s = s &&& 511#64 := by
    apply BitVec.eq_of_getLsbD_eq
    intro j hj
    rw [BitVec.getLsbD_and]
    have h63 : (511#64).getLsbD j = decide (j < 9) := by
      have : ∀ j : Fin 64, (511#64).getLsbD j.1 = decide (j.1 < 9) := by decide
      exact this ⟨j, hj⟩
    rw [h63]
    cases hs : s.getLsbD j with
    | false => rfl
    | true =>
      have := h ((j : Int) + 1) ((wi _ _).2 ⟨by omega, by omega, by rw [show ((j : Int) + 1 - 1).toNat = j by omega]; exact hs⟩)
      rw [decide_eq_true (by omega : j < 9)]; rfl
  have h3 : s.toNat < 512 := by
    rw [h2, BitVec.toNat_and]
    exact Nat.lt_of_le_of_lt Nat.and_le_right (by decide)
  exact ⟨⟨s.toNat, h3⟩, by rw [BitVec.ofNat_toNat, BitVec.setWidth_eq]⟩
theorem zk7 (s : BitVec 64) {q : Int} (h : 1 ≤ q ∧ q ≤ 64) : zJ (~~~s) q = true ↔ ¬ zJ s q = true := by
  rw [wi, wi, BitVec.getLsbD_not]
  simp only [show (q - 1).toNat < 64 by omega, decide_true, Bool.true_and, Bool.not_eq_true']
  constructor
  · rintro ⟨_, _, e⟩ ⟨_, _, e2⟩; rw [e] at e2; cases e2
  · intro e
    refine ⟨h.1, h.2, ?_⟩
    cases hs : s.getLsbD (q - 1).toNat with
    | false => rfl
    | true => exact absurd ⟨h.1, h.2, hs⟩ e
end
end Go.Pe.G
namespace Go.Pe.G
open Go.Pe
noncomputable section
def zeL (p : zc) (s : za) (g : Gh) : List Int := xJ p s g ++ (s.Ws.flatMap (Zc s) ++ s.Ms.flatMap (yu s))
structure FG (p : zc) (nb k : Nat) (s : za) (gh : Gh) : Prop where
  E : EOk p nb s
  X : SX p nb s gh (s.Ws.flatMap zbf ++ s.Ms.flatMap ua) k
  W : ∀ (i : Nat) x, s.Ws[i]? = some x → WX p s gh ((i : Int) + 1) x
  M : ∀ (i : Nat) x, s.Ms[i]? = some x → MX p s gh x
  B : zaV (zeL p s gh) s.T
  mrk : ∀ o, zJ s.T.Marks o = true → o ≤ (s.H.Objs.length : Int)
  wob : ∀ (i : Nat) x, s.Ws[i]? = some x → x.PC = 6 → x.G.Obj ≤ (s.H.Objs.length : Int)
  buf : ∀ x ∈ s.Ms, zie (s.H.Objs.length : Int) x
  bk : ∀ o, (p.H.Objs.length : Int) < o → o ≤ (s.H.Objs.length : Int) → zJ s.T.Black o = true
theorem MX.state {p : zc} {s s' : za} {gh : Gh} {x : zb} (W : MX p s gh x) (hm : s'.M = s.M) (hb : s'.Bins = s.Bins) : MX p s' gh x :=
  ⟨W.bt, W.bf, W.ol, fun e => ⟨(W.p3 e).1.state hm hb, (W.p3 e).2⟩, by rw [hm]; exact W.p32, by rw [hm]; exact W.p34, fun e => ⟨(W.p37 e).1.state hm hb, (W.p37 e).2⟩⟩
theorem zuA {s s' : za} {x : zb} (hb : s'.Bins = s.Bins) : yu s' x = yu s x := by
  unfold yu zbc ui; rw [hb]
def zky (s s' : za) : Prop :=
  (s'.T = s.T ∧ s'.H.Objs.length = s.H.Objs.length) ∨
  (∃ o, (1 ≤ o ∧ o ≤ (s.H.Objs.length : Int)) ∧ ¬ zJ s.T.Marks o = true ∧ s'.T = { s.T with Marks := s.T.Marks ||| bit o } ∧ s'.H = s.H) ∨
  (∃ o, xX s.T o = 1 ∧ s'.T = { s.T with Black := s.T.Black ||| bit o } ∧ s'.H = s.H) ∨
  (s'.H = vr s.H ∧ (s.H.Objs.length : Int) < 9 ∧ s'.T = ⟨s.T.Marks ||| bit ((s.H.Objs.length : Int) + 1), s.T.Black ||| bit ((s.H.Objs.length : Int) + 1)⟩)
theorem FG.tints {p : zc} {nb k : Nat} {s : za} {gh : Gh} (G : FG p nb k s gh) {s' : za} (F : zky s s') :
    (∀ o, zJ s'.T.Marks o = true → o ≤ (s'.H.Objs.length : Int)) ∧ (∀ o, (p.H.Objs.length : Int) < o → o ≤ (s'.H.Objs.length : Int) → zJ s'.T.Black o = true) := by
  rcases F with ⟨e, h⟩ | ⟨o, ho, hn, e, h⟩ | ⟨o, ho, e, h⟩ | ⟨h, hl, e⟩
  · rw [e, h]; exact ⟨G.mrk, G.bk⟩
  · rw [e, h]
    refine ⟨fun q hq => ?_, G.bk⟩
    rcases zbb hq with hq | rfl
    · exact G.mrk q hq
    · exact ho.2
  · rw [e, h]
    exact ⟨G.mrk, fun q h1 h2 => (wb _ _ _).2 (.inl (G.bk q h1 h2))⟩
  · rw [e, h]
    have hal := zl4 s.H
    refine ⟨fun q hq => ?_, fun q h1 h2 => ?_⟩
    · rcases zbb hq with hq | rfl
      · have := G.mrk q hq; omega
      · omega
    · dsimp only
      by_cases hq : q ≤ (s.H.Objs.length : Int)
      · exact (wb _ _ _).2 (.inl (G.bk q h1 hq))
      · have : q = (s.H.Objs.length : Int) + 1 := by omega
        subst this
        exact (wT _ (by omega) _).2 (.inr rfl)
theorem znU (s : za) (m : Int) (x : zb) : (zn s m x).1.H = s.H ∨ x.PC = 23 ∨ x.PC = 30 := by
  refine wH (motive := fun r => r.1.H = s.H ∨ x.PC = 23 ∨ x.PC = 30) s m x ?_ ?_ ?_ ?_ ?_ ?_ ?_ ?_ ?_ ?_ ?_ ?_ ?_ ?_ ?_ ?_ ?_ ?_ ?_ ?_
  all_goals first
    | exact fun _ => .inl rfl
    | exact fun c => .inr (.inl c)
    | exact fun c => .inr (.inr c)
    | (intro c; unfold mu3; exact .inl (by dsimp only; rw [VI]))
    | (intro c; unfold za8; exact .inl (by dsimp only; rw [VI]))
    | exact .inl rfl
theorem zon {t : zt} {n : Int} (hn : 1 ≤ n ∧ n ≤ 64) (nm : ¬ zJ t.Marks n = true) (nb' : ¬ zJ t.Black n = true) : WJ t n = ⟨t.Marks ||| bit n, t.Black ||| bit n⟩ := by
  have ht1 : xX { t with Marks := t.Marks ||| bit n } n = 1 := (Zh _ _).2 ⟨(wT _ hn _).2 (.inr rfl), nb'⟩
  unfold WJ
  rw [zxl hn nm nb']
  dsimp only
  rw [if_pos rfl]
  unfold ZP
  rw [if_pos ht1]
theorem zaV.fresh {B B' : List Int} {t : zt} {n : Int} (hn : 1 ≤ n ∧ n ≤ 64) (nm : ¬ zJ t.Marks n = true) (K : zaV B t) (h : List.Perm B' B) : zaV B' ⟨t.Marks ||| bit n, t.Black ||| bit n⟩ := by
  refine ⟨fun o ho => ?_, h.nodup_iff.2 K.nd, fun o => ?_⟩
  · rcases (wT _ hn o).1 ho with h | h
    · exact (wT _ hn o).2 (.inl (K.blk o h))
    · exact (wT _ hn o).2 (.inr h)
  · rw [h.mem_iff, K.gr, Zh, Zh]
    dsimp only
    rw [wT _ hn, wT _ hn]
    constructor
    · rintro ⟨a1, a2⟩
      refine ⟨.inl a1, fun e => e.elim a2 (fun e => ?_)⟩
      rw [e] at a1; exact nm a1
    · rintro ⟨a1, a2⟩
      exact ⟨a1.resolve_right (fun e => a2 (.inr e)), fun e => a2 (.inl e)⟩
theorem FG.mut_tint {p : zc} (hp : zG p) {nb k : Nat} {s : za} {gh : Gh} (G : FG p nb k s gh) {m : Int} {x : zb} (hMX : MX p s gh x) (hBI : zie (s.H.Objs.length : Int) x) {l : List zb} {N C B' : List Int}
    (hbag : List.Perm (B' ++ C) (N ++ zeL p s gh))
    (hT : (N = [] ∧ C = [] ∧ (zn s m x).1.T = s.T) ∨ (N = [x.G.Obj] ∧ C = [] ∧ (x.PC = 3 ∨ x.PC = 37) ∧ ¬ (s.T.Marks ||| bit x.G.Obj = s.T.Marks) ∧ (zn s m x).1.T = { s.T with Marks := s.T.Marks ||| bit x.G.Obj }) ∨ (N = [] ∧ C = [x.Obj] ∧ x.PC = 38 ∧ (zn s m x).1.T = ZP s.T x.Obj) ∨
      (N = [] ∧ C = [] ∧ x.PC = 30 ∧ WA s.H s.P.Most = true ∧ (zn s m x).1.H = vr s.H ∧ (zn s m x).1.T = WJ s.T (wc (s.H.Objs.length + 1)))) :
    zky s { (zn s m x).1 with Ms := l } ∧ zaV B' (zn s m x).1.T := by
  have hN0 := G.E.H.n
  have hM0 := hp.most
  have hn6 := hp.n
  have nm : ¬ zJ s.T.Marks ((s.H.Objs.length : Int) + 1) = true := fun e => by have := G.mrk _ e; omega
  have nb' : ¬ zJ s.T.Black ((s.H.Objs.length : Int) + 1) = true := fun e => nm (G.B.blk _ e)
  have hw : wc ((s.H.Objs.length : Int) + 1) = (s.H.Objs.length : Int) + 1 := vD (by omega) (by omega)
  rcases hT with ⟨e1, e2, t1⟩ | ⟨e1, e2, t1, t2, t3⟩ | ⟨e1, e2, t1, t2⟩ | ⟨e1, e2, t1, t2, t3, t4⟩
  · rw [e1, e2, List.append_nil, List.nil_append] at hbag
    refine ⟨.inl ⟨t1, ?_⟩, ⟨?_, hbag.nodup_iff.2 G.B.nd, fun o => ?_⟩⟩
    · show (zn s m x).1.H.Objs.length = _
      rcases ztK s m x with h | ⟨h1, h2, _, _, h5⟩
      · exact h.1
      · exfalso
        rw [t1, hw, zon (by omega) nm nb'] at h2
        have h3 := congrArg zt.Marks h2
        exact nm (by rw [h3]; exact (wT _ (by omega) _).2 (.inr rfl))
    · rw [t1]; exact G.B.blk
    · rw [t1, hbag.mem_iff]; exact G.B.gr o
  · have ho : 1 ≤ x.G.Obj ∧ x.G.Obj ≤ 64 := by
      rcases t1 with h | h
      · exact (hMX.p3 h).1.ob
      · exact (hMX.p37 h).1.ob
    rw [e1, e2, List.append_nil] at hbag
    have eH : (zn s m x).1.H = s.H := by
      rcases znU s m x with h | h | h
      · exact h
      · omega
      · omega
    refine ⟨.inr (.inl ⟨x.G.Obj, ⟨ho.1, hBI.2.2 t1⟩, (zfL ho).1 t2, t3, eH⟩), ?_⟩
    rw [t3]
    exact G.B.more ho t2 hbag
  · rw [e1, e2, List.nil_append] at hbag
    obtain ⟨b1, b2, b3, b4⟩ := G.B.less hbag
    have eH : (zn s m x).1.H = s.H := by
      rcases znU s m x with h | h | h
      · exact h
      · omega
      · omega
    refine ⟨.inr (.inr (.inl ⟨x.Obj, b3, ?_, eH⟩)), by rw [t2]; exact b1⟩
    show (zn s m x).1.T = _
    rw [t2]; unfold ZP; rw [if_pos b3]
  · rw [e1, e2, List.append_nil, List.nil_append] at hbag
    have hr : (s.H.Objs.length : Int) < s.P.Most := by
      unfold WA at t2
      simp only [Bool.and_eq_true, decide_eq_true_eq] at t2
      exact t2.1
    rw [G.E.S.P] at hr
    have hTT : (zn s m x).1.T = ⟨s.T.Marks ||| bit ((s.H.Objs.length : Int) + 1), s.T.Black ||| bit ((s.H.Objs.length : Int) + 1)⟩ := by
      rw [t4, hw, zon (by omega) nm nb']
    refine ⟨.inr (.inr (.inr ⟨t3, by omega, hTT⟩)), ?_⟩
    rw [hTT]
    exact G.B.fresh (by omega) nm hbag
theorem FG.mutator {p : zc} (hp : zG p) {nb k : Nat} {s : za} {gh : Gh} (hk : k < 4294960000) (G : FG p nb k s gh) {m : Int} (hm : 1 ≤ m ∧ m ≤ p.Mutators) (hd : s.Done = false) : ∃ gh', FG p nb (k + 1) (zL s m) gh' ∧ zky s (zL s m) ∧
    ∃ x, s.Ms[(m - 1).toNat]? = some x ∧ ∃ N C, List.Perm (zeL p (zL s m) gh' ++ C) (N ++ zeL p s gh) ∧ ((N = [] ∧ C = [] ∧ (zn s m x).1.T = s.T) ∨ (N = [x.G.Obj] ∧ C = [] ∧ (x.PC = 3 ∨ x.PC = 37) ∧ ¬ (s.T.Marks ||| bit x.G.Obj = s.T.Marks) ∧ (zn s m x).1.T = { s.T with Marks := s.T.Marks ||| bit x.G.Obj }) ∨ (N = [] ∧ C = [x.Obj] ∧ x.PC = 38 ∧ (zn s m x).1.T = ZP s.T x.Obj) ∨
      (N = [] ∧ C = [] ∧ x.PC = 30 ∧ WA s.H s.P.Most = true ∧ (zn s m x).1.H = vr s.H ∧ (zn s m x).1.T = WJ s.T (wc (s.H.Objs.length + 1)))) := by
  have hE := zmg hp G.E m
  have hml := G.E.ml
  have hwl := G.E.wl
  have hN0 := G.E.H.n
  have hM0 := hp.most
  have hn6 := hp.n
  have e0 : ¬ (s.Done = true ∨ m < 1 ∨ (s.Ms.length : Int) < m) := by rw [hd]; rintro (e | e | e) <;> first | cases e | omega
  revert hE
  unfold zL
  rw [if_neg e0]
  have hi : (m - 1).toNat < s.Ms.length := by omega
  have hx := List.getElem?_eq_getElem hi
  generalize s.Ms[(m - 1).toNat] = x at hx
  rw [hx]
  dsimp only
  intro hE
  obtain ⟨a, b, el, es, hab, hba⟩ := zxJ hx
  have ei : (((m - 1).toNat : Nat) : Int) + 1 = m := by omega
  have hMX := G.M _ x hx
  have hXO := G.E.X _ x hx
  rw [ei] at hXO
  have hBI := G.buf x (List.mem_of_getElem? hx)
  have hfr := zmI s m x
  have eWs : (zn s m x).1.Ws = s.Ws := by rw [hfr]
  have X0 : SX p nb s gh (ua x ++ ((a ++ b).flatMap ua ++ s.Ws.flatMap zbf)) k := by
    refine G.X.perm ?_
    rw [← List.append_assoc]
    refine List.Perm.trans (List.Perm.append_right _ ?_) List.perm_append_comm
    conv => rhs; rw [el]
    exact zf9.symm
  obtain ⟨gh', X', M', Fx, N, C, hN, hT⟩ := zAv hp hk X0 hXO hMX (zpr hp m) (fun o i => G.E.H.get hp o i)
  have hoth : ∀ (j : Nat) y, j ≠ (m - 1).toNat → s.Ms[j]? = some y → MX p (zn s m x).1 gh' y ∧ yu (zn s m x).1 y = yu s y := by
    intro j y hj hy
    exact MX.other hp X0 Fx (G.M j y hy) (G.E.X j y hy) (fun z hz => List.mem_append_left _ (List.mem_flatMap.2 ⟨y, hba j y hj hy, hz⟩))
  have hwrk : ∀ (j : Nat) y, s.Ws[j]? = some y → WX p (zn s m x).1 gh' ((j : Int) + 1) y ∧ Zc (zn s m x).1 y = Zc s y := by
    intro j y hy
    have hjl := (List.getElem?_eq_some_iff.1 hy).1
    exact WX.other hp (w := (j : Int) + 1) (by omega) X0 Fx (G.W j y hy) (G.E.W j y hy) (fun z hz => List.mem_append_right _ (List.mem_flatMap.2 ⟨y, List.mem_of_getElem? hy, hz⟩)) (fun e => e)
  have hbag : List.Perm (zeL p { (zn s m x).1 with Ms := s.Ms.set (m - 1).toNat (zn s m x).2 } gh' ++ C) (N ++ zeL p s gh) := by
    unfold zeL
    have q2 : (s.Ms.set (m - 1).toNat (zn s m x).2).flatMap (yu { (zn s m x).1 with Ms := s.Ms.set (m - 1).toNat (zn s m x).2 }) = (a ++ (zn s m x).2 :: b).flatMap (yu (zn s m x).1) := by
      rw [es]; exact YC (fun y _ => zuA rfl)
    have q3 : (a ++ b).flatMap (yu (zn s m x).1) = (a ++ b).flatMap (yu s) := YC (fun y hy => by
      obtain ⟨j, hj, hjy⟩ := hab y hy
      exact (hoth j y hj hjy).2)
    have q4 : (zn s m x).1.Ws.flatMap (Zc { (zn s m x).1 with Ms := s.Ms.set (m - 1).toNat (zn s m x).2 }) = s.Ws.flatMap (Zc s) := by
      rw [eWs]
      refine YC (fun y hy => ?_)
      obtain ⟨j, hj⟩ := List.mem_iff_getElem?.1 hy
      exact (zuN (s := (zn s m x).1) rfl rfl).trans (hwrk j y hj).2
    show List.Perm (xJ p (zn s m x).1 gh' ++ ((zn s m x).1.Ws.flatMap (Zc { (zn s m x).1 with Ms := s.Ms.set (m - 1).toNat (zn s m x).2 }) ++ (s.Ms.set (m - 1).toNat (zn s m x).2).flatMap (yu { (zn s m x).1 with Ms := s.Ms.set (m - 1).toNat (zn s m x).2 })) ++ C) _
    rw [q2, q4]
    have r1 : List.Perm (xJ p (zn s m x).1 gh' ++ (s.Ws.flatMap (Zc s) ++ (a ++ (zn s m x).2 :: b).flatMap (yu (zn s m x).1)) ++ C) ((s.Ws.flatMap (Zc s) ++ (a ++ b).flatMap (yu s)) ++ (xJ p (zn s m x).1 gh' ++ yu (zn s m x).1 (zn s m x).2 ++ C)) := by
      refine ((List.Perm.append_left _ (List.Perm.append_left _ zf9)).append_right C).trans ?_
      rw [q3]
      generalize (a ++ b).flatMap (yu s) = u
      generalize s.Ws.flatMap (Zc s) = v
      generalize xJ p (zn s m x).1 gh' = y
      generalize yu (zn s m x).1 (zn s m x).2 = z
      refine ((List.Perm.append_left y (List.perm_append_comm_assoc v z u)).append_right C).trans ?_
      generalize v ++ u = q
      rw [List.append_assoc, List.append_assoc, List.append_assoc]
      refine (List.Perm.append_left _ (List.perm_append_comm_assoc _ _ _)).trans ?_
      exact (List.perm_append_comm_assoc _ _ _)
    have r2 : List.Perm (N ++ (xJ p s gh ++ (s.Ws.flatMap (Zc s) ++ s.Ms.flatMap (yu s)))) ((s.Ws.flatMap (Zc s) ++ (a ++ b).flatMap (yu s)) ++ (N ++ (xJ p s gh ++ yu s x))) := by
      conv => lhs; rw [el]
      refine (List.Perm.append_left _ (List.Perm.append_left _ (List.Perm.append_left _ zf9))).trans ?_
      generalize (a ++ b).flatMap (yu s) = u
      generalize s.Ws.flatMap (Zc s) = v
      generalize xJ p s gh = y
      generalize yu s x = z
      refine (List.Perm.append_left N (List.Perm.append_left y (List.perm_append_comm_assoc v z u))).trans ?_
      generalize v ++ u = q
      refine (List.Perm.append_left _ ?_).trans (List.perm_append_comm_assoc _ _ _)
      rw [← List.append_assoc]
      exact List.perm_append_comm
    exact r1.trans ((List.Perm.append_left _ hN).trans r2.symm)
  have hlen : (zn s m x).1.H.Objs.length = s.H.Objs.length ∨ (zn s m x).1.H = vr s.H := by
    rcases ztK s m x with h | h
    · exact .inl h.1
    · exact .inr h.1
  have hFM := G.mut_tint hp (m := m) (l := s.Ms.set (m - 1).toNat (zn s m x).2) hMX hBI hbag hT
  obtain ⟨hFM, hB⟩ := hFM
  obtain ⟨t1, t2⟩ := G.tints hFM
  have hN1 : (s.H.Objs.length : Int) ≤ ((zn s m x).1.H.Objs.length : Int) := by
    rcases hlen with h | h
    · omega
    · rw [h, zl4]; omega
  have B' := zwl (s := s) hXO (n := (s.H.Objs.length : Int)) (by omega) (fun l hl v hv => ((G.E.H.objs l hl).2 v hv).2) hBI
  refine ⟨gh', ⟨hE, ?_, fun j y hy => ?_, fun j y hy => ?_, hB, t1, fun j y hy h6 => ?_, fun y hy => ?_, t2⟩, hFM, x, rfl, N, C, hbag, hT⟩
  · refine (X'.state hE.S rfl).perm ?_
    show List.Perm ((zn s m x).1.Ws.flatMap zbf ++ (s.Ms.set (m - 1).toNat (zn s m x).2).flatMap ua) _
    rw [es, eWs, ← List.append_assoc]
    exact List.perm_append_comm.trans (List.Perm.append_right _ zf9)
  · have hy : (zn s m x).1.Ws[j]? = some y := hy
    rw [eWs] at hy
    exact (hwrk j y hy).1.state rfl rfl
  · have hy : (s.Ms.set (m - 1).toNat (zn s m x).2)[j]? = some y := hy
    by_cases hj : j = (m - 1).toNat
    · subst hj
      rw [List.getElem?_set_self hi] at hy
      injection hy with hy
      rw [← hy]
      exact M'.state rfl rfl
    · rw [List.getElem?_set_ne (fun e => hj e.symm)] at hy
      exact (hoth j y hj hy).1.state rfl rfl
  · have hy : (zn s m x).1.Ws[j]? = some y := hy
    rw [eWs] at hy
    have := G.wob j y hy h6
    show y.G.Obj ≤ ((zn s m x).1.H.Objs.length : Int)
    omega
  · have up : ∀ {z : zb}, zie (s.H.Objs.length : Int) z → zie ((zn s m x).1.H.Objs.length : Int) z := fun ⟨a, b, c⟩ => ⟨fun v hv => by have := a v hv; omega, by omega, fun e => by have := c e; omega⟩
    rcases List.mem_or_eq_of_mem_set (show y ∈ s.Ms.set (m - 1).toNat (zn s m x).2 from hy) with h | rfl
    · exact up (G.buf y h)
    · exact up B'
theorem zzG {p : zc} (h : zG p) : FG p (zW p + 1) 0 (yR p) (gh0 p) := by
  have G := zzJ h
  have hn := h.n
  have hms : ∀ x ∈ (yR p).Ms, ∃ r, x = vN r := fun x hx => by
    obtain ⟨r, _, e⟩ := List.mem_map.1 (show x ∈ p.Regs.map vN from hx)
    exact ⟨r, e.symm⟩
  have own : (yR p).Ms.flatMap ua = [] := zdz (fun x hx => by
    obtain ⟨r, rfl⟩ := hms x hx
    exact ve ⟨by show (0 : Int) ≠ 3; decide, by show (0 : Int) ≠ 33; decide, by show (0 : Int) ≠ 34; decide, by show (0 : Int) ≠ 37; decide⟩)
  have hold : (yR p).Ms.flatMap (yu (yR p)) = [] := zdz (fun x hx => by
    obtain ⟨r, rfl⟩ := hms x hx
    unfold yu
    rw [uo ⟨by show (0 : Int) ≠ 3; decide, by show (0 : Int) ≠ 33; decide, by show (0 : Int) ≠ 36; decide, by show (0 : Int) ≠ 37; decide, by show (0 : Int) ≠ 38; decide⟩]; rfl)
  refine ⟨G.E, by rw [own, List.append_nil]; exact G.X, G.W, fun i x hx => ?_, ?_, fun o ho => ?_, fun i x hx h6 => ?_, fun x hx => ?_, fun o h1 h2 => ?_⟩
  · obtain ⟨r, rfl⟩ := hms x (List.mem_of_getElem? hx)
    exact MX.plain ⟨by show (0 : Int) ≠ 3; decide, by show (0 : Int) ≠ 32; decide, by show (0 : Int) ≠ 34; decide, by show (0 : Int) ≠ 37; decide⟩ (fun _ => rfl) (fun v hv => by cases hv)
      ⟨fun e => absurd e (by show ¬ (0 : Int) = 21; decide), fun e => absurd e (by show ¬ ((0 : Int) = 22 ∨ (((0 : Int) = 1 ∨ (0 : Int) = 3) ∧ (0 : Int) = 22)); decide)⟩
  · have e : zeL p (yR p) (gh0 p) = zv4 p (yR p) (gh0 p) := by unfold zeL zv4; rw [hold, List.append_nil]
    rw [e]; exact G.B
  · have ho : zJ (Zn p) o = true := ho
    show o ≤ (p.H.Objs.length : Int)
    refine Int.not_lt.1 fun hlt => ?_
    obtain ⟨a, b, _⟩ := (wi _ _).1 ho
    have b2 : ¬ zJ (wS (p.H.Objs.length : Int)) o = true := fun e => by
      have := (zkf (n := p.H.Objs.length) (by omega) o).1 e
      omega
    have b3 := (UN _ _ o).2 ⟨ho, (zk7 _ (by omega)).2 b2⟩
    rw [zjk h] at b3
    exact YQ o b3
  · obtain ⟨j, _, e⟩ := List.mem_map.1 (show x ∈ (List.range p.Workers.toNat).map (uK p) from List.mem_of_getElem? hx)
    rw [← e] at h6
    exact absurd h6 (by show ¬ (0 : Int) = 6; decide)
  · obtain ⟨r, rfl⟩ := hms x hx
    exact ⟨fun v hv => (by cases hv), (by show (0 : Int) ≤ (p.H.Objs.length : Int); omega), fun e => absurd e (by show ¬ ((0 : Int) = 3 ∨ (0 : Int) = 37); decide)⟩
  · have : o ≤ (p.H.Objs.length : Int) := h2
    omega
theorem FG.grey {p : zc} {nb k : Nat} {s : za} {gh : Gh} (G : FG p nb k s gh) {o : Int} (h : o ∈ zeL p s gh) : xX s.T o = 1 := (G.B.gr o).1 h
theorem zz6 {p : zc} {s : za} {gh : Gh} {i : Nat} {x : zh} (hx : s.Ws[i]? = some x) {o : Int} (h : o ∈ Zc s x) : o ∈ zeL p s gh :=
  List.mem_append_right _ (List.mem_append_left _ (List.mem_flatMap.2 ⟨x, List.mem_of_getElem? hx, h⟩))
theorem zxb {p : zc} {s : za} {gh : Gh} {i : Nat} {x : zb} (hx : s.Ms[i]? = some x) {o : Int} (h : o ∈ yu s x) : o ∈ zeL p s gh :=
  List.mem_append_right _ (List.mem_append_right _ (List.mem_flatMap.2 ⟨x, List.mem_of_getElem? hx, h⟩))
end
end Go.Pe.G
namespace Go.Pe.G
open Go.Pe
noncomputable section
inductive Reach (h : zo) (R : BitVec 64) : Int → Prop
  | root (o : Int) (h1 : zJ R o = true) (h2 : 1 ≤ o ∧ o ≤ (h.Objs.length : Int)) : Reach h R o
  | step (o v : Int) (h1 : Reach h R o) (h2 : v ∈ zH h o) (h3 : 1 ≤ v ∧ v ≤ (h.Objs.length : Int)) : Reach h R v
theorem Reach.in {h : zo} {R : BitVec 64} {o : Int} (r : Reach h R o) : 1 ≤ o ∧ o ≤ (h.Objs.length : Int) := by
  cases r with
  | root _ _ h2 => exact h2
  | step _ _ _ _ h3 => exact h3
theorem zvl : ∀ t : Fin 512, zkp 66 (BitVec.ofNat 64 t.1) = some (((List.range 9).filter fun i => (BitVec.ofNat 64 t.1).getLsbD i).map fun i : Nat => (i : Int) + 1) := by decide +kernel
def zkn (s : BitVec 64) : List Int := ((List.range 9).filter fun i => s.getLsbD i).map fun i : Nat => (i : Int) + 1
theorem zy8 : ∀ t : Fin 512, Go.Lib.ctz 64 t.1 ≤ 64 := by decide +kernel
theorem zri : ∀ (f : Nat) (s : BitVec 64), s.toNat < 512 → WV f s = zkp f s
  | 0, _, _ => rfl
  | f + 1, s, h => by
    simp only [WV, zkp]
    rw [zri f _ (by rw [BitVec.toNat_and]; exact Nat.lt_of_le_of_lt Nat.and_le_left h)]
    have : Go.Lib.ctz 64 s.toNat ≤ 64 := zy8 ⟨s.toNat, h⟩
    have e : w64 (tz s + 1) = ((Go.Lib.ctz 64 s.toNat : Nat) : Int) + 1 := by
      unfold tz
      exact yf (by omega) (by omega)
    rw [e]
theorem zxd (s : BitVec 64) (o : Int) : o ∈ zkn s ↔ 1 ≤ o ∧ o ≤ 9 ∧ zJ s o = true := by
  unfold zkn
  rw [List.mem_map]
  constructor
  · rintro ⟨i, hi, rfl⟩
    obtain ⟨a, b⟩ := List.mem_filter.1 hi
    have a := List.mem_range.1 a
    exact ⟨by omega, by omega, (wi _ _).2 ⟨by omega, by omega, by rw [show ((i : Int) + 1 - 1).toNat = i by omega]; exact b⟩⟩
  · rintro ⟨a, b, c⟩
    obtain ⟨_, _, d⟩ := (wi _ _).1 c
    exact ⟨(o - 1).toNat, List.mem_filter.2 ⟨List.mem_range.2 (by omega), d⟩, by omega⟩
theorem zrw (s : BitVec 64) : (zkn s).length ≤ 9 := by
  unfold zkn
  rw [List.length_map]
  exact Nat.le_trans (List.length_filter_le _ _) (by simp)
theorem zwP {s : BitVec 64} (h : ∀ o, zJ s o = true → o ≤ 9) : zbT s = some (zkn s, ()) := by
  obtain ⟨t, rfl⟩ := zzS h
  have e : zhD (BitVec.ofNat 64 t.1) = some (zkn (BitVec.ofNat 64 t.1)) := by
    show WV 66 _ = _
    rw [zri 66 _ (by simp; omega), zvl t]; rfl
  have := zrw (BitVec.ofNat 64 t.1)
  rw [zlb, zld, Option.bind_some, e, Option.bind_some, zkR _ _ (by simp; omega)]
  rfl
theorem zm3 {α : Type} {l : List α} {n : Nat} {i : Int} (h : 0 ≤ i) (h1 : i < l.length) (h2 : i < n) : zdj l n i = some i.toNat := by
  unfold zdj; simp [h, h1, h2]
def mt (met : List Int) (o : Int) : Int := met.getD (o - 1).toNat 0
def Xo (met : List Int) : Nat := met.countP (fun x => decide (x = 0))
theorem zpv {met : List Int} {o : Int} (h : 1 ≤ o ∧ o ≤ (met.length : Int)) : met[(o - 1).toNat]? = some (mt met o) := by
  have e := List.getElem?_eq_getElem (show (o - 1).toNat < met.length by omega)
  unfold mt
  rw [List.getD_eq_getElem?_getD, e]; rfl
theorem zgH {met : List Int} {o q x : Int} (h : 1 ≤ o ∧ o ≤ (met.length : Int)) (hq : 1 ≤ q) : mt (met.set (o - 1).toNat x) q = if q = o then x else mt met q := by
  unfold mt
  rw [List.getD_eq_getElem?_getD, List.getD_eq_getElem?_getD, List.getElem?_set]
  by_cases e : q = o
  · subst e; rw [if_pos rfl, if_pos rfl, if_pos (by omega)]; rfl
  · rw [if_neg (by omega), if_neg e]
theorem zwi {met : List Int} {o x : Int} (h : 1 ≤ o ∧ o ≤ (met.length : Int)) (h0 : mt met o = 0) (hx : x ≠ 0) : Xo (met.set (o - 1).toNat x) + 1 = Xo met := by
  have hl : (o - 1).toNat < met.length := by omega
  have e : met[(o - 1).toNat]'hl = 0 := by
    have := zpv h
    rw [h0, List.getElem?_eq_getElem hl] at this
    exact Option.some.inj this
  have hm : (0 : Int) ∈ met := by rw [← e]; exact List.getElem_mem hl
  have hp : 0 < Xo met := List.countP_pos_iff.2 ⟨0, hm, by simp⟩
  unfold Xo at hp ⊢
  rw [List.countP_set hl, e]
  simp [hx]
  omega
structure RI (h : zo) (R : BitVec 64) (met wait : List Int) : Prop where
  len : met.length = 64
  val : ∀ o, 1 ≤ o → 0 ≤ mt met o ∧ mt met o ≤ 100 - (Xo met : Int)
  rc : ∀ o, 1 ≤ o → 0 < mt met o → Reach h R o
  rt : ∀ o, zJ R o = true → 1 ≤ o ∧ o ≤ (h.Objs.length : Int) → 0 < mt met o
  wt : ∀ o ∈ wait, (1 ≤ o ∧ o ≤ (h.Objs.length : Int)) ∧ 0 < mt met o
  cl : ∀ o, 1 ≤ o → 0 < mt met o → o ∉ wait → ∀ v ∈ zH h o, 1 ≤ v ∧ v ≤ (h.Objs.length : Int) → 0 < mt met v
  zl : Xo met ≤ 64
theorem zxI (met : List Int) : Xo met ≤ met.length := List.countP_le_length
theorem RI.add {h : zo} {R : BitVec 64} {met wait : List Int} {o v : Int} (hn : h.Objs.length ≤ 9) (I : RI h R met wait) (ho : o ∈ wait) (hv : v ∈ zH h o) (hr : 1 ≤ v ∧ v ≤ (h.Objs.length : Int)) (h0 : mt met v = 0) :
    RI h R (met.set (v - 1).toNat (mt met o + 1)) (wait ++ [v]) ∧ Xo (met.set (v - 1).toNat (mt met o + 1)) + 1 = Xo met := by
  obtain ⟨ho1, ho2⟩ := I.wt o ho
  have hlen := I.len
  have hvl : 1 ≤ v ∧ v ≤ (met.length : Int) := by omega
  have hz := zwi (x := mt met o + 1) hvl h0 (by omega)
  have hval := I.val o ho1.1
  have hzl := I.zl
  have key : ∀ q, 1 ≤ q → 0 < mt met q → 0 < mt (met.set (v - 1).toNat (mt met o + 1)) q := fun q hq hp => by
    rw [zgH hvl hq]; split <;> omega
  refine ⟨⟨by rw [List.length_set]; exact hlen, fun q hq => ?_, fun q hq hp => ?_, fun q a b => key q b.1 (I.rt q a b), fun q hq => ?_, fun q hq hp hw u hu hur => ?_, by omega⟩, hz⟩
  · have := I.val q hq
    rw [zgH hvl hq]; split <;> omega
  · rw [zgH hvl hq] at hp
    split at hp
    · rename_i e; subst e; exact .step o q (I.rc o ho1.1 ho2) hv hr
    · exact I.rc q hq hp
  · rcases List.mem_append.1 hq with hq | hq
    · exact ⟨(I.wt q hq).1, key q (I.wt q hq).1.1 (I.wt q hq).2⟩
    · simp at hq; subst hq
      refine ⟨hr, ?_⟩
      rw [zgH hvl hr.1, if_pos rfl]; omega
  · have hw1 : q ∉ wait := fun e => hw (List.mem_append_left _ e)
    have hw2 : q ≠ v := fun e => hw (by rw [e]; simp)
    rw [zgH hvl hq, if_neg hw2] at hp
    exact key u hur.1 (I.cl q hq hp hw1 u hu hur)
theorem RI.rm {h : zo} {R : BitVec 64} {met : List Int} {o : Int} {w : List Int} (I : RI h R met (o :: w)) (hd : ∀ v ∈ zH h o, 1 ≤ v ∧ v ≤ (h.Objs.length : Int) → 0 < mt met v) : RI h R met w :=
  ⟨I.len, I.val, I.rc, I.rt, fun q hq => I.wt q (List.mem_cons_of_mem _ hq), fun q hq hp hw v hv hr => by
    by_cases e : q = o
    · rw [e] at hv; exact hd v hv hr
    · exact I.cl q hq hp (fun h => (List.mem_cons.1 h).elim e hw) v hv hr, I.zl⟩
theorem zvR {h : zo} {R : BitVec 64} (hn : h.Objs.length ≤ 9) {o : Int} {w0 : List Int} {a7 : List Int} (hs : (zH h o).length < 1000000) : ∀ (n : Nat) (met added : List Int) (i : Nat), (zH h o).length - i = n → i ≤ (zH h o).length → RI h R met (o :: w0 ++ added) → (o :: w0 ++ added).length + Xo met ≤ 200 →
    (∀ v ∈ (zH h o).take i, 1 ≤ v ∧ v ≤ (h.Objs.length : Int) → 0 < mt met v) → ∀ m, n < m →
    ∃ met' added', wg wW m (wS (h.Objs.length : Int), o, zH h o, ((zH h o).length : Int), (i : Int), h, a7, met, o :: w0 ++ added, ()) = some (.brk (wS (h.Objs.length : Int), h, a7, met', o :: w0 ++ added', ())) ∧
      RI h R met' (o :: w0 ++ added') ∧ (o :: w0 ++ added').length + Xo met' = (o :: w0 ++ added).length + Xo met ∧ Xo met' ≤ Xo met ∧ (∀ v ∈ zH h o, 1 ≤ v ∧ v ≤ (h.Objs.length : Int) → 0 < mt met' v) := by
  intro n
  induction n with
  | zero =>
    intro met added i hk hi I hz hd m hm
    obtain ⟨m, rfl⟩ : ∃ x, m = x + 1 := ⟨m - 1, by omega⟩
    have e : i = (zH h o).length := by omega
    subst e
    rw [List.take_length] at hd
    refine ⟨met, added, ?_, I, rfl, Nat.le_refl _, hd⟩
    rw [wg, Ya, zq, if_neg (by omega)]; rfl
  | succ n ih =>
    intro met added i hk hi I hz hd m hm
    obtain ⟨m, rfl⟩ : ∃ x, m = x + 1 := ⟨m - 1, by omega⟩
    have hx := List.getElem?_eq_getElem (show i < (zH h o).length by omega)
    generalize hxv : (zH h o)[i]'(by omega) = v at hx
    have hv : v ∈ zH h o := List.mem_of_getElem? hx
    have hlen := I.len
    have ho := I.wt o (by simp)
    have hval := I.val o ho.1.1
    have htk : (zH h o).take (i + 1) = (zH h o).take i ++ [v] := by rw [List.take_add_one, hx]; rfl
    rw [wg, Ya, zq, if_pos (by omega), wm hx, Option.bind_some, zm1, Option.bind_some]
    have hb := zkf hn v
    unfold zJ at hb
    by_cases hr : 1 ≤ v ∧ v ≤ (h.Objs.length : Int)
    · have hb1 := hb.2 hr
      dsimp only
      rw [hb1, cond_true, yf (a := v - 1) (by omega) (by omega), zm3 (by omega) (by omega) (by omega), Option.bind_some, zpv (by omega), Option.bind_some, zq]
      by_cases h0 : mt met v = 0
      · rw [if_pos h0, yf (a := o - 1) (by omega) (by omega), zm3 (by omega) (by omega) (by omega), Option.bind_some, zpv (by omega), Option.bind_some, Option.bind_some, wx (by rw [List.length_append]; show _ + 1 < _; omega), Option.bind_some, yf (a := (i : Int) + 1) (by omega) (by omega), yf (a := mt met o + 1) (by omega) (by omega), Option.bind_some]
        obtain ⟨I', hz'⟩ := I.add hn (by simp) hv hr h0
        dsimp only
        rw [List.append_assoc] at I' ⊢
        have hz2 : (o :: w0 ++ (added ++ [v])).length = (o :: w0 ++ added).length + 1 := by simp; omega
        obtain ⟨met', added', e1, e2, e3, e4, e5⟩ := ih (met.set (v - 1).toNat (mt met o + 1)) (added ++ [v]) (i + 1) (by omega) (by omega) I' (by omega) (fun q hq hqr => by
          rw [zgH (by omega) hqr.1]
          split
          · omega
          · rename_i hne
            rw [htk] at hq
            rcases List.mem_append.1 hq with hq | hq
            · exact hd q hq hqr
            · simp at hq; exact absurd hq hne) m (by omega)
        refine ⟨met', added', ?_, e2, by omega, by omega, e5⟩
        have : ((i + 1 : Nat) : Int) = (i : Int) + 1 := by omega
        rw [← this]
        exact e1
      · rw [if_neg h0, yf (a := (i : Int) + 1) (by omega) (by omega), Option.bind_some]
        have hp : 0 < mt met v := by have := I.val v hr.1; omega
        obtain ⟨met', added', e1, e2⟩ := ih met added (i + 1) (by omega) (by omega) I hz (fun q hq hqr => by
          rw [htk] at hq
          rcases List.mem_append.1 hq with hq | hq
          · exact hd q hq hqr
          · simp at hq; rw [hq]; exact hp) m (by omega)
        refine ⟨met', added', ?_, e2⟩
        have : ((i + 1 : Nat) : Int) = (i : Int) + 1 := by omega
        rw [← this]
        exact e1
    · have hb1 : (!(decide (wS (h.Objs.length : Int) &&& bit v = 0#64))) = false := by
        cases hc : (!(decide (wS (h.Objs.length : Int) &&& bit v = 0#64))) with
        | false => rfl
        | true => exact absurd (hb.1 hc) hr
      dsimp only
      rw [hb1, cond_false, yf (a := (i : Int) + 1) (by omega) (by omega), Option.bind_some]
      obtain ⟨met', added', e1, e2⟩ := ih met added (i + 1) (by omega) (by omega) I hz (fun q hq hqr => by
        rw [htk] at hq
        rcases List.mem_append.1 hq with hq | hq
        · exact hd q hq hqr
        · simp at hq; rw [hq] at hqr; exact absurd hqr hr) m (by omega)
      refine ⟨met', added', ?_, e2⟩
      have : ((i + 1 : Nat) : Int) = (i : Int) + 1 := by omega
      rw [← this]
      exact e1
theorem zoo {A B D : Type} {f : A → Option (xg A B D)} {x : A} {b : B} {n : Nat} (h : wg f n x = some (.brk b)) (hn : n ≤ Ze) : yz f x = some (.brk b) := by
  rw [VG]
  have key : ∀ (n m : Nat) (x : A), wg f n x = some (.brk b) → n ≤ m → wg f m x = some (.brk b) := by
    intro n
    induction n with
    | zero => intro m x h; cases h
    | succ n ih =>
      intro m x h hm
      obtain ⟨m, rfl⟩ : ∃ q, m = q + 1 := ⟨m - 1, by omega⟩
      simp only [wg, Option.bind_eq_some_iff] at h ⊢
      obtain ⟨s, h1, h2⟩ := h
      refine ⟨s, h1, ?_⟩
      cases s with
      | again y => exact ih m y h2 (by omega)
      | brk b' => exact h2
      | ret c => exact h2
  exact key n Ze x h hn
theorem zyl {h : zo} {R : BitVec 64} (hn : h.Objs.length ≤ 9) (hs : ∀ o, (zH h o).length < 1000000) {a7 : List Int} : ∀ (n : Nat) (met wait : List Int), wait.length + 2 * Xo met ≤ n → wait.length + Xo met ≤ 200 → RI h R met wait → ∀ m, n < m →
    ∃ met', wg uU m (wS (h.Objs.length : Int), h, a7, met, wait, ()) = some (.brk (a7, met', ())) ∧ RI h R met' [] := by
  intro n
  induction n with
  | zero =>
    intro met wait hz hz2 I m hm
    obtain ⟨m, rfl⟩ : ∃ x, m = x + 1 := ⟨m - 1, by omega⟩
    have : wait = [] := List.eq_nil_of_length_eq_zero (by omega)
    subst this
    refine ⟨met, ?_, I⟩
    rw [wg, ud, zq, if_neg (by simp)]; rfl
  | succ n ih =>
    intro met wait hz hz2 I m hm
    obtain ⟨m, rfl⟩ : ∃ x, m = x + 1 := ⟨m - 1, by omega⟩
    cases wait with
    | nil =>
      refine ⟨met, ?_, I⟩
      rw [wg, ud, zq, if_neg (by simp)]; rfl
    | cons o w =>
      have ho := (I.wt o (by simp)).1
      have hso := hs o
      have eo := List.getElem?_eq_getElem (show (o - 1).toNat < h.Objs.length by omega)
      have es : h.Objs[(o - 1).toNat]'(by omega) = zH h o := by unfold zH; rw [List.getD_eq_getElem?_getD, eo]; rfl
      obtain ⟨met', added', e1, e2, e3, e4, e5⟩ := zvR (a7 := a7) hn (o := o) (w0 := w) hso _ met [] 0 rfl (Nat.zero_le _) (by simpa using I) (by simpa using hz2) (fun v hv => by simp at hv) ((zH h o).length + 1) (by omega)
      simp only [List.append_nil, Int.natCast_zero] at e1 e3
      have e1 : wg wW ((zH h o).length + 1) (wS (h.Objs.length : Int), o, zH h o, ((zH h o).length : Int), 0, h, a7, met, o :: w, ()) = some (.brk (wS (h.Objs.length : Int), h, a7, met', o :: w ++ added', ())) := e1
      have hidx : xS (o :: w) 0 = some 0 := by rw [uI (by omega) (by simp)]; rfl
      rw [wg, ud, zq, if_pos (by simp), hidx, Option.bind_some]
      simp only [List.getElem?_cons_zero, Option.bind_some, znb, Bool.not_true, cond_false]
      rw [yf (a := o - 1) (by omega) (by omega), v7 (by omega), eo, Option.bind_some, es, zoo e1 (by have : Ze = 18446744073709551616 := rfl; omega)]
      dsimp only [Option.bind_some]
      rw [List.cons_append, zsx, Option.bind_some, Option.bind_some]
      dsimp only
      rw [List.cons_append] at e2
      exact ih met' (w ++ added') (by simp at e3 hz ⊢; omega) (by simp at e3 hz2 ⊢; omega) (e2.rm e5) m (by omega)
theorem zyT (o : Int) : mt (List.replicate 64 (0 : Int)) o = 0 := by
  unfold mt
  rw [List.getD_eq_getElem?_getD, List.getElem?_replicate]; split <;> rfl
theorem zv7 {h : zo} {a1 : BitVec 64} {a5 : List Int} : ∀ (n i : Nat) (l met : List Int), l.length - i = n → i ≤ l.length → l.length < 1000000 → (∀ o ∈ l, 1 ≤ o ∧ o ≤ 9) → met.length = 64 → (∀ o, 1 ≤ o → mt met o = if o ∈ l.take i then 1 else 0) → ∀ m, n < m →
    ∃ met', wg uT m (a1, (l.length : Int), (i : Int), h, a5, met, l, ()) = some (.brk (a1, h, a5, met', l, ())) ∧ met'.length = 64 ∧ ∀ o, 1 ≤ o → mt met' o = if o ∈ l then 1 else 0 := by
  intro n
  induction n with
  | zero =>
    intro i l met hk hi hl hr hm ht m hm2
    obtain ⟨m, rfl⟩ : ∃ x, m = x + 1 := ⟨m - 1, by omega⟩
    have e : i = l.length := by omega
    subst e
    rw [List.take_length] at ht
    refine ⟨met, ?_, hm, ht⟩
    rw [wg, Yu, zq, if_neg (by omega)]; rfl
  | succ n ih =>
    intro i l met hk hi hl hr hm ht m hm2
    obtain ⟨m, rfl⟩ : ∃ x, m = x + 1 := ⟨m - 1, by omega⟩
    have hx := List.getElem?_eq_getElem (show i < l.length by omega)
    generalize hxv : l[i]'(by omega) = v at hx
    have hv := hr v (List.mem_of_getElem? hx)
    have htk : l.take (i + 1) = l.take i ++ [v] := by rw [List.take_add_one, hx]; rfl
    rw [wg, Yu, zq, if_pos (by omega), uI (by omega) (by omega), Option.bind_some, Int.toNat_natCast, hx, Option.bind_some, yf (a := v - 1) (by omega) (by omega), zm3 (by omega) (by omega) (by omega), Option.bind_some, yf (a := (i : Int) + 1) (by omega) (by omega), Option.bind_some]
    obtain ⟨met', e1, e2⟩ := ih (i + 1) l (met.set (v - 1).toNat 1) (by omega) (by omega) hl hr (by rw [List.length_set]; exact hm) (fun o ho => by
      rw [zgH (by omega) ho, ht o ho, htk]
      by_cases e : o = v
      · rw [if_pos e, if_pos (by rw [e]; simp)]
      · rw [if_neg e]
        by_cases e2 : o ∈ l.take i
        · rw [if_pos e2, if_pos (List.mem_append_left _ e2)]
        · rw [if_neg e2, if_neg (fun h => (List.mem_append.1 h).elim e2 (fun h => e (by simpa using h)))]) m (by omega)
    refine ⟨met', ?_, e2⟩
    have : ((i + 1 : Nat) : Int) = (i : Int) + 1 := by omega
    rw [← this]
    exact e1
theorem zuL {met : List Int} (hl : met.length = 64) : ∃ S, zbd met = some (S, ()) ∧ ∀ o, zJ S o = true ↔ 1 ≤ o ∧ 0 < mt met o := by
  rw [zls, zq, if_pos hl]
  have key := uc (f := Uf) (fun a => ∃ (i : Nat) (S : BitVec 64), i ≤ 64 ∧ a = (S, met, (i : Int), ()) ∧ ∀ o, zJ S o = true ↔ (1 ≤ o ∧ o ≤ (i : Int)) ∧ 0 < mt met o) (fun a => 64 - a.2.2.1.toNat) (fun o => ∃ S, o = .brk (S, ()) ∧ ∀ o, zJ S o = true ↔ 1 ≤ o ∧ 0 < mt met o) (by
    rintro _ ⟨i, S, hi, rfl, hS⟩
    rw [zjd, zq]
    by_cases c : (i : Int) < 64
    · have hx := zpv (met := met) (o := (i : Int) + 1) (by omega)
      rw [show ((i : Int) + 1 - 1).toNat = i by omega] at hx
      rw [if_pos c, zm3 (by omega) (by omega) c, Option.bind_some, Int.toNat_natCast, hx, Option.bind_some, zq, yf (a := (i : Int) + 1) (by omega) (by omega), zgm, Option.bind_some]
      by_cases hp : 0 < mt met ((i : Int) + 1)
      · rw [if_pos hp]
        refine ⟨_, rfl, ⟨i + 1, _, by omega, rfl, fun o => ?_⟩, ?_⟩
        · dsimp only
          rw [wT _ (by omega), hS o]
          constructor
          · rintro (⟨a, b⟩ | rfl)
            · exact ⟨by omega, b⟩
            · exact ⟨by omega, hp⟩
          · rintro ⟨a, b⟩
            by_cases e : o = (i : Int) + 1
            · exact .inr e
            · exact .inl ⟨by omega, b⟩
        · show 64 - ((i : Int) + 1).toNat < 64 - (i : Int).toNat
          omega
      · rw [if_neg hp]
        refine ⟨_, rfl, ⟨i + 1, S, by omega, rfl, fun o => ?_⟩, ?_⟩
        · rw [hS o]
          constructor
          · rintro ⟨a, b⟩; exact ⟨by omega, b⟩
          · rintro ⟨a, b⟩
            by_cases e : o = (i : Int) + 1
            · rw [e] at b; exact absurd b hp
            · exact ⟨by omega, b⟩
        · show 64 - ((i : Int) + 1).toNat < 64 - (i : Int).toNat
          omega
    · rw [if_neg c]
      refine ⟨_, rfl, S, rfl, fun o => ?_⟩
      rw [hS o]
      have hi : i = 64 := by omega
      subst hi
      constructor
      · rintro ⟨a, b⟩; exact ⟨a.1, b⟩
      · rintro ⟨a, b⟩
        refine ⟨⟨a, ?_⟩, b⟩
        by_cases h : 64 < o
        · exfalso
          unfold mt at b
          rw [List.getD_eq_getElem?_getD, List.getElem?_eq_none (by omega)] at b
          exact absurd b (by show ¬ (0 : Int) < 0; decide)
        · show o ≤ 64; omega) (0#64, met, 0, ()) ⟨0, 0#64, by omega, rfl, fun o => ⟨fun e => absurd e (YQ o), fun e => by have := e.1; omega⟩⟩ (by show 64 - 0 < 18446744073709551616; decide)
  obtain ⟨o, e, S, rfl, hS⟩ := key
  refine ⟨S, ?_, hS⟩
  exact congrArg (fun o => Option.bind o _) e
theorem ztF {h : zo} (hn : h.Objs.length ≤ 9) (hs : ∀ l ∈ h.Objs, l.length < 1000000) (R : BitVec 64) : ∃ S, Vb h R = some (S, ()) ∧ ∀ o, zJ S o = true ↔ Reach h R o := by
  have hso : ∀ o, (zH h o).length < 1000000 := fun o => by
    unfold zH
    rw [List.getD_eq_getElem?_getD]
    cases hx : h.Objs[(o - 1).toNat]? with
    | none => show ([] : List Int).length < _; simp
    | some l => exact hs l (List.mem_of_getElem? hx)
  have hF := fun o => zkf hn o
  have hA : ∀ o, zJ (R &&& wS (h.Objs.length : Int)) o = true ↔ zJ R o = true ∧ 1 ≤ o ∧ o ≤ (h.Objs.length : Int) := fun o => by rw [UN, hF]
  have h9 : ∀ o, zJ (R &&& wS (h.Objs.length : Int)) o = true → o ≤ 9 := fun o e => by have := (hA o).1 e; omega
  have hw := zxd (R &&& wS (h.Objs.length : Int))
  have hwl := zrw (R &&& wS (h.Objs.length : Int))
  generalize hwd : zkn (R &&& wS (h.Objs.length : Int)) = wait at hw hwl
  obtain ⟨met, e1, m1, m2⟩ := zv7 (h := h) (a1 := wS (h.Objs.length : Int)) (a5 := List.replicate 64 (0 : Int)) wait.length 0 wait (List.replicate 64 (0 : Int)) rfl (Nat.zero_le _) (by omega) (fun o ho => by have := (hw o).1 ho; omega) (by simp) (fun o _ => by rw [zyT]; simp) (wait.length + 1) (by omega)
  have hz := zxI met
  have I : RI h R met wait := by
    refine ⟨m1, fun o ho => ?_, fun o ho hp => ?_, fun o ho hr => ?_, fun o ho => ?_, fun o ho hp hno => ?_, by omega⟩
    · rw [m2 o ho]; split <;> omega
    · rw [m2 o ho] at hp
      split at hp
      · rename_i hm
        have a := (hA o).1 ((hw o).1 hm).2.2
        exact .root o a.1 a.2
      · omega
    · rw [m2 o hr.1, if_pos ((hw o).2 ⟨hr.1, by omega, (hA o).2 ⟨ho, hr⟩⟩)]; decide
    · have a := (hA o).1 ((hw o).1 ho).2.2
      refine ⟨a.2, ?_⟩
      rw [m2 o a.2.1, if_pos ho]; decide
    · rw [m2 o ho, if_neg hno] at hp; omega
  obtain ⟨met', e2, I'⟩ := zyl (a7 := List.replicate 64 (0 : Int)) hn hso (wait.length + 2 * Xo met) met wait (Nat.le_refl _) (by omega) I (wait.length + 2 * Xo met + 1) (by omega)
  obtain ⟨S, e3, hS⟩ := zuL I'.len
  refine ⟨S, ?_, fun o => ?_⟩
  · have hrd : Ze = 18446744073709551616 := rfl
    have ew : ZI h R = some (met', ()) := by
      rw [zbK, zrI _ (by omega), Option.bind_some, zwP h9, Option.bind_some, hwd]
      refine (congrArg (fun o => Option.bind o _) (zoo e1 (by omega))).trans ?_
      rw [Option.bind_some]
      dsimp only
      refine (congrArg (fun o => Option.bind o _) (zoo e2 (by omega))).trans ?_
      rw [Option.bind_some]
      dsimp only
      rw [zq, zq, zq, if_pos I'.len, if_pos (by simp), if_pos I'.len]
    rw [zoK, ew, Option.bind_some, e3]; rfl
  · rw [hS o]
    constructor
    · rintro ⟨a, b⟩; exact I'.rc o a b
    · intro r
      induction r with
      | root o h1 h2 => exact ⟨h2.1, I'.rt o h1 h2⟩
      | step o v _ h2 h3 ih => exact ⟨h3.1, I'.cl o ih.1 ih.2 (by simp) v h2 h3⟩
def zmY (h : zo) (R : BitVec 64) : BitVec 64 := match Vb h R with | some x => x.1 | none => 0#64
theorem zoX {h : zo} (hn : h.Objs.length ≤ 9) (hs : ∀ l ∈ h.Objs, l.length < 1000000) (R : BitVec 64) : Vb h R = some (zmY h R, ()) := by
  obtain ⟨S, e, _⟩ := ztF hn hs R
  unfold zmY
  rw [e]
theorem zry {h : zo} (hn : h.Objs.length ≤ 9) (hs : ∀ l ∈ h.Objs, l.length < 1000000) (R : BitVec 64) (o : Int) : zJ (zmY h R) o = true ↔ Reach h R o := by
  obtain ⟨S, e, h2⟩ := ztF hn hs R
  unfold zmY
  rw [e]
  exact h2 o
end
end Go.Pe.G
namespace Go.Pe.G
open Go.Pe
noncomputable section
def zoL (p : zc) : BitVec 64 := zmY p.H (Zn p)
theorem zG.heap9 {p : zc} (h : zG p) : p.H.Objs.length ≤ 9 ∧ ∀ l ∈ p.H.Objs, l.length < 1000000 := by
  have := h.n
  have := h.slots
  exact ⟨by omega, fun l hl => by have := (h.objs l hl).1; omega⟩
theorem zwQ {p : zc} (h : zG p) : zi2 p = some (zoL p, ()) := by
  have hr := h.regs
  have hm := h.mt
  rw [zqu, zoQ (by omega) (fun r hr => by have := (h.reg r hr).1; omega), Option.bind_some, zoX h.heap9.1 h.heap9.2]; rfl
theorem zx0 {p : zc} (h : zG p) (o : Int) : zJ (zoL p) o = true ↔ Reach p.H (Zn p) o := zry h.heap9.1 h.heap9.2 _ o
theorem zu3 {h : zo} (hv : ∀ l ∈ h.Objs, ∀ v ∈ l, 0 ≤ v ∧ v ≤ (h.Objs.length : Int)) {o i : Int} (hne : zQ h o i ≠ 0) : zQ h o i ∈ zH h o ∧ 1 ≤ zQ h o i ∧ zQ h o i ≤ (h.Objs.length : Int) := by
  unfold zQ at hne ⊢
  split
  · rename_i hs
    rw [if_pos hs] at hne
    unfold yE at hs
    simp only [Bool.and_eq_true, decide_eq_true_eq] at hs
    obtain ⟨⟨⟨h1, h2⟩, h3⟩, h4⟩ := hs
    have eo := List.getElem?_eq_getElem (show (o - 1).toNat < h.Objs.length by omega)
    have es : zH h o = h.Objs[(o - 1).toNat]'(by omega) := by unfold zH; rw [List.getD_eq_getElem?_getD, eo]; rfl
    have ei := List.getElem?_eq_getElem (show i.toNat < (zH h o).length by omega)
    have eg : (zH h o).getD i.toNat 0 = (zH h o)[i.toNat]'(by omega) := by rw [List.getD_eq_getElem?_getD, ei]; rfl
    rw [eg] at hne ⊢
    have hm : (zH h o)[i.toNat]'(by omega) ∈ zH h o := List.getElem_mem _
    have := hv _ (by rw [es]; exact List.getElem_mem _) _ hm
    exact ⟨hm, by omega, this.2⟩
  · rename_i hs; rw [if_neg hs] at hne; exact absurd rfl hne
end
end Go.Pe.G
namespace Go.Pe.G
open Go.Pe
noncomputable section
def zAM (x : zh) (u j : Int) : Prop := (x.PC = 5 ∨ x.PC = 6 ∨ x.PC = 8) → x.Obj = u → x.Slot ≤ j
def znX (x : zb) (u j : Int) : Prop := (x.PC = 36 ∨ x.PC = 37 ∨ x.PC = 38) → x.Obj = u → x.Slot ≤ j
def US (s : za) (u j : Int) : Prop := (∀ (i : Nat) x, s.Ws[i]? = some x → zAM x u j) ∧ (∀ (i : Nat) x, s.Ms[i]? = some x → znX x u j)
def zvM (g : zA) (o : Int) : Prop := g.Out = 0 ∧ (g.PC = 0 ∨ g.PC = 1) ∧ g.Obj = o
def zAz (x : zh) (o : Int) : Prop := x.PC = 6 ∧ zvM x.G o
def zic (x : zb) (o : Int) : Prop := o ∈ x.Buf ∨ ((x.PC = 22 ∨ ((x.PC = 1 ∨ x.PC = 3) ∧ x.Ret = 22)) ∧ x.Old = o) ∨ ((x.PC = 3 ∨ x.PC = 37) ∧ zvM x.G o)
def znV (s : za) (o : Int) : Prop := (∃ (i : Nat) (x : zh), s.Ws[i]? = some x ∧ zAz x o) ∨ (∃ (i : Nat) (x : zb), s.Ms[i]? = some x ∧ zic x o)
inductive zkW (s : za) (W : Int → Int → Prop) : Int → Prop
  | pend (o : Int) (h : znV s o) : zkW s W o
  | white (u j o : Int) (hW : ¬ W u j) (hj : yE s.H u j = true) (he : zQ s.H u j = o) (hu : ¬ zJ s.T.Marks u = true) (hp : zkW s W u) : zkW s W o
  | grey (u j o : Int) (hW : ¬ W u j) (hj : yE s.H u j = true) (he : zQ s.H u j = o) (hg : xX s.T u = 1) (hs : US s u j) : zkW s W o
structure zvQ (s s' : za) (W W' : Int → Int → Prop) : Prop where
  mono : ∀ o, zJ s.T.Marks o = true → zJ s'.T.Marks o = true
  hp : ∀ o, znV s o → zJ s'.T.Marks o = true ∨ znV s' o
  he : ∀ u j, ¬ W u j → yE s.H u j = true → (¬ W' u j ∧ yE s'.H u j = true ∧ zQ s'.H u j = zQ s.H u j) ∨ (zQ s.H u j = 0 ∨ zJ s'.T.Marks (zQ s.H u j) = true ∨ znV s' (zQ s.H u j))
  hg : ∀ u j, ¬ W u j → yE s.H u j = true → xX s.T u = 1 → US s u j → (xX s'.T u = 1 ∧ US s' u j) ∨ (zQ s.H u j = 0 ∨ zJ s'.T.Marks (zQ s.H u j) = true ∨ znV s' (zQ s.H u j))
  hn : ∀ u j, ¬ W u j → yE s.H u j = true → ¬ zJ s.T.Marks u = true → zJ s'.T.Marks u = true → xX s'.T u = 1 ∧ US s' u j
theorem Yd {h : zo} {u j : Int} (e : yE h u j = true) : (1 ≤ u ∧ u ≤ (h.Objs.length : Int)) ∧ 0 ≤ j ∧ j < ((zH h u).length : Int) := by
  unfold yE at e
  simp only [Bool.and_eq_true, decide_eq_true_eq] at e
  exact ⟨⟨e.1.1.1, e.1.1.2⟩, e.1.2, e.2⟩
theorem zvQ.prot {s s' : za} {W W' : Int → Int → Prop} (P : zvQ s s' W W') {o : Int} (h : zkW s W o) : o ≠ 0 → zJ s'.T.Marks o = true ∨ zkW s' W' o := by
  have cov : ∀ v : Int, v ≠ 0 → (v = 0 ∨ zJ s'.T.Marks v = true ∨ znV s' v) → zJ s'.T.Marks v = true ∨ zkW s' W' v := by
    rintro v h0 (e | e | e)
    · exact absurd e h0
    · exact .inl e
    · exact .inr (.pend v e)
  induction h with
  | pend o h => exact fun _ => (P.hp o h).imp id (fun h => .pend o h)
  | white u j o hW hj he hu hp ih =>
    intro h0
    subst he
    have hu0 : u ≠ 0 := by have := Yd hj; omega
    rcases P.he u j hW hj with ⟨a, b, c⟩ | c
    · by_cases hm : zJ s'.T.Marks u = true
      · obtain ⟨d, e⟩ := P.hn u j hW hj hu hm
        exact .inr (.grey u j _ a b c d e)
      · rcases ih hu0 with h | h
        · exact absurd h hm
        · exact .inr (.white u j _ a b c hm h)
    · exact cov _ h0 c
  | grey u j o hW hj he hg hs =>
    intro h0
    subst he
    rcases P.he u j hW hj with ⟨a, b, c⟩ | c
    · rcases P.hg u j hW hj hg hs with ⟨d, e⟩ | c2
      · exact .inr (.grey u j _ a b c d e)
      · exact cov _ h0 c2
    · exact cov _ h0 c
def zAo (n : Int) (x : zh) : Prop := (x.PC = 5 → 0 ≤ x.Slot ∧ x.Slot < n) ∧ (x.PC = 6 → 1 ≤ x.Slot ∧ x.Slot ≤ n) ∧ (x.PC = 8 → x.Slot = n)
def zoV (n : Int) (x : zb) : Prop := (x.PC = 36 → 0 ≤ x.Slot ∧ x.Slot < n) ∧ (x.PC = 37 → 1 ≤ x.Slot ∧ x.Slot ≤ n) ∧ (x.PC = 38 → x.Slot = n)
def zmw (p : zc) (s : za) (W : Int → Int → Prop) (m : Int) (x : zb) : Prop :=
  ¬ W (v4 x (opM p m x).A) (opM p m x).S → ((x.PC = 21 ∨ x.PC = 22 ∨ ((x.PC = 1 ∨ x.PC = 3) ∧ x.Ret = 22)) → x.Old = zQ s.H (v4 x (opM p m x).A) (opM p m x).S) ∧
    (x.PC = 23 → zQ s.H (v4 x (opM p m x).A) (opM p m x).S = 0 ∨ zJ s.T.Marks (zQ s.H (v4 x (opM p m x).A) (opM p m x).S) = true ∨ zQ s.H (v4 x (opM p m x).A) (opM p m x).S ∈ x.Buf)
structure PI (p : zc) (s : za) (W : Int → Int → Prop) : Prop where
  lv : ∀ o, Reach p.H (Zn p) o → zJ s.T.Marks o = true ∨ zkW s W o
  sw : ∀ (i : Nat) x, s.Ws[i]? = some x → zAo p.H.Slots x
  sx : ∀ (i : Nat) x, s.Ms[i]? = some x → zoV p.H.Slots x
  cv : ∀ (i : Nat) x, s.Ms[i]? = some x → zmw p s W ((i : Int) + 1) x
theorem ztu {s : za} {g : zA} {o : Int} (hmd : 1 ≤ g.Mode ∧ g.Mode ≤ 3) (ho : 1 ≤ o ∧ o ≤ 64) (hb : zJ s.T.Black o = true → zJ s.T.Marks o = true) (a : zvM g o) :
    zvM (zB s g).2 o ∨ zJ (zB s g).1.T.Marks o = true := by
  obtain ⟨h1, h2, h3⟩ := a
  unfold zB
  rw [if_neg (by omega), if_neg (by omega), if_neg (by omega), if_neg (by omega), if_neg (by omega), if_neg (by omega), if_neg (by omega)]
  split
  · right
    show zJ (Zl s.T g.Obj).1.Marks o = true
    rw [h3]
    unfold Zl
    split
    · rename_i e
      exact Decidable.byContradiction fun hc => ((zfL ho).2 hc) e
    split
    · exact (wT _ ho o).2 (.inr rfl)
    · rename_i e
      exact hb (by unfold zJ; simpa using e)
  · left
    exact ⟨h1, .inr rfl, h3⟩
end
end Go.Pe.G
namespace Go.Pe.G
open Go.Pe
noncomputable section
theorem zze {h : zo} {a i v u j : Int} (hne : ¬ (u = a ∧ j = i)) (hi : yE h a i = true → 0 ≤ i) : yE (Zm h a i v) u j = yE h u j ∧ zQ (Zm h a i v) u j = zQ h u j := by
  have hl := zbn h a i v
  by_cases hc : yE h a i = true ∧ 0 ≤ v ∧ v ≤ (h.Objs.length : Int)
  · have hs := Yd hc.1
    have e0 : Zm h a i v = { h with Objs := h.Objs.set (a - 1).toNat ((zH h a).set i.toNat v) } := by unfold Zm; rw [if_pos hc]
    have es : 1 ≤ u → zH (Zm h a i v) u = if u = a then (zH h a).set i.toNat v else zH h u := fun hu => by
      rw [e0]
      unfold zH
      rw [ztG (by omega)]
      by_cases e : u = a
      · rw [if_pos (by omega), if_pos e]
      · rw [if_neg (by omega), if_neg e]
    have eh : yE (Zm h a i v) u j = yE h u j := by
      unfold yE
      rw [hl]
      by_cases hu : 1 ≤ u
      · rw [es hu]
        by_cases e : u = a
        · rw [if_pos e, List.length_set, e]
        · rw [if_neg e]
      · simp [hu]
    refine ⟨eh, ?_⟩
    unfold zQ
    rw [eh]
    split
    · rename_i hj
      have hp := Yd hj
      rw [es hp.1.1]
      by_cases e : u = a
      · rw [if_pos e, ztG (by omega), if_neg (by
          intro e2
          exact hne ⟨e, by omega⟩), e]
      · rw [if_neg e]
    · rfl
  · have e0 : Zm h a i v = h := by unfold Zm; rw [if_neg hc]
    rw [e0]; exact ⟨rfl, rfl⟩
theorem zwV (h : zo) (u j : Int) : (yE h u j = true → yE (vr h) u j = true) ∧ zQ (vr h) u j = zQ h u j := by
  have hl := zl4 h
  have e1 : 1 ≤ u → u ≤ (h.Objs.length : Int) → zH (vr h) u = zH h u := fun h1 h2 => by
    unfold zH vr
    rw [List.getD_eq_getElem?_getD, List.getD_eq_getElem?_getD, List.getElem?_append_left (by omega)]
  have e2 : u = (h.Objs.length : Int) + 1 → zH (vr h) u = List.replicate h.Slots.toNat 0 := fun h1 => by
    unfold zH vr
    rw [List.getD_eq_getElem?_getD, List.getElem?_append_right (by omega), show (u - 1).toNat - h.Objs.length = 0 by omega]
    rfl
  have e3 : yE h u j = true → yE (vr h) u j = true := fun e => by
    have hs := Yd e
    unfold yE
    rw [e1 hs.1.1 hs.1.2, hl]
    simp; omega
  refine ⟨e3, ?_⟩
  by_cases c : yE h u j = true
  · have hs := Yd c
    unfold zQ
    rw [if_pos c, if_pos (e3 c), e1 hs.1.1 hs.1.2]
  · unfold zQ
    rw [if_neg c]
    split
    · rename_i d
      have hs := Yd d
      by_cases hu : u ≤ (h.Objs.length : Int)
      · refine absurd ?_ c
        rw [e1 hs.1.1 hu] at hs
        unfold yE; simp; omega
      · rw [e2 (by omega), List.getD_eq_getElem?_getD]
        cases hx : (List.replicate h.Slots.toNat (0 : Int))[j.toNat]? with
        | none => rfl
        | some v => exact List.eq_of_mem_replicate (List.mem_of_getElem? hx)
    · rfl
theorem zxq (s : za) (m : Int) (x : zb) : ((zn s m x).1.H = s.H ∧ x.PC ≠ 23) ∨ (x.PC = 23 ∧ (zn s m x).1.H = Zm s.H (v4 x (opM s.P m x).A) (opM s.P m x).S (v4 x (opM s.P m x).R) ∧ (zn s m x).2.Buf = x.Buf) ∨ (x.PC = 30 ∧ (zn s m x).1.H = vr s.H) := by
  by_cases c : x.PC = 23
  · have e : zn s m x = zfo s m x := by
      unfold zn
      rw [if_neg (by omega), if_neg (by omega), if_neg (by omega), if_neg (by omega), if_neg (by omega), if_neg (by omega), if_neg (by omega), if_neg (by omega), if_pos c]
    rw [e]; exact .inr (.inl ⟨c, rfl, rfl⟩)
  by_cases d : x.PC = 30
  · have e : zn s m x = zal s m x := by
      unfold zn
      rw [if_neg (by omega), if_neg (by omega), if_neg (by omega), if_neg (by omega), if_neg (by omega), if_neg (by omega), if_neg (by omega), if_neg (by omega), if_neg (by omega), if_pos d]
    rw [e]
    unfold zal
    split
    · split
      · exact .inr (.inr ⟨d, rfl⟩)
      · exact .inl ⟨rfl, c⟩
    · exact .inl ⟨rfl, c⟩
  · rcases znU s m x with h | h | h
    · exact .inl ⟨h, c⟩
    · exact absurd h c
    · exact absurd h d
theorem zxW {p : zc} {nb : Nat} {s : za} {gh : Gh} {m : Int} {x : zb} (K : MX p s gh x) (O : XOk p nb m x) (hb : ∀ o, zJ s.T.Black o = true → zJ s.T.Marks o = true) {o : Int} (h : zic x o) : zic (zn s m x).2 o ∨ zJ (zn s m x).1.T.Marks o = true := by
  have hrt := O.ret
  have hpc := O.pc
  refine wH (motive := fun r => zic r.2 o ∨ zJ r.1.T.Marks o = true) s m x ?_ ?_ ?_ ?_ ?_ ?_ ?_ ?_ ?_ ?_ ?_ ?_ ?_ ?_ ?_ ?_ ?_ ?_ ?_ ?_
  all_goals try (intro c)
  · -- 0
    rcases h with h | ⟨h, _⟩ | ⟨h, _⟩
    · left; left; unfold mu0 VW; repeat' split
      all_goals exact h
    · omega
    · omega
  · -- 1
    unfold mu1; dsimp only
    split
    · rename_i hl
      rcases h with h | ⟨h, e⟩ | ⟨h, _⟩
      · have : x.Buf = [] := List.length_eq_zero_iff.1 hl
        rw [this] at h; cases h
      · left; right; left; exact ⟨.inl (by show x.Ret = 22; omega), e⟩
      · omega
    · rename_i hl
      rcases h with h | ⟨h, e⟩ | ⟨h, _⟩
      · obtain ⟨i, hi⟩ := List.mem_iff_getElem?.1 h
        have hil := (List.getElem?_eq_some_iff.1 hi).1
        by_cases hlast : i = x.Buf.length - 1
        · left; right; right
          refine ⟨.inl rfl, rfl, .inl rfl, ?_⟩
          show x.Buf.getD (x.Buf.length - 1) 0 = o
          rw [List.getD_eq_getElem?_getD, ← hlast, hi]; rfl
        · left; left
          show o ∈ x.Buf.take (x.Buf.length - 1)
          exact List.mem_of_getElem? (i := i) (by rw [List.getElem?_take_of_lt (by omega)]; exact hi)
      · left; right; left; exact ⟨.inr ⟨.inr rfl, by show x.Ret = 22; omega⟩, e⟩
      · omega
  · rcases h with h | ⟨h, _⟩ | ⟨h, _⟩
    · left; left; exact h
    · omega
    · omega
  · -- 3
    obtain ⟨G, gm, g0⟩ := K.p3 c
    unfold mu3; dsimp only
    rcases h with h | ⟨h, e⟩ | ⟨_, h⟩
    · left; left; split <;> exact h
    · left; right; left
      split
      · exact ⟨.inr ⟨.inl rfl, by show x.Ret = 22; omega⟩, e⟩
      · exact ⟨.inr ⟨.inr c, by show x.Ret = 22; omega⟩, e⟩
    · rcases ztu G.md (h.2.2 ▸ G.ob) (hb o) h with h' | h'
      · left; right; right
        rw [if_neg (by have := h'.1; omega)]
        exact ⟨.inl c, h'⟩
      · exact .inr h'
  · rcases h with h | ⟨h, _⟩ | ⟨h, _⟩
    · left; left; exact h
    · omega
    · omega
  · rcases h with h | ⟨h, _⟩ | ⟨h, _⟩
    · left; left; unfold ze7; dsimp only; split <;> exact h
    · omega
    · omega
  · rcases h with h | ⟨h, _⟩ | ⟨h, _⟩
    · left; left; unfold zeS; dsimp only; split <;> exact h
    · omega
    · omega
  · -- 22
    unfold zeR; dsimp only
    rcases h with h | ⟨h, e⟩ | ⟨h, _⟩
    · left; left; split
      · exact h
      · exact List.mem_append_left _ h
    · left
      split
      · right; left; exact ⟨.inr ⟨.inl rfl, rfl⟩, e⟩
      · left; exact List.mem_append_right _ (by rw [e]; simp)
    · omega
  · rcases h with h | ⟨h, _⟩ | ⟨h, _⟩
    · left; left; exact h
    · omega
    · omega
  · rcases h with h | ⟨h, _⟩ | ⟨h, _⟩
    · left; left; unfold zal; repeat' split
      all_goals exact h
    · omega
    · omega
  · rcases h with h | ⟨h, _⟩ | ⟨h, _⟩
    · left; left; unfold ze4; dsimp only; split <;> exact h
    · omega
    · omega
  · rcases h with h | ⟨h, _⟩ | ⟨h, _⟩
    · left; left; unfold ze2; dsimp only; repeat' split
      all_goals exact h
    · omega
    · omega
  · rcases h with h | ⟨h, _⟩ | ⟨h, _⟩
    · left; left; exact h
    · omega
    · omega
  · rcases h with h | ⟨h, _⟩ | ⟨h, _⟩
    · left; left; unfold ze9; dsimp only; split <;> exact h
    · omega
    · omega
  · rcases h with h | ⟨h, _⟩ | ⟨h, _⟩
    · left; left; unfold zeK; dsimp only; split <;> exact h
    · omega
    · omega
  · rcases h with h | ⟨h, _⟩ | ⟨h, _⟩
    · left; left; unfold zeU; dsimp only; split <;> exact h
    · omega
    · omega
  · -- 37
    obtain ⟨G, gm, g0⟩ := K.p37 c
    unfold za8; dsimp only
    rcases h with h | ⟨h, e⟩ | ⟨_, h⟩
    · left; left; split <;> exact h
    · omega
    · rcases ztu G.md (h.2.2 ▸ G.ob) (hb o) h with h' | h'
      · left; right; right
        rw [if_neg (by have := h'.1; omega)]
        exact ⟨.inr c, h'⟩
      · exact .inr h'
  · rcases h with h | ⟨h, _⟩ | ⟨h, _⟩
    · left; left; exact h
    · omega
    · omega
  · rcases h with h | ⟨h, _⟩ | ⟨h, _⟩
    · left; left; exact h
    · omega
    · omega
  · exact .inl h
theorem zxm {p : zc} {nb : Nat} {s : za} {gh : Gh} (hsl : s.H.Slots = p.H.Slots) (h1 : 1 ≤ p.H.Slots ∧ p.H.Slots ≤ 2) {m : Int} {x : zb} (O : XOk p nb m x) (S : zoV p.H.Slots x) :
    zoV p.H.Slots (zn s m x).2 ∧ ∀ u j, 0 ≤ j → znX x u j → znX (zn s m x).2 u j ∨ zQ s.H u j = 0 ∨ zic (zn s m x).2 (zQ s.H u j) := by
  have no : ∀ {y : zb}, y.PC ≠ 36 → y.PC ≠ 37 → y.PC ≠ 38 → zoV p.H.Slots y ∧ ∀ u j, 0 ≤ j → znX x u j → znX y u j ∨ zQ s.H u j = 0 ∨ zic y (zQ s.H u j) :=
    fun a b c => ⟨⟨fun e => absurd e a, fun e => absurd e b, fun e => absurd e c⟩, fun u j _ _ => .inl (fun e => by omega)⟩
  have on : ∀ k : Int, (onM s k = 36 ∧ k ≠ p.H.Slots) ∨ (onM s k = 38 ∧ k = p.H.Slots) := fun k => by
    unfold onM
    rw [hsl]
    split
    · rename_i e; exact .inr ⟨rfl, e⟩
    · rename_i e; exact .inl ⟨rfl, e⟩
  refine wH (motive := fun r => zoV p.H.Slots r.2 ∧ ∀ u j, 0 ≤ j → znX x u j → znX r.2 u j ∨ zQ s.H u j = 0 ∨ zic r.2 (zQ s.H u j)) s m x ?_ ?_ ?_ ?_ ?_ ?_ ?_ ?_ ?_ ?_ ?_ ?_ ?_ ?_ ?_ ?_ ?_ ?_ ?_ ?_
  all_goals try (intro c)
  · unfold mu0 VW; repeat' split
    all_goals exact no (by (try dsimp only [setM]); omega) (by (try dsimp only [setM]); omega) (by (try dsimp only [setM]); omega)
  · have := O.ret (.inl c)
    unfold mu1; dsimp only; split
    · exact no (by dsimp only; omega) (by dsimp only; omega) (by dsimp only; omega)
    · exact no (by dsimp only; omega) (by dsimp only; omega) (by dsimp only; omega)
  · unfold mu2; exact no (by dsimp only; omega) (by dsimp only; omega) (by dsimp only; omega)
  · unfold mu3; dsimp only; split
    · exact no (by dsimp only; omega) (by dsimp only; omega) (by dsimp only; omega)
    · exact no (by dsimp only; omega) (by dsimp only; omega) (by dsimp only; omega)
  · unfold zg2; exact no (by dsimp only [setM]; omega) (by dsimp only [setM]; omega) (by dsimp only [setM]; omega)
  · unfold ze7; dsimp only; split
    · exact no (by dsimp only [vF]; omega) (by dsimp only [vF]; omega) (by dsimp only [vF]; omega)
    · exact no (by dsimp only; omega) (by dsimp only; omega) (by dsimp only; omega)
  · unfold zeS; dsimp only; split
    · exact no (by dsimp only; omega) (by dsimp only; omega) (by dsimp only; omega)
    · exact no (by dsimp only; omega) (by dsimp only; omega) (by dsimp only; omega)
  · unfold zeR; dsimp only; split
    · exact no (by dsimp only; omega) (by dsimp only; omega) (by dsimp only; omega)
    · exact no (by dsimp only; omega) (by dsimp only; omega) (by dsimp only; omega)
  · unfold zfo; exact no (by dsimp only [vF]; omega) (by dsimp only [vF]; omega) (by dsimp only [vF]; omega)
  · unfold zal; split
    · split
      · exact no (by dsimp only [setM]; omega) (by dsimp only [setM]; omega) (by dsimp only [setM]; omega)
      · exact no (by dsimp only [vF]; omega) (by dsimp only [vF]; omega) (by dsimp only [vF]; omega)
    · exact no (by dsimp only; omega) (by dsimp only; omega) (by dsimp only; omega)
  · unfold ze4; dsimp only; split
    · exact no (by dsimp only; omega) (by dsimp only; omega) (by dsimp only; omega)
    · exact no (by dsimp only; omega) (by dsimp only; omega) (by dsimp only; omega)
  · unfold ze2; dsimp only; repeat' split
    all_goals exact no (by dsimp only; omega) (by dsimp only; omega) (by dsimp only; omega)
  · unfold zha; exact no (by dsimp only; omega) (by dsimp only; omega) (by dsimp only; omega)
  · unfold ze9; dsimp only; split
    · exact no (by dsimp only; omega) (by dsimp only; omega) (by dsimp only; omega)
    · exact no (by dsimp only; omega) (by dsimp only; omega) (by dsimp only; omega)
  · unfold zeK; dsimp only; split
    · exact no (by dsimp only; omega) (by dsimp only; omega) (by dsimp only; omega)
    · exact ⟨⟨fun _ => ⟨Int.le_refl _, by show (0 : Int) < _; omega⟩, fun e => absurd e (by show ¬ (36 : Int) = 37; decide), fun e => absurd e (by show ¬ (36 : Int) = 38; decide)⟩, fun u j h0 _ => .inl (fun _ _ => h0)⟩
  · -- 36
    have hs := S.1 c
    have w : wc (x.Slot + 1) = x.Slot + 1 := vD (by omega) (by omega)
    unfold zeU; dsimp only
    rw [w]
    split
    · rename_i hv
      refine ⟨⟨fun e => ?_, fun e => ?_, fun e => ?_⟩, fun u j h0 h => ?_⟩
      · dsimp only at e ⊢; have := on (x.Slot + 1); omega
      · dsimp only at e ⊢; have := on (x.Slot + 1); omega
      · dsimp only at e ⊢; have := on (x.Slot + 1); omega
      · by_cases hu : x.Obj = u
        · have hle := h (.inl c) hu
          by_cases hj : j = x.Slot
          · right; left; rw [← hu, hj]; exact hv
          · left; intro _ _; show x.Slot + 1 ≤ j; omega
        · left; intro _ e; exact absurd e hu
    · rename_i hv
      refine ⟨⟨fun e => absurd e (by show ¬ (37 : Int) = 36; decide), fun _ => ⟨by show 1 ≤ x.Slot + 1; omega, by show x.Slot + 1 ≤ _; omega⟩, fun e => absurd e (by show ¬ (37 : Int) = 38; decide)⟩, fun u j h0 h => ?_⟩
      by_cases hu : x.Obj = u
      · have hle := h (.inl c) hu
        by_cases hj : j = x.Slot
        · right; right; right; right
          exact ⟨.inr rfl, rfl, .inl rfl, by rw [← hu, hj]; rfl⟩
        · left; intro _ _; show x.Slot + 1 ≤ j; omega
      · left; intro _ e; exact absurd e hu
  · -- 37
    have hs := S.2.1 c
    unfold za8; dsimp only
    split
    · refine ⟨⟨fun e => ?_, fun e => ?_, fun e => ?_⟩, fun u j h0 h => .inl (fun _ e => h (.inr (.inl c)) e)⟩
      · dsimp only at e ⊢; have := on x.Slot; omega
      · dsimp only at e ⊢; have := on x.Slot; omega
      · dsimp only at e ⊢; have := on x.Slot; omega
    · exact ⟨⟨fun e => absurd e (by show ¬ x.PC = 36; omega), fun _ => hs, fun e => absurd e (by show ¬ x.PC = 38; omega)⟩, fun u j h0 h => .inl (fun _ e => h (.inr (.inl c)) e)⟩
  · unfold zgL; exact no (by dsimp only; omega) (by dsimp only; omega) (by dsimp only; omega)
  · unfold zi7; exact no (by dsimp only; omega) (by dsimp only; omega) (by dsimp only; omega)
  · exact ⟨S, fun u j _ h => .inl h⟩
theorem zky.mono {s s' : za} (F : zky s s') {o : Int} (h : zJ s.T.Marks o = true) : zJ s'.T.Marks o = true := by
  rcases F with ⟨e, _⟩ | ⟨q, _, _, e, _⟩ | ⟨q, _, e, _⟩ | ⟨_, _, e⟩
  · rw [e]; exact h
  · rw [e]; exact (wb _ _ _).2 (.inl h)
  · rw [e]; exact h
  · rw [e]; exact (wb _ _ _).2 (.inl h)
theorem zwL {p : zc} {s : za} (hP : s.P = p) {W : Int → Int → Prop} {m : Int} {x : zb} (K : zmw p s W m x) (mono : ∀ o, zJ s.T.Marks o = true → zJ (zn s m x).1.T.Marks o = true) (hr : x.PC = 1 ∨ x.PC = 3 → x.Ret = 2 ∨ x.Ret = 22) :
    ∀ l : List zb, zmw p { (zn s m x).1 with Ms := l } (fun u j => W u j ∨ (x.PC = 23 ∧ u = v4 x (opM p m x).A ∧ j = (opM p m x).S)) m (zn s m x).2 := by
  intro l
  have no : ∀ {t : za} {y : zb}, ¬ (y.PC = 21 ∨ y.PC = 22 ∨ ((y.PC = 1 ∨ y.PC = 3) ∧ y.Ret = 22)) → y.PC ≠ 23 → zmw p t (fun u j => W u j ∨ (x.PC = 23 ∧ u = v4 x (opM p m x).A ∧ j = (opM p m x).S)) m y :=
    fun a b _ => ⟨fun e => absurd e a, fun e => absurd e b⟩
  have keep : ∀ {t : za} {y : zb}, y.IP = x.IP → y.Regs = x.Regs → v4 y (opM p m y).A = v4 x (opM p m x).A ∧ (opM p m y).S = (opM p m x).S := fun e1 e2 => by
    unfold opM v4; rw [e1, e2]; exact ⟨rfl, rfl⟩
  revert mono
  refine wH (motive := fun r => (∀ o, zJ s.T.Marks o = true → zJ r.1.T.Marks o = true) → zmw p { r.1 with Ms := l } (fun u j => W u j ∨ (x.PC = 23 ∧ u = v4 x (opM p m x).A ∧ j = (opM p m x).S)) m r.2) s m x ?_ ?_ ?_ ?_ ?_ ?_ ?_ ?_ ?_ ?_ ?_ ?_ ?_ ?_ ?_ ?_ ?_ ?_ ?_ ?_
  · intro c _; unfold mu0 VW; repeat' split
    all_goals exact no (by (try dsimp only [setM]); omega) (by (try dsimp only [setM]); omega)
  · intro c _
    have hr := hr (.inl c)
    unfold mu1; dsimp only
    intro hW
    split
    · refine ⟨fun e => ?_, fun e => by dsimp only at e; omega⟩
      have e : x.Ret = 21 ∨ x.Ret = 22 ∨ ((x.Ret = 1 ∨ x.Ret = 3) ∧ x.Ret = 22) := e
      exact (K (fun h => hW (by split <;> exact .inl h))).1 (.inr (.inr ⟨.inl c, by omega⟩))
    · refine ⟨fun e => ?_, fun e => by dsimp only at e; omega⟩
      have e : (3 : Int) = 21 ∨ (3 : Int) = 22 ∨ (((3 : Int) = 1 ∨ (3 : Int) = 3) ∧ x.Ret = 22) := e
      exact (K (fun h => hW (by split <;> exact .inl h))).1 (.inr (.inr ⟨.inl c, by omega⟩))
  · intro c _; unfold mu2; exact no (by (try dsimp only); omega) (by (try dsimp only); omega)
  · intro c _
    unfold mu3; dsimp only
    intro hW
    have eH : (zB s x.G).1.H = s.H := by rw [VI]
    split
    · refine ⟨fun e => ?_, fun e => by dsimp only at e; omega⟩
      have e : (1 : Int) = 21 ∨ (1 : Int) = 22 ∨ (((1 : Int) = 1 ∨ (1 : Int) = 3) ∧ x.Ret = 22) := e
      show x.Old = zQ (zB s x.G).1.H _ _
      rw [eH]
      exact (K (fun h => hW (by split <;> exact .inl h))).1 (.inr (.inr ⟨.inr c, by omega⟩))
    · refine ⟨fun e => ?_, fun e => by dsimp only at e; omega⟩
      have e : x.PC = 21 ∨ x.PC = 22 ∨ ((x.PC = 1 ∨ x.PC = 3) ∧ x.Ret = 22) := e
      show x.Old = zQ (zB s x.G).1.H _ _
      rw [eH]
      exact (K (fun h => hW (by split <;> exact .inl h))).1 (.inr (.inr ⟨.inr c, by omega⟩))
  · intro c _; unfold zg2; exact no (by (try dsimp only [setM]); omega) (by (try dsimp only [setM]); omega)
  · intro c _; unfold ze7; dsimp only; split
    · exact no (by (try dsimp only [vF]); omega) (by (try dsimp only [vF]); omega)
    · intro hW
      refine ⟨fun _ => ?_, fun e => by dsimp only at e; omega⟩
      show zm0 s m x = _
      unfold zm0
      rw [hP]; rfl
  · intro c mono; unfold zeS; dsimp only; split
    · rename_i h
      intro hW
      have k := (K (fun h => hW (.inl h))).1 (.inl c)
      refine ⟨fun e => by dsimp only at e; omega, fun _ => ?_⟩
      show zQ s.H (v4 x (opM p m x).A) (opM p m x).S = 0 ∨ zJ s.T.Marks (zQ s.H (v4 x (opM p m x).A) (opM p m x).S) = true ∨ _
      rw [← k]
      rcases h with h | h
      · exact .inl h
      · right; left
        unfold xX at h
        split at h
        · rename_i h2; exact ((UN _ _ _).1 h2).1
        · split at h
          · assumption
          · exact absurd rfl h
    · intro hW
      exact ⟨fun _ => (K (fun h => hW (.inl h))).1 (.inl c), fun e => by dsimp only at e; omega⟩
  · intro c mono; unfold zeR; dsimp only; split
    · intro hW
      exact ⟨fun _ => (K (fun h => hW (.inl h))).1 (.inr (.inl c)), fun e => by dsimp only at e; omega⟩
    · intro hW
      have k := (K (fun h => hW (.inl h))).1 (.inr (.inl c))
      refine ⟨fun e => by dsimp only at e; omega, fun _ => .inr (.inr ?_)⟩
      show zQ s.H (v4 x (opM p m x).A) (opM p m x).S ∈ x.Buf ++ [x.Old]
      rw [← k]; simp
  · intro c _; unfold zfo; exact no (by (try dsimp only [vF]); omega) (by (try dsimp only [vF]); omega)
  · intro c _; unfold zal; split
    · split
      · exact no (by (try dsimp only [setM]); omega) (by (try dsimp only [setM]); omega)
      · exact no (by (try dsimp only [vF]); omega) (by (try dsimp only [vF]); omega)
    · exact no (by (try dsimp only); omega) (by (try dsimp only); omega)
  · intro c _; unfold ze4; dsimp only; split
    · exact no (by (try dsimp only); omega) (by (try dsimp only); omega)
    · exact no (by (try dsimp only); omega) (by (try dsimp only); omega)
  · intro c _; unfold ze2; dsimp only; repeat' split
    all_goals exact no (by (try dsimp only); omega) (by (try dsimp only); omega)
  · intro c _; unfold zha; exact no (by (try dsimp only); omega) (by (try dsimp only); omega)
  · intro c _; unfold ze9; dsimp only; split
    · exact no (by (try dsimp only); omega) (by (try dsimp only); omega)
    · exact no (by (try dsimp only); omega) (by (try dsimp only); omega)
  · intro c _; unfold zeK; dsimp only; split
    · exact no (by (try dsimp only); omega) (by (try dsimp only); omega)
    · exact no (by (try dsimp only); omega) (by (try dsimp only); omega)
  · intro c _; unfold zeU; dsimp only
    have := zeq s (wc (x.Slot + 1))
    split
    · exact no (by (try dsimp only); omega) (by (try dsimp only); omega)
    · exact no (by (try dsimp only); omega) (by (try dsimp only); omega)
  · intro c _; unfold za8; dsimp only
    have := zeq s x.Slot
    split
    · exact no (by (try dsimp only); omega) (by (try dsimp only); omega)
    · exact no (by (try dsimp only); omega) (by (try dsimp only); omega)
  · intro c _; unfold zgL; exact no (by (try dsimp only); omega) (by (try dsimp only); omega)
  · intro c _; unfold zi7; exact no (by (try dsimp only); omega) (by (try dsimp only); omega)
  · intro _ hW
    exact K (fun h => hW (.inl h))
end
end Go.Pe.G
namespace Go.Pe.G
open Go.Pe
noncomputable section
theorem zvH {p : zc} {nb k : Nat} {s s' : za} {gh : Gh} (G : FG p nb k s gh) (F : zky s s') {u : Int} (hu : u ≤ (s.H.Objs.length : Int)) (h : xX s.T u = 1) : xX s'.T u = 1 ∨ (xX s.T u = 1 ∧ s'.T = { s.T with Black := s.T.Black ||| bit u }) := by
  have ht := (Zh _ _).1 h
  rcases F with ⟨e, _⟩ | ⟨q, _, _, e, _⟩ | ⟨q, hq, e, _⟩ | ⟨_, _, e⟩
  · left; rw [e]; exact h
  · left; rw [e, Zh]; exact ⟨(wb _ _ _).2 (.inl ht.1), ht.2⟩
  · by_cases hqu : u = q
    · right; subst hqu; exact ⟨h, e⟩
    · left; rw [e, Zh]; exact ⟨ht.1, fun hb => (zbb hb).elim ht.2 (fun e => hqu e)⟩
  · left; rw [e, Zh]
    exact ⟨(wb _ _ _).2 (.inl ht.1), fun hb => (zbb hb).elim ht.2 (fun e => by omega)⟩
theorem zuB {p : zc} {nb k : Nat} {s s' : za} {gh : Gh} (G : FG p nb k s gh) (F : zky s s') {u : Int} (hu : u ≤ (s.H.Objs.length : Int)) (h : ¬ zJ s.T.Marks u = true) (h' : zJ s'.T.Marks u = true) : xX s'.T u = 1 := by
  have nb : ¬ zJ s.T.Black u = true := fun e => h (G.B.blk u e)
  rcases F with ⟨e, _⟩ | ⟨q, _, _, e, _⟩ | ⟨q, hq, e, _⟩ | ⟨_, _, e⟩
  · rw [e] at h'; exact absurd h' h
  · rw [Zh]; refine ⟨h', ?_⟩; rw [e]; exact nb
  · rw [e] at h'; exact absurd h' h
  · rw [e] at h'
    rcases zbb h' with h2 | h2
    · exact absurd h2 h
    · omega
theorem zzv {p : zc} {nb : Nat} {s : za} (E : EOk p nb s) {u j : Int} (h : yE s.H u j = true) : 0 ≤ j ∧ j < p.H.Slots := by
  have hs := Yd h
  have hm : zH s.H u ∈ s.H.Objs := by
    unfold zH
    rw [List.getD_eq_getElem?_getD, List.getElem?_eq_getElem (show (u - 1).toNat < s.H.Objs.length by omega)]
    exact List.getElem_mem _
  have h1 := (E.H.objs _ hm).1
  have h2 := E.H.slots
  omega
theorem zyY {s : za} {m : Int} {x : zb} (c : x.PC = 3) : (zn s m x).2.PC = 1 ∨ (zn s m x).2.PC = 3 := by
  unfold zn
  rw [if_neg (by omega), if_neg (by omega), if_neg (by omega), if_pos c]
  unfold mu3; dsimp only
  split
  · exact .inl rfl
  · exact .inr c
theorem zwA {s : za} {m : Int} {x : zb} (c : x.PC = 37) : (zn s m x).2.Obj = x.Obj := by
  have e37 : zn s m x = za8 s m x := by
    unfold zn
    rw [if_neg (by omega), if_neg (by omega), if_neg (by omega), if_neg (by omega), if_neg (by omega), if_neg (by omega), if_neg (by omega), if_neg (by omega), if_neg (by omega), if_neg (by omega), if_neg (by omega), if_neg (by omega), if_neg (by omega), if_neg (by omega), if_neg (by omega), if_neg (by omega), if_pos c]
  rw [e37]
  unfold za8; dsimp only
  split <;> rfl
def zvF (s : za) (m : Int) (x : zb) (N C : List Int) : Prop :=
  (N = [] ∧ C = [] ∧ (zn s m x).1.T = s.T) ∨ (N = [x.G.Obj] ∧ C = [] ∧ (x.PC = 3 ∨ x.PC = 37) ∧ ¬ (s.T.Marks ||| bit x.G.Obj = s.T.Marks) ∧ (zn s m x).1.T = { s.T with Marks := s.T.Marks ||| bit x.G.Obj }) ∨ (N = [] ∧ C = [x.Obj] ∧ x.PC = 38 ∧ (zn s m x).1.T = ZP s.T x.Obj) ∨
      (N = [] ∧ C = [] ∧ x.PC = 30 ∧ WA s.H s.P.Most = true ∧ (zn s m x).1.H = vr s.H ∧ (zn s m x).1.T = WJ s.T (wc (s.H.Objs.length + 1)))
theorem FG.fresh {p : zc} (hp : zG p) {nb k : Nat} {s : za} {gh : Gh} (G : FG p nb k s gh) : WJ s.T (wc (s.H.Objs.length + 1)) = ⟨s.T.Marks ||| bit ((s.H.Objs.length : Int) + 1), s.T.Black ||| bit ((s.H.Objs.length : Int) + 1)⟩ ∧ ¬ zJ s.T.Marks ((s.H.Objs.length : Int) + 1) = true ∧ (s.H.Objs.length : Int) ≤ 9 := by
  have hN0 := G.E.H.n
  have hM0 := hp.most
  have hn6 := hp.n
  have nm : ¬ zJ s.T.Marks ((s.H.Objs.length : Int) + 1) = true := fun e => by have := G.mrk _ e; omega
  have hw : wc ((s.H.Objs.length : Int) + 1) = (s.H.Objs.length : Int) + 1 := vD (by omega) (by omega)
  rw [hw, zon (by omega) nm (fun e => nm (G.B.blk _ e))]
  exact ⟨rfl, nm, by omega⟩
theorem zxa {p : zc} (hp : zG p) {nb k : Nat} {s : za} {gh : Gh} (G : FG p nb k s gh) {m : Int} {i : Nat} {x : zb} (hx : s.Ms[i]? = some x) {N C : List Int} (hT : zvF s m x N C) {u : Int} (hg : xX s.T u = 1)
    (h : (zn s m x).1.T = { s.T with Black := s.T.Black ||| bit u }) : x.PC = 38 ∧ x.Obj = u := by
  have hb := ((Zh _ _).1 hg).2
  have hu := (wT s.T.Black (zqa hg) u).2 (.inr rfl)
  rcases hT with ⟨_, _, e⟩ | ⟨_, _, _, _, e⟩ | ⟨_, _, c, e⟩ | ⟨_, _, _, _, e1, e⟩
  · rw [e] at h
    have := congrArg zt.Black h
    exact absurd (by rw [this]; exact hu) hb
  · rw [e] at h
    have := congrArg zt.Black h
    exact absurd (by rw [this]; exact hu) hb
  · have hob : xX s.T x.Obj = 1 := G.grey (zxb hx (by unfold yu; rw [VP (.inr c)]; simp))
    rw [e] at h
    unfold ZP at h
    rw [if_pos hob] at h
    have hbb : s.T.Black ||| bit x.Obj = s.T.Black ||| bit u := congrArg zt.Black h
    refine ⟨c, ?_⟩
    rw [← hbb] at hu
    rcases zbb hu with h2 | h2
    · exact absurd h2 hb
    · exact h2.symm
  · obtain ⟨f1, f2, f3⟩ := G.fresh hp
    rw [e, f1] at h
    have : s.T.Marks ||| bit ((s.H.Objs.length : Int) + 1) = s.T.Marks := congrArg zt.Marks h
    exact absurd (by rw [← this]; exact (wT _ (by omega) _).2 (.inr rfl)) f2
theorem zw0 {p : zc} (hp : zG p) {nb k : Nat} {s : za} {gh : Gh} (G : FG p nb k s gh) {m : Int} {x : zb} {N C : List Int} (hT : zvF s m x N C) {u : Int} (hu : u ≤ (s.H.Objs.length : Int)) (h0 : ¬ zJ s.T.Marks u = true) (h1 : zJ (zn s m x).1.T.Marks u = true) : x.PC = 3 ∨ x.PC = 37 := by
  rcases hT with ⟨_, _, e⟩ | ⟨_, _, c, _, e⟩ | ⟨_, _, c, e⟩ | ⟨_, _, c, _, _, e⟩
  · rw [e] at h1; exact absurd h1 h0
  · exact c
  · rw [e, (zzd _ _).1] at h1; exact absurd h1 h0
  · obtain ⟨f1, f2, f3⟩ := G.fresh hp
    rw [e, f1] at h1
    rcases zbb h1 with h | h
    · exact absurd h h0
    · omega
theorem zyM {p : zc} {nb k : Nat} {s : za} {gh : Gh} (G : FG p nb k s gh) {i : Nat} {y : zh} (hy : s.Ws[i]? = some y) (hpc : y.PC = 5 ∨ y.PC = 6 ∨ y.PC = 8) : zJ s.T.Marks y.Obj = true := by
  have hg : xX s.T y.Obj = 1 := G.grey (zz6 hy (by
    unfold Zc
    rcases hpc with e | e | e
    · rw [zxk (.inl e)]; simp
    · rw [zzX e]; simp
    · rw [zxk (.inr e)]; simp))
  exact ((Zh _ _).1 hg).1
theorem zvc {p : zc} {nb k : Nat} {s : za} {gh : Gh} (G : FG p nb k s gh) {i : Nat} {y : zb} (hy : s.Ms[i]? = some y) (hpc : y.PC = 36 ∨ y.PC = 37 ∨ y.PC = 38) : zJ s.T.Marks y.Obj = true := by
  have hg : xX s.T y.Obj = 1 := G.grey (zxb hy (by
    unfold yu
    rcases hpc with e | e | e
    · rw [VP (.inl e)]; simp
    · rw [zmU e]; simp
    · rw [VP (.inr e)]; simp))
  exact ((Zh _ _).1 hg).1
theorem PI.mutator {p : zc} (hp : zG p) {nb k : Nat} {s : za} {gh : Gh} (hk : k < 4294960000) (G : FG p nb k s gh) {W : Int → Int → Prop} (I : PI p s W) {m : Int} (hm : 1 ≤ m ∧ m ≤ p.Mutators) (hd : s.Done = false) : ∃ W', PI p (zL s m) W' := by
  obtain ⟨gh', G', F, x, hx, N, C, hbag, hT⟩ := G.mutator hp hk hm hd
  have hT : zvF s m x N C := hT
  have hml := G.E.ml
  have hsl := hp.slots
  have hi : (m - 1).toNat < s.Ms.length := (List.getElem?_eq_some_iff.1 hx).1
  have ei : (((m - 1).toNat : Nat) : Int) + 1 = m := by omega
  have eS : zL s m = { (zn s m x).1 with Ms := s.Ms.set (m - 1).toNat (zn s m x).2 } := by
    unfold zL
    rw [if_neg (by rw [hd]; rintro (e | e | e) <;> first | cases e | omega), hx]
  have hMX := G.M _ x hx
  have hXO := G.E.X _ x hx
  have hcv := I.cv _ x hx
  rw [ei] at hXO hcv
  have hP := G.E.S.P
  have eH : (zL s m).H = (zn s m x).1.H := by rw [eS]
  have eT : (zL s m).T = (zn s m x).1.T := by rw [eS]
  have eW : (zL s m).Ws = s.Ws := by rw [eS]; show (zn s m x).1.Ws = _; rw [zmI]
  have eX : (zL s m).Ms = s.Ms.set (m - 1).toNat (zn s m x).2 := by rw [eS]
  have mono : ∀ o, zJ s.T.Marks o = true → zJ (zL s m).T.Marks o = true := fun o h => F.mono h
  obtain ⟨sl1, sl2⟩ := zxm (s := s) (m := m) (gh := gh) G.E.H.slots hsl hXO (I.sx _ x hx)
  have here : (zL s m).Ms[(m - 1).toNat]? = some (zn s m x).2 := by rw [eX]; exact List.getElem?_set_self hi
  have there : ∀ (i : Nat) y, i ≠ (m - 1).toNat → s.Ms[i]? = some y → (zL s m).Ms[i]? = some y := fun i y hne h => by rw [eX, List.getElem?_set_ne (fun e => hne e.symm)]; exact h
  have back : ∀ (i : Nat) y, (zL s m).Ms[i]? = some y → (i = (m - 1).toNat ∧ y = (zn s m x).2) ∨ (i ≠ (m - 1).toNat ∧ s.Ms[i]? = some y) := fun i y h => by
    rw [eX] at h
    by_cases hne : i = (m - 1).toNat
    · subst hne
      rw [List.getElem?_set_self hi] at h
      injection h with h
      exact .inl ⟨rfl, h.symm⟩
    · rw [List.getElem?_set_ne (fun e => hne e.symm)] at h
      exact .inr ⟨hne, h⟩
  have heapS : ∀ u j, ¬ (x.PC = 23 ∧ u = v4 x (opM p m x).A ∧ j = (opM p m x).S) → (yE s.H u j = true → yE (zL s m).H u j = true) ∧ zQ (zL s m).H u j = zQ s.H u j := fun u j hne => by
    rw [eH]
    rcases zxq s m x with ⟨e, _⟩ | ⟨c, e, _⟩ | ⟨_, e⟩
    · rw [e]; exact ⟨id, rfl⟩
    · rw [e, hP]
      obtain ⟨a, b⟩ := zze (h := s.H) (a := v4 x (opM p m x).A) (i := (opM p m x).S) (v := v4 x (opM p m x).R) (u := u) (j := j) (fun e => hne ⟨c, e⟩) (fun e => (Yd e).2.1)
      exact ⟨fun h => a.trans h, b⟩
    · rw [e]; exact zwV _ _ _
  have P : zvQ s (zL s m) W (fun u j => W u j ∨ (x.PC = 23 ∧ u = v4 x (opM p m x).A ∧ j = (opM p m x).S)) := by
    refine ⟨mono, fun o h => ?_, fun u j hW hj => ?_, fun u j hW hj hg hu => ?_, fun u j hW hj hm0 hm1 => ?_⟩
    · rcases h with ⟨i, y, hy, h⟩ | ⟨i, y, hy, h⟩
      · right; left; exact ⟨i, y, by rw [eW]; exact hy, h⟩
      · by_cases hne : i = (m - 1).toNat
        · subst hne
          rw [hx] at hy; injection hy with hy; subst hy
          rcases zxW (m := m) hMX hXO G.B.blk h with h | h
          · right; right; exact ⟨_, _, here, h⟩
          · left; rw [eT]; exact h
        · right; right; exact ⟨i, y, there i y hne hy, h⟩
    · by_cases hc : x.PC = 23 ∧ u = v4 x (opM p m x).A ∧ j = (opM p m x).S
      · obtain ⟨c, rfl, rfl⟩ := hc
        right
        rcases (hcv hW).2 c with h | h | h
        · exact .inl h
        · exact .inr (.inl (mono _ h))
        · right; right; right
          refine ⟨_, _, here, .inl ?_⟩
          rcases zxq s m x with ⟨_, e⟩ | ⟨_, _, e⟩ | ⟨e, _⟩
          · exact absurd c e
          · rw [e]; exact h
          · omega
      · left
        obtain ⟨a, b⟩ := heapS u j hc
        exact ⟨fun h => h.elim hW hc, a hj, b⟩
    · have hpos := Yd hj
      have hrow := zzv G.E hj
      have htint : xX (zL s m).T u = 1 := by
        rcases zvH G F hpos.1.2 hg with h | ⟨_, h⟩
        · exact h
        · exfalso
          obtain ⟨c, ho⟩ := zxa hp G hx hT hg (by rw [← eT]; exact h)
          have hle := hu.2 _ x hx (.inr (.inr c)) ho
          have := (I.sx _ x hx).2.2 c
          omega
      rcases sl2 u j hpos.2.1 (hu.2 _ x hx) with h | h | h
      · left
        refine ⟨htint, fun i y hy => hu.1 i y (by rw [← eW]; exact hy), fun i y hy => ?_⟩
        rcases back i y hy with ⟨_, rfl⟩ | ⟨_, hy⟩
        · exact h
        · exact hu.2 i y hy
      · exact .inr (.inl h)
      · exact .inr (.inr (.inr (.inr ⟨_, _, here, h⟩)))
    · have hpos := Yd hj
      refine ⟨zuB G F hpos.1.2 hm0 hm1, fun i y hy hpc ho => ?_, fun i y hy hpc ho => ?_⟩
      · rw [eW] at hy
        exact absurd (ho ▸ zyM G hy hpc) hm0
      · rcases back i y hy with ⟨_, rfl⟩ | ⟨_, hy⟩
        · exfalso
          rcases zw0 hp G hT hpos.1.2 hm0 (by rw [← eT]; exact hm1) with c | c
          · have := zyY (s := s) (m := m) c
            omega
          · have h3 := zwA (s := s) (m := m) c
            exact hm0 (by rw [← ho, h3]; exact zvc G hx (.inr (.inl c)))
        · exact absurd (ho ▸ zvc G hy hpc) hm0
  refine ⟨fun u j => W u j ∨ (x.PC = 23 ∧ u = v4 x (opM p m x).A ∧ j = (opM p m x).S), fun o ho => ?_, fun i y hy => I.sw i y (by rw [← eW]; exact hy), fun i y hy => ?_, fun i y hy => ?_⟩
  · have h0 : o ≠ 0 := by have := ho.in; omega
    rcases I.lv o ho with h | h
    · exact .inl (mono o h)
    · exact P.prot h h0
  · rcases back i y hy with ⟨_, rfl⟩ | ⟨_, hy⟩
    · exact sl1
    · exact I.sx i y hy
  · rcases back i y hy with ⟨rfl, rfl⟩ | ⟨_, hy⟩
    · rw [ei, eS]
      exact zwL hP hcv (fun o h => by rw [← eT]; exact mono o h) hXO.ret _
    · intro hW
      have hW1 : ¬ W (v4 y (opM p ((i : Int) + 1) y).A) (opM p ((i : Int) + 1) y).S := fun h => hW (.inl h)
      obtain ⟨a, b⟩ := I.cv i y hy hW1
      have hh := (heapS (v4 y (opM p ((i : Int) + 1) y).A) (opM p ((i : Int) + 1) y).S (fun h => hW (.inr h))).2
      rw [hh]
      exact ⟨a, fun e => (b e).imp id (fun h => h.imp (mono _) id)⟩
end
end Go.Pe.G
namespace Go.Pe.G
open Go.Pe
noncomputable section
theorem zuQ {l : List Int} {v : Int} (hv : 1 ≤ v ∧ v ≤ 64) : ∀ (a : BitVec 64), zJ a v = true ∨ v ∈ l → zJ (l.foldl (fun s o => s ||| bit o) a) v = true := by
  induction l with
  | nil => rintro a (h | h); exact h; cases h
  | cons x l ih =>
    rintro a h
    refine ih _ ?_
    rw [wb]
    rcases h with h | h
    · exact .inl (.inl h)
    · rcases List.mem_cons.1 h with rfl | h
      · exact .inl (.inr ((wT 0#64 hv v).2 (.inr rfl) |> fun h => by simpa using h))
      · exact .inr h
end
end Go.Pe.G
namespace Go.Pe.G
open Go.Pe
noncomputable section
theorem zw8 (a b : BitVec 64) : a &&& ~~~b = 0#64 ↔ ∀ o, zJ a o = true → zJ b o = true := by
  constructor
  · intro h o ho
    have hr := (wi _ _).1 ho
    refine Classical.byContradiction (fun hb => ?_)
    have : zJ (a &&& ~~~b) o = true := (UN _ _ _).2 ⟨ho, (zk7 b ⟨hr.1, hr.2.1⟩).2 hb⟩
    rw [h] at this
    exact YQ o this
  · intro h
    refine zuO (fun o => ⟨fun e => ?_, fun e => absurd e (YQ o)⟩)
    obtain ⟨e1, e2⟩ := (UN _ _ _).1 e
    have hr := (wi _ _).1 e1
    exact absurd (h o e1) ((zk7 b ⟨hr.1, hr.2.1⟩).1 e2)
end
end Go.Pe.G
namespace Go.Pe.G
open Go.Pe
noncomputable section
namespace B16
def UK (n : Nat) (s : za) : za := goF (fun _ s => zL s 1) 0 n s
theorem zbi {p : zc} {nb : Nat} (h : zG p) {s : za} (E : EOk p nb s) {n : Nat} (hn : n < 1000000) : yw s 1 (n : Int) = some (UK n s, ()) := by
  have e := zzg (f := uE) (fun i s => (1, (n : Int), i, s, 0, 0, 0, 0, 0, 0, 0, 0, 0, 0#64, 0, zt.mk 0#64 0#64, 0, 0, false, false, 0, 0, 0, 0, zx.mk 0 0, ([] : List (List Int)), ([] : List (List Int)), ([] : List (List zg)), ([] : List zj), ([] : List (List Int)), ([] : List (BitVec 64)), ([] : List (List Int)), ([] : List Int), ([] : List Int), ([] : List zh), ([] : List zb), ())) (fun s => (s, 0, 0, 0, 0, 0, 0, 0, 0, 0, 0#64, 0, zt.mk 0#64 0#64, 0, 0, false, false, 0, 0, 0, 0, zx.mk 0 0, ([] : List (List Int)), ([] : List (List Int)), ([] : List (List zg)), ([] : List zj), ([] : List (List Int)), ([] : List (BitVec 64)), ([] : List (List Int)), ([] : List Int), ([] : List Int), ([] : List zh), ([] : List zb), ())) n hn (fun _ s => zL s 1) (EOk p nb) (fun _ s E => zmg h E 1)
    (fun i s hi E => by
      show uE (1, (n : Int), (i : Int), s, 0, 0, 0, 0, 0, 0, 0, 0, 0, 0#64, 0, zt.mk 0#64 0#64, 0, 0, false, false, 0, 0, 0, 0, zx.mk 0 0, ([] : List (List Int)), ([] : List (List Int)), ([] : List (List zg)), ([] : List zj), ([] : List (List Int)), ([] : List (BitVec 64)), ([] : List (List Int)), ([] : List Int), ([] : List Int), ([] : List zh), ([] : List zb), ()) = _
      rw [Uz, zq, if_pos (by omega), zgB h E, Option.bind_some, xD (by omega)])
    (fun s E => by
      show uE (1, (n : Int), (n : Int), s, 0, 0, 0, 0, 0, 0, 0, 0, 0, 0#64, 0, zt.mk 0#64 0#64, 0, 0, false, false, 0, 0, 0, 0, zx.mk 0 0, ([] : List (List Int)), ([] : List (List Int)), ([] : List (List zg)), ([] : List zj), ([] : List (List Int)), ([] : List (BitVec 64)), ([] : List (List Int)), ([] : List Int), ([] : List Int), ([] : List zh), ([] : List zb), ()) = _
      rw [Uz, zq, if_neg (by omega)]) E
  rw [zjU]
  exact congrArg (fun o => Option.bind o _) e
theorem zzQ {p : zc} {nb : Nat} (h : zG p) {s : za} (E : EOk p nb s) (n : Nat) : EOk p nb (UK n s) := zrg (Inv := EOk p nb) (g := fun _ s => zL s 1) (fun _ s E => zmg h E 1) n 0 s E
def zkt (l : List zg) : zc := ⟨1, 1, 2, 1, 1, 4, 2, 2, ⟨1, [[2], [0], [0]]⟩, 1#64, [[1, 0]], [l], []⟩
theorem ztn (l : List zg) : XZ [l] = some (zkt l, ()) := by
  rw [zjG, zsE (by rw [UM, zq, if_pos (by simp), wx (by simp), Option.bind_some, v7 (by decide)]; simp only [Int.toNat_zero, List.getElem?_cons_zero, Option.bind_some]; rw [wx (by simp), Option.bind_some, yf (by decide) (by decide)]) (by rw [UM, zq, if_neg (by simp)])]; rfl
theorem zrt {l : List zg} (hl : (l.length : Int) ≤ 7) (ho : ∀ o ∈ l, zci o 2 1) : zG (zkt l) := by
  constructor
  case objs => intro o ho; simp [zkt] at ho ⊢; rcases ho with rfl | rfl | rfl <;> simp
  case roots => exact ⟨1, by decide, by simp [zkt], by show (1#64 : BitVec 64) = bit 1; decide⟩
  case reg => intro r hr; simp [zkt] at hr ⊢; subst hr; simp
  case prog =>
    intro k r ops hr hp
    cases k with
    | zero => injection hr with hr; injection hp with hp; subst hr; subst hp; exact ⟨hl, ho⟩
    | succ k => cases hp
  all_goals first | rfl | (simp [zkt]; done) | (simp [zkt]; omega)
abbrev pA : zc := zkt [⟨1, 1, 0, 0⟩, ⟨5, 1, 0, 0⟩, ⟨2, 1, 0, 0⟩]
abbrev pB : zc := zkt [⟨3, 1, 0, 0⟩, ⟨3, 1, 0, 0⟩]
theorem zbt : zG pA := zrt (by decide) (fun o ho => by simp at ho; rcases ho with rfl | rfl | rfl <;> (unfold zci; decide))
theorem zj2 : zG pB := zrt (by decide) (fun o ho => by simp at ho; subst ho; unfold zci; decide)
theorem zwt {s : za} (x : zb) (hx : s.Ms = [x]) (hp : x.PC = 0) (ha : ¬ s.Acks.getD 0 0 < s.Epoch) (hi : ((wu s.P 1).length : Int) ≤ x.IP) : zL s 1 = s := by
  unfold zL
  rw [hx]
  split
  · rfl
  show { (zn s 1 x).1 with Ms := [(zn s 1 x).2] } = s
  have e : zn s 1 x = (s, x) := by
    unfold zn
    rw [if_pos hp]
    unfold mu0 VW
    rw [if_neg (show ¬ s.Acks.getD (1 - 1 : Int).toNat 0 < s.Epoch from ha), if_pos hi]
  rw [e, ← hx]
theorem zz9 {l : List zb} (h : l.length = 1) : ∃ x, l = [x] := List.length_eq_one_iff.1 h
theorem zrY : WM = some (true, ()) := by
  have E0 := zs7 zbt
  have E1 := zs7 zj2
  have a2 : yw (yR pA) 1 2 = some (UK 2 (yR pA), ()) := zbi zbt E0 (n := 2) (by decide)
  have a7 : yw (yR pA) 1 7 = some (UK 7 (yR pA), ()) := zbi zbt E0 (n := 7) (by decide)
  have a8 : yw (yR pA) 1 8 = some (UK 8 (yR pA), ()) := zbi zbt E0 (n := 8) (by decide)
  have a99 : yw (yR pA) 1 99 = some (UK 99 (yR pA), ()) := zbi zbt E0 (n := 99) (by decide)
  have b2 : yw (yR pB) 1 2 = some (UK 2 (yR pB), ()) := zbi zj2 E1 (n := 2) (by decide)
  have b5 : yw (yR pB) 1 5 = some (UK 5 (yR pB), ()) := zbi zj2 E1 (n := 5) (by decide)
  have b60 : yw (yR pB) 1 60 = some (UK 60 (yR pB), ()) := zbi zj2 E1 (n := 60) (by decide)
  have h99 : zL (UK 99 (yR pA)) 1 = UK 99 (yR pA) := by
    obtain ⟨x, hx⟩ := zz9 (l := (UK 99 (yR pA)).Ms) (by decide +kernel)
    have g : (UK 99 (yR pA)).Ms.all (fun x => decide (x.PC = 0) && decide (((wu (UK 99 (yR pA)).P 1).length : Int) ≤ x.IP)) = true := by decide +kernel
    rw [hx] at g
    simp only [List.all_cons, List.all_nil, Bool.and_true, Bool.and_eq_true, decide_eq_true_eq] at g
    exact zwt x hx g.1 (by decide +kernel) g.2
  have E99 := zzQ zbt E0 99
  have s99 := zgB zbt E99 1
  have t7 := zlZ (h := (UK 7 (yR pA)).H) (by decide +kernel)
  have t8 := zlZ (h := (UK 8 (yR pA)).H) (by decide +kernel)
  have u2 := zlZ (h := (UK 2 (yR pB)).H) (by decide +kernel)
  rw [zhB, ztn]
  simp only [Option.bind_some, ztn, zmc zbt, zmc zj2, a2, a7, a8, a99, b2, b5, b60, t7, t8, u2, s99, h99, zvp E99.small, zlr, wN]
  decide +kernel
def kOf (s : za) (b : BitVec 8) : Int := 1 + (b.toNat : Int).tmod (s.Ms.length : Int)
theorem zxz {s : za} (h : s.Ms.length ≠ 0) (b : BitVec 8) : 1 ≤ kOf s b ∧ kOf s b ≤ (s.Ms.length : Int) := by
  have := vh (b := (b.toNat : Int)) (k := (s.Ms.length : Int)) (by omega) (by omega)
  unfold kOf
  omega
theorem zzf {p : zc} {nb : Nat} {s : za} (h : zG p) (E : EOk p nb s) (hm : s.Ms.length ≠ 0) (b : BitVec 8) : zah s b = some (zL s (kOf s b), kOf s b, ()) := by
  have hk := zxz hm b
  have hml := E.ml
  have hmt := h.mt
  have e : w64 (1 + (b.toNat : Int).tmod (s.Ms.length : Int)) = kOf s b := by
    unfold kOf at hk ⊢
    exact yf (by omega) (by omega)
  rw [zkq, zq, if_neg (by omega), e, zgB h E, Option.bind_some]
def atS (g : zA) (a b v : Int) : Int := if g.Out = 0 then (if a ≤ g.PC then (if g.PC ≤ b then v else 0) else 0) else 0
theorem zwC (g : zA) : zd7 g = some (atS g 0 1 g.Obj, ()) := by
  rw [zqy, ztR]
  simp only [zq]
  unfold atS
  split
  · split
    · split <;> rfl
    · rfl
  · rfl
def wj (a : BitVec 64) (x : zb) : BitVec 64 := if x.PC = 3 ∨ x.PC = 37 then ((a ||| YI x.Buf) ||| YI [x.Old]) ||| bit (atS x.G 0 1 x.G.Obj) else (a ||| YI x.Buf) ||| YI [x.Old]
def zp6 (s : za) : BitVec 64 := s.Ms.foldl wj 0#64
theorem zvE {s : za} (h : Ur s) : Vq s = some (zp6 s, ()) := by
  have hl := h.ms
  rw [zib]
  obtain ⟨o, e, rfl⟩ := uc (f := XE) (fun a => ∃ i : Nat, i ≤ s.Ms.length ∧ a = ((s.Ms.take i).foldl wj 0#64, (i : Int), s, ())) (fun a => s.Ms.length - a.2.1.toNat) (fun o => o = .brk (zp6 s, ())) (by
    rintro _ ⟨i, hi, rfl⟩
    rw [zeW, zq]
    by_cases c1 : (i : Int) < (s.Ms.length : Int)
    · have hx := List.getElem?_eq_getElem (show i < s.Ms.length by omega)
      have hs := h.mu _ (List.getElem_mem (show i < s.Ms.length by omega))
      have hst : (s.Ms.take (i + 1)).foldl wj 0#64 = wj ((s.Ms.take i).foldl wj 0#64) (s.Ms[i]'(by omega)) := by rw [List.take_add_one, hx, List.foldl_append]; rfl
      generalize s.Ms[i]'(by omega) = x at hx hs hst
      have fin : (∃ j : Nat, j ≤ s.Ms.length ∧ (wj ((s.Ms.take i).foldl wj 0#64) x, ((i + 1 : Nat) : Int), s, ()) = ((s.Ms.take j).foldl wj 0#64, (j : Int), s, ())) ∧ s.Ms.length - ((i + 1 : Nat) : Int).toNat < s.Ms.length - (i : Int).toNat :=
        ⟨⟨i + 1, by omega, by rw [hst]⟩, by omega⟩
      rw [if_pos c1, wm hx, Option.bind_some, zsD hs.2.1, Option.bind_some, zsD (by simp), Option.bind_some, xD (by omega)]
      simp only [zq, zwC, Option.bind_some, zgm]
      by_cases c3 : x.PC = 3
      · rw [if_pos c3]
        refine ⟨_, rfl, ?_⟩
        have e : wj ((s.Ms.take i).foldl wj 0#64) x = (((s.Ms.take i).foldl wj 0#64 ||| YI x.Buf) ||| YI [x.Old]) ||| bit (atS x.G 0 1 x.G.Obj) := by unfold wj; rw [if_pos (.inl c3)]
        rw [e] at fin; exact fin
      · rw [if_neg c3]
        by_cases c7 : x.PC = 37
        · rw [if_pos c7]
          refine ⟨_, rfl, ?_⟩
          have e : wj ((s.Ms.take i).foldl wj 0#64) x = (((s.Ms.take i).foldl wj 0#64 ||| YI x.Buf) ||| YI [x.Old]) ||| bit (atS x.G 0 1 x.G.Obj) := by unfold wj; rw [if_pos (.inr c7)]
          rw [e] at fin; exact fin
        · rw [if_neg c7]
          refine ⟨_, rfl, ?_⟩
          have e : wj ((s.Ms.take i).foldl wj 0#64) x = ((s.Ms.take i).foldl wj 0#64 ||| YI x.Buf) ||| YI [x.Old] := by unfold wj; rw [if_neg (by omega)]
          rw [e] at fin; exact fin
    · rw [if_neg c1]
      refine ⟨_, rfl, ?_⟩
      have : i = s.Ms.length := by omega
      subst this
      rw [List.take_length]; rfl) (0#64, 0, s, ()) ⟨0, by omega, rfl⟩ (by show s.Ms.length - 0 < 18446744073709551616; omega)
  rw [e]; rfl
theorem zrL {o : Int} : ∀ (l : List zb) (a : BitVec 64), (zJ a o = true ∨ ∃ x ∈ l, ∀ b, zJ (wj b x) o = true) → zJ (l.foldl wj a) o = true
  | [], a, h => by
    rcases h with h | ⟨x, h, _⟩
    · exact h
    · cases h
  | y :: l, a, h => by
    refine zrL l _ ?_
    rcases h with h | ⟨x, hx, h⟩
    · left
      unfold wj
      split
      · exact (wb _ _ _).2 (.inl ((wb _ _ _).2 (.inl ((wb _ _ _).2 (.inl h)))))
      · exact (wb _ _ _).2 (.inl ((wb _ _ _).2 (.inl h)))
    · rcases List.mem_cons.1 hx with rfl | hx
      · exact .inl (h a)
      · exact .inr ⟨x, hx, h⟩
theorem zxo {o : Int} (h : 1 ≤ o ∧ o ≤ 64) : zJ (bit o) o = true := by
  have := (wT 0#64 h o).2 (.inr rfl)
  simpa using this
theorem zyp {x : zb} {o : Int} (ho : 1 ≤ o ∧ o ≤ 64) (h : zic x o) (b : BitVec 64) : zJ (wj b x) o = true := by
  have buf : o ∈ x.Buf → zJ ((b ||| YI x.Buf) ||| YI [x.Old]) o = true := fun h => (wb _ _ _).2 (.inl ((wb _ _ _).2 (.inr (zuQ ho _ (.inr h)))))
  have old : x.Old = o → zJ ((b ||| YI x.Buf) ||| YI [x.Old]) o = true := fun h => (wb _ _ _).2 (.inr (zuQ ho _ (.inr (by rw [h]; simp))))
  unfold wj
  rcases h with h | ⟨_, h⟩ | ⟨h, h1, h2, h3⟩
  · split
    · exact (wb _ _ _).2 (.inl (buf h))
    · exact buf h
  · split
    · exact (wb _ _ _).2 (.inl (old h))
    · exact old h
  · rw [if_pos h]
    refine (wb _ _ _).2 (.inr ?_)
    have : atS x.G 0 1 x.G.Obj = o := by unfold atS; rw [if_pos h1, if_pos (by omega), if_pos (by omega), h3]
    rw [this]; exact zxo ho
def zlN (s : za) : Prop := ∀ (i : Nat) x, s.Ws[i]? = some x → x.PC = 0
theorem zzw {p : zc} {nb k : Nat} {s : za} {gh : Gh} (G : FG p nb k s gh) (hN : (s.H.Objs.length : Int) ≤ 9) (Z : zlN s) {o : Int} (h : znV s o) : (1 ≤ o ∧ o ≤ (s.H.Objs.length : Int)) ∧ zJ (zp6 s) o = true := by
  rcases h with ⟨i, x, hx, h, _⟩ | ⟨i, x, hx, h⟩
  · have := Z i x hx; omega
  · have K := G.M i x hx
    have hm := List.mem_of_getElem? hx
    obtain ⟨b1, b2, b3⟩ := G.buf x hm
    have hr : 1 ≤ o ∧ o ≤ (s.H.Objs.length : Int) := by
      rcases h with h | ⟨h, e⟩ | ⟨h, _, _, e⟩
      · exact ⟨(K.bf o h).1, b1 o h⟩
      · have := K.ol.2 h; omega
      · have h3 := b3 h
        rcases h with h | h
        · have := (K.p3 h).1.ob; omega
        · have := (K.p37 h).1.ob; omega
    exact ⟨hr, zrL _ _ (.inr ⟨x, hm, fun b => zyp (by omega) h b⟩)⟩
theorem zvL {p : zc} {nb k : Nat} {s : za} {gh : Gh} (G : FG p nb k s gh) (hN : (s.H.Objs.length : Int) ≤ 9) (Z : zlN s) {W : Int → Int → Prop} {o : Int} (h : zkW s W o) : o ≠ 0 → Reach s.H ((s.T.Marks &&& ~~~s.T.Black) ||| zp6 s) o := by
  have hv : ∀ l ∈ s.H.Objs, ∀ v ∈ l, 0 ≤ v ∧ v ≤ (s.H.Objs.length : Int) := fun l hl => (G.E.H.objs l hl).2
  induction h with
  | pend o h =>
    intro _
    obtain ⟨a, b⟩ := zzw G hN Z h
    exact .root o ((wb _ _ _).2 (.inr b)) a
  | white u j o hW hj he hu hp ih =>
    intro h0
    subst he
    have hs := zu3 hv h0
    exact .step u _ (ih (by have := Yd hj; omega)) hs.1 ⟨hs.2.1, hs.2.2⟩
  | grey u j o hW hj he hg hs' =>
    intro h0
    subst he
    have hs := zu3 hv h0
    have ht := (Zh _ _).1 hg
    have hp := Yd hj
    exact .step u _ (.root u ((wb _ _ _).2 (.inl ((UN _ _ _).2 ⟨ht.1, (zk7 _ (by omega)).2 ht.2⟩))) hp.1) hs.1 ⟨hs.2.1, hs.2.2⟩
theorem zzP {p : zc} (h : zG p) : PI p (yR p) (fun _ _ => False) := by
  have hms : ∀ (i : Nat) x, (yR p).Ms[i]? = some x → x.PC = 0 := fun i x hx => by
    obtain ⟨r, _, e⟩ := List.mem_map.1 (show x ∈ p.Regs.map vN from List.mem_of_getElem? hx)
    rw [← e]; rfl
  have hws : ∀ (i : Nat) x, (yR p).Ws[i]? = some x → x.PC = 0 := fun i x hx => by
    obtain ⟨j, _, e⟩ := List.mem_map.1 (show x ∈ (List.range p.Workers.toNat).map (uK p) from List.mem_of_getElem? hx)
    rw [← e]; rfl
  have us : ∀ u j, US (yR p) u j := fun u j => ⟨fun i x hx e => by have := hws i x hx; omega, fun i x hx e => by have := hms i x hx; omega⟩
  refine ⟨fun o ho => ?_, fun i x hx => ?_, fun i x hx => ?_, fun i x hx _ => ?_⟩
  · induction ho with
    | root o h1 h2 => exact .inl h1
    | step o v h1 h2 h3 ih =>
      right
      have ho := h1.in
      obtain ⟨j, hj⟩ := List.mem_iff_getElem?.1 h2
      have hjl := (List.getElem?_eq_some_iff.1 hj).1
      have hs : yE (yR p).H o (j : Int) = true := by
        show yE p.H o (j : Int) = true
        unfold yE; simp; omega
      have hg : zQ (yR p).H o (j : Int) = v := by
        show zQ p.H o (j : Int) = v
        unfold zQ
        rw [if_pos (show yE p.H o (j : Int) = true from hs), List.getD_eq_getElem?_getD, Int.toNat_natCast, hj]; rfl
      rcases ih with ih | ih
      · exact .grey o j v (fun e => e) hs hg ((Zh _ _).2 ⟨ih, YQ o⟩) (us _ _)
      · by_cases hm : zJ (yR p).T.Marks o = true
        · exact .grey o j v (fun e => e) hs hg ((Zh _ _).2 ⟨hm, YQ o⟩) (us _ _)
        · exact .white o j v (fun e => e) hs hg hm ih
  · have := hws i x hx; exact ⟨fun e => by omega, fun e => by omega, fun e => by omega⟩
  · have := hms i x hx; exact ⟨fun e => by omega, fun e => by omega, fun e => by omega⟩
  · have := hms i x hx
    exact ⟨fun e => by omega, fun e => by omega⟩
theorem mutatorSnapshot_plain (l ord : List (BitVec 8)) : wK l ord = some (true, ()) := by
  obtain ⟨p, ep, h⟩ := zzj l
  rw [zbJ, zrY]
  simp only [Option.bind_some, Bool.not_true, cond_false, ep, zmc h, zwQ h]
  have hn := h.n
  have hmo := h.most
  have hws : zlN (yR p) := fun i x hx => by
    obtain ⟨j, _, e⟩ := List.mem_map.1 (show x ∈ (List.range p.Workers.toNat).map (uK p) from List.mem_of_getElem? hx)
    rw [← e]; rfl
  obtain ⟨o, e, rfl⟩ := uc (f := uR) (fun a => ∃ (i : Nat) (s : za) (gh : Gh) (W : Int → Int → Prop), i ≤ 250 ∧ a = (ord, true, zoL p, (i : Int), s, ()) ∧ FG p (zW p + 1) i s gh ∧ PI p s W ∧ zlN s ∧ s.Done = false) (fun a => 250 - (Int.toNat a.2.2.2.1))
    (fun o => o = .brk (true, ())) (by
    rintro _ ⟨i, s, gh, W, hi, rfl, G, I, Z, hd⟩
    rw [zaj, zq, zq, zq]
    by_cases c1 : (i : Int) < (ord.length : Int)
    · rw [if_pos c1]
      by_cases c2 : (i : Int) < 250
      · rw [if_pos c2]
        by_cases c3 : (0 : Int) < (s.Ms.length : Int)
        · have hx := List.getElem?_eq_getElem (show i < ord.length by omega)
          have E := G.E
          have hml := E.ml
          rw [if_pos c3, wm hx, Option.bind_some, zzf h E (by omega), Option.bind_some]
          have hk := zxz (s := s) (by omega) (ord[i]'(by omega))
          generalize kOf s (ord[i]'(by omega)) = m at hk
          obtain ⟨gh', G', _⟩ := G.mutator h (by omega) (m := m) (by omega) hd
          obtain ⟨W', I'⟩ := PI.mutator h (by omega) G I (m := m) (by omega) hd
          have hf := znu s m
          have Z' : zlN (zL s m) := fun i x hx => Z i x (by rw [hf] at hx; exact hx)
          have hd' : (zL s m).Done = false := by rw [hf]; exact hd
          generalize zL s m = t at G' I' Z' hd'
          have hN := G'.E.H.n
          have hN9 : (t.H.Objs.length : Int) ≤ 9 := by omega
          dsimp only
          rw [zoZ, Option.bind_some, zvE G'.E.small, Option.bind_some]
          dsimp only
          rw [zoX (by omega) G'.E.small.obj, Option.bind_some, zjE, Option.bind_some]
          have hu : zoL p &&& ~~~(t.T.Marks ||| zmY t.H ((t.T.Marks &&& ~~~t.T.Black) ||| zp6 t)) = 0#64 := (zw8 _ _).2 (fun o ho => by
            have hr := (zx0 h o).1 ho
            have h0 : o ≠ 0 := by have := hr.in; omega
            rw [wb]
            rcases I'.lv o hr with h1 | h1
            · exact .inl h1
            · exact .inr ((zry (by omega) G'.E.small.obj _ o).2 (zvL G' hN9 Z' h1 h0)))
          dsimp only
          rw [hu, yf (a := (i : Int) + 1) (by omega) (by omega)]
          refine ⟨_, rfl, ⟨i + 1, t, gh', W', by omega, rfl, G', I', Z', hd'⟩, ?_⟩
          show 250 - ((i : Int) + 1).toNat < 250 - (i : Int).toNat
          omega
        · rw [if_neg c3]; exact ⟨_, rfl, rfl⟩
      · rw [if_neg c2]; exact ⟨_, rfl, rfl⟩
    · rw [if_neg c1]; exact ⟨_, rfl, rfl⟩) (ord, true, zoL p, 0, yR p, ()) ⟨0, yR p, gh0 p, _, by omega, rfl, zzG h, zzP h, hws, rfl⟩ (by show 250 - 0 < 18446744073709551616; decide)
  refine (congrArg (fun o => Option.bind o _) e).trans rfl
end B16
end
end Go.Pe.G
