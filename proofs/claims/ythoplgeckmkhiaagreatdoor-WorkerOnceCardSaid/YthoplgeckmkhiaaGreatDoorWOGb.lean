/- Own work of this seat: G2i, GH, G3. -/
import Derived.Test.YthoplgeckmkhiaaGreatDoorWOGa
set_option linter.unusedVariables false
set_option linter.unusedSectionVars false
set_option linter.unusedSimpArgs false
set_option linter.unnecessarySimpa false
set_option linter.deprecated false
set_option maxRecDepth 100000
namespace Go.Pe.G
open Go.Pe
theorem zwu : Go.Proofs.Tryz.prog.funcs[61]? = some Go.Proofs.Tryz.f61 := by kernel_rfl
theorem zvQ : Go.Proofs.Tryz.f61.body.isSome = true := by kernel_rfl
theorem zvG : Zr Go.Proofs.Tryz.prog 61 = true := by kernel_rfl
theorem zwk : Go.Proofs.Tryz.prog.funcs[101]? = some Go.Proofs.Tryz.f101 := by kernel_rfl
theorem zu5 : Go.Proofs.Tryz.f101.body.isSome = true := by kernel_rfl
theorem zuR : Zr Go.Proofs.Tryz.prog 101 = true := by kernel_rfl
theorem zja (ys : List Int) (s1 : Int) (s2 : Int) (s3 : BitVec 64) : WZ ys (s1, s2, s3, ()) =
 bif !(decide (s3 = 0#64)) then
  (qTZ s3).bind fun y1 =>
  (Ue ys s2 (w64 (y1.1 + 1))).bind fun _ =>
  some (.again (s1, s2 + 1, s3 &&& (s3 - 1#64), ()))
 else
  some (.brk (s1, s2, ())) := by kernel_rfl
theorem zlx (n : Int) (ys : List Int) (a1 : BitVec 64) : zls (VH ys) Go.Proofs.Tryz.f101 zgJ n ((a1, ()) : (BitVec 64) × Unit) =
 (zS (WZ ys) (n, 0, a1, ())).bind fun st => match st with
   | .again _ => none
   | .brk y1 =>
   some y1.2.1
   | .ret y1 =>
   some y1.2.1 := by kernel_rfl
theorem Yc (ys : List (List Int)) (s1 : Int) (s2 : Int) (s3 : Int) (s4 : List Int) (s5 : Int) : wO ys (s1, s2, s3, s4, s5, ()) =
 bif decide (s3 < ((s4.length : Int))) then
  (cut s4 s3 ((s4.length : Int))).bind fun l1 =>
  bif decide (s3 = 0) && decide ((w64 (s3 + (bif decide (((l1.length : Int)) < s5) then ((l1.length : Int)) else s5))) = 0) && decide ((w64 (s3 + (bif decide (((l1.length : Int)) < s5) then ((l1.length : Int)) else s5))) = 0) then
   (Ue ys s2 ([] : List Int)).bind fun _ =>
   some (.again (s1, s2 + 1, w64 (s3 + s5), s4, s5, ()))
  else
   bif decide (s3 = 0) && decide ((w64 (s3 + (bif decide (((l1.length : Int)) < s5) then ((l1.length : Int)) else s5))) = ((s4.length : Int))) && decide ((w64 (s3 + (bif decide (((l1.length : Int)) < s5) then ((l1.length : Int)) else s5))) = ((s4.length : Int))) then
    (Ue ys s2 s4).bind fun _ =>
    some (.again (s1, s2 + 1, w64 (s3 + s5), s4, s5, ()))
   else
    bif decide ((w64 (s3 + (bif decide (((l1.length : Int)) < s5) then ((l1.length : Int)) else s5))) = (w64 (s3 + (bif decide (((l1.length : Int)) < s5) then ((l1.length : Int)) else s5)))) then
     (cut s4 s3 (w64 (s3 + (bif decide (((l1.length : Int)) < s5) then ((l1.length : Int)) else s5)))).bind fun l2 =>
     (Ue ys s2 l2).bind fun _ =>
     some (.again (s1, s2 + 1, w64 (s3 + s5), s4, s5, ()))
    else
     none
 else
  some (.brk (s1, s2, ())) := by kernel_rfl
theorem zba (n : Int) (ys : List (List Int)) (a1 : List Int) (a2 : Int) : zls (wR ys) Go.Proofs.Tryz.f61 XA n ((a1, a2, ()) : (List Int) × Int × Unit) =
 (zS (wO ys) (n, 0, 0, a1, a2, ())).bind fun st => match st with
   | .again _ => none
   | .brk y1 =>
   some y1.2.1
   | .ret y1 =>
   some y1.2.1 := by kernel_rfl
end Go.Pe.G
namespace Go.Pe.G
open Go.Pe
theorem zji {A B D : Type} (g : A → Option (yW A B D)) {o : yW Unit B D} : ∀ (k m : Nat) (x : A), uZ g k x = some o → k ≤ m → uZ g m x = some o
  | 0, m, x, h, _ => by cases h
  | k + 1, 0, x, h, hm => by omega
  | k + 1, m + 1, x, h, hm => by
    simp only [uZ, Option.bind_eq_some_iff] at h ⊢
    obtain ⟨s, h1, h2⟩ := h
    refine ⟨s, h1, ?_⟩
    cases s with
    | again y => exact zji g k m y h2 (by omega)
    | brk b => exact h2
    | ret c => exact h2
theorem znW {α : Type} (pre post : List α) (z : α) : Ue (pre ++ z :: post) (pre.length : Int) z = some () := by
  unfold Ue
  rw [if_pos]
  refine ⟨by omega, ?_⟩
  simp
theorem zdb (n : Int) (ys : List Int) : ∀ (f : Nat) (s : BitVec 64) (l pre : List Int), zad f s = some l → ys = pre ++ l → uZ (WZ ys) f (n, (pre.length : Int), s, ()) = some (.brk (n, (ys.length : Int), ()))
  | 0, s, l, pre, h, _ => by cases h
  | f + 1, s, l, pre, h, e => by
    simp only [zad] at h
    simp only [uZ, zja]
    cases hz : decide (s = 0#64) with
    | true =>
      simp only [hz, cond_true, Option.some.injEq] at h
      subst h
      simp only [List.append_nil] at e
      subst e
      rfl
    | false =>
      simp only [hz, cond_false, Option.map_eq_some_iff] at h
      obtain ⟨l', h1, rfl⟩ := h
      have hn : Ue ys (pre.length : Int) (w64 (tz s + 1)) = some () := by rw [e]; exact znW pre l' _
      simp only [Bool.not_false, cond_true, zvy, Option.bind_some, hn]
      have := zdb n ys f (s &&& (s - 1#64)) l' (pre ++ [w64 (tz s + 1)]) h1 (by rw [e]; simp)
      simpa using this
theorem zkI (G : Nat → Prop) (W0 : World) (hG : zrQ G W0) : Zx Go.Proofs.Tryz.prog G W0 101 Vn := by
  obtain ⟨c, hc⟩ := Option.isSome_iff_exists.1 zu5
  refine zmg (Cg := VH []) rfl zp9 (fun f s hs => Oks.at (.cons _ _ _ _ zuN (zsI hG) (.skip _ _ .nil)) f s hs) rfl zr8 (fun g it h => by cases h) zuR zwk hc Vn (Nat.le_of_ble_eq_true (by kernel_rfl)) rfl ?_
  rintro n ⟨a, ⟨⟩⟩ ys h
  have h : zad 66 a = some ys := h
  have e := zlx n ys a
  have k := zji _ 66 XE _ (zdb n ys 66 a ys [] h rfl) (by decide)
  refine Eq.trans e ?_
  have k' : uZ (WZ ys) XE (n, 0, a, ()) = some (.brk (n, (ys.length : Int), ())) := k
  rw [UL, k']
  rfl
theorem zsP {a : Int} (h : -9223372036854775808 ≤ a) (h2 : a < 9223372036854775808) : w64 a = a := by
  rw [zgO]
  omega
theorem zah (n : Int) (ys : List (List Int)) (l : List Int) (sz : Nat) (h1 : 1 ≤ sz) (h2 : sz < 1000000) (h3 : l.length < 1000000) : ∀ (f p : Nat) (pre : List (List Int)), (l.drop p).length ≤ f → ys = pre ++ vo sz f (l.drop p) → p < 2000000 →
    uZ (wO ys) (f + 1) (n, (pre.length : Int), (p : Int), l, (sz : Int), ()) = some (.brk (n, (ys.length : Int), ())) := by
  intro f
  induction f with
  | zero =>
    intro p pre hf e hp
    simp only [uZ, Yc]
    simp only [List.length_drop] at hf
    have : ¬ (p : Int) < (l.length : Int) := by omega
    simp only [this, decide_false, cond_false, Option.bind_some]
    simp only [vo, List.append_nil] at e
    rw [e]
  | succ f ih =>
    intro p pre hf e hp
    rw [uZ, Yc]
    by_cases hlt : p < l.length
    · have hlt' : (p : Int) < (l.length : Int) := by omega
      have hcut : cut l (p : Int) (l.length : Int) = some (l.drop p) := by
        unfold cut
        have : (decide (0 ≤ (p : Int)) && decide ((p : Int) ≤ (l.length : Int)) && decide ((l.length : Int) ≤ (l.length : Int))) = true := by simp; omega
        simp only [this, cond_true]
        simp
      obtain ⟨x, r, hxr⟩ : ∃ x r, l.drop p = x :: r := by
        cases hd : l.drop p with
        | nil => have := congrArg List.length hd; simp at this; omega
        | cons x r => exact ⟨x, r, rfl⟩
      have hch : vo sz (f + 1) (l.drop p) = (l.drop p).take sz :: vo sz f (l.drop (p + sz)) := by
        rw [hxr]; simp only [vo]; rw [← hxr, List.drop_drop]
      have hm : ∃ m : Nat, (bif decide (((l.drop p).length : Int) < (sz : Int)) then (((l.drop p).length : Int)) else (sz : Int)) = (m : Int) ∧ m = min sz (l.length - p) := by
        simp only [List.length_drop]
        by_cases hs : ((l.length - p : Nat) : Int) < (sz : Int)
        · exact ⟨l.length - p, by simp only [hs, decide_true, cond_true], by omega⟩
        · exact ⟨sz, by simp only [hs, decide_false, cond_false], by omega⟩
      obtain ⟨m, hm1, hm2⟩ := hm
      have hw : w64 ((p : Int) + (m : Int)) = ((p + m : Nat) : Int) := by rw [zsP (by omega) (by omega)]; omega
      have hw2 : w64 ((p : Int) + (sz : Int)) = ((p + sz : Nat) : Int) := by rw [zsP (by omega) (by omega)]; omega
      have hne : ¬ ((p + m : Nat) : Int) = 0 := by omega
      simp only [hlt', decide_true, cond_true, hcut, Option.bind_some, hm1, hw, hw2, hne, decide_false, Bool.and_false, cond_false]
      have hn : Ue ys (pre.length : Int) ((l.drop p).take sz) = some () := by rw [e, hch]; exact znW pre _ _
      have hcut2 : cut l (p : Int) ((p + m : Nat) : Int) = some ((l.drop p).take sz) := by
        unfold cut
        have : (decide (0 ≤ (p : Int)) && decide ((p : Int) ≤ ((p + m : Nat) : Int)) && decide (((p + m : Nat) : Int) ≤ (l.length : Int))) = true := by simp; omega
        simp only [this, cond_true]
        refine congrArg some ?_
        simp only [Int.toNat_natCast]
        rw [List.drop_take, Nat.add_sub_cancel_left, hm2]
        by_cases hs : sz ≤ l.length - p
        · rw [Nat.min_eq_left hs]
        · rw [Nat.min_eq_right (by omega), List.take_of_length_le (l := l.drop p) (by simp), List.take_of_length_le (l := l.drop p) (by simp; omega)]
      have hnext := ih (p + sz) (pre ++ [(l.drop p).take sz]) (by simp only [List.length_drop] at hf ⊢; omega) (by rw [e, hch]; simp) (by omega)
      have hlen : ((pre ++ [(l.drop p).take sz]).length : Int) = (pre.length : Int) + 1 := by simp
      rw [hlen] at hnext
      cases hfull : (decide ((p : Int) = 0) && decide (((p + m : Nat) : Int) = (l.length : Int)) && decide (((p + m : Nat) : Int) = (l.length : Int))) with
      | true =>
        simp only [cond_true]
        have hl : l = (l.drop p).take sz := ?_
        · rw [← hl] at hn
          rw [hn]
          exact hnext
        simp only [Bool.and_eq_true, decide_eq_true_eq] at hfull
        obtain ⟨⟨hp0, hpl⟩, _⟩ := hfull
        have hp00 : p = 0 := by omega
        rw [hp00, List.drop_zero, List.take_of_length_le (by omega)]
      | false =>
        simp only [cond_false, hcut2, Option.bind_some, decide_true, cond_true]
        rw [hn]
        exact hnext
    · have hnl : ¬ (p : Int) < (l.length : Int) := by omega
      have hd : l.drop p = [] := List.drop_eq_nil_of_le (by omega)
      simp only [hnl, decide_false, cond_false, Option.bind_some]
      rw [hd] at e
      simp only [vo, List.append_nil] at e
      rw [e]
theorem zaS (n : Int) (ys : List (List Int)) (l : List Int) (sz : Int) (h : zd9 l sz = some ys) : uZ (wO ys) XE (n, 0, 0, l, sz, ()) = some (.brk (n, (ys.length : Int), ())) := by
  unfold zd9 at h
  cases hc : (decide (1 ≤ sz) && decide (sz < 1000000) && decide ((l.length : Int) < 1000000)) with
  | false => simp [hc] at h
  | true =>
    simp only [hc, cond_true] at h
    injection h with h
    simp only [Bool.and_eq_true, decide_eq_true_eq] at hc
    obtain ⟨⟨c1, c2⟩, c3⟩ := hc
    have k := zji _ (l.length + 1) XE _ (zah n ys l sz.toNat (by omega) (by omega) (by omega) l.length 0 [] (by simp) (by simpa using h.symm) (by omega)) (by unfold XE; omega)
    have hs : ((sz.toNat : Nat) : Int) = sz := by omega
    rw [hs] at k
    exact k
theorem zas (G : Nat → Prop) (W0 : World) (hG : zrQ G W0) : Zx Go.Proofs.Tryz.prog G W0 61 we := by
  obtain ⟨c, hc⟩ := Option.isSome_iff_exists.1 zvQ
  refine zmg (Cg := wR []) rfl zp9 (fun f s hs => Oks.at .nil f s hs) rfl zr8 (fun g it h => by cases h) zvG zwu hc we (Nat.le_of_ble_eq_true (by kernel_rfl)) rfl (fun n x ys h => ?_)
  refine Eq.trans (zba n ys x.1 x.2.1) ?_
  rw [UL, zaS n ys x.1 x.2.1 h]
  rfl
end Go.Pe.G
namespace Go.Pe.G
open Go.Pe
theorem k2 {G : Nat → Prop} {W0 : World} {f : Nat} {s : zq E} {ss r} (hs : XY Go.Proofs.Tryz.prog G W0 f s) (h : Oks Go.Proofs.Tryz.prog G W0 ((f, ss) :: r)) (hc : Zr Go.Proofs.Tryz.prog f = true := by kernel_rfl) : Oks Go.Proofs.Tryz.prog G W0 ((f, s :: ss) :: r) := .cons _ _ _ _ hc hs h
theorem k1 {G : Nat → Prop} {W0 : World} {f : Nat} {s : zq E} {r} (hs : XY Go.Proofs.Tryz.prog G W0 f s) (h : Oks Go.Proofs.Tryz.prog G W0 r) (hc : Zr Go.Proofs.Tryz.prog f = true := by kernel_rfl) : Oks Go.Proofs.Tryz.prog G W0 ((f, [s]) :: r) := .cons _ _ _ _ hc hs (.skip _ _ h)
abbrev Sd (G : Nat → Prop) (W0 : World) := XY (E := E) Go.Proofs.Tryz.prog G W0
theorem gs {G : Nat → Prop} {W0 : World} {l : List (Nat × List (zq E))} {loops mv kept pk its} {f : FuncId} {fn : Func} {inn out : xf} {gi go : List Grp} {hi : vQ E gi = inn.holes} {ho : vQ E go = out.holes} (h : Oks Go.Proofs.Tryz.prog G W0 l) (h2 : Its Go.Proofs.Tryz.prog G W0 its) (hf : Go.Proofs.Tryz.prog.funcs[f]? = some fn := by kernel_rfl) (hb : fn.body.isSome = true := by kernel_rfl)
    (hk : (cf l loops mv kept pk its).kept = zdq inn.blks 0 := by kernel_rfl) (hn : Nat.ble inn.vals.length fn.ntmps = true := by kernel_rfl) : XY Go.Proofs.Tryz.prog G W0 f (sp (cf l loops mv kept pk its) fn inn out gi go hi ho) := zsO (C := cf l loops mv kept pk its) zp9 (zrr h) rfl (ztH h2) zr8 hf hb hk hn
variable {G : Nat → Prop} {W0 : World} (hG : zrQ G W0)
include hG
theorem Za : Sd G W0 9 ZY := gs .nil .nil
theorem Yi : Sd G W0 30 YE := gs (k1 (Za hG) .nil) .nil
theorem u9 : Sd G W0 10 Z0 := gs (k1 (Yi hG) .nil) .nil
theorem WU : Sd G W0 53 Wr := gs .nil .nil
theorem zfn : Sd G W0 51 V0 := gs (k1 (WU hG) .nil) .nil
theorem zgv : Sd G W0 92 UI := gs .nil .nil
theorem Uw : Sd G W0 94 Zc := gs (k1 (zgv hG) .nil) .nil
theorem Vi : Sd G W0 56 uj := gs (k1 (Uw hG) .nil) .nil
theorem zhM : Sd G W0 91 zbs := gs (k1 (Vi hG) .nil) .nil
theorem VD : Sd G W0 128 uB := gs (k1 (zhM hG) .nil) .nil
theorem WH : Sd G W0 93 vz := gs (k1 (VD hG) .nil) .nil
theorem ziH : Sd G W0 52 zen := gs (k1 (WH hG) .nil) .nil
theorem zj5 : Sd G W0 54 zgj := gs .nil .nil
theorem zjT : Sd G W0 55 zf9 := gs .nil .nil
theorem zhB : Sd G W0 57 zbt := gs (k1 (WU hG) .nil) .nil
theorem Vs : Sd G W0 94 ud := gs (k1 (zhB hG) .nil) .nil
theorem Wl : Sd G W0 56 vq := gs (k1 (Vs hG) .nil) .nil
theorem zhl : Sd G W0 130 zbO := gs .nil .nil
theorem zi2 : Sd G W0 97 zeV := gs (k1 (zhl hG) .nil) .nil
theorem zih : Sd G W0 96 zcH := gs (k1 (zi2 hG) .nil) .nil
theorem XK : Sd G W0 129 wX := gs (k1 (zih hG) .nil) .nil
theorem Y5 : Sd G W0 95 wy := gs (k1 (XK hG) .nil) .nil
theorem zj7 : Sd G W0 58 zf5 := gs (k1 (Y5 hG) .nil) .nil
theorem zjt : Sd G W0 100 zei := gs .nil .nil
theorem zh0 : Sd G W0 99 zbn := gs (k1 (zjt hG) .nil) .nil
theorem YO : Sd G W0 131 wh := gs (k1 (zh0 hG) .nil) .nil
theorem Yd : Sd G W0 98 xN := gs (k1 (YO hG) .nil) .nil
theorem zjf : Sd G W0 59 zeg := gs (k1 (Yd hG) .nil) .nil
theorem zjc : Sd G W0 17 zeN := gs (k1 (zfn hG) (k1 (ziH hG) (k1 (WU hG) (k1 (zj5 hG) (k1 (zjT hG) (k1 (Wl hG) (k1 (zj7 hG) (k1 (zjf hG) .nil)))))))) .nil
theorem zfP : Sd G W0 65 zfz := gs .nil .nil
theorem W8 : Sd G W0 32 U7 := gs (k1 (zfP hG) .nil) .nil
theorem zgB : Sd G W0 40 zhu := gs (k1 (W8 hG) .nil) .nil
theorem ziO : Sd G W0 18 zeT := gs (k1 (zgB hG) .nil) .nil
theorem zeB : Sd G W0 60 Vr := gs .nil .nil
theorem zdf : Sd G W0 19 zca := gs (k1 (zeB hG) .nil) .nil
theorem zje : Sd G W0 20 zd8 := gs .nil .nil
theorem Xj : Sd G W0 22 uE := gs .nil .nil
theorem zfe : Sd G W0 21 VV := gs (k1 (Xj hG) .nil) .nil
theorem zil : Sd G W0 23 zc7 := gs .nil .nil
theorem WK : Sd G W0 24 Wu := gs .nil .nil
theorem Yk : Sd G W0 25 YH := gs .nil .nil
theorem zj4 : Sd G W0 26 zgu := gs .nil .nil
theorem za3 : Sd G W0 27 Yw := gs .nil .nil
theorem zkq : Sd G W0 62 zg5 := gs .nil .nil
theorem zlT : Zx Go.Proofs.Tryz.prog G W0 101 Vn := zkI G W0 hG
theorem zkp : Sd G W0 28 zg8 := gs (k1 (zkq hG) .nil) (.cons _ _ _ (zlT hG) (.nil))
theorem zkM : Sd G W0 123 zhQ := gs .nil .nil
theorem zkY : Sd G W0 124 zg9 := gs .nil .nil
theorem zk8 : Sd G W0 125 zhg := gs .nil .nil
theorem zkB : Sd G W0 126 zhn := gs .nil .nil
theorem VN : Sd G W0 127 uC := gs .nil .nil
theorem ZX : Sd G W0 76 Vq := gs (k1 (zkM hG) (k1 (zkY hG) (k1 (zk8 hG) (k1 (zkB hG) (k1 (VN hG) .nil))))) .nil
theorem zbc : Sd G W0 63 UC := gs (k1 (ZX hG) .nil) .nil
theorem zck : Sd G W0 64 zaO := gs .nil .nil
theorem zj6 : Sd G W0 29 zf4 := gs (k1 (zbc hG) (k1 (zck hG) .nil)) .nil
theorem za7 : Zx Go.Proofs.Tryz.prog G W0 61 we := zas G W0 hG
theorem zdc : Sd G W0 5 zcd := gs (k1 (Za hG) (k1 (u9 hG) (k1 (zjc hG) (k1 (ziO hG) (k1 (zdf hG) (k1 (zje hG) (k1 (zfe hG) (k1 (Xj hG) (k1 (zil hG) (k1 (WK hG) (k1 (Yk hG) (k1 (zj4 hG) (k1 (za3 hG) (k1 (zkp hG) (k1 (zj6 hG) (k1 (Yi hG) .nil)))))))))))))))) (.cons _ _ _ (za7 hG) (.nil))
theorem u5 : Sd G W0 36 Z8 := gs .nil .nil
theorem Vh : Sd G W0 37 Vu := gs (k1 (ZX hG) .nil) .nil
theorem zby : Sd G W0 132 Y7 := gs (k1 (u5 hG) (k1 (Vh hG) .nil)) .nil
theorem zcJ : Sd G W0 133 XX := gs (k1 (u5 hG) (k1 (zbc hG) .nil)) .nil
theorem za8 : Sd G W0 134 Yr := gs (k1 (u5 hG) (k1 (zck hG) (k1 (ZX hG) .nil))) .nil
theorem zaj : Sd G W0 135 ZH := gs (k1 (u5 hG) (k1 (Vh hG) .nil)) .nil
theorem Vw : Sd G W0 103 Vv := gs (k1 (zby hG) (k1 (zcJ hG) (k1 (za8 hG) (k1 (zaj hG) .nil)))) .nil
theorem zcI : Sd G W0 66 Wb := gs (k1 (Vw hG) .nil) .nil
theorem Wn : Sd G W0 73 ZJ := gs .nil .nil
theorem zhA : Sd G W0 136 zbo := gs .nil .nil
theorem zhC : Sd G W0 136 zbR := gs .nil .nil
theorem zhv : Sd G W0 136 zbm := gs .nil .nil
theorem zh7 : Sd G W0 136 zbw := gs .nil .nil
theorem xW : Sd G W0 77 vk := gs (k1 (ZX hG) .nil) .nil
theorem yR : Sd G W0 79 yT := gs .nil .nil
theorem Ub : Sd G W0 142 uQ := gs (k1 (xW hG) (k1 (yR hG) .nil)) .nil
theorem wC : Sd G W0 78 wx := gs .nil .nil
theorem Zq : Sd G W0 81 ue := gs .nil .nil
theorem xl : Sd G W0 156 xi := gs .nil .nil
theorem za5 : Sd G W0 143 YC := gs (k1 (xW hG) (k1 (wC hG) (k1 (Zq hG) (k1 (xl hG) .nil)))) .nil
theorem ve : Sd G W0 82 wJ := gs (k1 (Zq hG) .nil) .nil
theorem uJ : Sd G W0 157 Zt := gs (k1 (ZX hG) .nil) .nil
theorem zdH : Sd G W0 144 WT := gs (k1 (ve hG) (k1 (uJ hG) .nil)) .nil
theorem UH : Sd G W0 145 Zm := gs (k1 (yR hG) (k1 (xl hG) (k1 (uJ hG) .nil))) .nil
theorem zcl : Sd G W0 146 XF := gs (k1 (yR hG) (k1 (uJ hG) .nil)) .nil
theorem WQ : Sd G W0 80 Wm := gs .nil .nil
theorem zai : Sd G W0 147 ZC := gs (k1 (xW hG) (k1 (wC hG) (k1 (WQ hG) .nil))) .nil
theorem zbi : Sd G W0 148 Y2 := gs (k1 (xW hG) (k1 (ve hG) (k1 (xl hG) .nil))) .nil
theorem Ww : Sd G W0 158 Zz := gs (k1 (ZX hG) (k1 (wC hG) .nil)) .nil
theorem za0 : Sd G W0 149 YB := gs (k1 (Ww hG) .nil) .nil
theorem zbb : Sd G W0 150 Yq := gs (k1 (yR hG) (k1 (xl hG) (k1 (uJ hG) .nil))) .nil
theorem zbh : Sd G W0 151 YZ := gs (k1 (yR hG) (k1 (xl hG) (k1 (uJ hG) .nil))) .nil
theorem zbd : Sd G W0 152 Xc := gs (k1 (xW hG) (k1 (wC hG) .nil)) .nil
theorem zbg : Sd G W0 153 YY := gs (k1 (xW hG) (k1 (yR hG) (k1 (WQ hG) .nil))) .nil
theorem za9 : Sd G W0 154 Yu := gs (k1 (xW hG) (k1 (ve hG) .nil)) .nil
theorem zag : Sd G W0 155 ZG := gs (k1 (xl hG) (k1 (Ww hG) .nil)) .nil
theorem zcG : Sd G W0 104 zaD := gs (k2 (zhA hG) (k2 (zhC hG) (k2 (zhv hG) (k2 (zh7 hG) (.skip _ _ (k1 (Ub hG) (k1 (za5 hG) (k1 (zdH hG) (k1 (UH hG) (k1 (zcl hG) (k1 (zai hG) (k1 (zbi hG) (k1 (za0 hG) (k1 (zbb hG) (k1 (zbh hG) (k1 (zbd hG) (k1 (zbg hG) (k1 (za9 hG) (k1 (zag hG) .nil))))))))))))))))))) .nil
theorem zab : Sd G W0 106 W1 := gs (k1 (WK hG) (k1 (Yk hG) .nil)) .nil
theorem WW : Sd G W0 137 Wv := gs .nil .nil
theorem VP : Sd G W0 108 Xo := gs (k1 (u9 hG) (k1 (WW hG) .nil)) .nil
theorem zc8 : Sd G W0 105 Wa := gs (k1 (Za hG) (k1 (zab hG) (k1 (VP hG) .nil))) .nil
theorem zdC : Sd G W0 67 WF := gs (k1 (Wn hG) (k1 (zcG hG) (k1 (zc8 hG) .nil))) .nil
theorem zcD : Sd G W0 68 XC := gs (k1 (zab hG) .nil) .nil
theorem Yo : Sd G W0 107 vS := gs .nil .nil
theorem zcK : Sd G W0 69 We := gs (k1 (Yi hG) (k1 (Yo hG) (k1 (VP hG) .nil))) .nil
theorem U3 : Sd G W0 72 W9 := gs .nil .nil
theorem zfk : Sd G W0 138 VY := gs .nil .nil
theorem zk6 : Sd G W0 109 zhF := gs (k1 (zfk hG) .nil) .nil
theorem zjr : Sd G W0 110 zd2 := gs .nil .nil
theorem zc0 : Sd G W0 70 X9 := gs (k1 (U3 hG) (k1 (zk6 hG) (k1 (zjr hG) .nil))) .nil
theorem zaf : Sd G W0 111 ZM := gs .nil .nil
theorem zfF : Sd G W0 141 zfH := gs (k1 (zfP hG) .nil) .nil
theorem zjb : Sd G W0 139 zea := gs (k1 (W8 hG) (k1 (zfF hG) .nil)) .nil
theorem vd : Sd G W0 140 wG := gs (k1 (u9 hG) (k1 (Yi hG) (k1 (WW hG) .nil))) .nil
theorem zbG : Sd G W0 112 Xf := gs (k1 (WK hG) (k1 (Yk hG) (k1 (zjb hG) (k1 (vd hG) .nil)))) .nil
theorem zbr : Sd G W0 113 Y4 := gs .nil .nil
theorem zbj : Sd G W0 114 Xg := gs (k1 (zcG hG) (k1 (vd hG) .nil)) .nil
theorem zbF : Sd G W0 115 Y8 := gs (k1 (vd hG) .nil) .nil
theorem zbz : Sd G W0 116 Xe := gs (k1 (Vw hG) (k1 (vd hG) .nil)) .nil
theorem zbq : Sd G W0 117 Xb := gs (k1 (Za hG) (k1 (u9 hG) (k1 (Yo hG) (k1 (WW hG) .nil)))) .nil
theorem zal : Sd G W0 118 ZK := gs (k1 (Vw hG) .nil) .nil
theorem zjW : Sd G W0 71 zge := gs (k1 (zaf hG) (k1 (zbG hG) (k1 (zbr hG) (k1 (zbj hG) (k1 (zbF hG) (k1 (zbz hG) (k1 (zbq hG) (k1 (zal hG) .nil)))))))) .nil
theorem zlP : Sd G W0 119 ziB := gs (k1 (zfF hG) .nil) .nil
theorem zjN : Sd G W0 74 zgl := gs (k1 (W8 hG) (k1 (zlP hG) .nil)) .nil
theorem zcw : Sd G W0 120 Xs := gs .nil .nil
theorem zgI : Sd G W0 122 zaQ := gs .nil .nil
theorem zbJ : Sd G W0 121 Xa := gs (k1 (zgI hG) .nil) .nil
theorem zik : Sd G W0 75 zcR := gs (k1 (zcw hG) (k1 (zbJ hG) .nil)) .nil
theorem zc5 : Sd G W0 34 XW := gs (k1 (zcI hG) (k1 (zdC hG) (k1 (zcD hG) (k1 (zcK hG) (k1 (zc0 hG) (k1 (zjW hG) (k1 (U3 hG) (k1 (Wn hG) (k1 (zjN hG) (k1 (zik hG) .nil)))))))))) .nil
theorem Yn : Sd G W0 35 xS := gs .nil .nil
theorem WJ : Sd G W0 7 Wo := gs (k1 (zc5 hG) (k1 (Yn hG) .nil)) .nil
theorem zd0 : Sd G W0 14 Vg := gs .nil .nil
theorem zez : Sd G W0 15 Vp := gs (k1 (WJ hG) .nil) .nil
theorem wN : Sd G W0 45 xX := gs .nil .nil
theorem xA : Sd G W0 44 yC := gs (k1 (wN hG) .nil) .nil
theorem zc9 : Sd G W0 42 zcg := gs (k1 (xA hG) .nil) .nil
theorem zdh : Sd G W0 84 WO := gs .nil .nil
theorem Vb : Sd G W0 86 vX := gs .nil .nil
theorem v9 : Sd G W0 85 yP := gs (k1 (Vb hG) .nil) .nil
theorem XL : Sd G W0 87 wT := gs .nil .nil
theorem zj2 : Sd G W0 41 zgn := gs (k1 (zc9 hG) (k1 (xA hG) (k1 (zdh hG) (k1 (v9 hG) (k1 (XL hG) .nil))))) .nil
theorem VC : Sd G W0 88 uy := gs .nil .nil
theorem zkO : Sd G W0 43 zh5 := gs (k1 (VC hG) .nil) .nil
theorem Ul : Sd G W0 89 u0 := gs .nil .nil
theorem zif : Sd G W0 46 zcL := gs (k1 (Ul hG) .nil) .nil
theorem zdD : Sd G W0 48 WL := gs (k1 (wN hG) .nil) .nil
theorem wm : Sd G W0 47 yn := gs (k1 (zdD hG) .nil) .nil
theorem zbB : Sd G W0 90 Xd := gs .nil .nil
theorem zcZ : Sd G W0 50 Wc := gs (k1 (wN hG) (k1 (zbB hG) .nil)) .nil
theorem xR : Sd G W0 49 yg := gs (k1 (zcZ hG) .nil) .nil
theorem ziY : Sd G W0 16 zeq := gs (k1 (zj2 hG) (k1 (zc9 hG) (k1 (zkO hG) (k1 (xA hG) (k1 (wN hG) (k1 (zif hG) (k1 (wm hG) (k1 (xR hG) .nil)))))))) .nil
theorem zcj : Sd G W0 4 XH := gs (k1 (zdc hG) (k1 (WJ hG) (k1 (zd0 hG) (k1 (zez hG) (k1 (ziY hG) .nil))))) .nil
theorem Z2 : Sd G W0 31 vr := gs .nil .nil
theorem zaA : Sd G W0 33 Z4 := gs (k1 (Z2 hG) .nil) .nil
theorem ze6 : Sd G W0 6 V4 := gs (k1 (Z2 hG) (k1 (W8 hG) (k1 (zaA hG) .nil))) .nil
theorem zjd : Sd G W0 8 zeh := gs (k1 (u5 hG) (k1 (Vh hG) .nil)) .nil
theorem zin : Sd G W0 38 zcN := gs (k1 (xW hG) (k1 (wC hG) (k1 (yR hG) (k1 (WQ hG) (k1 (Zq hG) (k1 (ve hG) .nil)))))) .nil
theorem zl3 : Sd G W0 83 ziy := gs .nil .nil
theorem zi5 : Sd G W0 39 zep := gs (k1 (zl3 hG) .nil) .nil
theorem ze5 : Sd G W0 11 V9 := gs (k1 (Yk hG) (k1 (zin hG) (k1 (zi5 hG) .nil))) .nil
theorem zk1 : Sd G W0 12 zg6 := gs (k1 (zdf hG) (k1 (zgB hG) .nil)) .nil
theorem ziX : Sd G W0 13 zet := gs .nil .nil
theorem za4 : Sd G W0 3 Yy := gs (k1 (zcj hG) (k1 (zdc hG) (k1 (ze6 hG) (k1 (WJ hG) (k1 (zjd hG) (k1 (Za hG) (k1 (u9 hG) (k1 (ze5 hG) (k1 (zk1 hG) (k1 (ziX hG) .nil)))))))))) .nil
end Go.Pe.G
