/- Own work of this seat: GH, G3. -/
import Derived.Test.YtenpfjfpekljpaaGreatDoorWKGa
set_option linter.unusedVariables false
set_option linter.unusedSectionVars false
set_option linter.unusedSimpArgs false
set_option linter.unnecessarySimpa false
set_option linter.deprecated false
set_option maxRecDepth 100000
namespace Go.Pe.G
open Go.Pe
theorem zji {A B D : Type} (g : A → Option (yY A B D)) {o : yY Unit B D} : ∀ (k m : Nat) (x : A), xr g k x = some o → k ≤ m → xr g m x = some o
  | 0, m, x, h, _ => by cases h
  | k + 1, 0, x, h, hm => by omega
  | k + 1, m + 1, x, h, hm => by
    simp only [xr, Option.bind_eq_some_iff] at h ⊢
    obtain ⟨s, h1, h2⟩ := h
    refine ⟨s, h1, ?_⟩
    cases s with
    | again y => exact zji g k m y h2 (by omega)
    | brk b => exact h2
    | ret c => exact h2
theorem zoV {α : Type} (pre post : List α) (z : α) : U5 (pre ++ z :: post) (pre.length : Int) z = some () := by
  unfold U5
  rw [if_pos]
  refine ⟨by omega, ?_⟩
  simp
theorem zdV (n : Int) (ys : List Int) : ∀ (f : Nat) (s : BitVec 64) (l pre : List Int), WA f s = some l → ys = pre ++ l → xr (VL ys) f (n, (pre.length : Int), s, ()) = some (.brk (n, (ys.length : Int), ()))
  | 0, s, l, pre, h, _ => by cases h
  | f + 1, s, l, pre, h, e => by
    simp only [WA] at h
    simp only [xr, zjn]
    cases hz : decide (s = 0#64) with
    | true =>
      simp only [hz, cond_true, Option.some.injEq] at h
      subst h
      simp only [List.append_nil] at e
      subst e
      rfl
    | false =>
      simp only [hz, cond_false, Option.map_eq_some_iff] at h
      obtain ⟨l', h1, rfl⟩ := h
      have hn : U5 ys (pre.length : Int) (w64 (tz s + 1)) = some () := by rw [e]; exact zoV pre l' _
      simp only [Bool.not_false, cond_true, zwX, Option.bind_some, hn]
      have := zdV n ys f (s &&& (s - 1#64)) l' (pre ++ [w64 (tz s + 1)]) h1 (by rw [e]; simp)
      simpa using this
theorem zk6 (G : Nat → Prop) (W0 : World) (hG : zso G W0) : Yb Go.Proofs.Tryz.prog G W0 111 V9 := by
  obtain ⟨c, hc⟩ := Option.isSome_iff_exists.1 zwj
  refine zl2 (Cg := Um []) rfl zp2 (fun f s hs => Oks.at (.cons _ _ _ _ zwq (ztK hG) (.skip _ _ .nil)) f s hs) rfl zsU (fun g it h => by cases h) zv1 zxi hc V9 (Nat.le_of_ble_eq_true (by kernel_rfl)) rfl ?_
  rintro n ⟨a, ⟨⟩⟩ ys h
  have h : WA 66 a = some ys := h
  have e := zlZ n ys a
  have k := zji _ 66 uX _ (zdV n ys 66 a ys [] h rfl) (by decide)
  refine Eq.trans e ?_
  have k' : xr (VL ys) uX (n, 0, a, ()) = some (.brk (n, (ys.length : Int), ())) := k
  rw [XU, k']
  rfl
theorem zt9 {a : Int} (h : -9223372036854775808 ≤ a) (h2 : a < 9223372036854775808) : w64 a = a := by
  rw [zhm]
  omega
theorem zaN (n : Int) (ys : List (List Int)) (l : List Int) (sz : Nat) (h1 : 1 ≤ sz) (h2 : sz < 1000000) (h3 : l.length < 1000000) : ∀ (f p : Nat) (pre : List (List Int)), (l.drop p).length ≤ f → ys = pre ++ ui sz f (l.drop p) → p < 2000000 →
    xr (vv ys) (f + 1) (n, (pre.length : Int), (p : Int), l, (sz : Int), ()) = some (.brk (n, (ys.length : Int), ())) := by
  intro f
  induction f with
  | zero =>
    intro p pre hf e hp
    simp only [xr, YP]
    simp only [List.length_drop] at hf
    have : ¬ (p : Int) < (l.length : Int) := by omega
    simp only [this, decide_false, cond_false, Option.bind_some]
    simp only [ui, List.append_nil] at e
    rw [e]
  | succ f ih =>
    intro p pre hf e hp
    rw [xr, YP]
    by_cases hlt : p < l.length
    · have hlt' : (p : Int) < (l.length : Int) := by omega
      have hcut : cut l (p : Int) (l.length : Int) = some (l.drop p) := by
        unfold cut
        have : (decide (0 ≤ (p : Int)) && decide ((p : Int) ≤ (l.length : Int)) && decide ((l.length : Int) ≤ (l.length : Int))) = true := by simp; omega
        simp only [this, cond_true]
        simp
      obtain ⟨x, r, hxr⟩ : ∃ x r, l.drop p = x :: r := by
        cases hd : l.drop p with
        | nil => have := congrArg List.length hd; simp at this; omega
        | cons x r => exact ⟨x, r, rfl⟩
      have hch : ui sz (f + 1) (l.drop p) = (l.drop p).take sz :: ui sz f (l.drop (p + sz)) := by
        rw [hxr]; simp only [ui]; rw [← hxr, List.drop_drop]
      have hm : ∃ m : Nat, (bif decide (((l.drop p).length : Int) < (sz : Int)) then (((l.drop p).length : Int)) else (sz : Int)) = (m : Int) ∧ m = min sz (l.length - p) := by
        simp only [List.length_drop]
        by_cases hs : ((l.length - p : Nat) : Int) < (sz : Int)
        · exact ⟨l.length - p, by simp only [hs, decide_true, cond_true], by omega⟩
        · exact ⟨sz, by simp only [hs, decide_false, cond_false], by omega⟩
      obtain ⟨m, hm1, hm2⟩ := hm
      have hw : w64 ((p : Int) + (m : Int)) = ((p + m : Nat) : Int) := by rw [zt9 (by omega) (by omega)]; omega
      have hw2 : w64 ((p : Int) + (sz : Int)) = ((p + sz : Nat) : Int) := by rw [zt9 (by omega) (by omega)]; omega
      have hne : ¬ ((p + m : Nat) : Int) = 0 := by omega
      simp only [hlt', decide_true, cond_true, hcut, Option.bind_some, hm1, hw, hw2, hne, decide_false, Bool.and_false, cond_false]
      have hn : U5 ys (pre.length : Int) ((l.drop p).take sz) = some () := by rw [e, hch]; exact zoV pre _ _
      have hcut2 : cut l (p : Int) ((p + m : Nat) : Int) = some ((l.drop p).take sz) := by
        unfold cut
        have : (decide (0 ≤ (p : Int)) && decide ((p : Int) ≤ ((p + m : Nat) : Int)) && decide (((p + m : Nat) : Int) ≤ (l.length : Int))) = true := by simp; omega
        simp only [this, cond_true]
        refine congrArg some ?_
        simp only [Int.toNat_natCast]
        rw [List.drop_take, Nat.add_sub_cancel_left, hm2]
        by_cases hs : sz ≤ l.length - p
        · rw [Nat.min_eq_left hs]
        · rw [Nat.min_eq_right (by omega), List.take_of_length_le (l := l.drop p) (by simp), List.take_of_length_le (l := l.drop p) (by simp; omega)]
      have hnext := ih (p + sz) (pre ++ [(l.drop p).take sz]) (by simp only [List.length_drop] at hf ⊢; omega) (by rw [e, hch]; simp) (by omega)
      have hlen : ((pre ++ [(l.drop p).take sz]).length : Int) = (pre.length : Int) + 1 := by simp
      rw [hlen] at hnext
      cases hfull : (decide ((p : Int) = 0) && decide (((p + m : Nat) : Int) = (l.length : Int)) && decide (((p + m : Nat) : Int) = (l.length : Int))) with
      | true =>
        simp only [cond_true]
        have hl : l = (l.drop p).take sz := ?_
        · rw [← hl] at hn
          rw [hn]
          exact hnext
        simp only [Bool.and_eq_true, decide_eq_true_eq] at hfull
        obtain ⟨⟨hp0, hpl⟩, _⟩ := hfull
        have hp00 : p = 0 := by omega
        rw [hp00, List.drop_zero, List.take_of_length_le (by omega)]
      | false =>
        simp only [cond_false, hcut2, Option.bind_some, decide_true, cond_true]
        rw [hn]
        exact hnext
    · have hnl : ¬ (p : Int) < (l.length : Int) := by omega
      have hd : l.drop p = [] := List.drop_eq_nil_of_le (by omega)
      simp only [hnl, decide_false, cond_false, Option.bind_some]
      rw [hd] at e
      simp only [ui, List.append_nil] at e
      rw [e]
theorem zbh (n : Int) (ys : List (List Int)) (l : List Int) (sz : Int) (h : zeQ l sz = some ys) : xr (vv ys) uX (n, 0, 0, l, sz, ()) = some (.brk (n, (ys.length : Int), ())) := by
  unfold zeQ at h
  cases hc : (decide (1 ≤ sz) && decide (sz < 1000000) && decide ((l.length : Int) < 1000000)) with
  | false => simp [hc] at h
  | true =>
    simp only [hc, cond_true] at h
    injection h with h
    simp only [Bool.and_eq_true, decide_eq_true_eq] at hc
    obtain ⟨⟨c1, c2⟩, c3⟩ := hc
    have k := zji _ (l.length + 1) uX _ (zaN n ys l sz.toNat (by omega) (by omega) (by omega) l.length 0 [] (by simp) (by simpa using h.symm) (by omega)) (by unfold uX; omega)
    have hs : ((sz.toNat : Nat) : Int) = sz := by omega
    rw [hs] at k
    exact k
theorem zbn (G : Nat → Prop) (W0 : World) (hG : zso G W0) : Yb Go.Proofs.Tryz.prog G W0 74 wY := by
  obtain ⟨c, hc⟩ := Option.isSome_iff_exists.1 zwS
  refine zl2 (Cg := vN []) rfl zp2 (fun f s hs => Oks.at .nil f s hs) rfl zsU (fun g it h => by cases h) zwO zxY hc wY (Nat.le_of_ble_eq_true (by kernel_rfl)) rfl (fun n x ys h => ?_)
  refine Eq.trans (zbC n ys x.1 x.2.1) ?_
  rw [XU, zbh n ys x.1 x.2.1 h]
  rfl
end Go.Pe.G
namespace Go.Pe.G
open Go.Pe
theorem k2 {G : Nat → Prop} {W0 : World} {f : Nat} {s : zu E} {ss r} (hs : WJ Go.Proofs.Tryz.prog G W0 f s) (h : Oks Go.Proofs.Tryz.prog G W0 ((f, ss) :: r)) (hc : Z5 Go.Proofs.Tryz.prog f = true := by kernel_rfl) : Oks Go.Proofs.Tryz.prog G W0 ((f, s :: ss) :: r) := .cons _ _ _ _ hc hs h
theorem k1 {G : Nat → Prop} {W0 : World} {f : Nat} {s : zu E} {r} (hs : WJ Go.Proofs.Tryz.prog G W0 f s) (h : Oks Go.Proofs.Tryz.prog G W0 r) (hc : Z5 Go.Proofs.Tryz.prog f = true := by kernel_rfl) : Oks Go.Proofs.Tryz.prog G W0 ((f, [s]) :: r) := .cons _ _ _ _ hc hs (.skip _ _ h)
abbrev Sd (G : Nat → Prop) (W0 : World) := WJ (E := E) Go.Proofs.Tryz.prog G W0
theorem gs {G : Nat → Prop} {W0 : World} {l : List (Nat × List (zu E))} {loops mv kept pk its} {f : FuncId} {fn : Func} {inn out : xt} {gi go : List Grp} {hi : uG E gi = inn.holes} {ho : uG E go = out.holes} (h : Oks Go.Proofs.Tryz.prog G W0 l) (h2 : Its Go.Proofs.Tryz.prog G W0 its) (hf : Go.Proofs.Tryz.prog.funcs[f]? = some fn := by kernel_rfl) (hb : fn.body.isSome = true := by kernel_rfl)
    (hk : (cf l loops mv kept pk its).kept = zeo inn.blks 0 := by kernel_rfl) (hn : Nat.ble inn.vals.length fn.ntmps = true := by kernel_rfl) : WJ Go.Proofs.Tryz.prog G W0 f (sp (cf l loops mv kept pk its) fn inn out gi go hi ho) := ztv (C := cf l loops mv kept pk its) zp2 (zsC h) rfl (zvs h2) zsU hf hb hk hn
variable {G : Nat → Prop} {W0 : World} (hG : zso G W0)
include hG
theorem Vz : Sd G W0 13 Ve := gs .nil .nil
theorem XJ : Sd G W0 15 Wg := gs .nil .nil
theorem Xd : Sd G W0 36 Xz := gs (k1 (XJ hG) .nil) .nil
theorem XE : Sd G W0 16 Wk := gs (k1 (Xd hG) .nil) .nil
theorem zeR : Sd G W0 51 V6 := gs .nil .nil
theorem zdW : Sd G W0 18 zcH := gs (k1 (zeR hG) .nil) .nil
theorem zdR : Sd G W0 21 zcM := gs .nil .nil
theorem VA : Sd G W0 67 Vk := gs .nil .nil
theorem zfV : Sd G W0 65 UG := gs (k1 (VA hG) .nil) .nil
theorem zgT : Sd G W0 102 zao := gs .nil .nil
theorem Z9 : Sd G W0 104 wg := gs (k1 (zgT hG) .nil) .nil
theorem ZF : Sd G W0 69 xN := gs (k1 (Z9 hG) .nil) .nil
theorem ziF : Sd G W0 101 zbQ := gs (k1 (ZF hG) .nil) .nil
theorem Z8 : Sd G W0 137 wa := gs (k1 (ziF hG) .nil) .nil
theorem ZI : Sd G W0 103 xI := gs (k1 (Z8 hG) .nil) .nil
theorem zja : Sd G W0 66 ze7 := gs (k1 (ZI hG) .nil) .nil
theorem zdQ : Sd G W0 68 zcK := gs .nil .nil
theorem zhV : Sd G W0 70 zbU := gs (k1 (VA hG) .nil) .nil
theorem YI : Sd G W0 104 ww := gs (k1 (zhV hG) .nil) .nil
theorem ZX : Sd G W0 69 xS := gs (k1 (YI hG) .nil) .nil
theorem zh5 : Sd G W0 139 zcd := gs .nil .nil
theorem zjR : Sd G W0 107 zeT := gs (k1 (zh5 hG) .nil) .nil
theorem zi3 : Sd G W0 106 zds := gs (k1 (zjR hG) .nil) .nil
theorem Zs : Sd G W0 138 xw := gs (k1 (zi3 hG) .nil) .nil
theorem Zb : Sd G W0 105 xf := gs (k1 (Zs hG) .nil) .nil
theorem zkt : Sd G W0 71 zgC := gs (k1 (Zb hG) .nil) .nil
theorem zjo : Sd G W0 110 ze6 := gs .nil .nil
theorem zhZ : Sd G W0 109 zb4 := gs (k1 (zjo hG) .nil) .nil
theorem uQ : Sd G W0 140 yZ := gs (k1 (zhZ hG) .nil) .nil
theorem ut : Sd G W0 108 yV := gs (k1 (uQ hG) .nil) .nil
theorem zjI : Sd G W0 72 zeL := gs (k1 (ut hG) .nil) .nil
theorem zi5 : Sd G W0 25 ze4 := gs (k1 (zdR hG) (k1 (zfV hG) (k1 (zja hG) (k1 (VA hG) (k1 (zdQ hG) (k1 (ZX hG) (k1 (zkt hG) (k1 (zjI hG) .nil)))))))) .nil
theorem zgu : Sd G W0 78 zf8 := gs .nil .nil
theorem XI : Sd G W0 38 V4 := gs (k1 (zgu hG) .nil) .nil
theorem znF : Sd G W0 73 zln := gs (k1 (XI hG) .nil) .nil
theorem zdd : Sd G W0 26 zbg := gs (k1 (znF hG) .nil) .nil
theorem zjp : Sd G W0 27 zft := gs .nil .nil
theorem Wa : Sd G W0 29 Zk := gs .nil .nil
theorem YY : Sd G W0 28 wB := gs (k1 (Wa hG) .nil) .nil
theorem ziX : Sd G W0 30 zdw := gs .nil .nil
theorem VD : Sd G W0 31 Vi := gs .nil .nil
theorem zkD : Sd G W0 32 zgY := gs .nil .nil
theorem zbK : Sd G W0 33 Xo := gs .nil .nil
theorem zlO : Sd G W0 75 zir := gs .nil .nil
theorem zmR : Yb Go.Proofs.Tryz.prog G W0 111 V9 := zk6 G W0 hG
theorem zfc : Sd G W0 34 zef := gs (k1 (zlO hG) .nil) (.cons _ _ _ (zmR hG) (.nil))
theorem zlj : Sd G W0 132 zio := gs .nil .nil
theorem zlx : Sd G W0 133 zhP := gs .nil .nil
theorem zk7 : Sd G W0 134 zhX := gs .nil .nil
theorem zle : Sd G W0 135 zh2 := gs .nil .nil
theorem Uq : Sd G W0 136 Zi := gs .nil .nil
theorem YJ : Sd G W0 88 VZ := gs (k1 (zlj hG) (k1 (zlx hG) (k1 (zk7 hG) (k1 (zle hG) (k1 (Uq hG) .nil))))) .nil
theorem zbM : Sd G W0 76 zae := gs (k1 (YJ hG) .nil) .nil
theorem zdk : Sd G W0 77 za4 := gs .nil .nil
theorem zkv : Sd G W0 35 zgL := gs (k1 (zbM hG) (k1 (zdk hG) .nil)) .nil
theorem zbD : Yb Go.Proofs.Tryz.prog G W0 74 wY := zbn G W0 hG
theorem zdT : Sd G W0 9 zcD := gs (k1 (Vz hG) (k1 (XJ hG) (k1 (XE hG) (k1 (zdW hG) (k1 (zi5 hG) (k1 (zdd hG) (k1 (zjp hG) (k1 (YY hG) (k1 (Wa hG) (k1 (ziX hG) (k1 (VD hG) (k1 (zkD hG) (k1 (zbK hG) (k1 (zfc hG) (k1 (zkv hG) (k1 (Xd hG) .nil)))))))))))))))) (.cons _ _ _ (zbD hG) (.nil))
theorem zbl : Sd G W0 92 zcZ := gs (k1 (zgu hG) .nil) .nil
theorem zmw : Sd G W0 93 zjL := gs (k1 (zbl hG) .nil) .nil
theorem UE : Sd G W0 53 US := gs (k1 (XI hG) (k1 (zmw hG) .nil)) .nil
theorem XD : Sd G W0 48 Wu := gs .nil .nil
theorem zc3 : Sd G W0 49 zbc := gs (k1 (YJ hG) .nil) .nil
theorem zb5 : Sd G W0 141 XW := gs (k1 (XD hG) (k1 (zc3 hG) .nil)) .nil
theorem zdz : Sd G W0 142 W3 := gs (k1 (XD hG) (k1 (zbM hG) .nil)) .nil
theorem zbH : Sd G W0 143 Xu := gs (k1 (XD hG) (k1 (zdk hG) (k1 (YJ hG) .nil))) .nil
theorem zaP : Sd G W0 144 Yn := gs (k1 (XD hG) (k1 (zc3 hG) .nil)) .nil
theorem Ug : Sd G W0 113 V0 := gs (k1 (zb5 hG) (k1 (zdz hG) (k1 (zbH hG) (k1 (zaP hG) .nil)))) .nil
theorem zdp : Sd G W0 79 WR := gs (k1 (Ug hG) .nil) .nil
theorem Vf : Sd G W0 86 Yt := gs .nil .nil
theorem zhU : Sd G W0 145 zbX := gs .nil .nil
theorem zih : Sd G W0 145 zcp := gs .nil .nil
theorem ziD : Sd G W0 145 zcj := gs .nil .nil
theorem zib : Sd G W0 145 zcl := gs .nil .nil
theorem vE : Sd G W0 42 uV := gs (k1 (YJ hG) .nil) .nil
theorem xE : Sd G W0 44 xB := gs .nil .nil
theorem UH : Sd G W0 149 Zz := gs (k1 (vE hG) (k1 (xE hG) .nil)) .nil
theorem uH : Sd G W0 43 ue := gs .nil .nil
theorem W7 : Sd G W0 46 Yj := gs .nil .nil
theorem xD : Sd G W0 163 xy := gs .nil .nil
theorem zbG : Sd G W0 150 Xt := gs (k1 (vE hG) (k1 (uH hG) (k1 (W7 hG) (k1 (xD hG) .nil)))) .nil
theorem ZK : Sd G W0 47 uv := gs (k1 (W7 hG) .nil) .nil
theorem Zm : Sd G W0 164 Z6 := gs (k1 (YJ hG) .nil) .nil
theorem zd2 : Sd G W0 151 Vr := gs (k1 (ZK hG) (k1 (Zm hG) .nil)) .nil
theorem zam : Sd G W0 152 ZW := gs (k1 (xE hG) (k1 (xD hG) (k1 (Zm hG) .nil))) .nil
theorem zc0 : Sd G W0 153 Wh := gs (k1 (xE hG) (k1 (Zm hG) .nil)) .nil
theorem zbO : Sd G W0 45 zaf := gs .nil .nil
theorem zaV : Sd G W0 154 YB := gs (k1 (vE hG) (k1 (uH hG) (k1 (zbO hG) .nil))) .nil
theorem zcm : Sd G W0 155 X3 := gs (k1 (vE hG) (k1 (ZK hG) (k1 (xD hG) .nil))) .nil
theorem Va : Sd G W0 165 Yr := gs (k1 (uH hG) (k1 (YJ hG) .nil)) .nil
theorem zbJ : Sd G W0 156 Xn := gs (k1 (Va hG) .nil) .nil
theorem zbI : Sd G W0 157 Xk := gs (k1 (xE hG) (k1 (xD hG) (k1 (Zm hG) .nil))) .nil
theorem zb7 : Sd G W0 158 X6 := gs (k1 (xE hG) (k1 (xD hG) (k1 (Zm hG) .nil))) .nil
theorem zcg : Sd G W0 159 XR := gs (k1 (vE hG) (k1 (uH hG) .nil)) .nil
theorem zb0 : Sd G W0 160 X4 := gs (k1 (vE hG) (k1 (xE hG) (k1 (zbO hG) .nil))) .nil
theorem zbF : Sd G W0 161 Xj := gs (k1 (vE hG) (k1 (ZK hG) .nil)) .nil
theorem zaT : Sd G W0 162 Yk := gs (k1 (xD hG) (k1 (Va hG) .nil)) .nil
theorem zc4 : Sd G W0 114 zbo := gs (k2 (zhU hG) (k2 (zih hG) (k2 (ziD hG) (k2 (zib hG) (.skip _ _ (k1 (UH hG) (k1 (zbG hG) (k1 (zd2 hG) (k1 (zam hG) (k1 (zc0 hG) (k1 (zaV hG) (k1 (zcm hG) (k1 (zbJ hG) (k1 (zbI hG) (k1 (zb7 hG) (k1 (zcg hG) (k1 (zb0 hG) (k1 (zbF hG) (k1 (zaT hG) .nil))))))))))))))))))) .nil
theorem zaI : Sd G W0 116 VP := gs (k1 (Vz hG) (k1 (VD hG) .nil)) .nil
theorem Vy : Sd G W0 146 Vj := gs .nil .nil
theorem UA : Sd G W0 118 Wf := gs (k1 (XE hG) (k1 (Vy hG) .nil)) .nil
theorem zdv : Sd G W0 115 W2 := gs (k1 (XJ hG) (k1 (zaI hG) (k1 (UA hG) .nil))) .nil
theorem zeB : Sd G W0 80 Vx := gs (k1 (Vf hG) (k1 (zc4 hG) (k1 (zdv hG) .nil))) .nil
theorem zc7 : Sd G W0 81 Wp := gs (k1 (zaI hG) .nil) .nil
theorem Xh : Sd G W0 117 uJ := gs .nil .nil
theorem zdK : Sd G W0 82 WP := gs (k1 (Xd hG) (k1 (Xh hG) (k1 (UA hG) .nil))) .nil
theorem zaw : Sd G W0 85 VH := gs .nil .nil
theorem zfW : Sd G W0 147 UM := gs .nil .nil
theorem zli : Sd G W0 119 ziI := gs (k1 (zfW hG) .nil) .nil
theorem zjS : Sd G W0 120 zff := gs .nil .nil
theorem zdA : Sd G W0 83 WO := gs (k1 (zaw hG) (k1 (zli hG) (k1 (zjS hG) .nil))) .nil
theorem zaU : Sd G W0 121 Yo := gs .nil .nil
theorem VW : Sd G W0 52 VX := gs (k1 (XI hG) (k1 (zbl hG) .nil)) .nil
theorem ub : Sd G W0 148 vn := gs (k1 (XE hG) (k1 (Xd hG) (k1 (Vy hG) .nil))) .nil
theorem zcf : Sd G W0 122 XS := gs (k1 (Vz hG) (k1 (VD hG) (k1 (VW hG) (k1 (ub hG) .nil)))) .nil
theorem zcs : Sd G W0 123 X8 := gs .nil .nil
theorem zb1 : Sd G W0 124 X1 := gs (k1 (zc4 hG) (k1 (ub hG) .nil)) .nil
theorem zco : Sd G W0 125 X5 := gs (k1 (ub hG) .nil) .nil
theorem zbZ : Sd G W0 126 X7 := gs (k1 (Ug hG) (k1 (ub hG) .nil)) .nil
theorem zca : Sd G W0 127 XV := gs (k1 (XJ hG) (k1 (XE hG) (k1 (Xh hG) (k1 (Vy hG) .nil)))) .nil
theorem zaR : Sd G W0 128 Yh := gs (k1 (Ug hG) .nil) .nil
theorem zkr : Sd G W0 84 zgP := gs (k1 (zaU hG) (k1 (zcf hG) (k1 (zcs hG) (k1 (zb1 hG) (k1 (zco hG) (k1 (zbZ hG) (k1 (zca hG) (k1 (zaR hG) .nil)))))))) .nil
theorem zdm : Sd G W0 129 Wq := gs .nil .nil
theorem zhN : Sd G W0 131 za9 := gs .nil .nil
theorem XB : Sd G W0 130 wW := gs (k1 (zhN hG) .nil) .nil
theorem ziZ : Sd G W0 87 zdM := gs (k1 (zdm hG) (k1 (XB hG) .nil)) .nil
theorem zdH : Sd G W0 40 WQ := gs (k1 (UE hG) (k1 (zdp hG) (k1 (zeB hG) (k1 (zc7 hG) (k1 (zdK hG) (k1 (zdA hG) (k1 (zkr hG) (k1 (zaw hG) (k1 (Vf hG) (k1 (ziZ hG) .nil)))))))))) .nil
theorem Xe : Sd G W0 41 wI := gs .nil .nil
theorem VE : Sd G W0 11 W9 := gs (k1 (zdH hG) (k1 (Xe hG) .nil)) .nil
theorem zfl : Sd G W0 22 Ua := gs .nil .nil
theorem zeZ : Sd G W0 23 Ue := gs (k1 (VE hG) .nil) .nil
theorem vw : Sd G W0 59 wL := gs .nil .nil
theorem yF : Sd G W0 58 zU := gs (k1 (vw hG) .nil) .nil
theorem zdX : Sd G W0 56 zcQ := gs (k1 (yF hG) .nil) .nil
theorem zei : Sd G W0 94 Vq := gs .nil .nil
theorem VU : Sd G W0 96 uL := gs .nil .nil
theorem xO : Sd G W0 95 z9 := gs (k1 (VU hG) .nil) .nil
theorem WC : Sd G W0 97 vK := gs .nil .nil
theorem zks : Sd G W0 55 zg3 := gs (k1 (zdX hG) (k1 (yF hG) (k1 (zei hG) (k1 (xO hG) (k1 (WC hG) .nil))))) .nil
theorem Ur : Sd G W0 98 Ze := gs .nil .nil
theorem zlz : Sd G W0 57 zh9 := gs (k1 (Ur hG) .nil) .nil
theorem UV : Sd G W0 99 ZH := gs .nil .nil
theorem ziY : Sd G W0 60 zdE := gs (k1 (UV hG) .nil) .nil
theorem zeg : Sd G W0 62 Vs := gs (k1 (vw hG) .nil) .nil
theorem xA : Sd G W0 61 z5 := gs (k1 (zeg hG) .nil) .nil
theorem zb2 : Sd G W0 100 XT := gs .nil .nil
theorem zdx : Sd G W0 64 WW := gs (k1 (vw hG) (k1 (zb2 hG) .nil)) .nil
theorem xh : Sd G W0 63 zT := gs (k1 (zdx hG) .nil) .nil
theorem zj1 : Sd G W0 24 zfr := gs (k1 (zks hG) (k1 (zdX hG) (k1 (zlz hG) (k1 (yF hG) (k1 (vw hG) (k1 (ziY hG) (k1 (xA hG) (k1 (xh hG) .nil)))))))) .nil
theorem zdf : Sd G W0 7 Wy := gs (k1 (zdT hG) (k1 (VE hG) (k1 (zfl hG) (k1 (zeZ hG) (k1 (zj1 hG) .nil))))) .nil
theorem YZ : Sd G W0 37 ul := gs .nil .nil
theorem zba : Sd G W0 39 YT := gs (k1 (YZ hG) .nil) .nil
theorem zf3 : Sd G W0 10 UL := gs (k1 (YZ hG) (k1 (XI hG) (k1 (zba hG) .nil))) .nil
theorem zgV : Sd G W0 89 zaq := gs (k1 (XI hG) .nil) .nil
theorem zim : Sd G W0 91 zb6 := gs .nil .nil
theorem UJ : Sd G W0 90 Zp := gs (k1 (zfc hG) (k1 (zdQ hG) (k1 (zim hG) (k1 (zbl hG) .nil)))) .nil
theorem zjK : Sd G W0 50 zfC := gs (k1 (zgV hG) (k1 (UJ hG) .nil)) .nil
theorem zkn : Sd G W0 17 zgM := gs (k1 (zdd hG) (k1 (zjK hG) .nil)) .nil
theorem zjB : Sd G W0 54 ze1 := gs (k1 (VW hG) (k1 (UE hG) .nil)) .nil
theorem ziw : Sd G W0 20 zbS := gs (k1 (VW hG) (k1 (UE hG) (k1 (zjB hG) .nil))) .nil
theorem zaS : Sd G W0 6 YF := gs (k1 (zdf hG) (k1 (zdT hG) (k1 (zf3 hG) (k1 (VE hG) (k1 (zkn hG) (k1 (zdW hG) (k1 (ziw hG) (k1 (zdR hG) .nil)))))))) .nil
end Go.Pe.G
