/- Own work of this seat: G3. -/
import Derived.Test.YtofljjggmmcgjaaGreatDoorGPGa
set_option linter.unusedVariables false
set_option linter.unusedSectionVars false
set_option linter.unusedSimpArgs false
set_option linter.unnecessarySimpa false
set_option linter.deprecated false
set_option maxRecDepth 100000
namespace Go.Pe.G
open Go.Pe
theorem k2 {G : Nat → Prop} {W0 : World} {f : Nat} {s : zA E} {ss r} (hs : Yr Go.Proofs.Tryz.prog G W0 f s) (h : Oks Go.Proofs.Tryz.prog G W0 ((f, ss) :: r)) (hc : uf Go.Proofs.Tryz.prog f = true := by kernel_rfl) : Oks Go.Proofs.Tryz.prog G W0 ((f, s :: ss) :: r) := .cons _ _ _ _ hc hs h
theorem k1 {G : Nat → Prop} {W0 : World} {f : Nat} {s : zA E} {r} (hs : Yr Go.Proofs.Tryz.prog G W0 f s) (h : Oks Go.Proofs.Tryz.prog G W0 r) (hc : uf Go.Proofs.Tryz.prog f = true := by kernel_rfl) : Oks Go.Proofs.Tryz.prog G W0 ((f, [s]) :: r) := .cons _ _ _ _ hc hs (.skip _ _ h)
abbrev Sd (G : Nat → Prop) (W0 : World) := Yr (E := E) Go.Proofs.Tryz.prog G W0
theorem gs {G : Nat → Prop} {W0 : World} {l : List (Nat × List (zA E))} {loops mv kept pk its} {f : FuncId} {fn : Func} {inn out : yJ} {gi go : List Grp} {hi : wQ E gi = inn.holes} {ho : wQ E go = out.holes} (h : Oks Go.Proofs.Tryz.prog G W0 l) (h2 : Its Go.Proofs.Tryz.prog G W0 its) (hf : Go.Proofs.Tryz.prog.funcs[f]? = some fn := by kernel_rfl) (hb : fn.body.isSome = true := by kernel_rfl)
    (hk : (cf l loops mv kept pk its).kept = zbn inn.blks 0 := by kernel_rfl) (hn : Nat.ble inn.vals.length fn.ntmps = true := by kernel_rfl) : Yr Go.Proofs.Tryz.prog G W0 f (sp (cf l loops mv kept pk its) fn inn out gi go hi ho) := zqf (C := cf l loops mv kept pk its) zl0 (zoL h) rfl (zq2 h2) zoA hf hb hk hn
variable {G : Nat → Prop} {W0 : World} (hG : zob G W0)
include hG
theorem zcl : Sd G W0 83 Xt := gs .nil .nil
theorem za8 : Sd G W0 26 U0 := gs (k1 (zcl hG) .nil) .nil
theorem YT : Sd G W0 33 YI := gs .nil .nil
theorem vQ : Sd G W0 35 uS := gs .nil .nil
theorem YW : Sd G W0 53 YF := gs (k1 (vQ hG) .nil) .nil
theorem vY : Sd G W0 36 uR := gs (k1 (YW hG) .nil) .nil
theorem Y2 : Sd G W0 107 YH := gs .nil .nil
theorem zcY : Sd G W0 105 X1 := gs (k1 (Y2 hG) .nil) .nil
theorem zdO : Sd G W0 150 WR := gs .nil .nil
theorem Wi : Sd G W0 152 vP := gs (k1 (zdO hG) .nil) .nil
theorem Xl : Sd G W0 110 vg := gs (k1 (Wi hG) .nil) .nil
theorem zfg : Sd G W0 149 Uq := gs (k1 (Xl hG) .nil) .nil
theorem XN : Sd G W0 179 vo := gs (k1 (zfg hG) .nil) .nil
theorem Y5 : Sd G W0 151 wF := gs (k1 (XN hG) .nil) .nil
theorem zgB : Sd G W0 106 zb5 := gs (k1 (Y5 hG) .nil) .nil
theorem zgY : Sd G W0 108 zdX := gs .nil .nil
theorem zhd : Sd G W0 109 zdE := gs .nil .nil
theorem ze2 : Sd G W0 111 Uc := gs (k1 (Y2 hG) .nil) .nil
theorem Xu : Sd G W0 152 vc := gs (k1 (ze2 hG) .nil) .nil
theorem YB : Sd G W0 110 wy := gs (k1 (Xu hG) .nil) .nil
theorem zfp : Sd G W0 181 UN := gs .nil .nil
theorem zgD : Sd G W0 155 zcd := gs (k1 (zfp hG) .nil) .nil
theorem zfG : Sd G W0 154 zaR := gs (k1 (zgD hG) .nil) .nil
theorem Ye : Sd G W0 180 wg := gs (k1 (zfG hG) .nil) .nil
theorem ZD : Sd G W0 153 xJ := gs (k1 (Ye hG) .nil) .nil
theorem zg3 : Sd G W0 112 zdT := gs (k1 (ZD hG) .nil) .nil
theorem zfO : Sd G W0 158 zbZ := gs .nil .nil
theorem ze9 : Sd G W0 157 Up := gs (k1 (zfO hG) .nil) .nil
theorem Zy : Sd G W0 182 xy := gs (k1 (ze9 hG) .nil) .nil
theorem uY : Sd G W0 156 xl := gs (k1 (Zy hG) .nil) .nil
theorem zfR : Sd G W0 113 zb7 := gs (k1 (uY hG) .nil) .nil
theorem zgy : Sd G W0 42 zcI := gs (k1 (zcY hG) (k1 (zgB hG) (k1 (Y2 hG) (k1 (zgY hG) (k1 (zhd hG) (k1 (YB hG) (k1 (zg3 hG) (k1 (zfR hG) .nil)))))))) .nil
theorem zc4 : Sd G W0 84 zde := gs .nil .nil
theorem VO : Sd G W0 29 zaq := gs (k1 (zc4 hG) .nil) .nil
theorem zd9 : Sd G W0 94 zeB := gs (k1 (VO hG) .nil) .nil
theorem zf7 : Sd G W0 43 zcy := gs (k1 (zd9 hG) .nil) .nil
theorem zf4 : Sd G W0 44 zcP := gs .nil .nil
theorem ZY : Sd G W0 46 vr := gs .nil .nil
theorem zc1 : Sd G W0 45 X2 := gs (k1 (ZY hG) .nil) .nil
theorem zfI : Sd G W0 47 zaQ := gs .nil .nil
theorem V8 : Sd G W0 48 WB := gs .nil .nil
theorem zg1 : Sd G W0 49 zdF := gs .nil .nil
theorem VT : Sd G W0 50 Zf := gs .nil .nil
theorem zhD : Sd G W0 115 ze0 := gs .nil .nil
theorem zik : um Go.Proofs.Tryz.prog G W0 159 Xw := zh3 G W0 hG
theorem zib : Sd G W0 51 zfk := gs (k1 (zhD hG) .nil) (.cons _ _ _ (zik hG) (.nil))
theorem zhU : Sd G W0 174 ze6 := gs .nil .nil
theorem zhZ : Sd G W0 175 zfl := gs .nil .nil
theorem zhP : Sd G W0 176 ze8 := gs .nil .nil
theorem zh6 : Sd G W0 177 ze4 := gs .nil .nil
theorem XK : Sd G W0 178 vm := gs .nil .nil
theorem uI : Sd G W0 141 Xv := gs (k1 (zhU hG) (k1 (zhZ hG) (k1 (zhP hG) (k1 (zh6 hG) (k1 (XK hG) .nil))))) .nil
theorem Ua : Sd G W0 116 WD := gs (k1 (uI hG) .nil) .nil
theorem zaK : Sd G W0 117 Vt := gs .nil .nil
theorem zg7 : Sd G W0 52 zdz := gs (k1 (Ua hG) (k1 (zaK hG) .nil)) .nil
theorem VV : um Go.Proofs.Tryz.prog G W0 114 xB := VM G W0 hG
theorem zbb : Sd G W0 10 U4 := gs (k1 (za8 hG) (k1 (YT hG) (k1 (vQ hG) (k1 (vY hG) (k1 (zgy hG) (k1 (zf7 hG) (k1 (zf4 hG) (k1 (zc1 hG) (k1 (ZY hG) (k1 (zfI hG) (k1 (V8 hG) (k1 (zg1 hG) (k1 (VT hG) (k1 (zib hG) (k1 (zg7 hG) (k1 (YW hG) .nil)))))))))))))))) (.cons _ _ _ (VV hG) (.nil))
theorem Xg : Sd G W0 12 Xj := gs .nil .nil
theorem Vk : Sd G W0 62 uB := gs .nil .nil
theorem zif : Sd G W0 140 zgC := gs (k1 (zc4 hG) .nil) .nil
theorem zgI : Sd G W0 120 zcs := gs (k1 (VO hG) (k1 (zif hG) .nil)) .nil
theorem V9 : Sd G W0 125 WA := gs .nil .nil
theorem wp : Sd G W0 121 xP := gs (k1 (vY hG) (k1 (YW hG) (k1 (V9 hG) .nil))) .nil
theorem Un : Sd G W0 63 ZP := gs (k1 (YT hG) (k1 (V8 hG) (k1 (zgI hG) (k1 (wp hG) .nil)))) .nil
theorem Ux : Sd G W0 64 ZG := gs .nil .nil
theorem zeF : Sd G W0 161 UA := gs .nil .nil
theorem zfu : Sd G W0 161 Uy := gs .nil .nil
theorem zeH : Sd G W0 161 UD := gs .nil .nil
theorem zeZ : Sd G W0 161 Um := gs .nil .nil
theorem xr : Sd G W0 86 wA := gs (k1 (uI hG) .nil) .nil
theorem yz : Sd G W0 88 yA := gs .nil .nil
theorem X3 : Sd G W0 183 vF := gs (k1 (xr hG) (k1 (yz hG) .nil)) .nil
theorem xM : Sd G W0 87 xK := gs .nil .nil
theorem ul : Sd G W0 90 vf := gs .nil .nil
theorem yO : Sd G W0 198 yM := gs .nil .nil
theorem V0 : Sd G W0 184 Zk := gs (k1 (xr hG) (k1 (xM hG) (k1 (ul hG) (k1 (yO hG) .nil)))) .nil
theorem wn : Sd G W0 91 xS := gs (k1 (ul hG) .nil) .nil
theorem vy : Sd G W0 199 ui := gs (k1 (uI hG) .nil) .nil
theorem zbH : Sd G W0 185 YU := gs (k1 (wn hG) (k1 (vy hG) .nil)) .nil
theorem WO : Sd G W0 186 uj := gs (k1 (yz hG) (k1 (yO hG) (k1 (vy hG) .nil))) .nil
theorem zas : Sd G W0 187 Ya := gs (k1 (yz hG) (k1 (vy hG) .nil)) .nil
theorem YX : Sd G W0 89 YJ := gs .nil .nil
theorem Vj : Sd G W0 188 uC := gs (k1 (xr hG) (k1 (xM hG) (k1 (YX hG) .nil))) .nil
theorem Uw : Sd G W0 189 ZR := gs (k1 (xr hG) (k1 (wn hG) (k1 (yO hG) .nil))) .nil
theorem YL : Sd G W0 200 uy := gs (k1 (xM hG) (k1 (uI hG) .nil)) .nil
theorem V3 : Sd G W0 190 Zg := gs (k1 (YL hG) .nil) .nil
theorem VX : Sd G W0 191 Zo := gs (k1 (yz hG) (k1 (yO hG) (k1 (vy hG) .nil))) .nil
theorem Ut : Sd G W0 192 ZM := gs (k1 (yz hG) (k1 (yO hG) (k1 (vy hG) .nil))) .nil
theorem UI : Sd G W0 193 ZN := gs (k1 (xr hG) (k1 (xM hG) .nil)) .nil
theorem Ul : Sd G W0 194 ZK := gs (k1 (xr hG) (k1 (yz hG) (k1 (YX hG) .nil))) .nil
theorem VY : Sd G W0 195 Zh := gs (k1 (xr hG) (k1 (wn hG) .nil)) .nil
theorem Vi : Sd G W0 196 ut := gs (k1 (yO hG) (k1 (YL hG) .nil)) .nil
theorem zgu : Sd G W0 122 zch := gs (k2 (zeF hG) (k2 (zfu hG) (k2 (zeH hG) (k2 (zeZ hG) (.skip _ _ (k1 (X3 hG) (k1 (V0 hG) (k1 (zbH hG) (k1 (WO hG) (k1 (zas hG) (k1 (Vj hG) (k1 (Uw hG) (k1 (V3 hG) (k1 (VX hG) (k1 (Ut hG) (k1 (UI hG) (k1 (Ul hG) (k1 (VY hG) (k1 (Vi hG) .nil))))))))))))))))))) .nil
theorem Ud : Sd G W0 65 ZI := gs (k1 (wp hG) (k1 (zgu hG) .nil)) .nil
theorem Uv : Sd G W0 66 ZH := gs (k1 (wp hG) .nil) .nil
theorem vT : Sd G W0 92 uX := gs .nil .nil
theorem Xr : Sd G W0 93 Xi := gs (k1 (uI hG) .nil) .nil
theorem UF : Sd G W0 162 ZQ := gs (k1 (vT hG) (k1 (Xr hG) .nil)) .nil
theorem za3 : Sd G W0 163 Yl := gs (k1 (vT hG) (k1 (Ua hG) .nil)) .nil
theorem VW : Sd G W0 164 Zj := gs (k1 (vT hG) (k1 (zaK hG) (k1 (uI hG) .nil))) .nil
theorem Vg : Sd G W0 165 uv := gs (k1 (vT hG) (k1 (Xr hG) .nil)) .nil
theorem zax : Sd G W0 123 VP := gs (k1 (UF hG) (k1 (za3 hG) (k1 (VW hG) (k1 (Vg hG) .nil)))) .nil
theorem UT : Sd G W0 67 ZC := gs (k1 (wp hG) (k1 (zax hG) .nil)) .nil
theorem Ve : Sd G W0 124 ux := gs .nil .nil
theorem Uf : Sd G W0 68 ZF := gs (k1 (vQ hG) (k1 (vY hG) (k1 (Ve hG) (k1 (V9 hG) .nil)))) .nil
theorem Vd : Sd G W0 69 uw := gs (k1 (zax hG) .nil) .nil
theorem X8 : Sd G W0 15 Wy := gs (k1 (Vk hG) (k1 (Un hG) (k1 (Ux hG) (k1 (Ud hG) (k1 (Uv hG) (k1 (UT hG) (k1 (Uf hG) (k1 (Vd hG) .nil)))))))) .nil
theorem Vx : Sd G W0 82 zam := gs .nil .nil
theorem zap : Sd G W0 18 Vy := gs (k1 (Vx hG) .nil) .nil
theorem zhb : Sd G W0 20 zdB := gs (k1 (Vx hG) .nil) .nil
theorem zg0 : Sd G W0 22 zdD := gs (k1 (Vx hG) .nil) .nil
theorem zdK : Sd G W0 28 WT := gs (k1 (X8 hG) .nil) .nil
theorem zag : Sd G W0 34 Vn := gs (k1 (vT hG) (k1 (Xr hG) .nil)) .nil
theorem zcC : Sd G W0 39 Xy := gs .nil .nil
theorem zaB : Sd G W0 8 Z8 := gs (k1 (zbb hG) (k1 (Xg hG) (k1 (X8 hG) (k1 (zap hG) (k1 (zhb hG) (k1 (zg0 hG) (k1 (zdK hG) (k1 (zag hG) (k1 (vQ hG) (k1 (vY hG) (k1 (zcC hG) .nil))))))))))) .nil
theorem uT : Sd G W0 40 wC := gs .nil .nil
theorem VF : Sd G W0 41 u5 := gs (k1 (uT hG) .nil) .nil
theorem zcW : Sd G W0 9 X9 := gs (k1 (VO hG) (k1 (uT hG) (k1 (VF hG) .nil))) .nil
theorem V2 : Sd G W0 11 Zm := gs (k1 (Xg hG) .nil) .nil
theorem zd2 : Sd G W0 25 WW := gs (k1 (zcW hG) (k1 (zbb hG) (k1 (V2 hG) (k1 (Xg hG) (k1 (X8 hG) .nil))))) .nil
theorem zgH : Sd G W0 27 zb3 := gs .nil .nil
theorem zfH : Sd G W0 32 zaY := gs (k1 (xr hG) (k1 (xM hG) (k1 (yz hG) (k1 (YX hG) (k1 (ul hG) (k1 (wn hG) .nil)))))) .nil
theorem zhA : Sd G W0 37 zfn := gs (k1 (za8 hG) (k1 (zd9 hG) .nil)) .nil
theorem UL : Sd G W0 6 ZJ := gs (k1 (zaB hG) (k1 (zap hG) (k1 (zd2 hG) (k1 (zgH hG) (k1 (zfH hG) (k1 (YT hG) (k1 (zag hG) (k1 (vQ hG) (k1 (vY hG) (k1 (zhA hG) .nil)))))))))) .nil
end Go.Pe.G
