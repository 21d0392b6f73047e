/- Own work of this seat: G4e, EQ, G2i, GH, G3. -/
import Derived.Test.YtodhlecdfgklaaaGreatDoorWAGa
set_option linter.unusedVariables false
set_option linter.unusedSectionVars false
set_option linter.unusedSimpArgs false
set_option linter.unnecessarySimpa false
set_option linter.deprecated false
set_option maxRecDepth 100000
namespace Go.Pe.G
open Go.Pe
theorem zel (s1 : Int) (s2 : Int) (s3 : Int) (s4 : Int) (s5 : Int) (s6 : Int) (s7 : Int) (s8 : Int) (s9 : Int) (s10 : Int) (s11 : Int) (s12 : BitVec 64) (s13 : zu) (s14 : Int) (s15 : Int) (s16 : Int) (s17 : Int) (s18 : Int) (s19 : Int) (s20 : Int) (s21 : Int) (s22 : Int) (s23 : BitVec 64) (s24 : List (List Int)) (s25 : List (List Int)) (s26 : List (List zi)) (s27 : List zj) (s28 : List (List Int)) (s29 : List (List Int)) (s30 : List (List zi)) (s31 : List zj) : uW (s1, s2, s3, s4, s5, s6, s7, s8, s9, s10, s11, s12, s13, s14, s15, s16, s17, s18, s19, s20, s21, s22, s23, s24, s25, s26, s27, s28, s29, s30, s31, ()) =
 bif decide (s2 < s1) then
  (z3 uv (s1, s2, 0, s3, s4, s5, s6, s7, s8, s9, s10, s11, s12, s13, s14, s15, s16, s17, s18, s19, s20, s21, s22, s23, ([] : List Int), s24, s25, s26, s27, s28, s29, s30, s31, ())).bind fun st => match st with
    | .again _ => none
    | .brk y1 =>
    (xj (y1.2.2.2.2.2.2.2.2.2.2.2.2.2.2.2.2.2.2.2.2.2.2.2.2.2.2.2.2.1 ++ (([y1.2.2.2.2.2.2.2.2.2.2.2.2.2.2.2.2.2.2.2.2.2.2.2.1] : List (List Int))))).bind fun l2 =>
    some (.again (y1.1, w64 (y1.2.1 + 1), y1.2.2.1, y1.2.2.2.1, y1.2.2.2.2.1, y1.2.2.2.2.2.1, y1.2.2.2.2.2.2.1, y1.2.2.2.2.2.2.2.1, y1.2.2.2.2.2.2.2.2.1, y1.2.2.2.2.2.2.2.2.2.1, y1.2.2.2.2.2.2.2.2.2.2.1, y1.2.2.2.2.2.2.2.2.2.2.2.1, y1.2.2.2.2.2.2.2.2.2.2.2.2.1, y1.2.2.2.2.2.2.2.2.2.2.2.2.2.1, y1.2.2.2.2.2.2.2.2.2.2.2.2.2.2.1, y1.2.2.2.2.2.2.2.2.2.2.2.2.2.2.2.1, y1.2.2.2.2.2.2.2.2.2.2.2.2.2.2.2.2.1, y1.2.2.2.2.2.2.2.2.2.2.2.2.2.2.2.2.2.1, y1.2.2.2.2.2.2.2.2.2.2.2.2.2.2.2.2.2.2.1, y1.2.2.2.2.2.2.2.2.2.2.2.2.2.2.2.2.2.2.2.1, y1.2.2.2.2.2.2.2.2.2.2.2.2.2.2.2.2.2.2.2.2.1, y1.2.2.2.2.2.2.2.2.2.2.2.2.2.2.2.2.2.2.2.2.2.1, y1.2.2.2.2.2.2.2.2.2.2.2.2.2.2.2.2.2.2.2.2.2.2.1, y1.2.2.2.2.2.2.2.2.2.2.2.2.2.2.2.2.2.2.2.2.2.2.2.2.1, y1.2.2.2.2.2.2.2.2.2.2.2.2.2.2.2.2.2.2.2.2.2.2.2.2.2.1, y1.2.2.2.2.2.2.2.2.2.2.2.2.2.2.2.2.2.2.2.2.2.2.2.2.2.2.1, y1.2.2.2.2.2.2.2.2.2.2.2.2.2.2.2.2.2.2.2.2.2.2.2.2.2.2.2.1, l2, y1.2.2.2.2.2.2.2.2.2.2.2.2.2.2.2.2.2.2.2.2.2.2.2.2.2.2.2.2.2.1, y1.2.2.2.2.2.2.2.2.2.2.2.2.2.2.2.2.2.2.2.2.2.2.2.2.2.2.2.2.2.2.1, y1.2.2.2.2.2.2.2.2.2.2.2.2.2.2.2.2.2.2.2.2.2.2.2.2.2.2.2.2.2.2.2.1, ()))
    | .ret y1 =>
    some (.ret (()))
 else
  some (.brk (s1, s3, s4, s5, s6, s7, s8, s9, s10, s11, s12, s13, s14, s15, s16, s17, s18, s19, s20, s21, s22, s23, s24, s25, s26, s27, s28, s29, s30, s31, ())) := by kernel_rfl
theorem zdR (s1 : Int) (s2 : Int) (s3 : Int) (s4 : Int) (s5 : Int) (s6 : Int) (s7 : Int) (s8 : Int) (s9 : Int) (s10 : Int) (s11 : Int) (s12 : Int) (s13 : BitVec 64) (s14 : zu) (s15 : Int) (s16 : Int) (s17 : Int) (s18 : Int) (s19 : Int) (s20 : Int) (s21 : Int) (s22 : Int) (s23 : Int) (s24 : BitVec 64) (s25 : List Int) (s26 : List (List Int)) (s27 : List (List Int)) (s28 : List (List zi)) (s29 : List zj) (s30 : List (List Int)) (s31 : List (List Int)) (s32 : List (List zi)) (s33 : List zj) : uv (s1, s2, s3, s4, s5, s6, s7, s8, s9, s10, s11, s12, s13, s14, s15, s16, s17, s18, s19, s20, s21, s22, s23, s24, s25, s26, s27, s28, s29, s30, s31, s32, s33, ()) =
 bif decide (s3 < s23) then
  (zq s14).bind fun y1 =>
  bif decide ((w64 (s1 + 1)) = 0) then
   none
  else
   (xj (s25 ++ (([(y1.1.tmod (w64 (s1 + 1)))] : List Int)))).bind fun l2 =>
   some (.again (s1, s2, w64 (s3 + 1), s4, s5, s6, s7, s8, s9, s10, s11, s12, s13, y1.2.1, s15, s16, s17, s18, s19, s20, s21, s22, s23, s24, l2, s26, s27, s28, s29, s30, s31, s32, s33, ()))
 else
  some (.brk (s1, s2, s4, s5, s6, s7, s8, s9, s10, s11, s12, s13, s14, s15, s16, s17, s18, s19, s20, s21, s22, s23, s24, s25, s26, s27, s28, s29, s30, s31, s32, s33, ())) := by kernel_rfl
theorem zdi (s1 : Int) (s2 : Int) (s3 : Int) (s4 : Int) (s5 : Int) (s6 : Int) (s7 : Int) (s8 : Int) (s9 : Int) (s10 : Int) (s11 : Int) (s12 : BitVec 64) (s13 : zu) (s14 : Int) (s15 : Int) (s16 : Int) (s17 : Int) (s18 : Int) (s19 : Int) (s20 : Int) (s21 : Int) (s22 : Int) (s23 : BitVec 64) (s24 : List (List Int)) (s25 : List (List Int)) (s26 : List (List zi)) (s27 : List zj) (s28 : List (List Int)) (s29 : List (List Int)) (s30 : List (List zi)) (s31 : List zj) : uy (s1, s2, s3, s4, s5, s6, s7, s8, s9, s10, s11, s12, s13, s14, s15, s16, s17, s18, s19, s20, s21, s22, s23, s24, s25, s26, s27, s28, s29, s30, s31, ()) =
 bif decide (s2 < s15) then
  (z3 uu (s1, s2, 0, s3, s4, s5, s6, s7, s8, s9, s10, s11, s12, s13, s14, s15, s16, s17, s18, s19, s20, s21, s22, s23, ([] : List Int), s24, s25, s26, s27, s28, s29, s30, s31, ())).bind fun st => match st with
    | .again _ => none
    | .brk y1 =>
    bif decide (((y1.2.2.2.2.2.2.2.2.2.2.2.2.2.2.2.2.2.2.2.2.2.2.2.1.length : Int)) = 0) then
     (zq y1.2.2.2.2.2.2.2.2.2.2.2.2.1).bind fun y2 =>
     (z3 wP (y1.1, y1.2.1, y2.1.tmod 8, y1.2.2.1, y1.2.2.2.1, y1.2.2.2.2.1, y1.2.2.2.2.2.1, y1.2.2.2.2.2.2.1, y1.2.2.2.2.2.2.2.1, y1.2.2.2.2.2.2.2.2.1, y1.2.2.2.2.2.2.2.2.2.1, y1.2.2.2.2.2.2.2.2.2.2.1, y1.2.2.2.2.2.2.2.2.2.2.2.1, y2.2.1, y1.2.2.2.2.2.2.2.2.2.2.2.2.2.1, y1.2.2.2.2.2.2.2.2.2.2.2.2.2.2.1, y1.2.2.2.2.2.2.2.2.2.2.2.2.2.2.2.1, y1.2.2.2.2.2.2.2.2.2.2.2.2.2.2.2.2.1, y1.2.2.2.2.2.2.2.2.2.2.2.2.2.2.2.2.2.1, y1.2.2.2.2.2.2.2.2.2.2.2.2.2.2.2.2.2.2.1, y1.2.2.2.2.2.2.2.2.2.2.2.2.2.2.2.2.2.2.2.1, y1.2.2.2.2.2.2.2.2.2.2.2.2.2.2.2.2.2.2.2.2.1, y1.2.2.2.2.2.2.2.2.2.2.2.2.2.2.2.2.2.2.2.2.2.1, y1.2.2.2.2.2.2.2.2.2.2.2.2.2.2.2.2.2.2.2.2.2.2.1, ([0] : List Int), ([] : List zi), y1.2.2.2.2.2.2.2.2.2.2.2.2.2.2.2.2.2.2.2.2.2.2.2.2.1, y1.2.2.2.2.2.2.2.2.2.2.2.2.2.2.2.2.2.2.2.2.2.2.2.2.2.1, y1.2.2.2.2.2.2.2.2.2.2.2.2.2.2.2.2.2.2.2.2.2.2.2.2.2.2.1, y1.2.2.2.2.2.2.2.2.2.2.2.2.2.2.2.2.2.2.2.2.2.2.2.2.2.2.2.1, y1.2.2.2.2.2.2.2.2.2.2.2.2.2.2.2.2.2.2.2.2.2.2.2.2.2.2.2.2.1, y1.2.2.2.2.2.2.2.2.2.2.2.2.2.2.2.2.2.2.2.2.2.2.2.2.2.2.2.2.2.1, y1.2.2.2.2.2.2.2.2.2.2.2.2.2.2.2.2.2.2.2.2.2.2.2.2.2.2.2.2.2.2.1, y1.2.2.2.2.2.2.2.2.2.2.2.2.2.2.2.2.2.2.2.2.2.2.2.2.2.2.2.2.2.2.2.1, ())).bind fun st => match st with
       | .again _ => none
       | .brk y3 =>
       (xj (y3.2.2.2.2.2.2.2.2.2.2.2.2.2.2.2.2.2.2.2.2.2.2.2.2.2.2.2.2.2.2.1 ++ (([y3.2.2.2.2.2.2.2.2.2.2.2.2.2.2.2.2.2.2.2.2.2.2.2.1] : List (List Int))))).bind fun l4 =>
       (xj (y3.2.2.2.2.2.2.2.2.2.2.2.2.2.2.2.2.2.2.2.2.2.2.2.2.2.2.2.2.2.2.2.1 ++ (([y3.2.2.2.2.2.2.2.2.2.2.2.2.2.2.2.2.2.2.2.2.2.2.2.2.1] : List (List zi))))).bind fun l5 =>
       some (.again (y3.1, w64 (y3.2.1 + 1), y3.2.2.1, y3.2.2.2.1, y3.2.2.2.2.1, y3.2.2.2.2.2.1, y3.2.2.2.2.2.2.1, y3.2.2.2.2.2.2.2.1, y3.2.2.2.2.2.2.2.2.1, y3.2.2.2.2.2.2.2.2.2.1, y3.2.2.2.2.2.2.2.2.2.2.1, y3.2.2.2.2.2.2.2.2.2.2.2.1, y3.2.2.2.2.2.2.2.2.2.2.2.2.1, y3.2.2.2.2.2.2.2.2.2.2.2.2.2.1, y3.2.2.2.2.2.2.2.2.2.2.2.2.2.2.1, y3.2.2.2.2.2.2.2.2.2.2.2.2.2.2.2.1, y3.2.2.2.2.2.2.2.2.2.2.2.2.2.2.2.2.1, y3.2.2.2.2.2.2.2.2.2.2.2.2.2.2.2.2.2.1, y3.2.2.2.2.2.2.2.2.2.2.2.2.2.2.2.2.2.2.1, y3.2.2.2.2.2.2.2.2.2.2.2.2.2.2.2.2.2.2.2.1, y3.2.2.2.2.2.2.2.2.2.2.2.2.2.2.2.2.2.2.2.2.1, y3.2.2.2.2.2.2.2.2.2.2.2.2.2.2.2.2.2.2.2.2.2.1, y3.2.2.2.2.2.2.2.2.2.2.2.2.2.2.2.2.2.2.2.2.2.2.1, y3.2.2.2.2.2.2.2.2.2.2.2.2.2.2.2.2.2.2.2.2.2.2.2.2.2.1, y3.2.2.2.2.2.2.2.2.2.2.2.2.2.2.2.2.2.2.2.2.2.2.2.2.2.2.1, y3.2.2.2.2.2.2.2.2.2.2.2.2.2.2.2.2.2.2.2.2.2.2.2.2.2.2.2.1, y3.2.2.2.2.2.2.2.2.2.2.2.2.2.2.2.2.2.2.2.2.2.2.2.2.2.2.2.2.1, y3.2.2.2.2.2.2.2.2.2.2.2.2.2.2.2.2.2.2.2.2.2.2.2.2.2.2.2.2.2.1, l4, l5, y3.2.2.2.2.2.2.2.2.2.2.2.2.2.2.2.2.2.2.2.2.2.2.2.2.2.2.2.2.2.2.2.2.1, ()))
       | .ret y3 =>
       some (.ret (()))
    else
     (zq y1.2.2.2.2.2.2.2.2.2.2.2.2.1).bind fun y6 =>
     (z3 wP (y1.1, y1.2.1, y6.1.tmod 8, y1.2.2.1, y1.2.2.2.1, y1.2.2.2.2.1, y1.2.2.2.2.2.1, y1.2.2.2.2.2.2.1, y1.2.2.2.2.2.2.2.1, y1.2.2.2.2.2.2.2.2.1, y1.2.2.2.2.2.2.2.2.2.1, y1.2.2.2.2.2.2.2.2.2.2.1, y1.2.2.2.2.2.2.2.2.2.2.2.1, y6.2.1, y1.2.2.2.2.2.2.2.2.2.2.2.2.2.1, y1.2.2.2.2.2.2.2.2.2.2.2.2.2.2.1, y1.2.2.2.2.2.2.2.2.2.2.2.2.2.2.2.1, y1.2.2.2.2.2.2.2.2.2.2.2.2.2.2.2.2.1, y1.2.2.2.2.2.2.2.2.2.2.2.2.2.2.2.2.2.1, y1.2.2.2.2.2.2.2.2.2.2.2.2.2.2.2.2.2.2.1, y1.2.2.2.2.2.2.2.2.2.2.2.2.2.2.2.2.2.2.2.1, y1.2.2.2.2.2.2.2.2.2.2.2.2.2.2.2.2.2.2.2.2.1, y1.2.2.2.2.2.2.2.2.2.2.2.2.2.2.2.2.2.2.2.2.2.1, y1.2.2.2.2.2.2.2.2.2.2.2.2.2.2.2.2.2.2.2.2.2.2.1, y1.2.2.2.2.2.2.2.2.2.2.2.2.2.2.2.2.2.2.2.2.2.2.2.1, ([] : List zi), y1.2.2.2.2.2.2.2.2.2.2.2.2.2.2.2.2.2.2.2.2.2.2.2.2.1, y1.2.2.2.2.2.2.2.2.2.2.2.2.2.2.2.2.2.2.2.2.2.2.2.2.2.1, y1.2.2.2.2.2.2.2.2.2.2.2.2.2.2.2.2.2.2.2.2.2.2.2.2.2.2.1, y1.2.2.2.2.2.2.2.2.2.2.2.2.2.2.2.2.2.2.2.2.2.2.2.2.2.2.2.1, y1.2.2.2.2.2.2.2.2.2.2.2.2.2.2.2.2.2.2.2.2.2.2.2.2.2.2.2.2.1, y1.2.2.2.2.2.2.2.2.2.2.2.2.2.2.2.2.2.2.2.2.2.2.2.2.2.2.2.2.2.1, y1.2.2.2.2.2.2.2.2.2.2.2.2.2.2.2.2.2.2.2.2.2.2.2.2.2.2.2.2.2.2.1, y1.2.2.2.2.2.2.2.2.2.2.2.2.2.2.2.2.2.2.2.2.2.2.2.2.2.2.2.2.2.2.2.1, ())).bind fun st => match st with
       | .again _ => none
       | .brk y7 =>
       (xj (y7.2.2.2.2.2.2.2.2.2.2.2.2.2.2.2.2.2.2.2.2.2.2.2.2.2.2.2.2.2.2.1 ++ (([y7.2.2.2.2.2.2.2.2.2.2.2.2.2.2.2.2.2.2.2.2.2.2.2.1] : List (List Int))))).bind fun l8 =>
       (xj (y7.2.2.2.2.2.2.2.2.2.2.2.2.2.2.2.2.2.2.2.2.2.2.2.2.2.2.2.2.2.2.2.1 ++ (([y7.2.2.2.2.2.2.2.2.2.2.2.2.2.2.2.2.2.2.2.2.2.2.2.2.1] : List (List zi))))).bind fun l9 =>
       some (.again (y7.1, w64 (y7.2.1 + 1), y7.2.2.1, y7.2.2.2.1, y7.2.2.2.2.1, y7.2.2.2.2.2.1, y7.2.2.2.2.2.2.1, y7.2.2.2.2.2.2.2.1, y7.2.2.2.2.2.2.2.2.1, y7.2.2.2.2.2.2.2.2.2.1, y7.2.2.2.2.2.2.2.2.2.2.1, y7.2.2.2.2.2.2.2.2.2.2.2.1, y7.2.2.2.2.2.2.2.2.2.2.2.2.1, y7.2.2.2.2.2.2.2.2.2.2.2.2.2.1, y7.2.2.2.2.2.2.2.2.2.2.2.2.2.2.1, y7.2.2.2.2.2.2.2.2.2.2.2.2.2.2.2.1, y7.2.2.2.2.2.2.2.2.2.2.2.2.2.2.2.2.1, y7.2.2.2.2.2.2.2.2.2.2.2.2.2.2.2.2.2.1, y7.2.2.2.2.2.2.2.2.2.2.2.2.2.2.2.2.2.2.1, y7.2.2.2.2.2.2.2.2.2.2.2.2.2.2.2.2.2.2.2.1, y7.2.2.2.2.2.2.2.2.2.2.2.2.2.2.2.2.2.2.2.2.1, y7.2.2.2.2.2.2.2.2.2.2.2.2.2.2.2.2.2.2.2.2.2.1, y7.2.2.2.2.2.2.2.2.2.2.2.2.2.2.2.2.2.2.2.2.2.2.1, y7.2.2.2.2.2.2.2.2.2.2.2.2.2.2.2.2.2.2.2.2.2.2.2.2.2.1, y7.2.2.2.2.2.2.2.2.2.2.2.2.2.2.2.2.2.2.2.2.2.2.2.2.2.2.1, y7.2.2.2.2.2.2.2.2.2.2.2.2.2.2.2.2.2.2.2.2.2.2.2.2.2.2.2.1, y7.2.2.2.2.2.2.2.2.2.2.2.2.2.2.2.2.2.2.2.2.2.2.2.2.2.2.2.2.1, y7.2.2.2.2.2.2.2.2.2.2.2.2.2.2.2.2.2.2.2.2.2.2.2.2.2.2.2.2.2.1, l8, l9, y7.2.2.2.2.2.2.2.2.2.2.2.2.2.2.2.2.2.2.2.2.2.2.2.2.2.2.2.2.2.2.2.2.1, ()))
       | .ret y7 =>
       some (.ret (()))
    | .ret y1 =>
    some (.ret (()))
 else
  some (.brk (s3, s4, s5, s6, s7, s8, s9, s10, s11, s12, s14, s15, s16, s17, s18, s19, s20, s21, s22, s23, s24, s25, s26, s27, s28, s29, s30, s31, ())) := by kernel_rfl
theorem zdF (s1 : Int) (s2 : Int) (s3 : Int) (s4 : Int) (s5 : Int) (s6 : Int) (s7 : Int) (s8 : Int) (s9 : Int) (s10 : Int) (s11 : Int) (s12 : Int) (s13 : BitVec 64) (s14 : zu) (s15 : Int) (s16 : Int) (s17 : Int) (s18 : Int) (s19 : Int) (s20 : Int) (s21 : Int) (s22 : Int) (s23 : Int) (s24 : BitVec 64) (s25 : List Int) (s26 : List (List Int)) (s27 : List (List Int)) (s28 : List (List zi)) (s29 : List zj) (s30 : List (List Int)) (s31 : List (List Int)) (s32 : List (List zi)) (s33 : List zj) : uu (s1, s2, s3, s4, s5, s6, s7, s8, s9, s10, s11, s12, s13, s14, s15, s16, s17, s18, s19, s20, s21, s22, s23, s24, s25, s26, s27, s28, s29, s30, s31, s32, s33, ()) =
 (zq s14).bind fun y1 =>
 bif decide (s3 < (w64 (1 + (y1.1.tmod 3)))) then
  (zq y1.2.1).bind fun y2 =>
  bif decide ((w64 (s1 + 1)) = 0) then
   none
  else
   (xj (s25 ++ (([(y2.1.tmod (w64 (s1 + 1)))] : List Int)))).bind fun l3 =>
   some (.again (s1, s2, w64 (s3 + 1), s4, s5, s6, s7, s8, s9, s10, s11, s12, s13, y2.2.1, s15, s16, s17, s18, s19, s20, s21, s22, s23, s24, l3, s26, s27, s28, s29, s30, s31, s32, s33, ()))
 else
  some (.brk (s1, s2, s4, s5, s6, s7, s8, s9, s10, s11, s12, s13, y1.2.1, s15, s16, s17, s18, s19, s20, s21, s22, s23, s24, s25, s26, s27, s28, s29, s30, s31, s32, s33, ())) := by kernel_rfl
theorem zdB (s1 : Int) (s2 : Int) (s3 : Int) (s4 : Int) (s5 : Int) (s6 : Int) (s7 : Int) (s8 : Int) (s9 : Int) (s10 : Int) (s11 : Int) (s12 : Int) (s13 : BitVec 64) (s14 : zu) (s15 : Int) (s16 : Int) (s17 : Int) (s18 : Int) (s19 : Int) (s20 : Int) (s21 : Int) (s22 : Int) (s23 : Int) (s24 : BitVec 64) (s25 : List Int) (s26 : List zi) (s27 : List (List Int)) (s28 : List (List Int)) (s29 : List (List zi)) (s30 : List zj) (s31 : List (List Int)) (s32 : List (List Int)) (s33 : List (List zi)) (s34 : List zj) : wP (s1, s2, s3, s4, s5, s6, s7, s8, s9, s10, s11, s12, s13, s14, s15, s16, s17, s18, s19, s20, s21, s22, s23, s24, s25, s26, s27, s28, s29, s30, s31, s32, s33, s34, ()) =
 bif decide (0 < s3) then
  (Zv ((s25.length : Int)) s23 s14).bind fun y1 =>
  (xj (s26 ++ ([y1.1] : List zi))).bind fun l2 =>
  some (.again (s1, s2, w64 (s3 - 1), s4, s5, s6, s7, s8, s9, s10, s11, s12, s13, y1.2.1, s15, s16, s17, s18, s19, s20, s21, s22, s23, s24, s25, l2, s27, s28, s29, s30, s31, s32, s33, s34, ()))
 else
  some (.brk (s1, s2, s4, s5, s6, s7, s8, s9, s10, s11, s12, s13, s14, s15, s16, s17, s18, s19, s20, s21, s22, s23, s24, s25, s26, s27, s28, s29, s30, s31, s32, s33, s34, ())) := by kernel_rfl
theorem zgv (a1 : List (BitVec 8)) : Vf a1 =
 (cut a1 0 (bif decide (90 < ((a1.length : Int))) then 90 else ((a1.length : Int)))).bind fun l1 =>
 (zq (zu.mk l1 0)).bind fun y2 =>
 (zq y2.2.1).bind fun y3 =>
 (zq y3.2.1).bind fun y4 =>
 (zq y4.2.1).bind fun y5 =>
 (zq y5.2.1).bind fun y6 =>
 (zq y6.2.1).bind fun y7 =>
 (zq y7.2.1).bind fun y8 =>
 (zq y8.2.1).bind fun y9 =>
 (zq y9.2.1).bind fun y10 =>
 (zq y10.2.1).bind fun y11 =>
 (z3 uW (w64 (1 + (y10.1.tmod 6)), 0, 0, 0, 0, 0, 0, 0, 0, 0, 0, 0#64, y11.2.1, w64 (1 + (y2.1.tmod 3)), y3.1.tmod 3, w64 (1 + (y4.1.tmod 3)), w64 (1 + (y5.1.tmod 2)), w64 (1 + (y6.1.tmod 3)), w64 ((w64 (1 + (y10.1.tmod 6))) + (y11.1.tmod 4)), y7.1.tmod 4, y8.1.tmod 4, w64 (1 + (y9.1.tmod 2)), 0#64, ([] : List (List Int)), ([] : List (List Int)), ([] : List (List zi)), ([] : List zj), ([] : List (List Int)), ([] : List (List Int)), ([] : List (List zi)), ([] : List zj), ())).bind fun st => match st with
   | .again _ => none
   | .brk y12 =>
   (zq y12.2.2.2.2.2.2.2.2.2.2.2.1).bind fun y13 =>
   bif decide ((w64 (y12.1 + 1)) = 0) then
    none
   else
    (Uu 0#64 (y13.1.tmod (w64 (y12.1 + 1)))).bind fun y14 =>
    (z3 uy (y12.1, 0, y12.2.1, y12.2.2.1, y12.2.2.2.1, y12.2.2.2.2.1, y12.2.2.2.2.2.1, y12.2.2.2.2.2.2.1, y12.2.2.2.2.2.2.2.1, y12.2.2.2.2.2.2.2.2.1, y12.2.2.2.2.2.2.2.2.2.1, y12.2.2.2.2.2.2.2.2.2.2.1, y13.2.1, y12.2.2.2.2.2.2.2.2.2.2.2.2.1, y12.2.2.2.2.2.2.2.2.2.2.2.2.2.1, y12.2.2.2.2.2.2.2.2.2.2.2.2.2.2.1, y12.2.2.2.2.2.2.2.2.2.2.2.2.2.2.2.1, y12.2.2.2.2.2.2.2.2.2.2.2.2.2.2.2.2.1, y12.2.2.2.2.2.2.2.2.2.2.2.2.2.2.2.2.2.1, y12.2.2.2.2.2.2.2.2.2.2.2.2.2.2.2.2.2.2.1, y12.2.2.2.2.2.2.2.2.2.2.2.2.2.2.2.2.2.2.2.1, y12.2.2.2.2.2.2.2.2.2.2.2.2.2.2.2.2.2.2.2.2.1, y14.1, y12.2.2.2.2.2.2.2.2.2.2.2.2.2.2.2.2.2.2.2.2.2.2.1, y12.2.2.2.2.2.2.2.2.2.2.2.2.2.2.2.2.2.2.2.2.2.2.2.1, y12.2.2.2.2.2.2.2.2.2.2.2.2.2.2.2.2.2.2.2.2.2.2.2.2.1, y12.2.2.2.2.2.2.2.2.2.2.2.2.2.2.2.2.2.2.2.2.2.2.2.2.2.1, y12.2.2.2.2.2.2.2.2.2.2.2.2.2.2.2.2.2.2.2.2.2.2.2.2.2.2.1, y12.2.2.2.2.2.2.2.2.2.2.2.2.2.2.2.2.2.2.2.2.2.2.2.2.2.2.2.1, y12.2.2.2.2.2.2.2.2.2.2.2.2.2.2.2.2.2.2.2.2.2.2.2.2.2.2.2.2.1, y12.2.2.2.2.2.2.2.2.2.2.2.2.2.2.2.2.2.2.2.2.2.2.2.2.2.2.2.2.2.1, ())).bind fun st => match st with
      | .again _ => none
      | .brk y15 =>
      some (zd.mk y15.2.2.2.2.2.2.2.2.2.2.1 y15.2.2.2.2.2.2.2.2.2.2.2.1 y15.2.2.2.2.2.2.2.2.2.2.2.2.1 y15.2.2.2.2.2.2.2.2.2.2.2.2.2.1 y15.2.2.2.2.2.2.2.2.2.2.2.2.2.2.1 y15.2.2.2.2.2.2.2.2.2.2.2.2.2.2.2.1 y15.2.2.2.2.2.2.2.2.2.2.2.2.2.2.2.2.1 y15.2.2.2.2.2.2.2.2.2.2.2.2.2.2.2.2.2.1 (zv.mk y15.2.2.2.2.2.2.2.2.2.2.2.2.2.2.2.2.2.2.1 y15.2.2.2.2.2.2.2.2.2.2.2.2.2.2.2.2.2.2.2.2.2.2.2.2.1) y15.2.2.2.2.2.2.2.2.2.2.2.2.2.2.2.2.2.2.2.1 y15.2.2.2.2.2.2.2.2.2.2.2.2.2.2.2.2.2.2.2.2.2.2.2.2.2.1 y15.2.2.2.2.2.2.2.2.2.2.2.2.2.2.2.2.2.2.2.2.2.2.2.2.2.2.1 y15.2.2.2.2.2.2.2.2.2.2.2.2.2.2.2.2.2.2.2.2.2.2.2.2.2.2.2.1, ())
      | .ret y15 =>
      none
   | .ret y12 =>
   none := zn (by kernel_rfl)
theorem WG (s1 : List (BitVec 8)) (s2 : Int) (s3 : Int) (s4 : zc) (s5 : Int) (s6 : Int) (s7 : Int) (s8 : Int) (s9 : Int) (s10 : Int) (s11 : Int) (s12 : Int) (s13 : Int) (s14 : BitVec 64) (s15 : Int) (s16 : zl) (s17 : Int) (s18 : Int) (s19 : Bool) (s20 : Bool) (s21 : Int) (s22 : Int) (s23 : Int) (s24 : Int) (s25 : zk) (s26 : List (List Int)) (s27 : List (List Int)) (s28 : List (List zi)) (s29 : List zj) (s30 : List (List Int)) (s31 : List (BitVec 64)) (s32 : List (List Int)) (s33 : List Int) (s34 : List Int) (s35 : List ze) (s36 : List zb) : wU (s1, s2, s3, s4, s5, s6, s7, s8, s9, s10, s11, s12, s13, s14, s15, s16, s17, s18, s19, s20, s21, s22, s23, s24, s25, s26, s27, s28, s29, s30, s31, s32, s33, s34, s35, s36, ()) =
 bif decide (s3 < ((s1.length : Int))) then
  bif decide (s3 < s2) then
   (idx s1 s3).bind fun x1 =>
   bif decide (((s4.Ws.length : Int)) = 0) then
    none
   else
    (uH s4 (w64 (1 + (((x1.toNat : Int)).tmod ((s4.Ws.length : Int)))))).bind fun y2 =>
    some (.again (s1, s2, w64 (s3 + 1), y2.1, s5, s6, s7, s8, s9, s10, s11, s12, s13, s14, s15, s16, s17, s18, s19, s20, s21, s22, s23, s24, s25, s26, s27, s28, s29, s30, s31, s32, s33, s34, s35, s36, ()))
  else
   some (.brk (s4, s5, s6, s7, s8, s9, s10, s11, s12, s13, s14, s15, s16, s17, s18, s19, s20, s21, s22, s23, s24, s25, s26, s27, s28, s29, s30, s31, s32, s33, s34, s35, s36, ()))
 else
  some (.brk (s4, s5, s6, s7, s8, s9, s10, s11, s12, s13, s14, s15, s16, s17, s18, s19, s20, s21, s22, s23, s24, s25, s26, s27, s28, s29, s30, s31, s32, s33, s34, s35, s36, ())) := by kernel_rfl
theorem zf3 (a1 : zc) (a2 : List (BitVec 8)) (a3 : Int) : Z7 a1 a2 a3 =
 (z3 wU (a2, a3, 0, a1, 0, 0, 0, 0, 0, 0, 0, 0, 0, 0#64, 0, zl.mk 0#64 0#64, 0, 0, false, false, 0, 0, 0, 0, zk.mk 0 0, ([] : List (List Int)), ([] : List (List Int)), ([] : List (List zi)), ([] : List zj), ([] : List (List Int)), ([] : List (BitVec 64)), ([] : List (List Int)), ([] : List Int), ([] : List Int), ([] : List ze), ([] : List zb), ())).bind fun st => match st with
   | .again _ => none
   | .brk y1 =>
   some (y1.1, ())
   | .ret y1 =>
   none := zn (by kernel_rfl)
theorem UO (a1 : List Int) : ui a1 =
 bif a1.isEmpty then
  zfg (
   some (([] : List Int), ())) (
   (xj (([] : List Int) ++ a1)).bind fun l1 =>
   some (l1, ()))
 else
  (xj (([] : List Int) ++ a1)).bind fun l2 =>
  some (l2, ()) := zn (by kernel_rfl)
theorem ziM (a1 : ze) : zfJ a1 =
 (yf a1.Batch).bind fun y1 =>
 some ({ a1 with Batch := y1.1 }, ()) := zn (by kernel_rfl)
theorem ZM (s1 : Int) (s2 : Int) (s3 : List ze) : wm (s1, s2, s3, ()) =
 bif decide (s2 < s1) then
  (ve s3 s2).bind fun n1 =>
  (s3[n1]?).bind fun x2 =>
  (zfJ x2).bind fun y3 =>
  (ve s3 s2).bind fun n4 =>
  some (.again (s1, w64 (s2 + 1), s3.set n4 y3.1, ()))
 else
  some (.brk (s3, ())) := by kernel_rfl
theorem zax (a1 : List ze) : uU a1 =
 bif decide (((a1.length : Int)) = ((a1.length : Int))) then
  (ZG ((a1.length : Int))).bind fun n1 =>
  bif decide (a1.length = ((List.replicate n1 (ze.mk 0 0 0 0 0 (([] : List Int)) (zh.mk 0 0 0 0 0#64 0#64 0 0) (zr.mk 0 0 0 0 0#64 0 0 0) (zx.mk 0 0 0 0 (zh.mk 0 0 0 0 0#64 0#64 0 0) (zr.mk 0 0 0 0 0#64 0 0 0) 0 0))).length)) then
   bif a1.isEmpty then
    (z3 wm (((List.replicate n1 (ze.mk 0 0 0 0 0 (([] : List Int)) (zh.mk 0 0 0 0 0#64 0#64 0 0) (zr.mk 0 0 0 0 0#64 0 0 0) (zx.mk 0 0 0 0 (zh.mk 0 0 0 0 0#64 0#64 0 0) (zr.mk 0 0 0 0 0#64 0 0 0) 0 0))).length : Int), 0, List.replicate n1 (ze.mk 0 0 0 0 0 (([] : List Int)) (zh.mk 0 0 0 0 0#64 0#64 0 0) (zr.mk 0 0 0 0 0#64 0 0 0) (zx.mk 0 0 0 0 (zh.mk 0 0 0 0 0#64 0#64 0 0) (zr.mk 0 0 0 0 0#64 0 0 0) 0 0)), ())).bind fun st => match st with
      | .again _ => none
      | .brk y2 =>
      some (y2.1, ())
      | .ret y2 =>
      none
   else
    (z3 wm ((a1.length : Int), 0, a1, ())).bind fun st => match st with
      | .again _ => none
      | .brk y3 =>
      some (y3.1, ())
      | .ret y3 =>
      none
  else
   none
 else
  none := zn (by kernel_rfl)
theorem ziS (a1 : zb) : zf2 a1 =
 (yf a1.Regs).bind fun y1 =>
 (yf a1.Buf).bind fun y2 =>
 (yf a1.Batch).bind fun y3 =>
 some ({ a1 with Regs := y1.1, Buf := y2.1, Batch := y3.1 }, ()) := zn (by kernel_rfl)
theorem Zq (s1 : Int) (s2 : Int) (s3 : List zb) : xZ (s1, s2, s3, ()) =
 bif decide (s2 < s1) then
  (ve s3 s2).bind fun n1 =>
  (s3[n1]?).bind fun x2 =>
  (zf2 x2).bind fun y3 =>
  (ve s3 s2).bind fun n4 =>
  some (.again (s1, w64 (s2 + 1), s3.set n4 y3.1, ()))
 else
  some (.brk (s3, ())) := by kernel_rfl
theorem zaj (a1 : List zb) : uA a1 =
 bif decide (((a1.length : Int)) = ((a1.length : Int))) then
  (ZG ((a1.length : Int))).bind fun n1 =>
  bif decide (a1.length = ((List.replicate n1 (zb.mk 0 0 0 0 0 0 0 0 (([] : List Int)) (([] : List Int)) (([] : List Int)) (zr.mk 0 0 0 0 0#64 0 0 0) (zx.mk 0 0 0 0 (zh.mk 0 0 0 0 0#64 0#64 0 0) (zr.mk 0 0 0 0 0#64 0 0 0) 0 0))).length)) then
   bif a1.isEmpty then
    (z3 xZ (((List.replicate n1 (zb.mk 0 0 0 0 0 0 0 0 (([] : List Int)) (([] : List Int)) (([] : List Int)) (zr.mk 0 0 0 0 0#64 0 0 0) (zx.mk 0 0 0 0 (zh.mk 0 0 0 0 0#64 0#64 0 0) (zr.mk 0 0 0 0 0#64 0 0 0) 0 0))).length : Int), 0, List.replicate n1 (zb.mk 0 0 0 0 0 0 0 0 (([] : List Int)) (([] : List Int)) (([] : List Int)) (zr.mk 0 0 0 0 0#64 0 0 0) (zx.mk 0 0 0 0 (zh.mk 0 0 0 0 0#64 0#64 0 0) (zr.mk 0 0 0 0 0#64 0 0 0) 0 0)), ())).bind fun st => match st with
      | .again _ => none
      | .brk y2 =>
      some (y2.1, ())
      | .ret y2 =>
      none
   else
    (z3 xZ ((a1.length : Int), 0, a1, ())).bind fun st => match st with
      | .again _ => none
      | .brk y3 =>
      some (y3.1, ())
      | .ret y3 =>
      none
  else
   none
 else
  none := zn (by kernel_rfl)
theorem zj4 (a1 : zc) : zdK a1 =
 (uO a1.H.Objs).bind fun y1 =>
 (yt a1.M).bind fun y2 =>
 (uO a1.Bins).bind fun y3 =>
 (yf a1.Acks).bind fun y4 =>
 (ui a1.L.Bal).bind fun y5 =>
 (uU a1.Ws).bind fun y6 =>
 (uA a1.Ms).bind fun y7 =>
 some ({ a1 with H := { a1.H with Objs := y1.1 }, M := y2.1, Bins := y3.1, Acks := y4.1, L := { a1.L with Bal := y5.1 }, Ws := y6.1, Ms := y7.1 }, ()) := zn (by kernel_rfl)
theorem zbJ (a1 : List (BitVec 8)) (a2 : List (BitVec 8)) (a3 : BitVec 8) : we a1 a2 a3 =
 (YU).bind fun y1 =>
 bif !y1.1 then
  some (false, ())
 else
  (Vf a1).bind fun y2 =>
  (zbo y2.1).bind fun y3 =>
  (Z7 y3.1 a2 250).bind fun y4 =>
  (zdK y4.1).bind fun y5 =>
  bif decide (((y4.1.Ws.length : Int)) = 0) then
   none
  else
   (uH y4.1 (w64 (1 + (((a3.toNat : Int)).tmod ((y4.1.Ws.length : Int)))))).bind fun y6 =>
   (Xc y4.1 y5.1).bind fun y7 =>
   bif !y7.1 then
    some (false, ())
   else
    bif !(decide (((y6.1.Ws.length : Int)) = ((y4.1.Ws.length : Int)))) then
     some (false, ())
    else
     bif !(decide (((y6.1.Ms.length : Int)) = ((y4.1.Ms.length : Int)))) then
      some (false, ())
     else
      (xj y6.1.Ws).bind fun l8 =>
      (idx y4.1.Ws (w64 ((w64 (1 + (((a3.toNat : Int)).tmod ((y4.1.Ws.length : Int))))) - 1))).bind fun x9 =>
      (ve l8 (w64 ((w64 (1 + (((a3.toNat : Int)).tmod ((y4.1.Ws.length : Int))))) - 1))).bind fun n10 =>
      bif y1.1 then
       (Xc ({ y6.1 with M := y4.1.M, Bins := y4.1.Bins, T := y4.1.T, Work := y4.1.Work, L := y4.1.L, Ws := l8.set n10 x9 }) y4.1).bind fun y11 =>
       some (y11.1, ())
      else
       some (false, ()) := zn (by kernel_rfl)
end Go.Pe.G

namespace Go.Pe.G
open Go.Pe
theorem zud : Go.Proofs.Tryz.prog.funcs[170]? = some Go.Proofs.Tryz.f170 := by kernel_rfl
theorem zs0 : Go.Proofs.Tryz.f170.body.isSome = true := by kernel_rfl
theorem ztf : uG Go.Proofs.Tryz.prog 170 = true := by kernel_rfl
theorem zuc : Go.Proofs.Tryz.prog.funcs[260]? = some Go.Proofs.Tryz.f260 := by kernel_rfl
theorem zsT : Go.Proofs.Tryz.f260.body.isSome = true := by kernel_rfl
theorem zth : uG Go.Proofs.Tryz.prog 260 = true := by kernel_rfl
theorem zhF (ys : List Int) (s1 : Int) (s2 : Int) (s3 : BitVec 64) : Wx ys (s1, s2, s3, ()) =
 bif !(decide (s3 = 0#64)) then
  (qTZ s3).bind fun y1 =>
  (VM ys s2 (w64 (y1.1 + 1))).bind fun _ =>
  some (.again (s1, s2 + 1, s3 &&& (s3 - 1#64), ()))
 else
  some (.brk (s1, s2, ())) := by kernel_rfl
theorem zkm (n : Int) (ys : List Int) (a1 : BitVec 64) : zj3 (W7 ys) Go.Proofs.Tryz.f260 zf5 n ((a1, ()) : (BitVec 64) × Unit) =
 (z3 (Wx ys) (n, 0, a1, ())).bind fun st => match st with
   | .again _ => none
   | .brk y1 =>
   some y1.2.1
   | .ret y1 =>
   some y1.2.1 := by kernel_rfl
theorem Zp (ys : List (List Int)) (s1 : Int) (s2 : Int) (s3 : Int) (s4 : List Int) (s5 : Int) : wb ys (s1, s2, s3, s4, s5, ()) =
 bif decide (s3 < ((s4.length : Int))) then
  (cut s4 s3 ((s4.length : Int))).bind fun l1 =>
  bif decide (s3 = 0) && decide ((w64 (s3 + (bif decide (((l1.length : Int)) < s5) then ((l1.length : Int)) else s5))) = 0) && decide ((w64 (s3 + (bif decide (((l1.length : Int)) < s5) then ((l1.length : Int)) else s5))) = 0) then
   (VM ys s2 ([] : List Int)).bind fun _ =>
   some (.again (s1, s2 + 1, w64 (s3 + s5), s4, s5, ()))
  else
   bif decide (s3 = 0) && decide ((w64 (s3 + (bif decide (((l1.length : Int)) < s5) then ((l1.length : Int)) else s5))) = ((s4.length : Int))) && decide ((w64 (s3 + (bif decide (((l1.length : Int)) < s5) then ((l1.length : Int)) else s5))) = ((s4.length : Int))) then
    (VM ys s2 s4).bind fun _ =>
    some (.again (s1, s2 + 1, w64 (s3 + s5), s4, s5, ()))
   else
    bif decide ((w64 (s3 + (bif decide (((l1.length : Int)) < s5) then ((l1.length : Int)) else s5))) = (w64 (s3 + (bif decide (((l1.length : Int)) < s5) then ((l1.length : Int)) else s5)))) then
     (cut s4 s3 (w64 (s3 + (bif decide (((l1.length : Int)) < s5) then ((l1.length : Int)) else s5)))).bind fun l2 =>
     (VM ys s2 l2).bind fun _ =>
     some (.again (s1, s2 + 1, w64 (s3 + s5), s4, s5, ()))
    else
     none
 else
  some (.brk (s1, s2, ())) := by kernel_rfl
theorem zak (n : Int) (ys : List (List Int)) (a1 : List Int) (a2 : Int) : zj3 (wp ys) Go.Proofs.Tryz.f170 YT n ((a1, a2, ()) : (List Int) × Int × Unit) =
 (z3 (wb ys) (n, 0, 0, a1, a2, ())).bind fun st => match st with
   | .again _ => none
   | .brk y1 =>
   some y1.2.1
   | .ret y1 =>
   some y1.2.1 := by kernel_rfl
end Go.Pe.G
namespace Go.Pe.G
open Go.Pe
theorem zhq {A B D : Type} (g : A → Option (yE A B D)) {o : yE Unit B D} : ∀ (k m : Nat) (x : A), uk g k x = some o → k ≤ m → uk g m x = some o
  | 0, m, x, h, _ => by cases h
  | k + 1, 0, x, h, hm => by omega
  | k + 1, m + 1, x, h, hm => by
    simp only [uk, Option.bind_eq_some_iff] at h ⊢
    obtain ⟨s, h1, h2⟩ := h
    refine ⟨s, h1, ?_⟩
    cases s with
    | again y => exact zhq g k m y h2 (by omega)
    | brk b => exact h2
    | ret c => exact h2
theorem zm2 {α : Type} (pre post : List α) (z : α) : VM (pre ++ z :: post) (pre.length : Int) z = some () := by
  unfold VM
  rw [if_pos]
  refine ⟨by omega, ?_⟩
  simp
theorem zcw (n : Int) (ys : List Int) : ∀ (f : Nat) (s : BitVec 64) (l pre : List Int), Um f s = some l → ys = pre ++ l → uk (Wx ys) f (n, (pre.length : Int), s, ()) = some (.brk (n, (ys.length : Int), ()))
  | 0, s, l, pre, h, _ => by cases h
  | f + 1, s, l, pre, h, e => by
    simp only [Um] at h
    simp only [uk, zhF]
    cases hz : decide (s = 0#64) with
    | true =>
      simp only [hz, cond_true, Option.some.injEq] at h
      subst h
      simp only [List.append_nil] at e
      subst e
      rfl
    | false =>
      simp only [hz, cond_false, Option.map_eq_some_iff] at h
      obtain ⟨l', h1, rfl⟩ := h
      have hn : VM ys (pre.length : Int) (w64 (tz s + 1)) = some () := by rw [e]; exact zm2 pre l' _
      simp only [Bool.not_false, cond_true, ztC, Option.bind_some, hn]
      have := zcw n ys f (s &&& (s - 1#64)) l' (pre ++ [w64 (tz s + 1)]) h1 (by rw [e]; simp)
      simpa using this
theorem zjG (G : Nat → Prop) (W0 : World) (hG : zqz G W0) : uL Go.Proofs.Tryz.prog G W0 260 WF := by
  obtain ⟨c, hc⟩ := Option.isSome_iff_exists.1 zsT
  refine zks (Cg := W7 []) rfl zon (fun f s hs => Oks.at (.cons _ _ _ _ zsP (zrI hG) (.skip _ _ .nil)) f s hs) rfl zqc (fun g it h => by cases h) zth zuc hc WF (Nat.le_of_ble_eq_true (by kernel_rfl)) rfl ?_
  rintro n ⟨a, ⟨⟩⟩ ys h
  have h : Um 66 a = some ys := h
  have e := zkm n ys a
  have k := zhq _ 66 YW _ (zcw n ys 66 a ys [] h rfl) (by decide)
  refine Eq.trans e ?_
  have k' : uk (Wx ys) YW (n, 0, a, ()) = some (.brk (n, (ys.length : Int), ())) := k
  rw [V9, k']
  rfl
theorem zrl {a : Int} (h : -9223372036854775808 ≤ a) (h2 : a < 9223372036854775808) : w64 a = a := by
  rw [zfP]
  omega
theorem UE (n : Int) (ys : List (List Int)) (l : List Int) (sz : Nat) (h1 : 1 ≤ sz) (h2 : sz < 1000000) (h3 : l.length < 1000000) : ∀ (f p : Nat) (pre : List (List Int)), (l.drop p).length ≤ f → ys = pre ++ uj sz f (l.drop p) → p < 2000000 →
    uk (wb ys) (f + 1) (n, (pre.length : Int), (p : Int), l, (sz : Int), ()) = some (.brk (n, (ys.length : Int), ())) := by
  intro f
  induction f with
  | zero =>
    intro p pre hf e hp
    simp only [uk, Zp]
    simp only [List.length_drop] at hf
    have : ¬ (p : Int) < (l.length : Int) := by omega
    simp only [this, decide_false, cond_false, Option.bind_some]
    simp only [uj, List.append_nil] at e
    rw [e]
  | succ f ih =>
    intro p pre hf e hp
    rw [uk, Zp]
    by_cases hlt : p < l.length
    · have hlt' : (p : Int) < (l.length : Int) := by omega
      have hcut : cut l (p : Int) (l.length : Int) = some (l.drop p) := by
        unfold cut
        have : (decide (0 ≤ (p : Int)) && decide ((p : Int) ≤ (l.length : Int)) && decide ((l.length : Int) ≤ (l.length : Int))) = true := by simp; omega
        simp only [this, cond_true]
        simp
      obtain ⟨x, r, hxr⟩ : ∃ x r, l.drop p = x :: r := by
        cases hd : l.drop p with
        | nil => have := congrArg List.length hd; simp at this; omega
        | cons x r => exact ⟨x, r, rfl⟩
      have hch : uj sz (f + 1) (l.drop p) = (l.drop p).take sz :: uj sz f (l.drop (p + sz)) := by
        rw [hxr]; simp only [uj]; rw [← hxr, List.drop_drop]
      have hm : ∃ m : Nat, (bif decide (((l.drop p).length : Int) < (sz : Int)) then (((l.drop p).length : Int)) else (sz : Int)) = (m : Int) ∧ m = min sz (l.length - p) := by
        simp only [List.length_drop]
        by_cases hs : ((l.length - p : Nat) : Int) < (sz : Int)
        · exact ⟨l.length - p, by simp only [hs, decide_true, cond_true], by omega⟩
        · exact ⟨sz, by simp only [hs, decide_false, cond_false], by omega⟩
      obtain ⟨m, hm1, hm2⟩ := hm
      have hw : w64 ((p : Int) + (m : Int)) = ((p + m : Nat) : Int) := by rw [zrl (by omega) (by omega)]; omega
      have hw2 : w64 ((p : Int) + (sz : Int)) = ((p + sz : Nat) : Int) := by rw [zrl (by omega) (by omega)]; omega
      have hne : ¬ ((p + m : Nat) : Int) = 0 := by omega
      simp only [hlt', decide_true, cond_true, hcut, Option.bind_some, hm1, hw, hw2, hne, decide_false, Bool.and_false, cond_false]
      have hn : VM ys (pre.length : Int) ((l.drop p).take sz) = some () := by rw [e, hch]; exact zm2 pre _ _
      have hcut2 : cut l (p : Int) ((p + m : Nat) : Int) = some ((l.drop p).take sz) := by
        unfold cut
        have : (decide (0 ≤ (p : Int)) && decide ((p : Int) ≤ ((p + m : Nat) : Int)) && decide (((p + m : Nat) : Int) ≤ (l.length : Int))) = true := by simp; omega
        simp only [this, cond_true]
        refine congrArg some ?_
        simp only [Int.toNat_natCast]
        rw [List.drop_take, Nat.add_sub_cancel_left, hm2]
        by_cases hs : sz ≤ l.length - p
        · rw [Nat.min_eq_left hs]
        · rw [Nat.min_eq_right (by omega), List.take_of_length_le (l := l.drop p) (by simp), List.take_of_length_le (l := l.drop p) (by simp; omega)]
      have hnext := ih (p + sz) (pre ++ [(l.drop p).take sz]) (by simp only [List.length_drop] at hf ⊢; omega) (by rw [e, hch]; simp) (by omega)
      have hlen : ((pre ++ [(l.drop p).take sz]).length : Int) = (pre.length : Int) + 1 := by simp
      rw [hlen] at hnext
      cases hfull : (decide ((p : Int) = 0) && decide (((p + m : Nat) : Int) = (l.length : Int)) && decide (((p + m : Nat) : Int) = (l.length : Int))) with
      | true =>
        simp only [cond_true]
        have hl : l = (l.drop p).take sz := ?_
        · rw [← hl] at hn
          rw [hn]
          exact hnext
        simp only [Bool.and_eq_true, decide_eq_true_eq] at hfull
        obtain ⟨⟨hp0, hpl⟩, _⟩ := hfull
        have hp00 : p = 0 := by omega
        rw [hp00, List.drop_zero, List.take_of_length_le (by omega)]
      | false =>
        simp only [cond_false, hcut2, Option.bind_some, decide_true, cond_true]
        rw [hn]
        exact hnext
    · have hnl : ¬ (p : Int) < (l.length : Int) := by omega
      have hd : l.drop p = [] := List.drop_eq_nil_of_le (by omega)
      simp only [hnl, decide_false, cond_false, Option.bind_some]
      rw [hd] at e
      simp only [uj, List.append_nil] at e
      rw [e]
theorem UV (n : Int) (ys : List (List Int)) (l : List Int) (sz : Int) (h : zdC l sz = some ys) : uk (wb ys) YW (n, 0, 0, l, sz, ()) = some (.brk (n, (ys.length : Int), ())) := by
  unfold zdC at h
  cases hc : (decide (1 ≤ sz) && decide (sz < 1000000) && decide ((l.length : Int) < 1000000)) with
  | false => simp [hc] at h
  | true =>
    simp only [hc, cond_true] at h
    injection h with h
    simp only [Bool.and_eq_true, decide_eq_true_eq] at hc
    obtain ⟨⟨c1, c2⟩, c3⟩ := hc
    have k := zhq _ (l.length + 1) YW _ (UE n ys l sz.toNat (by omega) (by omega) (by omega) l.length 0 [] (by simp) (by simpa using h.symm) (by omega)) (by unfold YW; omega)
    have hs : ((sz.toNat : Nat) : Int) = sz := by omega
    rw [hs] at k
    exact k
theorem UJ (G : Nat → Prop) (W0 : World) (hG : zqz G W0) : uL Go.Proofs.Tryz.prog G W0 170 xH := by
  obtain ⟨c, hc⟩ := Option.isSome_iff_exists.1 zs0
  refine zks (Cg := wp []) rfl zon (fun f s hs => Oks.at .nil f s hs) rfl zqc (fun g it h => by cases h) ztf zud hc xH (Nat.le_of_ble_eq_true (by kernel_rfl)) rfl (fun n x ys h => ?_)
  refine Eq.trans (zak n ys x.1 x.2.1) ?_
  rw [V9, UV n ys x.1 x.2.1 h]
  rfl
end Go.Pe.G
namespace Go.Pe.G
open Go.Pe
theorem k2 {G : Nat → Prop} {W0 : World} {f : Nat} {s : zo E} {ss r} (hs : Xt Go.Proofs.Tryz.prog G W0 f s) (h : Oks Go.Proofs.Tryz.prog G W0 ((f, ss) :: r)) (hc : uG Go.Proofs.Tryz.prog f = true := by kernel_rfl) : Oks Go.Proofs.Tryz.prog G W0 ((f, s :: ss) :: r) := .cons _ _ _ _ hc hs h
theorem k1 {G : Nat → Prop} {W0 : World} {f : Nat} {s : zo E} {r} (hs : Xt Go.Proofs.Tryz.prog G W0 f s) (h : Oks Go.Proofs.Tryz.prog G W0 r) (hc : uG Go.Proofs.Tryz.prog f = true := by kernel_rfl) : Oks Go.Proofs.Tryz.prog G W0 ((f, [s]) :: r) := .cons _ _ _ _ hc hs (.skip _ _ h)
abbrev Sd (G : Nat → Prop) (W0 : World) := Xt (E := E) Go.Proofs.Tryz.prog G W0
theorem gs {G : Nat → Prop} {W0 : World} {l : List (Nat × List (zo E))} {loops mv kept pk its} {f : FuncId} {fn : Func} {inn out : yI} {gi go : List Grp} {hi : wY E gi = inn.holes} {ho : wY E go = out.holes} (h : Oks Go.Proofs.Tryz.prog G W0 l) (h2 : Its Go.Proofs.Tryz.prog G W0 its) (hf : Go.Proofs.Tryz.prog.funcs[f]? = some fn := by kernel_rfl) (hb : fn.body.isSome = true := by kernel_rfl)
    (hk : (cf l loops mv kept pk its).kept = zcG inn.blks 0 := by kernel_rfl) (hn : Nat.ble inn.vals.length fn.ntmps = true := by kernel_rfl) : Xt Go.Proofs.Tryz.prog G W0 f (sp (cf l loops mv kept pk its) fn inn out gi go hi ho) := zrw (C := cf l loops mv kept pk its) zon (zqn h) rfl (zrZ h2) zqc hf hb hk hn
variable {G : Nat → Prop} {W0 : World} (hG : zqz G W0)
include hG
theorem zfp : Sd G W0 160 Ua := gs .nil .nil
theorem Vx : Sd G W0 253 uo := gs (k1 (zfp hG) .nil) .nil
theorem WC : Sd G W0 159 vm := gs (k1 (Vx hG) .nil) .nil
theorem zgh : Sd G W0 158 zaO := gs (k1 (WC hG) .nil) .nil
theorem W4 : Sd G W0 254 vN := gs (k1 (zgh hG) .nil) .nil
theorem Wf : Sd G W0 161 wM := gs (k1 (W4 hG) .nil) .nil
theorem zhI : Sd G W0 57 zd4 := gs (k1 (Wf hG) .nil) .nil
theorem ziu : Sd G W0 145 ze3 := gs .nil .nil
theorem ziL : Sd G W0 146 zfh := gs .nil .nil
theorem X5 : Sd G W0 164 XK := gs .nil .nil
theorem zgY : Sd G W0 165 zaV := gs (k1 (X5 hG) .nil) .nil
theorem WI : Sd G W0 253 vy := gs (k1 (zgY hG) .nil) .nil
theorem XL : Sd G W0 159 wA := gs (k1 (WI hG) .nil) .nil
theorem zen : Sd G W0 163 Vm := gs (k1 (X5 hG) .nil) .nil
theorem zgC : Sd G W0 329 zba := gs .nil .nil
theorem zh8 : Sd G W0 257 zdq := gs (k1 (zgC hG) .nil) .nil
theorem zhg : Sd G W0 256 zcj := gs (k1 (zh8 hG) .nil) .nil
theorem Xf : Sd G W0 328 wu := gs (k1 (zhg hG) .nil) .nil
theorem YB : Sd G W0 255 xN := gs (k1 (Xf hG) .nil) .nil
theorem ziz : Sd G W0 166 zfj := gs (k1 (YB hG) .nil) .nil
theorem zh4 : Sd G W0 135 zdW := gs .nil .nil
theorem zgJ : Sd G W0 259 zaR := gs (k1 (zh4 hG) .nil) .nil
theorem Yf : Sd G W0 330 xE := gs (k1 (zgJ hG) .nil) .nil
theorem Zi : Sd G W0 258 xm := gs (k1 (Yf hG) .nil) .nil
theorem zid : Sd G W0 167 zds := gs (k1 (Zi hG) .nil) .nil
theorem zho : Sd G W0 62 zdw := gs (k1 (zhI hG) (k1 (ziu hG) (k1 (ziL hG) (k1 (XL hG) (k1 (zen hG) (k1 (X5 hG) (k1 (ziz hG) (k1 (zid hG) .nil)))))))) .nil
theorem zeI : Sd G W0 174 zeB := gs .nil .nil
theorem Wq : Sd G W0 79 Uq := gs (k1 (zeI hG) .nil) .nil
theorem zlO : Sd G W0 168 zjM := gs (k1 (Wq hG) .nil) .nil
theorem zhN : Sd G W0 63 zdT := gs (k1 (zlO hG) .nil) .nil
theorem zdD : Sd G W0 169 WQ := gs .nil .nil
theorem ziA : Sd G W0 64 ze4 := gs (k1 (zdD hG) .nil) .nil
theorem zhx : Sd G W0 65 zdk := gs .nil .nil
theorem xg : Sd G W0 67 yU := gs .nil .nil
theorem W8 : Sd G W0 66 YJ := gs (k1 (xg hG) .nil) .nil
theorem zhd : Sd G W0 68 zcb := gs .nil .nil
theorem Wg : Sd G W0 69 XI := gs .nil .nil
theorem X3 : Sd G W0 70 XM := gs .nil .nil
theorem ziI : Sd G W0 71 zfv := gs .nil .nil
theorem zan : Sd G W0 72 ZV := gs .nil .nil
theorem zjf : Sd G W0 171 zgy := gs .nil .nil
theorem zli : uL Go.Proofs.Tryz.prog G W0 260 WF := zjG G W0 hG
theorem zjl : Sd G W0 73 zgU := gs (k1 (zjf hG) .nil) (.cons _ _ _ (zli hG) (.nil))
theorem ut : Sd G W0 97 xY := gs .nil .nil
theorem zji : Sd G W0 331 zgT := gs .nil .nil
theorem zjc : Sd G W0 332 zgq := gs .nil .nil
theorem zjg : Sd G W0 333 zgt := gs .nil .nil
theorem zjL : Sd G W0 334 zgE := gs .nil .nil
theorem Zh : Sd G W0 262 WE := gs (k1 (ut hG) (k1 (zji hG) (k1 (zjc hG) (k1 (zjg hG) (k1 (zjL hG) .nil))))) .nil
theorem zat : Sd G W0 172 VR := gs (k1 (Zh hG) .nil) .nil
theorem zbR : Sd G W0 173 U6 := gs .nil .nil
theorem ziy : Sd G W0 74 zfl := gs (k1 (zat hG) (k1 (zbR hG) .nil)) .nil
theorem Z5 : Sd G W0 75 YR := gs .nil .nil
theorem ZF : Sd G W0 77 ZX := gs (k1 (Z5 hG) .nil) .nil
theorem Yc : Sd G W0 76 Y2 := gs (k1 (ZF hG) .nil) .nil
theorem zam : uL Go.Proofs.Tryz.prog G W0 170 xH := UJ G W0 hG
theorem zcs : Sd G W0 16 zbi := gs (k1 (zho hG) (k1 (zhN hG) (k1 (ziA hG) (k1 (zhx hG) (k1 (W8 hG) (k1 (xg hG) (k1 (zhd hG) (k1 (Wg hG) (k1 (X3 hG) (k1 (ziI hG) (k1 (zan hG) (k1 (zjl hG) (k1 (ziy hG) (k1 (Z5 hG) (k1 (Yc hG) (k1 (ZF hG) .nil)))))))))))))))) (.cons _ _ _ (zam hG) (.nil))
theorem zbP : Sd G W0 364 UH := gs (k1 (Zh hG) .nil) .nil
theorem Yg : Sd G W0 365 Y0 := gs .nil .nil
theorem za0 : Sd G W0 335 Yn := gs (k1 (zbP hG) (k1 (Yg hG) .nil)) .nil
theorem zcn : Sd G W0 336 XA := gs (k1 (zat hG) (k1 (Yg hG) .nil)) .nil
theorem zal : Sd G W0 337 ZW := gs (k1 (zbR hG) (k1 (Zh hG) (k1 (Yg hG) .nil))) .nil
theorem Ux : Sd G W0 338 u9 := gs (k1 (zbP hG) (k1 (Yg hG) .nil)) .nil
theorem WD : Sd G W0 263 WB := gs (k1 (za0 hG) (k1 (zcn hG) (k1 (zal hG) (k1 (Ux hG) .nil)))) .nil
theorem zcf : Sd G W0 180 Xk := gs (k1 (WD hG) .nil) .nil
theorem XT : Sd G W0 187 u0 := gs .nil .nil
theorem zgF : Sd G W0 339 zaW := gs .nil .nil
theorem zgW : Sd G W0 339 zaB := gs .nil .nil
theorem zgl : Sd G W0 339 zaJ := gs .nil .nil
theorem zgj : Sd G W0 339 zaK := gs .nil .nil
theorem wg : Sd G W0 386 vr := gs (k1 (Zh hG) .nil) .nil
theorem yO : Sd G W0 387 yK := gs .nil .nil
theorem Vh : Sd G W0 366 vZ := gs (k1 (wg hG) (k1 (yO hG) .nil)) .nil
theorem va : Sd G W0 388 wy := gs .nil .nil
theorem XF : Sd G W0 389 u7 := gs .nil .nil
theorem yP : Sd G W0 390 yM := gs .nil .nil
theorem zag : Sd G W0 367 ZU := gs (k1 (wg hG) (k1 (va hG) (k1 (XF hG) (k1 (yP hG) .nil)))) .nil
theorem vS : Sd G W0 391 uC := gs (k1 (Zh hG) .nil) .nil
theorem uh : Sd G W0 392 wN := gs (k1 (XF hG) .nil) .nil
theorem zcJ : Sd G W0 368 X4 := gs (k1 (vS hG) (k1 (uh hG) .nil)) .nil
theorem V5 : Sd G W0 369 uE := gs (k1 (yO hG) (k1 (yP hG) (k1 (vS hG) .nil))) .nil
theorem zbC : Sd G W0 370 Y4 := gs (k1 (yO hG) (k1 (vS hG) .nil)) .nil
theorem zav : Sd G W0 393 VP := gs .nil .nil
theorem UA : Sd G W0 371 uV := gs (k1 (wg hG) (k1 (va hG) (k1 (zav hG) .nil))) .nil
theorem za8 : Sd G W0 372 YA := gs (k1 (wg hG) (k1 (yP hG) (k1 (uh hG) .nil))) .nil
theorem XH : Sd G W0 394 u6 := gs (k1 (Zh hG) (k1 (va hG) .nil)) .nil
theorem zah : Sd G W0 373 ZP := gs (k1 (XH hG) .nil) .nil
theorem zas : Sd G W0 374 ZN := gs (k1 (yO hG) (k1 (yP hG) (k1 (vS hG) .nil))) .nil
theorem zaz : Sd G W0 375 Yy := gs (k1 (yO hG) (k1 (yP hG) (k1 (vS hG) .nil))) .nil
theorem za5 : Sd G W0 376 Yk := gs (k1 (wg hG) (k1 (va hG) .nil)) .nil
theorem za3 : Sd G W0 377 Yu := gs (k1 (wg hG) (k1 (yO hG) (k1 (zav hG) .nil))) .nil
theorem zar : Sd G W0 378 ZO := gs (k1 (wg hG) (k1 (uh hG) .nil)) .nil
theorem Uz : Sd G W0 379 uY := gs (k1 (yP hG) (k1 (XH hG) .nil)) .nil
theorem zbH : Sd G W0 264 U4 := gs (k2 (zgF hG) (k2 (zgW hG) (k2 (zgl hG) (k2 (zgj hG) (.skip _ _ (k1 (Vh hG) (k1 (zag hG) (k1 (zcJ hG) (k1 (V5 hG) (k1 (zbC hG) (k1 (UA hG) (k1 (za8 hG) (k1 (zah hG) (k1 (zas hG) (k1 (zaz hG) (k1 (za5 hG) (k1 (za3 hG) (k1 (zar hG) (k1 (Uz hG) .nil))))))))))))))))))) .nil
theorem Uh : Sd G W0 266 Wr := gs (k1 (Wg hG) (k1 (X3 hG) .nil)) .nil
theorem Wl : Sd G W0 340 XN := gs .nil .nil
theorem Va : Sd G W0 268 YN := gs (k1 (Yc hG) (k1 (Wl hG) .nil)) .nil
theorem zb8 : Sd G W0 265 XB := gs (k1 (Z5 hG) (k1 (Uh hG) (k1 (Va hG) .nil))) .nil
theorem zcY : Sd G W0 181 Wh := gs (k1 (XT hG) (k1 (zbH hG) (k1 (zb8 hG) .nil))) .nil
theorem zbE : Sd G W0 182 Y5 := gs (k1 (Uh hG) .nil) .nil
theorem ZL : Sd G W0 267 w8 := gs .nil .nil
theorem zb9 : Sd G W0 183 Xs := gs (k1 (ZF hG) (k1 (ZL hG) (k1 (Va hG) .nil))) .nil
theorem Ul : Sd G W0 186 Ww := gs .nil .nil
theorem zeu : Sd G W0 341 Vl := gs .nil .nil
theorem zju : Sd G W0 269 zgL := gs (k1 (zeu hG) .nil) .nil
theorem zhk : Sd G W0 270 zdo := gs .nil .nil
theorem zca : Sd G W0 184 Xz := gs (k1 (Ul hG) (k1 (zju hG) (k1 (zhk hG) .nil))) .nil
theorem UD : Sd G W0 271 uR := gs .nil .nil
theorem zeA : Sd G W0 162 zex := gs (k1 (zeI hG) .nil) .nil
theorem zhD : Sd G W0 342 zdd := gs (k1 (Wq hG) (k1 (zeA hG) .nil)) .nil
theorem ww : Sd G W0 343 xU := gs (k1 (Yc hG) (k1 (ZF hG) (k1 (Wl hG) .nil))) .nil
theorem za6 : Sd G W0 272 Yr := gs (k1 (Wg hG) (k1 (X3 hG) (k1 (zhD hG) (k1 (ww hG) .nil)))) .nil
theorem zaI : Sd G W0 273 Yt := gs .nil .nil
theorem za2 : Sd G W0 274 Yw := gs (k1 (zbH hG) (k1 (ww hG) .nil)) .nil
theorem zaM : Sd G W0 275 Ym := gs (k1 (ww hG) .nil) .nil
theorem zaL : Sd G W0 276 Yl := gs (k1 (WD hG) (k1 (ww hG) .nil)) .nil
theorem zaD : Sd G W0 277 Yv := gs (k1 (Z5 hG) (k1 (Yc hG) (k1 (ZL hG) (k1 (Wl hG) .nil)))) .nil
theorem UB : Sd G W0 278 Za := gs (k1 (WD hG) .nil) .nil
theorem ziT : Sd G W0 185 zfm := gs (k1 (UD hG) (k1 (za6 hG) (k1 (zaI hG) (k1 (za2 hG) (k1 (zaM hG) (k1 (zaL hG) (k1 (zaD hG) (k1 (UB hG) .nil)))))))) .nil
theorem zkC : Sd G W0 59 zhB := gs (k1 (zeA hG) .nil) .nil
theorem ziP : Sd G W0 188 ze8 := gs (k1 (zkC hG) (k1 (Wq hG) .nil)) .nil
theorem zbT : Sd G W0 279 Y6 := gs .nil .nil
theorem zfF : Sd G W0 281 UN := gs .nil .nil
theorem zaG : Sd G W0 280 YC := gs (k1 (zfF hG) .nil) .nil
theorem zhc : Sd G W0 189 zcp := gs (k1 (zbT hG) (k1 (zaG hG) .nil)) .nil
theorem zck : Sd G W0 87 Xq := gs (k1 (zcf hG) (k1 (zcY hG) (k1 (zbE hG) (k1 (zb9 hG) (k1 (zca hG) (k1 (ziT hG) (k1 (Ul hG) (k1 (XT hG) (k1 (ziP hG) (k1 (zhc hG) .nil)))))))))) .nil
theorem ZJ : Sd G W0 88 xr := gs .nil .nil
theorem ZC : Sd G W0 19 ZY := gs (k1 (zck hG) (k1 (ZJ hG) .nil)) .nil
theorem wa : Sd G W0 105 xz := gs .nil .nil
theorem yV : Sd G W0 104 ym := gs (k1 (wa hG) .nil) .nil
theorem zcv : Sd G W0 56 zbr := gs (k1 (yV hG) .nil) .nil
theorem zcZ : Sd G W0 141 Wc := gs .nil .nil
theorem Wy : Sd G W0 143 vb := gs .nil .nil
theorem vd : Sd G W0 142 yy := gs (k1 (Wy hG) .nil) .nil
theorem Xd : Sd G W0 144 wt := gs .nil .nil
theorem ziO : Sd G W0 48 zff := gs (k1 (zcv hG) (k1 (yV hG) (k1 (zcZ hG) (k1 (vd hG) (k1 (Xd hG) .nil))))) .nil
theorem W3 : Sd G W0 204 vK := gs .nil .nil
theorem zjJ : Sd G W0 103 zgH := gs (k1 (W3 hG) .nil) .nil
theorem VA : Sd G W0 205 ul := gs .nil .nil
theorem zhf : Sd G W0 106 zb2 := gs (k1 (VA hG) .nil) .nil
theorem zcR : Sd G W0 108 X6 := gs (k1 (wa hG) .nil) .nil
theorem xD : Sd G W0 107 z5 := gs (k1 (zcR hG) .nil) .nil
theorem zaw : Sd G W0 206 Yz := gs .nil .nil
theorem zb7 : Sd G W0 110 Xr := gs (k1 (wa hG) (k1 (zaw hG) .nil)) .nil
theorem xq : Sd G W0 109 zW := gs (k1 (zb7 hG) .nil) .nil
theorem zbL : Sd G W0 24 UT := gs (k1 (ziO hG) (k1 (zcv hG) (k1 (zjJ hG) (k1 (yV hG) (k1 (wa hG) (k1 (zhf hG) (k1 (xD hG) (k1 (xq hG) .nil)))))))) .nil
theorem zdV : Sd G W0 60 Wz := gs .nil .nil
theorem zdH : Sd G W0 61 WA := gs (k1 (ZC hG) .nil) .nil
theorem zbO : Sd G W0 15 YQ := gs (k1 (zcs hG) (k1 (ZC hG) (k1 (zbL hG) (k1 (zdV hG) (k1 (zdH hG) .nil))))) .nil
theorem Zk : Sd G W0 78 wE := gs .nil .nil
theorem U9 : Sd G W0 80 Zr := gs (k1 (Zk hG) .nil) .nil
theorem zek : Sd G W0 17 Vi := gs (k1 (Zk hG) (k1 (Wq hG) (k1 (U9 hG) .nil))) .nil
theorem zeb : Sd G W0 22 WH := gs (k1 (ZC hG) .nil) .nil
theorem VH : Sd G W0 98 uf := gs .nil .nil
theorem zgG : Sd G W0 100 zaH := gs (k1 (xg hG) .nil) .nil
theorem UC : Sd G W0 99 u5 := gs (k1 (zgG hG) .nil) .nil
theorem zgM : Sd G W0 102 zaX := gs (k1 (xg hG) .nil) .nil
theorem Ub : Sd G W0 101 uD := gs (k1 (zgM hG) .nil) .nil
theorem zh7 : Sd G W0 23 zdu := gs (k1 (W8 hG) (k1 (xg hG) (k1 (ut hG) (k1 (VH hG) (k1 (UC hG) (k1 (Ub hG) .nil)))))) .nil
theorem UX : Sd G W0 4 Zz := gs (k1 (zbO hG) (k1 (zcs hG) (k1 (zek hG) (k1 (ZC hG) (k1 (zeb hG) (k1 (zh7 hG) (k1 (zbL hG) .nil))))))) .nil
end Go.Pe.G
