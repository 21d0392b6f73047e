/- Own work of this seat: G4e, G4f, EQ, G2i, GH, G3. -/
import Derived.Test.YthmdgkhilfpgfaaGreatDoorDOGa
set_option linter.unusedVariables false
set_option linter.unusedSectionVars false
set_option linter.unusedSimpArgs false
set_option linter.unnecessarySimpa false
set_option linter.deprecated false
set_option maxRecDepth 100000
namespace Go.Pe.G
open Go.Pe
theorem zf8 (a1 : zl) : WW a1 =
 bif decide (a1.Mutator.PC = 0) then
  (X7 a1).bind fun y1 =>
  some (y1.1, ())
 else
  bif decide (a1.Mutator.PC = 1) then
   (zay a1).bind fun y2 =>
   some (y2.1, ())
  else
   bif decide (a1.Mutator.PC = 2) then
    (zbJ a1).bind fun y3 =>
    some (zl.mk y3.1 (za.mk y3.2.1 y3.2.2.1 y3.2.2.2.1 y3.2.2.2.2.1 y3.2.2.2.2.2.1 y3.2.2.2.2.2.2.1 y3.2.2.2.2.2.2.2.1 y3.2.2.2.2.2.2.2.2.1 y3.2.2.2.2.2.2.2.2.2.1 y3.2.2.2.2.2.2.2.2.2.2.1 y3.2.2.2.2.2.2.2.2.2.2.2.2.2.2.2.2.1 y3.2.2.2.2.2.2.2.2.2.2.2.1 y3.2.2.2.2.2.2.2.2.2.2.2.2.1 y3.2.2.2.2.2.2.2.2.2.2.2.2.2.1 y3.2.2.2.2.2.2.2.2.2.2.2.2.2.2.1) y3.2.2.2.2.2.2.2.2.2.2.2.2.2.2.2.1, ())
   else
    bif decide (a1.Mutator.PC = 3) then
     (zaK a1).bind fun y4 =>
     some (y4.1, ())
    else
     bif decide (a1.Mutator.PC = 10) then
      (zbg a1).bind fun y5 =>
      some (y5.1, ())
     else
      bif decide (a1.Mutator.PC = 20) then
       (zb9 a1).bind fun y6 =>
       some (y6.1, ())
      else
       bif decide (a1.Mutator.PC = 21) then
        (zaA a1).bind fun y7 =>
        some (y7.1, ())
       else
        bif decide (a1.Mutator.PC = 22) then
         (Uk a1).bind fun y8 =>
         some (y8.1, ())
        else
         bif decide (a1.Mutator.PC = 23) then
          (zaB a1).bind fun y9 =>
          some (y9.1, ())
         else
          bif decide (a1.Mutator.PC = 30) then
           (zaC a1).bind fun y10 =>
           some (y10.1, ())
          else
           bif decide (a1.Mutator.PC = 31) then
            (zbj a1).bind fun y11 =>
            some (y11.1, ())
           else
            bif decide (a1.Mutator.PC = 32) then
             (zbD a1).bind fun y12 =>
             some (y12.1, ())
            else
             bif decide (a1.Mutator.PC = 33) then
              (zaL a1).bind fun y13 =>
              some (y13.1, ())
             else
              bif decide (a1.Mutator.PC = 34) then
               (zbk a1).bind fun y14 =>
               some (y14.1, ())
              else
               bif decide (a1.Mutator.PC = 35) then
                (zaw a1).bind fun y15 =>
                some (y15.1, ())
               else
                bif decide (a1.Mutator.PC = 36) then
                 (zbi a1).bind fun y16 =>
                 some (y16.1, ())
                else
                 bif decide (a1.Mutator.PC = 37) then
                  (zb7 a1).bind fun y17 =>
                  some (y17.1, ())
                 else
                  bif decide (a1.Mutator.PC = 38) then
                   (Up a1).bind fun y18 =>
                   some (y18.1, ())
                  else
                   bif decide (a1.Mutator.PC = 39) then
                    (UE a1).bind fun y19 =>
                    some (y19.1, ())
                   else
                    some (a1, ()) := zm (by kernel_rfl)
theorem XF (a1 : List zb) : wj a1 =
 bif a1.isEmpty then
  zgh (
   some (([] : List zb), ())) (
   (xV (([] : List zb) ++ a1)).bind fun l1 =>
   some (l1, ()))
 else
  (xV (([] : List zb) ++ a1)).bind fun l2 =>
  some (l2, ()) := zm (by kernel_rfl)
theorem zmy (a1 : za) (a2 : Int) : YL a1 a2 =
 bif a1.Done then
  some (a1, ())
 else
  bif decide (a2 < 1) then
   some (a1, ())
  else
   bif decide (((a1.Ms.length : Int)) < a2) then
    some (a1, ())
   else
    (idx a1.Ms (w64 (a2 - 1))).bind fun x1 =>
    (WW (zl.mk x1 a1 a2)).bind fun y2 =>
    (wj y2.1.s.Ms).bind fun y3 =>
    (yV y3.1 (w64 (a2 - 1))).bind fun n4 =>
    some ({ y2.1.s with Ms := y3.1.set n4 y2.1.Mutator }, ()) := zm (by kernel_rfl)
theorem zf9  : WF  =
 (ZN (([] : List (List zi)))).bind fun y1 =>
 (YI y1.1).bind fun y2 =>
 (YI ({ y1.1 with Roots := 0#64 })).bind fun y3 =>
 (yj y2.1 9).bind fun y4 =>
 (yj y3.1 5).bind fun y5 =>
 (yj y3.1 6).bind fun y6 =>
 (ZN (([([] : List zi)] : List (List zi)))).bind fun y7 =>
 (YI ({ y7.1 with Roots := 0#64, Regs := ([([0] : List Int)] : List (List Int)) })).bind fun y8 =>
 (yj y8.1 9).bind fun y9 =>
 (YL y9.1 1).bind fun y10 =>
 (YL y10.1 1).bind fun y11 =>
 (YL y11.1 1).bind fun y12 =>
 bif !y4.1.Done then
  bif decide (y4.1.D.PC = 1) then
   bif decide (y4.1.Epoch = 0) then
    bif !y5.1.Done then
     bif decide (y5.1.D.PC = 6) then
      bif decide (y5.1.Epoch = 1) then
       bif y6.1.Done then
        (yj y6.1 3).bind fun y13 =>
        (Zz y13.1 y6.1).bind fun y14 =>
        bif y14.1 then
         bif decide (y9.1.D.PC = 3) then
          bif decide (y9.1.Epoch = 1) then
           (yj y12.1 4).bind fun y15 =>
           bif y15.1.Done then
            (yj y9.1 4).bind fun y16 =>
            some (!y16.1.Done, ())
           else
            some (false, ())
          else
           some (false, ())
         else
          some (false, ())
        else
         some (false, ())
       else
        some (false, ())
      else
       some (false, ())
     else
      some (false, ())
    else
     some (false, ())
   else
    some (false, ())
  else
   some (false, ())
 else
  some (false, ()) := zm (by kernel_rfl)
theorem zcH (a1 : zy) : zt a1 =
 bif decide (((a1.L.length : Int)) ≤ a1.At) then
  some (0, a1, ())
 else
  (idx a1.L (w64 ((w64 (a1.At + 1)) - 1))).bind fun x1 =>
  some ((x1.toNat : Int), { a1 with At := w64 (a1.At + 1) }, ()) := zm (by kernel_rfl)
theorem zd5 (a1 : Int) (a2 : Int) (a3 : zy) : YY a1 a2 a3 =
 (zt a3).bind fun y1 =>
 (yV ([1, 1, 2, 2, 2, 3, 4, 5] : List Int) (y1.1.tmod 8)).bind fun n2 =>
 (([1, 1, 2, 2, 2, 3, 4, 5] : List Int)[n2]?).bind fun x3 =>
 (zt y1.2.1).bind fun y4 =>
 bif decide (a1 = 0) then
  none
 else
  bif decide (x3 = 1) then
   (zt y4.2.1).bind fun y5 =>
   bif decide (a1 = 0) then
    none
   else
    bif decide (x3 < 3) then
     (zt y5.2.1).bind fun y6 =>
     bif decide (a2 = 0) then
      none
     else
      some (zi.mk x3 (y4.1.tmod a1) (y5.1.tmod a1) (y6.1.tmod a2), y6.2.1, ())
    else
     some (zi.mk x3 (y4.1.tmod a1) (y5.1.tmod a1) 0, y5.2.1, ())
  else
   bif decide (x3 = 2) then
    (zt y4.2.1).bind fun y7 =>
    bif decide (a1 = 0) then
     none
    else
     bif decide (x3 < 3) then
      (zt y7.2.1).bind fun y8 =>
      bif decide (a2 = 0) then
       none
      else
       some (zi.mk x3 (y4.1.tmod a1) (y7.1.tmod a1) (y8.1.tmod a2), y8.2.1, ())
     else
      some (zi.mk x3 (y4.1.tmod a1) (y7.1.tmod a1) 0, y7.2.1, ())
   else
    bif decide (x3 = 4) then
     (zt y4.2.1).bind fun y9 =>
     bif decide (a1 = 0) then
      none
     else
      bif decide (x3 < 3) then
       (zt y9.2.1).bind fun y10 =>
       bif decide (a2 = 0) then
        none
       else
        some (zi.mk x3 (y4.1.tmod a1) (y9.1.tmod a1) (y10.1.tmod a2), y10.2.1, ())
      else
       some (zi.mk x3 (y4.1.tmod a1) (y9.1.tmod a1) 0, y9.2.1, ())
    else
     bif decide (x3 < 3) then
      (zt y4.2.1).bind fun y11 =>
      bif decide (a2 = 0) then
       none
      else
       some (zi.mk x3 (y4.1.tmod a1) 0 (y11.1.tmod a2), y11.2.1, ())
     else
      some (zi.mk x3 (y4.1.tmod a1) 0 0, y4.2.1, ()) := zm (by kernel_rfl)
theorem zhH (s1 : Int) (s2 : Int) (s3 : Int) (s4 : Int) (s5 : Int) (s6 : Int) (s7 : Int) (s8 : Int) (s9 : Int) (s10 : Int) (s11 : Int) (s12 : BitVec 64) (s13 : zy) (s14 : Int) (s15 : Int) (s16 : Int) (s17 : Int) (s18 : Int) (s19 : Int) (s20 : Int) (s21 : Int) (s22 : Int) (s23 : BitVec 64) (s24 : List (List Int)) (s25 : List (List Int)) (s26 : List (List zi)) (s27 : List zj) (s28 : List (List Int)) (s29 : List (List Int)) (s30 : List (List zi)) (s31 : List zj) : YG (s1, s2, s3, s4, s5, s6, s7, s8, s9, s10, s11, s12, s13, s14, s15, s16, s17, s18, s19, s20, s21, s22, s23, s24, s25, s26, s27, s28, s29, s30, s31, ()) =
 bif decide (s2 < s1) then
  (yo ZS (s1, s2, 0, s3, s4, s5, s6, s7, s8, s9, s10, s11, s12, s13, s14, s15, s16, s17, s18, s19, s20, s21, s22, s23, ([] : List Int), s24, s25, s26, s27, s28, s29, s30, s31, ())).bind fun st => match st with
    | .again _ => none
    | .brk y1 =>
    (xV (y1.2.2.2.2.2.2.2.2.2.2.2.2.2.2.2.2.2.2.2.2.2.2.2.2.2.2.2.2.1 ++ (([y1.2.2.2.2.2.2.2.2.2.2.2.2.2.2.2.2.2.2.2.2.2.2.2.1] : List (List Int))))).bind fun l2 =>
    some (.again (y1.1, w64 (y1.2.1 + 1), y1.2.2.1, y1.2.2.2.1, y1.2.2.2.2.1, y1.2.2.2.2.2.1, y1.2.2.2.2.2.2.1, y1.2.2.2.2.2.2.2.1, y1.2.2.2.2.2.2.2.2.1, y1.2.2.2.2.2.2.2.2.2.1, y1.2.2.2.2.2.2.2.2.2.2.1, y1.2.2.2.2.2.2.2.2.2.2.2.1, y1.2.2.2.2.2.2.2.2.2.2.2.2.1, y1.2.2.2.2.2.2.2.2.2.2.2.2.2.1, y1.2.2.2.2.2.2.2.2.2.2.2.2.2.2.1, y1.2.2.2.2.2.2.2.2.2.2.2.2.2.2.2.1, y1.2.2.2.2.2.2.2.2.2.2.2.2.2.2.2.2.1, y1.2.2.2.2.2.2.2.2.2.2.2.2.2.2.2.2.2.1, y1.2.2.2.2.2.2.2.2.2.2.2.2.2.2.2.2.2.2.1, y1.2.2.2.2.2.2.2.2.2.2.2.2.2.2.2.2.2.2.2.1, y1.2.2.2.2.2.2.2.2.2.2.2.2.2.2.2.2.2.2.2.2.1, y1.2.2.2.2.2.2.2.2.2.2.2.2.2.2.2.2.2.2.2.2.2.1, y1.2.2.2.2.2.2.2.2.2.2.2.2.2.2.2.2.2.2.2.2.2.2.1, y1.2.2.2.2.2.2.2.2.2.2.2.2.2.2.2.2.2.2.2.2.2.2.2.2.1, y1.2.2.2.2.2.2.2.2.2.2.2.2.2.2.2.2.2.2.2.2.2.2.2.2.2.1, y1.2.2.2.2.2.2.2.2.2.2.2.2.2.2.2.2.2.2.2.2.2.2.2.2.2.2.1, y1.2.2.2.2.2.2.2.2.2.2.2.2.2.2.2.2.2.2.2.2.2.2.2.2.2.2.2.1, l2, y1.2.2.2.2.2.2.2.2.2.2.2.2.2.2.2.2.2.2.2.2.2.2.2.2.2.2.2.2.2.1, y1.2.2.2.2.2.2.2.2.2.2.2.2.2.2.2.2.2.2.2.2.2.2.2.2.2.2.2.2.2.2.1, y1.2.2.2.2.2.2.2.2.2.2.2.2.2.2.2.2.2.2.2.2.2.2.2.2.2.2.2.2.2.2.2.1, ()))
    | .ret y1 =>
    some (.ret (()))
 else
  some (.brk (s1, s3, s4, s5, s6, s7, s8, s9, s10, s11, s12, s13, s14, s15, s16, s17, s18, s19, s20, s21, s22, s23, s24, s25, s26, s27, s28, s29, s30, s31, ())) := by kernel_rfl
theorem zgN (s1 : Int) (s2 : Int) (s3 : Int) (s4 : Int) (s5 : Int) (s6 : Int) (s7 : Int) (s8 : Int) (s9 : Int) (s10 : Int) (s11 : Int) (s12 : Int) (s13 : BitVec 64) (s14 : zy) (s15 : Int) (s16 : Int) (s17 : Int) (s18 : Int) (s19 : Int) (s20 : Int) (s21 : Int) (s22 : Int) (s23 : Int) (s24 : BitVec 64) (s25 : List Int) (s26 : List (List Int)) (s27 : List (List Int)) (s28 : List (List zi)) (s29 : List zj) (s30 : List (List Int)) (s31 : List (List Int)) (s32 : List (List zi)) (s33 : List zj) : ZS (s1, s2, s3, s4, s5, s6, s7, s8, s9, s10, s11, s12, s13, s14, s15, s16, s17, s18, s19, s20, s21, s22, s23, s24, s25, s26, s27, s28, s29, s30, s31, s32, s33, ()) =
 bif decide (s3 < s23) then
  (zt s14).bind fun y1 =>
  bif decide ((w64 (s1 + 1)) = 0) then
   none
  else
   (xV (s25 ++ (([(y1.1.tmod (w64 (s1 + 1)))] : List Int)))).bind fun l2 =>
   some (.again (s1, s2, w64 (s3 + 1), s4, s5, s6, s7, s8, s9, s10, s11, s12, s13, y1.2.1, s15, s16, s17, s18, s19, s20, s21, s22, s23, s24, l2, s26, s27, s28, s29, s30, s31, s32, s33, ()))
 else
  some (.brk (s1, s2, s4, s5, s6, s7, s8, s9, s10, s11, s12, s13, s14, s15, s16, s17, s18, s19, s20, s21, s22, s23, s24, s25, s26, s27, s28, s29, s30, s31, s32, s33, ())) := by kernel_rfl
theorem zgI (s1 : Int) (s2 : Int) (s3 : Int) (s4 : Int) (s5 : Int) (s6 : Int) (s7 : Int) (s8 : Int) (s9 : Int) (s10 : Int) (s11 : Int) (s12 : BitVec 64) (s13 : zy) (s14 : Int) (s15 : Int) (s16 : Int) (s17 : Int) (s18 : Int) (s19 : Int) (s20 : Int) (s21 : Int) (s22 : Int) (s23 : BitVec 64) (s24 : List (List Int)) (s25 : List (List Int)) (s26 : List (List zi)) (s27 : List zj) (s28 : List (List Int)) (s29 : List (List Int)) (s30 : List (List zi)) (s31 : List zj) : ZU (s1, s2, s3, s4, s5, s6, s7, s8, s9, s10, s11, s12, s13, s14, s15, s16, s17, s18, s19, s20, s21, s22, s23, s24, s25, s26, s27, s28, s29, s30, s31, ()) =
 bif decide (s2 < s15) then
  (yo ZV (s1, s2, 0, s3, s4, s5, s6, s7, s8, s9, s10, s11, s12, s13, s14, s15, s16, s17, s18, s19, s20, s21, s22, s23, ([] : List Int), s24, s25, s26, s27, s28, s29, s30, s31, ())).bind fun st => match st with
    | .again _ => none
    | .brk y1 =>
    bif decide (((y1.2.2.2.2.2.2.2.2.2.2.2.2.2.2.2.2.2.2.2.2.2.2.2.1.length : Int)) = 0) then
     (zt y1.2.2.2.2.2.2.2.2.2.2.2.2.1).bind fun y2 =>
     (yo uz (y1.1, y1.2.1, y2.1.tmod 8, y1.2.2.1, y1.2.2.2.1, y1.2.2.2.2.1, y1.2.2.2.2.2.1, y1.2.2.2.2.2.2.1, y1.2.2.2.2.2.2.2.1, y1.2.2.2.2.2.2.2.2.1, y1.2.2.2.2.2.2.2.2.2.1, y1.2.2.2.2.2.2.2.2.2.2.1, y1.2.2.2.2.2.2.2.2.2.2.2.1, y2.2.1, y1.2.2.2.2.2.2.2.2.2.2.2.2.2.1, y1.2.2.2.2.2.2.2.2.2.2.2.2.2.2.1, y1.2.2.2.2.2.2.2.2.2.2.2.2.2.2.2.1, y1.2.2.2.2.2.2.2.2.2.2.2.2.2.2.2.2.1, y1.2.2.2.2.2.2.2.2.2.2.2.2.2.2.2.2.2.1, y1.2.2.2.2.2.2.2.2.2.2.2.2.2.2.2.2.2.2.1, y1.2.2.2.2.2.2.2.2.2.2.2.2.2.2.2.2.2.2.2.1, y1.2.2.2.2.2.2.2.2.2.2.2.2.2.2.2.2.2.2.2.2.1, y1.2.2.2.2.2.2.2.2.2.2.2.2.2.2.2.2.2.2.2.2.2.1, y1.2.2.2.2.2.2.2.2.2.2.2.2.2.2.2.2.2.2.2.2.2.2.1, ([0] : List Int), ([] : List zi), y1.2.2.2.2.2.2.2.2.2.2.2.2.2.2.2.2.2.2.2.2.2.2.2.2.1, y1.2.2.2.2.2.2.2.2.2.2.2.2.2.2.2.2.2.2.2.2.2.2.2.2.2.1, y1.2.2.2.2.2.2.2.2.2.2.2.2.2.2.2.2.2.2.2.2.2.2.2.2.2.2.1, y1.2.2.2.2.2.2.2.2.2.2.2.2.2.2.2.2.2.2.2.2.2.2.2.2.2.2.2.1, y1.2.2.2.2.2.2.2.2.2.2.2.2.2.2.2.2.2.2.2.2.2.2.2.2.2.2.2.2.1, y1.2.2.2.2.2.2.2.2.2.2.2.2.2.2.2.2.2.2.2.2.2.2.2.2.2.2.2.2.2.1, y1.2.2.2.2.2.2.2.2.2.2.2.2.2.2.2.2.2.2.2.2.2.2.2.2.2.2.2.2.2.2.1, y1.2.2.2.2.2.2.2.2.2.2.2.2.2.2.2.2.2.2.2.2.2.2.2.2.2.2.2.2.2.2.2.1, ())).bind fun st => match st with
       | .again _ => none
       | .brk y3 =>
       (xV (y3.2.2.2.2.2.2.2.2.2.2.2.2.2.2.2.2.2.2.2.2.2.2.2.2.2.2.2.2.2.2.1 ++ (([y3.2.2.2.2.2.2.2.2.2.2.2.2.2.2.2.2.2.2.2.2.2.2.2.1] : List (List Int))))).bind fun l4 =>
       (xV (y3.2.2.2.2.2.2.2.2.2.2.2.2.2.2.2.2.2.2.2.2.2.2.2.2.2.2.2.2.2.2.2.1 ++ (([y3.2.2.2.2.2.2.2.2.2.2.2.2.2.2.2.2.2.2.2.2.2.2.2.2.1] : List (List zi))))).bind fun l5 =>
       some (.again (y3.1, w64 (y3.2.1 + 1), y3.2.2.1, y3.2.2.2.1, y3.2.2.2.2.1, y3.2.2.2.2.2.1, y3.2.2.2.2.2.2.1, y3.2.2.2.2.2.2.2.1, y3.2.2.2.2.2.2.2.2.1, y3.2.2.2.2.2.2.2.2.2.1, y3.2.2.2.2.2.2.2.2.2.2.1, y3.2.2.2.2.2.2.2.2.2.2.2.1, y3.2.2.2.2.2.2.2.2.2.2.2.2.1, y3.2.2.2.2.2.2.2.2.2.2.2.2.2.1, y3.2.2.2.2.2.2.2.2.2.2.2.2.2.2.1, y3.2.2.2.2.2.2.2.2.2.2.2.2.2.2.2.1, y3.2.2.2.2.2.2.2.2.2.2.2.2.2.2.2.2.1, y3.2.2.2.2.2.2.2.2.2.2.2.2.2.2.2.2.2.1, y3.2.2.2.2.2.2.2.2.2.2.2.2.2.2.2.2.2.2.1, y3.2.2.2.2.2.2.2.2.2.2.2.2.2.2.2.2.2.2.2.1, y3.2.2.2.2.2.2.2.2.2.2.2.2.2.2.2.2.2.2.2.2.1, y3.2.2.2.2.2.2.2.2.2.2.2.2.2.2.2.2.2.2.2.2.2.1, y3.2.2.2.2.2.2.2.2.2.2.2.2.2.2.2.2.2.2.2.2.2.2.1, y3.2.2.2.2.2.2.2.2.2.2.2.2.2.2.2.2.2.2.2.2.2.2.2.2.2.1, y3.2.2.2.2.2.2.2.2.2.2.2.2.2.2.2.2.2.2.2.2.2.2.2.2.2.2.1, y3.2.2.2.2.2.2.2.2.2.2.2.2.2.2.2.2.2.2.2.2.2.2.2.2.2.2.2.1, y3.2.2.2.2.2.2.2.2.2.2.2.2.2.2.2.2.2.2.2.2.2.2.2.2.2.2.2.2.1, y3.2.2.2.2.2.2.2.2.2.2.2.2.2.2.2.2.2.2.2.2.2.2.2.2.2.2.2.2.2.1, l4, l5, y3.2.2.2.2.2.2.2.2.2.2.2.2.2.2.2.2.2.2.2.2.2.2.2.2.2.2.2.2.2.2.2.2.1, ()))
       | .ret y3 =>
       some (.ret (()))
    else
     (zt y1.2.2.2.2.2.2.2.2.2.2.2.2.1).bind fun y6 =>
     (yo uz (y1.1, y1.2.1, y6.1.tmod 8, y1.2.2.1, y1.2.2.2.1, y1.2.2.2.2.1, y1.2.2.2.2.2.1, y1.2.2.2.2.2.2.1, y1.2.2.2.2.2.2.2.1, y1.2.2.2.2.2.2.2.2.1, y1.2.2.2.2.2.2.2.2.2.1, y1.2.2.2.2.2.2.2.2.2.2.1, y1.2.2.2.2.2.2.2.2.2.2.2.1, y6.2.1, y1.2.2.2.2.2.2.2.2.2.2.2.2.2.1, y1.2.2.2.2.2.2.2.2.2.2.2.2.2.2.1, y1.2.2.2.2.2.2.2.2.2.2.2.2.2.2.2.1, y1.2.2.2.2.2.2.2.2.2.2.2.2.2.2.2.2.1, y1.2.2.2.2.2.2.2.2.2.2.2.2.2.2.2.2.2.1, y1.2.2.2.2.2.2.2.2.2.2.2.2.2.2.2.2.2.2.1, y1.2.2.2.2.2.2.2.2.2.2.2.2.2.2.2.2.2.2.2.1, y1.2.2.2.2.2.2.2.2.2.2.2.2.2.2.2.2.2.2.2.2.1, y1.2.2.2.2.2.2.2.2.2.2.2.2.2.2.2.2.2.2.2.2.2.1, y1.2.2.2.2.2.2.2.2.2.2.2.2.2.2.2.2.2.2.2.2.2.2.1, y1.2.2.2.2.2.2.2.2.2.2.2.2.2.2.2.2.2.2.2.2.2.2.2.1, ([] : List zi), y1.2.2.2.2.2.2.2.2.2.2.2.2.2.2.2.2.2.2.2.2.2.2.2.2.1, y1.2.2.2.2.2.2.2.2.2.2.2.2.2.2.2.2.2.2.2.2.2.2.2.2.2.1, y1.2.2.2.2.2.2.2.2.2.2.2.2.2.2.2.2.2.2.2.2.2.2.2.2.2.2.1, y1.2.2.2.2.2.2.2.2.2.2.2.2.2.2.2.2.2.2.2.2.2.2.2.2.2.2.2.1, y1.2.2.2.2.2.2.2.2.2.2.2.2.2.2.2.2.2.2.2.2.2.2.2.2.2.2.2.2.1, y1.2.2.2.2.2.2.2.2.2.2.2.2.2.2.2.2.2.2.2.2.2.2.2.2.2.2.2.2.2.1, y1.2.2.2.2.2.2.2.2.2.2.2.2.2.2.2.2.2.2.2.2.2.2.2.2.2.2.2.2.2.2.1, y1.2.2.2.2.2.2.2.2.2.2.2.2.2.2.2.2.2.2.2.2.2.2.2.2.2.2.2.2.2.2.2.1, ())).bind fun st => match st with
       | .again _ => none
       | .brk y7 =>
       (xV (y7.2.2.2.2.2.2.2.2.2.2.2.2.2.2.2.2.2.2.2.2.2.2.2.2.2.2.2.2.2.2.1 ++ (([y7.2.2.2.2.2.2.2.2.2.2.2.2.2.2.2.2.2.2.2.2.2.2.2.1] : List (List Int))))).bind fun l8 =>
       (xV (y7.2.2.2.2.2.2.2.2.2.2.2.2.2.2.2.2.2.2.2.2.2.2.2.2.2.2.2.2.2.2.2.1 ++ (([y7.2.2.2.2.2.2.2.2.2.2.2.2.2.2.2.2.2.2.2.2.2.2.2.2.1] : List (List zi))))).bind fun l9 =>
       some (.again (y7.1, w64 (y7.2.1 + 1), y7.2.2.1, y7.2.2.2.1, y7.2.2.2.2.1, y7.2.2.2.2.2.1, y7.2.2.2.2.2.2.1, y7.2.2.2.2.2.2.2.1, y7.2.2.2.2.2.2.2.2.1, y7.2.2.2.2.2.2.2.2.2.1, y7.2.2.2.2.2.2.2.2.2.2.1, y7.2.2.2.2.2.2.2.2.2.2.2.1, y7.2.2.2.2.2.2.2.2.2.2.2.2.1, y7.2.2.2.2.2.2.2.2.2.2.2.2.2.1, y7.2.2.2.2.2.2.2.2.2.2.2.2.2.2.1, y7.2.2.2.2.2.2.2.2.2.2.2.2.2.2.2.1, y7.2.2.2.2.2.2.2.2.2.2.2.2.2.2.2.2.1, y7.2.2.2.2.2.2.2.2.2.2.2.2.2.2.2.2.2.1, y7.2.2.2.2.2.2.2.2.2.2.2.2.2.2.2.2.2.2.1, y7.2.2.2.2.2.2.2.2.2.2.2.2.2.2.2.2.2.2.2.1, y7.2.2.2.2.2.2.2.2.2.2.2.2.2.2.2.2.2.2.2.2.1, y7.2.2.2.2.2.2.2.2.2.2.2.2.2.2.2.2.2.2.2.2.2.1, y7.2.2.2.2.2.2.2.2.2.2.2.2.2.2.2.2.2.2.2.2.2.2.1, y7.2.2.2.2.2.2.2.2.2.2.2.2.2.2.2.2.2.2.2.2.2.2.2.2.2.1, y7.2.2.2.2.2.2.2.2.2.2.2.2.2.2.2.2.2.2.2.2.2.2.2.2.2.2.1, y7.2.2.2.2.2.2.2.2.2.2.2.2.2.2.2.2.2.2.2.2.2.2.2.2.2.2.2.1, y7.2.2.2.2.2.2.2.2.2.2.2.2.2.2.2.2.2.2.2.2.2.2.2.2.2.2.2.2.1, y7.2.2.2.2.2.2.2.2.2.2.2.2.2.2.2.2.2.2.2.2.2.2.2.2.2.2.2.2.2.1, l8, l9, y7.2.2.2.2.2.2.2.2.2.2.2.2.2.2.2.2.2.2.2.2.2.2.2.2.2.2.2.2.2.2.2.2.1, ()))
       | .ret y7 =>
       some (.ret (()))
    | .ret y1 =>
    some (.ret (()))
 else
  some (.brk (s3, s4, s5, s6, s7, s8, s9, s10, s11, s12, s14, s15, s16, s17, s18, s19, s20, s21, s22, s23, s24, s25, s26, s27, s28, s29, s30, s31, ())) := by kernel_rfl
theorem zgL (s1 : Int) (s2 : Int) (s3 : Int) (s4 : Int) (s5 : Int) (s6 : Int) (s7 : Int) (s8 : Int) (s9 : Int) (s10 : Int) (s11 : Int) (s12 : Int) (s13 : BitVec 64) (s14 : zy) (s15 : Int) (s16 : Int) (s17 : Int) (s18 : Int) (s19 : Int) (s20 : Int) (s21 : Int) (s22 : Int) (s23 : Int) (s24 : BitVec 64) (s25 : List Int) (s26 : List (List Int)) (s27 : List (List Int)) (s28 : List (List zi)) (s29 : List zj) (s30 : List (List Int)) (s31 : List (List Int)) (s32 : List (List zi)) (s33 : List zj) : ZV (s1, s2, s3, s4, s5, s6, s7, s8, s9, s10, s11, s12, s13, s14, s15, s16, s17, s18, s19, s20, s21, s22, s23, s24, s25, s26, s27, s28, s29, s30, s31, s32, s33, ()) =
 (zt s14).bind fun y1 =>
 bif decide (s3 < (w64 (1 + (y1.1.tmod 3)))) then
  (zt y1.2.1).bind fun y2 =>
  bif decide ((w64 (s1 + 1)) = 0) then
   none
  else
   (xV (s25 ++ (([(y2.1.tmod (w64 (s1 + 1)))] : List Int)))).bind fun l3 =>
   some (.again (s1, s2, w64 (s3 + 1), s4, s5, s6, s7, s8, s9, s10, s11, s12, s13, y2.2.1, s15, s16, s17, s18, s19, s20, s21, s22, s23, s24, l3, s26, s27, s28, s29, s30, s31, s32, s33, ()))
 else
  some (.brk (s1, s2, s4, s5, s6, s7, s8, s9, s10, s11, s12, s13, y1.2.1, s15, s16, s17, s18, s19, s20, s21, s22, s23, s24, s25, s26, s27, s28, s29, s30, s31, s32, s33, ())) := by kernel_rfl
theorem zgS (s1 : Int) (s2 : Int) (s3 : Int) (s4 : Int) (s5 : Int) (s6 : Int) (s7 : Int) (s8 : Int) (s9 : Int) (s10 : Int) (s11 : Int) (s12 : Int) (s13 : BitVec 64) (s14 : zy) (s15 : Int) (s16 : Int) (s17 : Int) (s18 : Int) (s19 : Int) (s20 : Int) (s21 : Int) (s22 : Int) (s23 : Int) (s24 : BitVec 64) (s25 : List Int) (s26 : List zi) (s27 : List (List Int)) (s28 : List (List Int)) (s29 : List (List zi)) (s30 : List zj) (s31 : List (List Int)) (s32 : List (List Int)) (s33 : List (List zi)) (s34 : List zj) : uz (s1, s2, s3, s4, s5, s6, s7, s8, s9, s10, s11, s12, s13, s14, s15, s16, s17, s18, s19, s20, s21, s22, s23, s24, s25, s26, s27, s28, s29, s30, s31, s32, s33, s34, ()) =
 bif decide (0 < s3) then
  (YY ((s25.length : Int)) s23 s14).bind fun y1 =>
  (xV (s26 ++ ([y1.1] : List zi))).bind fun l2 =>
  some (.again (s1, s2, w64 (s3 - 1), s4, s5, s6, s7, s8, s9, s10, s11, s12, s13, y1.2.1, s15, s16, s17, s18, s19, s20, s21, s22, s23, s24, s25, l2, s27, s28, s29, s30, s31, s32, s33, s34, ()))
 else
  some (.brk (s1, s2, s4, s5, s6, s7, s8, s9, s10, s11, s12, s13, s14, s15, s16, s17, s18, s19, s20, s21, s22, s23, s24, s25, s26, s27, s28, s29, s30, s31, s32, s33, s34, ())) := by kernel_rfl
theorem zkI (a1 : List (BitVec 8)) : U9 a1 =
 (cut a1 0 (bif decide (90 < ((a1.length : Int))) then 90 else ((a1.length : Int)))).bind fun l1 =>
 (zt (zy.mk l1 0)).bind fun y2 =>
 (zt y2.2.1).bind fun y3 =>
 (zt y3.2.1).bind fun y4 =>
 (zt y4.2.1).bind fun y5 =>
 (zt y5.2.1).bind fun y6 =>
 (zt y6.2.1).bind fun y7 =>
 (zt y7.2.1).bind fun y8 =>
 (zt y8.2.1).bind fun y9 =>
 (zt y9.2.1).bind fun y10 =>
 (zt y10.2.1).bind fun y11 =>
 (yo YG (w64 (1 + (y10.1.tmod 6)), 0, 0, 0, 0, 0, 0, 0, 0, 0, 0, 0#64, y11.2.1, w64 (1 + (y2.1.tmod 3)), y3.1.tmod 3, w64 (1 + (y4.1.tmod 3)), w64 (1 + (y5.1.tmod 2)), w64 (1 + (y6.1.tmod 3)), w64 ((w64 (1 + (y10.1.tmod 6))) + (y11.1.tmod 4)), y7.1.tmod 4, y8.1.tmod 4, w64 (1 + (y9.1.tmod 2)), 0#64, ([] : List (List Int)), ([] : List (List Int)), ([] : List (List zi)), ([] : List zj), ([] : List (List Int)), ([] : List (List Int)), ([] : List (List zi)), ([] : List zj), ())).bind fun st => match st with
   | .again _ => none
   | .brk y12 =>
   (zt y12.2.2.2.2.2.2.2.2.2.2.2.1).bind fun y13 =>
   bif decide ((w64 (y12.1 + 1)) = 0) then
    none
   else
    (zbb 0#64 (y13.1.tmod (w64 (y12.1 + 1)))).bind fun y14 =>
    (yo ZU (y12.1, 0, y12.2.1, y12.2.2.1, y12.2.2.2.1, y12.2.2.2.2.1, y12.2.2.2.2.2.1, y12.2.2.2.2.2.2.1, y12.2.2.2.2.2.2.2.1, y12.2.2.2.2.2.2.2.2.1, y12.2.2.2.2.2.2.2.2.2.1, y12.2.2.2.2.2.2.2.2.2.2.1, y13.2.1, y12.2.2.2.2.2.2.2.2.2.2.2.2.1, y12.2.2.2.2.2.2.2.2.2.2.2.2.2.1, y12.2.2.2.2.2.2.2.2.2.2.2.2.2.2.1, y12.2.2.2.2.2.2.2.2.2.2.2.2.2.2.2.1, y12.2.2.2.2.2.2.2.2.2.2.2.2.2.2.2.2.1, y12.2.2.2.2.2.2.2.2.2.2.2.2.2.2.2.2.2.1, y12.2.2.2.2.2.2.2.2.2.2.2.2.2.2.2.2.2.2.1, y12.2.2.2.2.2.2.2.2.2.2.2.2.2.2.2.2.2.2.2.1, y12.2.2.2.2.2.2.2.2.2.2.2.2.2.2.2.2.2.2.2.2.1, y14.1, y12.2.2.2.2.2.2.2.2.2.2.2.2.2.2.2.2.2.2.2.2.2.2.1, y12.2.2.2.2.2.2.2.2.2.2.2.2.2.2.2.2.2.2.2.2.2.2.2.1, y12.2.2.2.2.2.2.2.2.2.2.2.2.2.2.2.2.2.2.2.2.2.2.2.2.1, y12.2.2.2.2.2.2.2.2.2.2.2.2.2.2.2.2.2.2.2.2.2.2.2.2.2.1, y12.2.2.2.2.2.2.2.2.2.2.2.2.2.2.2.2.2.2.2.2.2.2.2.2.2.2.1, y12.2.2.2.2.2.2.2.2.2.2.2.2.2.2.2.2.2.2.2.2.2.2.2.2.2.2.2.1, y12.2.2.2.2.2.2.2.2.2.2.2.2.2.2.2.2.2.2.2.2.2.2.2.2.2.2.2.2.1, y12.2.2.2.2.2.2.2.2.2.2.2.2.2.2.2.2.2.2.2.2.2.2.2.2.2.2.2.2.2.1, ())).bind fun st => match st with
      | .again _ => none
      | .brk y15 =>
      some (zd.mk y15.2.2.2.2.2.2.2.2.2.2.1 y15.2.2.2.2.2.2.2.2.2.2.2.1 y15.2.2.2.2.2.2.2.2.2.2.2.2.1 y15.2.2.2.2.2.2.2.2.2.2.2.2.2.1 y15.2.2.2.2.2.2.2.2.2.2.2.2.2.2.1 y15.2.2.2.2.2.2.2.2.2.2.2.2.2.2.2.1 y15.2.2.2.2.2.2.2.2.2.2.2.2.2.2.2.2.1 y15.2.2.2.2.2.2.2.2.2.2.2.2.2.2.2.2.2.1 (zw.mk y15.2.2.2.2.2.2.2.2.2.2.2.2.2.2.2.2.2.2.1 y15.2.2.2.2.2.2.2.2.2.2.2.2.2.2.2.2.2.2.2.2.2.2.2.2.1) y15.2.2.2.2.2.2.2.2.2.2.2.2.2.2.2.2.2.2.2.1 y15.2.2.2.2.2.2.2.2.2.2.2.2.2.2.2.2.2.2.2.2.2.2.2.2.2.1 y15.2.2.2.2.2.2.2.2.2.2.2.2.2.2.2.2.2.2.2.2.2.2.2.2.2.2.1 y15.2.2.2.2.2.2.2.2.2.2.2.2.2.2.2.2.2.2.2.2.2.2.2.2.2.2.2.1, ())
      | .ret y15 =>
      none
   | .ret y12 =>
   none := zm (by kernel_rfl)
theorem zhm (a1 : zA) : vP a1 =
 (Xd a1.s.M a1.Worker.C).bind fun y1 =>
 some (y1.2.1.Out, zA.mk { a1.Worker with C := y1.2.1 } { a1.s with M := y1.1 } a1.w, ()) := zm (by kernel_rfl)
theorem U3 (a1 : Int) (a2 : zA) : Yz a1 a2 =
 some ({ a2 with Worker := { a2.Worker with PC := 5, Obj := a1, Slot := 0 } }, ()) := zm (by kernel_rfl)
theorem zex (a1 : Int) (a2 : Int) (a3 : zA) : zct a1 a2 a3 =
 (Vv a3.s.P a2).bind fun y1 =>
 (zaS a1 y1.1 a3.s.P.Cap 0).bind fun y2 =>
 some (y2.1, ()) := zm (by kernel_rfl)
theorem zcm (a1 : Int) (a2 : Int) (a3 : Int) (a4 : zA) : zak a1 a2 a3 a4 =
 (ZA a4.s.P).bind fun y1 =>
 (VK a1 a2 y1.1 a3).bind fun y2 =>
 some (y2.1, ()) := zm (by kernel_rfl)
theorem zhI (a1 : zA) : YD a1 =
 bif decide (((a1.s.Ws.length : Int)) = 0) then
  none
 else
  bif decide ((w64 ((a1.Worker.Victim.tmod ((a1.s.Ws.length : Int))) + 1)) = a1.w) then
   (Y1 a1.s.P).bind fun y1 =>
   (zak 2 y1.1 0 ({ a1 with Worker := { a1.Worker with Victim := w64 ((a1.Worker.Victim.tmod ((a1.s.Ws.length : Int))) + 1) } })).bind fun y2 =>
   some ({ a1 with Worker := { a1.Worker with PC := 2, Victim := w64 ((a1.Worker.Victim.tmod ((a1.s.Ws.length : Int))) + 1), C := y2.1 } }, ())
  else
   (zct 3 (w64 ((a1.Worker.Victim.tmod ((a1.s.Ws.length : Int))) + 1)) ({ a1 with Worker := { a1.Worker with Victim := w64 ((a1.Worker.Victim.tmod ((a1.s.Ws.length : Int))) + 1) } })).bind fun y3 =>
   some ({ a1 with Worker := { a1.Worker with PC := 1, Victim := w64 ((a1.Worker.Victim.tmod ((a1.s.Ws.length : Int))) + 1), D := y3.1 } }, ()) := zm (by kernel_rfl)
theorem ziI (a1 : zA) : Xo a1 =
 (Uu a1.s.M a1.Worker.D).bind fun y1 =>
 bif decide (y1.2.1.Out = 1) then
  (Yz y1.2.1.X (zA.mk { a1.Worker with Victim := a1.w, D := y1.2.1 } { a1.s with M := y1.1 } a1.w)).bind fun y2 =>
  some (y2.1, ())
 else
  bif decide (y1.2.1.Out = 4) then
   (YD (zA.mk { a1.Worker with D := y1.2.1 } { a1.s with M := y1.1 } a1.w)).bind fun y3 =>
   some (y3.1, ())
  else
   bif decide (y1.2.1.Out = 2) then
    (YD (zA.mk { a1.Worker with D := y1.2.1 } { a1.s with M := y1.1 } a1.w)).bind fun y4 =>
    some (y4.1, ())
   else
    some (zA.mk { a1.Worker with D := y1.2.1 } { a1.s with M := y1.1 } a1.w, ()) := zm (by kernel_rfl)
theorem zgm (a1 : zA) : vh a1 =
 (zct 2 a1.w a1).bind fun y1 =>
 some ({ a1 with Worker := { a1.Worker with PC := 0, Victim := a1.w, D := y1.1 } }, ()) := zm (by kernel_rfl)
theorem zhu (a1 : zA) : Vc a1 =
 (idx a1.s.Bins a1.Worker.Bin).bind fun x1 =>
 (wa a1.s.Bins).bind fun y2 =>
 (yV y2.1 a1.Worker.Bin).bind fun n3 =>
 (Z4 a1.s.P).bind fun y4 =>
 (zak 1 y4.1 a1.Worker.Bin (zA.mk { a1.Worker with Batch := x1 } { a1.s with Bins := y2.1.set n3 ([] : List Int) } a1.w)).bind fun y5 =>
 some (zA.mk { a1.Worker with PC := 4, Batch := x1, C := y5.1 } { a1.s with Bins := y2.1.set n3 ([] : List Int) } a1.w, ()) := zm (by kernel_rfl)
theorem zlY (a1 : zA) : XN a1 =
 bif decide (a1.Worker.Slot = a1.s.H.Slots) then
  some (8, ())
 else
  some (5, ()) := zm (by kernel_rfl)
theorem zhB (a1 : zA) : Vl a1 =
 (zbS a1.s.H a1.Worker.Obj a1.Worker.Slot).bind fun y1 =>
 bif decide (y1.1 = 0) then
  (XN ({ a1 with Worker := { a1.Worker with Slot := w64 (a1.Worker.Slot + 1) } })).bind fun y2 =>
  some ({ a1 with Worker := { a1.Worker with PC := y2.1, Slot := w64 (a1.Worker.Slot + 1) } }, ())
 else
  (Uo 1 y1.1 a1.w).bind fun y3 =>
  some ({ a1 with Worker := { a1.Worker with PC := 6, Slot := w64 (a1.Worker.Slot + 1), G := y3.1 } }, ()) := zm (by kernel_rfl)
end Go.Pe.G
namespace Go.Pe.G
open Go.Pe
theorem zhs (a1 : zA) : Vh a1 =
 bif decide (a1.Worker.PC = 0) then
  bif decide (a1.Worker.PC = 0) then
   (Xo a1).bind fun y1 =>
   some (y1.1, ())
  else
   bif decide (a1.Worker.PC = 2) then
    (vP a1).bind fun y2 =>
    bif decide (y2.1 = 1) then
     some ({ y2.2.1 with Worker := { y2.2.1.Worker with PC := 3, Bin := y2.2.1.Worker.C.X } }, ())
    else
     bif decide (y2.1 = 2) then
      (vh y2.2.1).bind fun y3 =>
      some (y3.1, ())
     else
      some (y2.2.1, ())
   else
    bif decide (a1.Worker.PC = 3) then
     (Vc a1).bind fun y4 =>
     some (y4.1, ())
    else
     bif decide (a1.Worker.PC = 4) then
      (vP a1).bind fun y5 =>
      bif decide (y5.1 = 1) then
       some ({ y5.2.1 with Worker := { y5.2.1.Worker with PC := 7, Bin := 0 } }, ())
      else
       some (y5.2.1, ())
     else
      bif decide (a1.Worker.PC = 5) then
       (Vl a1).bind fun y6 =>
       some (y6.1, ())
      else
       bif decide (a1.Worker.PC = 6) then
        (zaq a1.s a1.Worker.G).bind fun y7 =>
        bif decide (y7.2.1.Out = 1) then
         (XN (zA.mk { a1.Worker with G := y7.2.1 } y7.1 a1.w)).bind fun y8 =>
         some (zA.mk { a1.Worker with PC := y8.1, G := y7.2.1 } y7.1 a1.w, ())
        else
         some (zA.mk { a1.Worker with G := y7.2.1 } y7.1 a1.w, ())
       else
        bif decide (a1.Worker.PC = 7) then
         bif decide (((a1.Worker.Batch.length : Int)) = 0) then
          (vh a1).bind fun y9 =>
          some (y9.1, ())
         else
          (idx a1.Worker.Batch 0).bind fun x10 =>
          (Yz x10 a1).bind fun y11 =>
          (cut y11.1.Worker.Batch 1 ((y11.1.Worker.Batch.length : Int))).bind fun l12 =>
          some ({ y11.1 with Worker := { y11.1.Worker with Batch := l12 } }, ())
        else
         bif decide (a1.Worker.PC = 8) then
          (VS a1.s.T a1.Worker.Obj).bind fun y13 =>
          (VJ a1.s.L 0).bind fun y14 =>
          some (zA.mk { a1.Worker with PC := 9 } { a1.s with T := y13.1, L := y14.1 } a1.w, ())
         else
          bif decide (a1.Worker.PC = 9) then
           some (zA.mk { a1.Worker with PC := 7, Obj := 0 } { a1.s with Work := w64 (a1.s.Work - 1) } a1.w, ())
          else
           some (a1, ())
 else
  bif decide (a1.Worker.PC = 1) then
   (Xo a1).bind fun y15 =>
   some (y15.1, ())
  else
   bif decide (a1.Worker.PC = 2) then
    (vP a1).bind fun y16 =>
    bif decide (y16.1 = 1) then
     some ({ y16.2.1 with Worker := { y16.2.1.Worker with PC := 3, Bin := y16.2.1.Worker.C.X } }, ())
    else
     bif decide (y16.1 = 2) then
      (vh y16.2.1).bind fun y17 =>
      some (y17.1, ())
     else
      some (y16.2.1, ())
   else
    bif decide (a1.Worker.PC = 3) then
     (Vc a1).bind fun y18 =>
     some (y18.1, ())
    else
     bif decide (a1.Worker.PC = 4) then
      (vP a1).bind fun y19 =>
      bif decide (y19.1 = 1) then
       some ({ y19.2.1 with Worker := { y19.2.1.Worker with PC := 7, Bin := 0 } }, ())
      else
       some (y19.2.1, ())
     else
      bif decide (a1.Worker.PC = 5) then
       (Vl a1).bind fun y20 =>
       some (y20.1, ())
      else
       bif decide (a1.Worker.PC = 6) then
        (zaq a1.s a1.Worker.G).bind fun y21 =>
        bif decide (y21.2.1.Out = 1) then
         (XN (zA.mk { a1.Worker with G := y21.2.1 } y21.1 a1.w)).bind fun y22 =>
         some (zA.mk { a1.Worker with PC := y22.1, G := y21.2.1 } y21.1 a1.w, ())
        else
         some (zA.mk { a1.Worker with G := y21.2.1 } y21.1 a1.w, ())
       else
        bif decide (a1.Worker.PC = 7) then
         bif decide (((a1.Worker.Batch.length : Int)) = 0) then
          (vh a1).bind fun y23 =>
          some (y23.1, ())
         else
          (idx a1.Worker.Batch 0).bind fun x24 =>
          (Yz x24 a1).bind fun y25 =>
          (cut y25.1.Worker.Batch 1 ((y25.1.Worker.Batch.length : Int))).bind fun l26 =>
          some ({ y25.1 with Worker := { y25.1.Worker with Batch := l26 } }, ())
        else
         bif decide (a1.Worker.PC = 8) then
          (VS a1.s.T a1.Worker.Obj).bind fun y27 =>
          (VJ a1.s.L 0).bind fun y28 =>
          some (zA.mk { a1.Worker with PC := 9 } { a1.s with T := y27.1, L := y28.1 } a1.w, ())
         else
          bif decide (a1.Worker.PC = 9) then
           some (zA.mk { a1.Worker with PC := 7, Obj := 0 } { a1.s with Work := w64 (a1.s.Work - 1) } a1.w, ())
          else
           some (a1, ()) := zm (by kernel_rfl)
theorem X6 (a1 : List ze) : wE a1 =
 bif a1.isEmpty then
  zgh (
   some (([] : List ze), ())) (
   (xV (([] : List ze) ++ a1)).bind fun l1 =>
   some (l1, ()))
 else
  (xV (([] : List ze) ++ a1)).bind fun l2 =>
  some (l2, ()) := zm (by kernel_rfl)
theorem zn0 (a1 : za) (a2 : Int) : zeN a1 a2 =
 bif a1.Done then
  some (a1, ())
 else
  bif decide (a2 < 1) then
   some (a1, ())
  else
   bif decide (((a1.Ws.length : Int)) < a2) then
    some (a1, ())
   else
    (idx a1.Ws (w64 (a2 - 1))).bind fun x1 =>
    (Vh (zA.mk x1 a1 a2)).bind fun y2 =>
    (wE y2.1.s.Ws).bind fun y3 =>
    (yV y3.1 (w64 (a2 - 1))).bind fun n4 =>
    some ({ y2.1.s with Ws := y3.1.set n4 y2.1.Worker }, ()) := zm (by kernel_rfl)
theorem zkp (a1 : za) (a2 : BitVec 8) : zaf a1 a2 =
 bif decide ((w64 ((w64 (1 + ((a1.Ws.length : Int)))) + ((a1.Ms.length : Int)))) = 0) then
  none
 else
  bif decide ((((a2.toNat : Int)).tmod (w64 ((w64 (1 + ((a1.Ws.length : Int)))) + ((a1.Ms.length : Int))))) = 0) then
   (VF a1).bind fun y1 =>
   some (y1.1, ())
  else
   bif decide ((((a2.toNat : Int)).tmod (w64 ((w64 (1 + ((a1.Ws.length : Int)))) + ((a1.Ms.length : Int))))) ≤ ((a1.Ws.length : Int))) then
    (zeN a1 (((a2.toNat : Int)).tmod (w64 ((w64 (1 + ((a1.Ws.length : Int)))) + ((a1.Ms.length : Int)))))).bind fun y2 =>
    some (y2.1, ())
   else
    (YL a1 (w64 ((((a2.toNat : Int)).tmod (w64 ((w64 (1 + ((a1.Ws.length : Int)))) + ((a1.Ms.length : Int))))) - ((a1.Ws.length : Int))))).bind fun y3 =>
    some (y3.1, ()) := zm (by kernel_rfl)
theorem zb8 (a1 : List Int) : ZF a1 =
 bif a1.isEmpty then
  zgh (
   some (([] : List Int), ())) (
   (xV (([] : List Int) ++ a1)).bind fun l1 =>
   some (l1, ()))
 else
  (xV (([] : List Int) ++ a1)).bind fun l2 =>
  some (l2, ()) := zm (by kernel_rfl)
theorem zmE (a1 : ze) : zjS a1 =
 (z5 a1.Batch).bind fun y1 =>
 some ({ a1 with Batch := y1.1 }, ()) := zm (by kernel_rfl)
theorem vD (s1 : Int) (s2 : Int) (s3 : List ze) : yR (s1, s2, s3, ()) =
 bif decide (s2 < s1) then
  (yV s3 s2).bind fun n1 =>
  (s3[n1]?).bind fun x2 =>
  (zjS x2).bind fun y3 =>
  (yV s3 s2).bind fun n4 =>
  some (.again (s1, w64 (s2 + 1), s3.set n4 y3.1, ()))
 else
  some (.brk (s3, ())) := by kernel_rfl
theorem Wm (a1 : List ze) : wD a1 =
 bif decide (((a1.length : Int)) = ((a1.length : Int))) then
  (Zh ((a1.length : Int))).bind fun n1 =>
  bif decide (a1.length = ((List.replicate n1 (ze.mk 0 0 0 0 0 (([] : List Int)) (zh.mk 0 0 0 0 0#64 0#64 0 0) (zu.mk 0 0 0 0 0#64 0 0 0) (zB.mk 0 0 0 0 (zh.mk 0 0 0 0 0#64 0#64 0 0) (zu.mk 0 0 0 0 0#64 0 0 0) 0 0))).length)) then
   bif a1.isEmpty then
    (yo yR (((List.replicate n1 (ze.mk 0 0 0 0 0 (([] : List Int)) (zh.mk 0 0 0 0 0#64 0#64 0 0) (zu.mk 0 0 0 0 0#64 0 0 0) (zB.mk 0 0 0 0 (zh.mk 0 0 0 0 0#64 0#64 0 0) (zu.mk 0 0 0 0 0#64 0 0 0) 0 0))).length : Int), 0, List.replicate n1 (ze.mk 0 0 0 0 0 (([] : List Int)) (zh.mk 0 0 0 0 0#64 0#64 0 0) (zu.mk 0 0 0 0 0#64 0 0 0) (zB.mk 0 0 0 0 (zh.mk 0 0 0 0 0#64 0#64 0 0) (zu.mk 0 0 0 0 0#64 0 0 0) 0 0)), ())).bind fun st => match st with
      | .again _ => none
      | .brk y2 =>
      some (y2.1, ())
      | .ret y2 =>
      none
   else
    (yo yR ((a1.length : Int), 0, a1, ())).bind fun st => match st with
      | .again _ => none
      | .brk y3 =>
      some (y3.1, ())
      | .ret y3 =>
      none
  else
   none
 else
  none := zm (by kernel_rfl)
theorem zmL (a1 : zb) : zjy a1 =
 (z5 a1.Regs).bind fun y1 =>
 (z5 a1.Buf).bind fun y2 =>
 (z5 a1.Batch).bind fun y3 =>
 some ({ a1 with Regs := y1.1, Buf := y2.1, Batch := y3.1 }, ()) := zm (by kernel_rfl)
theorem vy (s1 : Int) (s2 : Int) (s3 : List zb) : yP (s1, s2, s3, ()) =
 bif decide (s2 < s1) then
  (yV s3 s2).bind fun n1 =>
  (s3[n1]?).bind fun x2 =>
  (zjy x2).bind fun y3 =>
  (yV s3 s2).bind fun n4 =>
  some (.again (s1, w64 (s2 + 1), s3.set n4 y3.1, ()))
 else
  some (.brk (s3, ())) := by kernel_rfl
theorem XQ (a1 : List zb) : wx a1 =
 bif decide (((a1.length : Int)) = ((a1.length : Int))) then
  (Zh ((a1.length : Int))).bind fun n1 =>
  bif decide (a1.length = ((List.replicate n1 (zb.mk 0 0 0 0 0 0 0 0 (([] : List Int)) (([] : List Int)) (([] : List Int)) (zu.mk 0 0 0 0 0#64 0 0 0) (zB.mk 0 0 0 0 (zh.mk 0 0 0 0 0#64 0#64 0 0) (zu.mk 0 0 0 0 0#64 0 0 0) 0 0))).length)) then
   bif a1.isEmpty then
    (yo yP (((List.replicate n1 (zb.mk 0 0 0 0 0 0 0 0 (([] : List Int)) (([] : List Int)) (([] : List Int)) (zu.mk 0 0 0 0 0#64 0 0 0) (zB.mk 0 0 0 0 (zh.mk 0 0 0 0 0#64 0#64 0 0) (zu.mk 0 0 0 0 0#64 0 0 0) 0 0))).length : Int), 0, List.replicate n1 (zb.mk 0 0 0 0 0 0 0 0 (([] : List Int)) (([] : List Int)) (([] : List Int)) (zu.mk 0 0 0 0 0#64 0 0 0) (zB.mk 0 0 0 0 (zh.mk 0 0 0 0 0#64 0#64 0 0) (zu.mk 0 0 0 0 0#64 0 0 0) 0 0)), ())).bind fun st => match st with
      | .again _ => none
      | .brk y2 =>
      some (y2.1, ())
      | .ret y2 =>
      none
   else
    (yo yP ((a1.length : Int), 0, a1, ())).bind fun st => match st with
      | .again _ => none
      | .brk y3 =>
      some (y3.1, ())
      | .ret y3 =>
      none
  else
   none
 else
  none := zm (by kernel_rfl)
theorem zoR (a1 : za) : zhi a1 =
 (yJ a1.H.Objs).bind fun y1 =>
 (yL a1.M).bind fun y2 =>
 (yJ a1.Bins).bind fun y3 =>
 (z5 a1.Acks).bind fun y4 =>
 (ZF a1.L.Bal).bind fun y5 =>
 (wD a1.Ws).bind fun y6 =>
 (wx a1.Ms).bind fun y7 =>
 some ({ a1 with H := { a1.H with Objs := y1.1 }, M := y2.1, Bins := y3.1, Acks := y4.1, L := { a1.L with Bal := y5.1 }, Ws := y6.1, Ms := y7.1 }, ()) := zm (by kernel_rfl)
theorem zcx (s1 : List (BitVec 8)) (s2 : Bool) (s3 : Int) (s4 : za) : Z9 (s1, s2, s3, s4, ()) =
 bif decide (s3 < ((s1.length : Int))) then
  bif decide (s3 < 250) then
   (idx s1 s3).bind fun x1 =>
   (zaf s4 x1).bind fun y2 =>
   some (.again (s1, s2, w64 (s3 + 1), y2.1, ()))
  else
   some (.brk (s2, s4, ()))
 else
  some (.brk (s2, s4, ())) := by kernel_rfl
theorem zeC (a1 : List (BitVec 8)) (a2 : List (BitVec 8)) : vR a1 a2 =
 (WF).bind fun y1 =>
 bif !y1.1 then
  some (false, ())
 else
  (U9 a1).bind fun y2 =>
  (YI y2.1).bind fun y3 =>
  (yo Z9 (a2, y1.1, 0, y3.1, ())).bind fun st => match st with
    | .again _ => none
    | .brk y4 =>
    (zhi y4.2.1).bind fun y5 =>
    (VF y4.2.1).bind fun y6 =>
    (Zz y4.2.1 y5.1).bind fun y7 =>
    bif !y7.1 then
     some (false, ())
    else
     bif y6.1.Flag then
      bif !y4.2.1.Flag then
       some (false, ())
      else
       bif decide (y6.1.Epoch < y4.2.1.Epoch) then
        some (false, ())
       else
        bif decide ((w64 (y4.2.1.Epoch + 1)) < y6.1.Epoch) then
         some (false, ())
        else
         bif decide (y6.1.Restarts < y4.2.1.Restarts) then
          some (false, ())
         else
          bif decide ((w64 (y4.2.1.Restarts + 1)) < y6.1.Restarts) then
           some (false, ())
          else
           bif y4.2.1.Done then
            bif !y6.1.Done then
             some (false, ())
            else
             bif y4.1 then
              (Zz ({ y6.1 with Epoch := y4.2.1.Epoch, Flag := y4.2.1.Flag, Done := y4.2.1.Done, Restarts := y4.2.1.Restarts, D := y4.2.1.D }) y4.2.1).bind fun y8 =>
              some (y8.1, ())
             else
              some (false, ())
           else
            bif y4.1 then
             (Zz ({ y6.1 with Epoch := y4.2.1.Epoch, Flag := y4.2.1.Flag, Done := y4.2.1.Done, Restarts := y4.2.1.Restarts, D := y4.2.1.D }) y4.2.1).bind fun y9 =>
             some (y9.1, ())
            else
             some (false, ())
     else
      bif decide (y6.1.Epoch < y4.2.1.Epoch) then
       some (false, ())
      else
       bif decide ((w64 (y4.2.1.Epoch + 1)) < y6.1.Epoch) then
        some (false, ())
       else
        bif decide (y6.1.Restarts < y4.2.1.Restarts) then
         some (false, ())
        else
         bif decide ((w64 (y4.2.1.Restarts + 1)) < y6.1.Restarts) then
          some (false, ())
         else
          bif y4.2.1.Done then
           bif !y6.1.Done then
            some (false, ())
           else
            bif y4.1 then
             (Zz ({ y6.1 with Epoch := y4.2.1.Epoch, Flag := y4.2.1.Flag, Done := y4.2.1.Done, Restarts := y4.2.1.Restarts, D := y4.2.1.D }) y4.2.1).bind fun y10 =>
             some (y10.1, ())
            else
             some (false, ())
          else
           bif y4.1 then
            (Zz ({ y6.1 with Epoch := y4.2.1.Epoch, Flag := y4.2.1.Flag, Done := y4.2.1.Done, Restarts := y4.2.1.Restarts, D := y4.2.1.D }) y4.2.1).bind fun y11 =>
            some (y11.1, ())
           else
            some (false, ())
    | .ret y4 =>
    none := zm (by kernel_rfl)
end Go.Pe.G

namespace Go.Pe.G
open Go.Pe
theorem zyQ : Go.Proofs.Tryz.prog.funcs[75]? = some Go.Proofs.Tryz.f75 := by kernel_rfl
theorem zx9 : Go.Proofs.Tryz.f75.body.isSome = true := by kernel_rfl
theorem zyd : Z2 Go.Proofs.Tryz.prog 75 = true := by kernel_rfl
theorem zyI : Go.Proofs.Tryz.prog.funcs[119]? = some Go.Proofs.Tryz.f119 := by kernel_rfl
theorem zxs : Go.Proofs.Tryz.f119.body.isSome = true := by kernel_rfl
theorem zxq : Z2 Go.Proofs.Tryz.prog 119 = true := by kernel_rfl
theorem zl5 (ys : List Int) (s1 : Int) (s2 : Int) (s3 : BitVec 64) : Ua ys (s1, s2, s3, ()) =
 bif !(decide (s3 = 0#64)) then
  (qTZ s3).bind fun y1 =>
  (zaE ys s2 (w64 (y1.1 + 1))).bind fun _ =>
  some (.again (s1, s2 + 1, s3 &&& (s3 - 1#64), ()))
 else
  some (.brk (s1, s2, ())) := by kernel_rfl
theorem zpc (n : Int) (ys : List Int) (a1 : BitVec 64) : zoZ (UJ ys) Go.Proofs.Tryz.f119 zjn n ((a1, ()) : (BitVec 64) × Unit) =
 (yo (Ua ys) (n, 0, a1, ())).bind fun st => match st with
   | .again _ => none
   | .brk y1 =>
   some y1.2.1
   | .ret y1 =>
   some y1.2.1 := by kernel_rfl
theorem Xg (ys : List (List Int)) (s1 : Int) (s2 : Int) (s3 : Int) (s4 : List Int) (s5 : Int) : vn ys (s1, s2, s3, s4, s5, ()) =
 bif decide (s3 < ((s4.length : Int))) then
  (cut s4 s3 ((s4.length : Int))).bind fun l1 =>
  bif decide (s3 = 0) && decide ((w64 (s3 + (bif decide (((l1.length : Int)) < s5) then ((l1.length : Int)) else s5))) = 0) && decide ((w64 (s3 + (bif decide (((l1.length : Int)) < s5) then ((l1.length : Int)) else s5))) = 0) then
   (zaE ys s2 ([] : List Int)).bind fun _ =>
   some (.again (s1, s2 + 1, w64 (s3 + s5), s4, s5, ()))
  else
   bif decide (s3 = 0) && decide ((w64 (s3 + (bif decide (((l1.length : Int)) < s5) then ((l1.length : Int)) else s5))) = ((s4.length : Int))) && decide ((w64 (s3 + (bif decide (((l1.length : Int)) < s5) then ((l1.length : Int)) else s5))) = ((s4.length : Int))) then
    (zaE ys s2 s4).bind fun _ =>
    some (.again (s1, s2 + 1, w64 (s3 + s5), s4, s5, ()))
   else
    bif decide ((w64 (s3 + (bif decide (((l1.length : Int)) < s5) then ((l1.length : Int)) else s5))) = (w64 (s3 + (bif decide (((l1.length : Int)) < s5) then ((l1.length : Int)) else s5)))) then
     (cut s4 s3 (w64 (s3 + (bif decide (((l1.length : Int)) < s5) then ((l1.length : Int)) else s5)))).bind fun l2 =>
     (zaE ys s2 l2).bind fun _ =>
     some (.again (s1, s2 + 1, w64 (s3 + s5), s4, s5, ()))
    else
     none
 else
  some (.brk (s1, s2, ())) := by kernel_rfl
theorem zcB (n : Int) (ys : List (List Int)) (a1 : List Int) (a2 : Int) : zoZ (vH ys) Go.Proofs.Tryz.f75 WS n ((a1, a2, ()) : (List Int) × Int × Unit) =
 (yo (vn ys) (n, 0, 0, a1, a2, ())).bind fun st => match st with
   | .again _ => none
   | .brk y1 =>
   some y1.2.1
   | .ret y1 =>
   some y1.2.1 := by kernel_rfl
end Go.Pe.G
namespace Go.Pe.G
open Go.Pe
theorem zlS {A B D : Type} (g : A → Option (y0 A B D)) {o : y0 Unit B D} : ∀ (k m : Nat) (x : A), uR g k x = some o → k ≤ m → uR g m x = some o
  | 0, m, x, h, _ => by cases h
  | k + 1, 0, x, h, hm => by omega
  | k + 1, m + 1, x, h, hm => by
    simp only [uR, Option.bind_eq_some_iff] at h ⊢
    obtain ⟨s, h1, h2⟩ := h
    refine ⟨s, h1, ?_⟩
    cases s with
    | again y => exact zlS g k m y h2 (by omega)
    | brk b => exact h2
    | ret c => exact h2
theorem zra {α : Type} (pre post : List α) (z : α) : zaE (pre ++ z :: post) (pre.length : Int) z = some () := by
  unfold zaE
  rw [if_pos]
  refine ⟨by omega, ?_⟩
  simp
theorem zfd (n : Int) (ys : List Int) : ∀ (f : Nat) (s : BitVec 64) (l pre : List Int), zbm f s = some l → ys = pre ++ l → uR (Ua ys) f (n, (pre.length : Int), s, ()) = some (.brk (n, (ys.length : Int), ()))
  | 0, s, l, pre, h, _ => by cases h
  | f + 1, s, l, pre, h, e => by
    simp only [zbm] at h
    simp only [uR, zl5]
    cases hz : decide (s = 0#64) with
    | true =>
      simp only [hz, cond_true, Option.some.injEq] at h
      subst h
      simp only [List.append_nil] at e
      subst e
      rfl
    | false =>
      simp only [hz, cond_false, Option.map_eq_some_iff] at h
      obtain ⟨l', h1, rfl⟩ := h
      have hn : zaE ys (pre.length : Int) (w64 (tz s + 1)) = some () := by rw [e]; exact zra pre l' _
      simp only [Bool.not_false, cond_true, zye, Option.bind_some, hn]
      have := zfd n ys f (s &&& (s - 1#64)) l' (pre ++ [w64 (tz s + 1)]) h1 (by rw [e]; simp)
      simpa using this
theorem znT (G : Nat → Prop) (W0 : World) (hG : zva G W0) : Yh Go.Proofs.Tryz.prog G W0 119 Ux := by
  obtain ⟨c, hc⟩ := Option.isSome_iff_exists.1 zxs
  refine zoz (Cg := UJ []) rfl zsk (fun f s hs => Oks.at (.cons _ _ _ _ zxH (zv3 hG) (.skip _ _ .nil)) f s hs) rfl zuZ (fun g it h => by cases h) zxq zyI hc Ux (Nat.le_of_ble_eq_true (by kernel_rfl)) rfl ?_
  rintro n ⟨a, ⟨⟩⟩ ys h
  have h : zbm 66 a = some ys := h
  have e := zpc n ys a
  have k := zlS _ 66 Wz _ (zfd n ys 66 a ys [] h rfl) (by decide)
  refine Eq.trans e ?_
  have k' : uR (Ua ys) Wz (n, 0, a, ()) = some (.brk (n, (ys.length : Int), ())) := k
  rw [Uv, k']
  rfl
theorem zvL {a : Int} (h : -9223372036854775808 ≤ a) (h2 : a < 9223372036854775808) : w64 a = a := by
  rw [zjO]
  omega
theorem zbC (n : Int) (ys : List (List Int)) (l : List Int) (sz : Nat) (h1 : 1 ≤ sz) (h2 : sz < 1000000) (h3 : l.length < 1000000) : ∀ (f p : Nat) (pre : List (List Int)), (l.drop p).length ≤ f → ys = pre ++ ZC sz f (l.drop p) → p < 2000000 →
    uR (vn ys) (f + 1) (n, (pre.length : Int), (p : Int), l, (sz : Int), ()) = some (.brk (n, (ys.length : Int), ())) := by
  intro f
  induction f with
  | zero =>
    intro p pre hf e hp
    simp only [uR, Xg]
    simp only [List.length_drop] at hf
    have : ¬ (p : Int) < (l.length : Int) := by omega
    simp only [this, decide_false, cond_false, Option.bind_some]
    simp only [ZC, List.append_nil] at e
    rw [e]
  | succ f ih =>
    intro p pre hf e hp
    rw [uR, Xg]
    by_cases hlt : p < l.length
    · have hlt' : (p : Int) < (l.length : Int) := by omega
      have hcut : cut l (p : Int) (l.length : Int) = some (l.drop p) := by
        unfold cut
        have : (decide (0 ≤ (p : Int)) && decide ((p : Int) ≤ (l.length : Int)) && decide ((l.length : Int) ≤ (l.length : Int))) = true := by simp; omega
        simp only [this, cond_true]
        simp
      obtain ⟨x, r, hxr⟩ : ∃ x r, l.drop p = x :: r := by
        cases hd : l.drop p with
        | nil => have := congrArg List.length hd; simp at this; omega
        | cons x r => exact ⟨x, r, rfl⟩
      have hch : ZC sz (f + 1) (l.drop p) = (l.drop p).take sz :: ZC sz f (l.drop (p + sz)) := by
        rw [hxr]; simp only [ZC]; rw [← hxr, List.drop_drop]
      have hm : ∃ m : Nat, (bif decide (((l.drop p).length : Int) < (sz : Int)) then (((l.drop p).length : Int)) else (sz : Int)) = (m : Int) ∧ m = min sz (l.length - p) := by
        simp only [List.length_drop]
        by_cases hs : ((l.length - p : Nat) : Int) < (sz : Int)
        · exact ⟨l.length - p, by simp only [hs, decide_true, cond_true], by omega⟩
        · exact ⟨sz, by simp only [hs, decide_false, cond_false], by omega⟩
      obtain ⟨m, hm1, hm2⟩ := hm
      have hw : w64 ((p : Int) + (m : Int)) = ((p + m : Nat) : Int) := by rw [zvL (by omega) (by omega)]; omega
      have hw2 : w64 ((p : Int) + (sz : Int)) = ((p + sz : Nat) : Int) := by rw [zvL (by omega) (by omega)]; omega
      have hne : ¬ ((p + m : Nat) : Int) = 0 := by omega
      simp only [hlt', decide_true, cond_true, hcut, Option.bind_some, hm1, hw, hw2, hne, decide_false, Bool.and_false, cond_false]
      have hn : zaE ys (pre.length : Int) ((l.drop p).take sz) = some () := by rw [e, hch]; exact zra pre _ _
      have hcut2 : cut l (p : Int) ((p + m : Nat) : Int) = some ((l.drop p).take sz) := by
        unfold cut
        have : (decide (0 ≤ (p : Int)) && decide ((p : Int) ≤ ((p + m : Nat) : Int)) && decide (((p + m : Nat) : Int) ≤ (l.length : Int))) = true := by simp; omega
        simp only [this, cond_true]
        refine congrArg some ?_
        simp only [Int.toNat_natCast]
        rw [List.drop_take, Nat.add_sub_cancel_left, hm2]
        by_cases hs : sz ≤ l.length - p
        · rw [Nat.min_eq_left hs]
        · rw [Nat.min_eq_right (by omega), List.take_of_length_le (l := l.drop p) (by simp), List.take_of_length_le (l := l.drop p) (by simp; omega)]
      have hnext := ih (p + sz) (pre ++ [(l.drop p).take sz]) (by simp only [List.length_drop] at hf ⊢; omega) (by rw [e, hch]; simp) (by omega)
      have hlen : ((pre ++ [(l.drop p).take sz]).length : Int) = (pre.length : Int) + 1 := by simp
      rw [hlen] at hnext
      cases hfull : (decide ((p : Int) = 0) && decide (((p + m : Nat) : Int) = (l.length : Int)) && decide (((p + m : Nat) : Int) = (l.length : Int))) with
      | true =>
        simp only [cond_true]
        have hl : l = (l.drop p).take sz := ?_
        · rw [← hl] at hn
          rw [hn]
          exact hnext
        simp only [Bool.and_eq_true, decide_eq_true_eq] at hfull
        obtain ⟨⟨hp0, hpl⟩, _⟩ := hfull
        have hp00 : p = 0 := by omega
        rw [hp00, List.drop_zero, List.take_of_length_le (by omega)]
      | false =>
        simp only [cond_false, hcut2, Option.bind_some, decide_true, cond_true]
        rw [hn]
        exact hnext
    · have hnl : ¬ (p : Int) < (l.length : Int) := by omega
      have hd : l.drop p = [] := List.drop_eq_nil_of_le (by omega)
      simp only [hnl, decide_false, cond_false, Option.bind_some]
      rw [hd] at e
      simp only [ZC, List.append_nil] at e
      rw [e]
theorem zb6 (n : Int) (ys : List (List Int)) (l : List Int) (sz : Int) (h : zg5 l sz = some ys) : uR (vn ys) Wz (n, 0, 0, l, sz, ()) = some (.brk (n, (ys.length : Int), ())) := by
  unfold zg5 at h
  cases hc : (decide (1 ≤ sz) && decide (sz < 1000000) && decide ((l.length : Int) < 1000000)) with
  | false => simp [hc] at h
  | true =>
    simp only [hc, cond_true] at h
    injection h with h
    simp only [Bool.and_eq_true, decide_eq_true_eq] at hc
    obtain ⟨⟨c1, c2⟩, c3⟩ := hc
    have k := zlS _ (l.length + 1) Wz _ (zbC n ys l sz.toNat (by omega) (by omega) (by omega) l.length 0 [] (by simp) (by simpa using h.symm) (by omega)) (by unfold Wz; omega)
    have hs : ((sz.toNat : Nat) : Int) = sz := by omega
    rw [hs] at k
    exact k
theorem zbG (G : Nat → Prop) (W0 : World) (hG : zva G W0) : Yh Go.Proofs.Tryz.prog G W0 75 wU := by
  obtain ⟨c, hc⟩ := Option.isSome_iff_exists.1 zx9
  refine zoz (Cg := vH []) rfl zsk (fun f s hs => Oks.at .nil f s hs) rfl zuZ (fun g it h => by cases h) zyd zyQ hc wU (Nat.le_of_ble_eq_true (by kernel_rfl)) rfl (fun n x ys h => ?_)
  refine Eq.trans (zcB n ys x.1 x.2.1) ?_
  rw [Uv, zb6 n ys x.1 x.2.1 h]
  rfl
end Go.Pe.G
namespace Go.Pe.G
open Go.Pe
theorem k2 {G : Nat → Prop} {W0 : World} {f : Nat} {s : zo E} {ss r} (hs : Vo Go.Proofs.Tryz.prog G W0 f s) (h : Oks Go.Proofs.Tryz.prog G W0 ((f, ss) :: r)) (hc : Z2 Go.Proofs.Tryz.prog f = true := by kernel_rfl) : Oks Go.Proofs.Tryz.prog G W0 ((f, s :: ss) :: r) := .cons _ _ _ _ hc hs h
theorem k1 {G : Nat → Prop} {W0 : World} {f : Nat} {s : zo E} {r} (hs : Vo Go.Proofs.Tryz.prog G W0 f s) (h : Oks Go.Proofs.Tryz.prog G W0 r) (hc : Z2 Go.Proofs.Tryz.prog f = true := by kernel_rfl) : Oks Go.Proofs.Tryz.prog G W0 ((f, [s]) :: r) := .cons _ _ _ _ hc hs (.skip _ _ h)
abbrev Sd (G : Nat → Prop) (W0 : World) := Vo (E := E) Go.Proofs.Tryz.prog G W0
theorem gs {G : Nat → Prop} {W0 : World} {l : List (Nat × List (zo E))} {loops mv kept pk its} {f : FuncId} {fn : Func} {inn out : xp} {gi go : List Grp} {hi : uD E gi = inn.holes} {ho : uD E go = out.holes} (h : Oks Go.Proofs.Tryz.prog G W0 l) (h2 : Its Go.Proofs.Tryz.prog G W0 its) (hf : Go.Proofs.Tryz.prog.funcs[f]? = some fn := by kernel_rfl) (hb : fn.body.isSome = true := by kernel_rfl)
    (hk : (cf l loops mv kept pk its).kept = zfR inn.blks 0 := by kernel_rfl) (hn : Nat.ble inn.vals.length fn.ntmps = true := by kernel_rfl) : Vo Go.Proofs.Tryz.prog G W0 f (sp (cf l loops mv kept pk its) fn inn out gi go hi ho) := zv0 (C := cf l loops mv kept pk its) zsk (zuV h) rfl (zv9 h2) zuZ hf hb hk hn
variable {G : Nat → Prop} {W0 : World} (hG : zva G W0)
include hG
theorem zmF : Sd G W0 17 zi3 := gs .nil .nil
theorem V7 : Sd G W0 68 Vy := gs .nil .nil
theorem zht : Sd G W0 66 zab := gs (k1 (V7 hG) .nil) .nil
theorem zi4 : Sd G W0 110 zaV := gs .nil .nil
theorem Yl : Sd G W0 112 xX := gs (k1 (zi4 hG) .nil) .nil
theorem ZL : Sd G W0 70 xG := gs (k1 (Yl hG) .nil) .nil
theorem zjW : Sd G W0 109 zc3 := gs (k1 (ZL hG) .nil) .nil
theorem Yj : Sd G W0 150 xW := gs (k1 (zjW hG) .nil) .nil
theorem ZM : Sd G W0 111 xF := gs (k1 (Yj hG) .nil) .nil
theorem zew : Sd G W0 67 zb5 := gs (k1 (ZM hG) .nil) .nil
theorem zmJ : Sd G W0 69 ziy := gs .nil .nil
theorem zkn : Sd G W0 71 zc1 := gs (k1 (V7 hG) .nil) .nil
theorem YN : Sd G W0 112 wp := gs (k1 (zkn hG) .nil) .nil
theorem Z5 : Sd G W0 70 xS := gs (k1 (YN hG) .nil) .nil
theorem zki : Sd G W0 152 zcM := gs .nil .nil
theorem zmi : Sd G W0 115 zgg := gs (k1 (zki hG) .nil) .nil
theorem zk3 : Sd G W0 114 zeB := gs (k1 (zmi hG) .nil) .nil
theorem Zs : Sd G W0 151 xl := gs (k1 (zk3 hG) .nil) .nil
theorem u5 : Sd G W0 113 yW := gs (k1 (Zs hG) .nil) .nil
theorem zmO : Sd G W0 72 ziW := gs (k1 (u5 hG) .nil) .nil
theorem zlo : Sd G W0 118 zgB := gs .nil .nil
theorem zj0 : Sd G W0 117 zdh := gs (k1 (zlo hG) .nil) .nil
theorem uL : Sd G W0 153 yQ := gs (k1 (zj0 hG) .nil) .nil
theorem ul : Sd G W0 116 yM := gs (k1 (uL hG) .nil) .nil
theorem zlj : Sd G W0 73 zg0 := gs (k1 (ul hG) .nil) .nil
theorem zlI : Sd G W0 23 zgj := gs (k1 (zmF hG) (k1 (zht hG) (k1 (zew hG) (k1 (V7 hG) (k1 (zmJ hG) (k1 (Z5 hG) (k1 (zmO hG) (k1 (zlj hG) .nil)))))))) .nil
theorem zh5 : Sd G W0 79 zh0 := gs .nil .nil
theorem Ui : Sd G W0 40 zbc := gs (k1 (zh5 hG) .nil) .nil
theorem zqI : Sd G W0 15 zn1 := gs (k1 (Ui hG) .nil) .nil
theorem zlv : Sd G W0 24 zgW := gs (k1 (zqI hG) .nil) .nil
theorem zgz : Sd G W0 74 Uz := gs .nil .nil
theorem zmK : Sd G W0 25 ziK := gs (k1 (zgz hG) .nil) .nil
theorem zlh : Sd G W0 26 zf7 := gs .nil .nil
theorem yr : Sd G W0 28 yz := gs .nil .nil
theorem vp : Sd G W0 27 yX := gs (k1 (yr hG) .nil) .nil
theorem zkZ : Sd G W0 29 zeD := gs .nil .nil
theorem V1 : Sd G W0 30 VA := gs .nil .nil
theorem VW : Sd G W0 31 VD := gs .nil .nil
theorem zmT : Sd G W0 32 zi9 := gs .nil .nil
theorem zcv : Sd G W0 33 XE := gs .nil .nil
theorem znt : Sd G W0 76 zj3 := gs .nil .nil
theorem zpo : Yh Go.Proofs.Tryz.prog G W0 119 Ux := znT G W0 hG
theorem znN : Sd G W0 34 zkc := gs (k1 (znt hG) .nil) (.cons _ _ _ (zpo hG) (.nil))
theorem ZY : Sd G W0 43 vl := gs .nil .nil
theorem znX : Sd G W0 154 zkC := gs .nil .nil
theorem zn3 : Sd G W0 155 zkK := gs .nil .nil
theorem znm : Sd G W0 156 zkt := gs .nil .nil
theorem znF : Sd G W0 157 zkL := gs .nil .nil
theorem YP : Sd G W0 121 UC := gs (k1 (ZY hG) (k1 (znX hG) (k1 (zn3 hG) (k1 (znm hG) (k1 (znF hG) .nil))))) .nil
theorem zcK : Sd G W0 77 zaR := gs (k1 (YP hG) .nil) .nil
theorem zee : Sd G W0 78 zbR := gs .nil .nil
theorem zmN : Sd G W0 35 zja := gs (k1 (zcK hG) (k1 (zee hG) .nil)) .nil
theorem ZH : Sd G W0 36 YT := gs .nil .nil
theorem Zj : Sd G W0 38 Yb := gs (k1 (ZH hG) .nil) .nil
theorem ZE : Sd G W0 37 YR := gs (k1 (Zj hG) .nil) .nil
theorem zcI : Yh Go.Proofs.Tryz.prog G W0 75 wU := zbG G W0 hG
theorem zff : Sd G W0 8 zdH := gs (k1 (zlI hG) (k1 (zlv hG) (k1 (zmK hG) (k1 (zlh hG) (k1 (vp hG) (k1 (yr hG) (k1 (zkZ hG) (k1 (V1 hG) (k1 (VW hG) (k1 (zmT hG) (k1 (zcv hG) (k1 (znN hG) (k1 (zmN hG) (k1 (ZH hG) (k1 (ZE hG) (k1 (Zj hG) .nil)))))))))))))))) (.cons _ _ _ (zcI hG) (.nil))
theorem vm : Sd G W0 54 wJ := gs .nil .nil
theorem yx : Sd G W0 53 zN := gs (k1 (vm hG) .nil) .nil
theorem zfc : Sd G W0 51 zdK := gs (k1 (yx hG) .nil) .nil
theorem zfu : Sd G W0 82 VX := gs .nil .nil
theorem Um : Sd G W0 84 uH := gs .nil .nil
theorem xJ : Sd G W0 83 zZ := gs (k1 (Um hG) .nil) .nil
theorem W2 : Sd G W0 85 vN := gs .nil .nil
theorem zmP : Sd G W0 50 ziO := gs (k1 (zfc hG) (k1 (yx hG) (k1 (zfu hG) (k1 (xJ hG) (k1 (W2 hG) .nil))))) .nil
theorem UV : Sd G W0 86 Zd := gs .nil .nil
theorem znv : Sd G W0 52 zjT := gs (k1 (UV hG) .nil) .nil
theorem zal : Sd G W0 87 ZB := gs .nil .nil
theorem zk9 : Sd G W0 55 zeW := gs (k1 (zal hG) .nil) .nil
theorem zfU : Sd G W0 57 V6 := gs (k1 (vm hG) .nil) .nil
theorem xw : Sd G W0 56 zT := gs (k1 (zfU hG) .nil) .nil
theorem zdk : Sd G W0 88 X8 := gs .nil .nil
theorem zeJ : Sd G W0 59 W7 := gs (k1 (vm hG) (k1 (zdk hG) .nil)) .nil
theorem xe : Sd G W0 58 zM := gs (k1 (zeJ hG) .nil) .nil
theorem zet : Sd G W0 13 zcq := gs (k1 (zmP hG) (k1 (zfc hG) (k1 (znv hG) (k1 (yx hG) (k1 (vm hG) (k1 (zk9 hG) (k1 (xw hG) (k1 (xe hG) .nil)))))))) .nil
theorem zgq : Sd G W0 20 UA := gs .nil .nil
theorem zhy : Sd G W0 49 zag := gs .nil .nil
theorem V3 : Sd G W0 12 VE := gs (k1 (zhy hG) .nil) .nil
theorem zha : Sd G W0 21 Ut := gs (k1 (V3 hG) .nil) .nil
theorem wZ : Sd G W0 132 vv := gs .nil .nil
theorem vW : Sd G W0 137 vi := gs .nil .nil
theorem Z8 : Sd G W0 133 uT := gs (k1 (yr hG) (k1 (vW hG) .nil)) .nil
theorem zcY : Sd G W0 90 X9 := gs (k1 (wZ hG) (k1 (Z8 hG) .nil)) .nil
theorem Uq : Sd G W0 134 Uy := gs .nil .nil
theorem zdm : Sd G W0 91 Wj := gs (k1 (Uq hG) .nil) .nil
theorem ze7 : Sd G W0 92 Vf := gs (k1 (yr hG) .nil) .nil
theorem zbw : Sd G W0 162 Yn := gs .nil .nil
theorem zhX : Sd G W0 89 zh8 := gs (k1 (zh5 hG) .nil) .nil
theorem zec : Sd G W0 177 zbV := gs (k1 (Ui hG) (k1 (zhX hG) .nil)) .nil
theorem Xn : Sd G W0 180 XH := gs .nil .nil
theorem vX : Sd G W0 186 vk := gs (k1 (ZE hG) (k1 (Zj hG) (k1 (Xn hG) .nil))) .nil
theorem zc4 : Sd G W0 163 Wl := gs (k1 (V1 hG) (k1 (VW hG) (k1 (zec hG) (k1 (vX hG) .nil)))) .nil
theorem zdf : Sd G W0 164 Wk := gs .nil .nil
theorem zkF : Sd G W0 185 zdi := gs .nil .nil
theorem zkf : Sd G W0 185 zcQ := gs .nil .nil
theorem zkb : Sd G W0 185 zdu := gs .nil .nil
theorem zj1 : Sd G W0 185 zdv := gs .nil .nil
theorem vu : Sd G W0 203 uO := gs (k1 (YP hG) .nil) .nil
theorem xA : Sd G W0 204 xy := gs .nil .nil
theorem U8 : Sd G W0 189 Zq := gs (k1 (vu hG) (k1 (xA hG) .nil)) .nil
theorem uE : Sd G W0 205 uc := gs .nil .nil
theorem VL : Sd G W0 206 YH := gs .nil .nil
theorem xz : Sd G W0 207 xt := gs .nil .nil
theorem zcF : Sd G W0 190 Xw := gs (k1 (vu hG) (k1 (uE hG) (k1 (VL hG) (k1 (xz hG) .nil)))) .nil
theorem Zm : Sd G W0 208 Yc := gs (k1 (YP hG) .nil) .nil
theorem ZI : Sd G W0 209 ut := gs (k1 (VL hG) .nil) .nil
theorem zfX : Sd G W0 191 V4 := gs (k1 (Zm hG) (k1 (ZI hG) .nil)) .nil
theorem zaX : Sd G W0 192 Z7 := gs (k1 (xA hG) (k1 (xz hG) (k1 (Zm hG) .nil))) .nil
theorem zed : Sd G W0 193 WM := gs (k1 (xA hG) (k1 (Zm hG) .nil)) .nil
theorem zcL : Sd G W0 210 zaU := gs .nil .nil
theorem zby : Sd G W0 194 YB := gs (k1 (vu hG) (k1 (uE hG) (k1 (zcL hG) .nil))) .nil
theorem zde : Sd G W0 195 XY := gs (k1 (vu hG) (k1 (xz hG) (k1 (ZI hG) .nil))) .nil
theorem VH : Sd G W0 211 Yt := gs (k1 (YP hG) (k1 (uE hG) .nil)) .nil
theorem zcC : Sd G W0 196 Xy := gs (k1 (VH hG) .nil) .nil
theorem zcA : Sd G W0 197 Xx := gs (k1 (xA hG) (k1 (xz hG) (k1 (Zm hG) .nil))) .nil
theorem zdt : Sd G W0 198 XZ := gs (k1 (xA hG) (k1 (xz hG) (k1 (Zm hG) .nil))) .nil
theorem zcO : Sd G W0 199 X4 := gs (k1 (vu hG) (k1 (uE hG) .nil)) .nil
theorem zdy : Sd G W0 200 Wg := gs (k1 (vu hG) (k1 (xA hG) (k1 (zcL hG) .nil))) .nil
theorem zcy : Sd G W0 201 Xz := gs (k1 (vu hG) (k1 (ZI hG) .nil)) .nil
theorem zbv : Sd G W0 202 Yy := gs (k1 (xz hG) (k1 (VH hG) .nil)) .nil
theorem zer : Sd G W0 158 zb2 := gs (k2 (zkF hG) (k2 (zkf hG) (k2 (zkb hG) (k2 (zj1 hG) (.skip _ _ (k1 (U8 hG) (k1 (zcF hG) (k1 (zfX hG) (k1 (zaX hG) (k1 (zed hG) (k1 (zby hG) (k1 (zde hG) (k1 (zcC hG) (k1 (zcA hG) (k1 (zdt hG) (k1 (zcO hG) (k1 (zdy hG) (k1 (zcy hG) (k1 (zbv hG) .nil))))))))))))))))))) .nil
theorem zda : Sd G W0 165 Wn := gs (k1 (zer hG) (k1 (vX hG) .nil)) .nil
theorem zdj : Sd G W0 166 X2 := gs (k1 (vX hG) .nil) .nil
theorem zd0 : Sd G W0 187 zb1 := gs (k1 (YP hG) .nil) .nil
theorem XO : Sd G W0 188 WP := gs .nil .nil
theorem zcU : Sd G W0 181 X1 := gs (k1 (zd0 hG) (k1 (XO hG) .nil)) .nil
theorem ze6 : Sd G W0 182 Vp := gs (k1 (zcK hG) (k1 (XO hG) .nil)) .nil
theorem zcw : Sd G W0 183 Xv := gs (k1 (zee hG) (k1 (YP hG) (k1 (XO hG) .nil))) .nil
theorem zbx : Sd G W0 184 Yv := gs (k1 (zd0 hG) (k1 (XO hG) .nil)) .nil
theorem ZJ : Sd G W0 146 Y3 := gs (k1 (zcU hG) (k1 (ze6 hG) (k1 (zcw hG) (k1 (zbx hG) .nil)))) .nil
theorem zdo : Sd G W0 167 X5 := gs (k1 (ZJ hG) (k1 (vX hG) .nil)) .nil
theorem wW : Sd G W0 147 wb := gs .nil .nil
theorem zdw : Sd G W0 168 Wc := gs (k1 (ZH hG) (k1 (ZE hG) (k1 (wW hG) (k1 (Xn hG) .nil)))) .nil
theorem zbA : Sd G W0 169 YE := gs (k1 (ZJ hG) .nil) .nil
theorem zfg : Sd G W0 127 zdO := gs (k1 (zbw hG) (k1 (zc4 hG) (k1 (zdf hG) (k1 (zda hG) (k1 (zdj hG) (k1 (zdo hG) (k1 (zdw hG) (k1 (zbA hG) .nil)))))))) .nil
theorem Wq : Sd G W0 135 Zi := gs (k1 (zfg hG) .nil) .nil
theorem zcP : Sd G W0 93 X0 := gs (k1 (Wq hG) .nil) .nil
theorem U2 : Sd G W0 173 Wy := gs .nil .nil
theorem za3 : Sd G W0 148 zci := gs (k1 (U2 hG) .nil) .nil
theorem UB : Sd G W0 136 XM := gs (k1 (wZ hG) (k1 (za3 hG) .nil)) .nil
theorem zeu : Sd G W0 94 WO := gs (k1 (wZ hG) (k1 (Z8 hG) (k1 (UB hG) .nil))) .nil
theorem zeK : Sd G W0 95 Vm := gs (k1 (wZ hG) (k1 (UB hG) (k1 (vW hG) .nil))) .nil
theorem zih : Sd G W0 138 zik := gs (k1 (zhX hG) .nil) .nil
theorem zcT : Sd G W0 96 Wi := gs (k1 (zih hG) .nil) .nil
theorem zbB : Sd G W0 97 Yr := gs (k1 (yr hG) .nil) .nil
theorem znn : Sd G W0 139 zkg := gs (k1 (yr hG) (k1 (wW hG) (k1 (U2 hG) .nil))) .nil
theorem zdB : Sd G W0 98 Wf := gs (k1 (wZ hG) (k1 (vW hG) (k1 (znn hG) .nil))) .nil
theorem ziM : Sd G W0 175 za1 := gs .nil .nil
theorem Xs : Sd G W0 171 wM := gs (k1 (ziM hG) .nil) .nil
theorem ZG : Sd G W0 170 ux := gs .nil .nil
theorem WB : Sd G W0 179 Zu := gs (k1 (ZG hG) .nil) .nil
theorem zev : Sd G W0 174 zbK := gs (k1 (WB hG) .nil) .nil
theorem zjV : Sd G W0 140 zcS := gs (k1 (Xs hG) (k1 (zev hG) .nil)) .nil
theorem zbE : Sd G W0 176 Xj := gs .nil .nil
theorem zlB : Sd G W0 141 zg6 := gs (k1 (zew hG) (k1 (zbE hG) .nil)) .nil
theorem zaj : Sd G W0 130 zaJ := gs (k1 (Ui hG) (k1 (zih hG) .nil)) .nil
theorem zlV : Sd G W0 142 zhd := gs (k1 (zaj hG) (k1 (zec hG) .nil)) .nil
theorem zdg : Sd G W0 99 Wh := gs (k1 (wZ hG) (k1 (Z8 hG) (k1 (vW hG) (k1 (zjV hG) (k1 (zlB hG) (k1 (zlV hG) .nil)))))) .nil
theorem zjp : Sd G W0 178 zch := gs .nil .nil
theorem XR : Sd G W0 171 wV := gs (k1 (zjp hG) .nil) .nil
theorem zk6 : Sd G W0 143 zeS := gs (k1 (ZG hG) (k1 (XR hG) .nil)) .nil
theorem zkG : Sd G W0 144 zdx := gs (k1 (zev hG) (k1 (WB hG) .nil)) .nil
theorem W4 : Sd G W0 145 ZX := gs (k1 (ZE hG) (k1 (Xn hG) .nil)) .nil
theorem zej : Sd G W0 100 WY := gs (k1 (ZH hG) (k1 (zk6 hG) (k1 (zkG hG) (k1 (W4 hG) .nil)))) .nil
theorem ze5 : Sd G W0 101 W6 := gs (k1 (ZJ hG) .nil) .nil
theorem zdn : Sd G W0 102 X3 := gs (k1 (Zj hG) (k1 (W4 hG) (k1 (wW hG) .nil))) .nil
theorem zef : Sd G W0 103 WC := gs (k1 (ZJ hG) .nil) .nil
theorem zcN : Sd G W0 104 We := gs .nil .nil
theorem zau : Sd G W0 149 Vt := gs .nil .nil
theorem zek : Sd G W0 105 WT := gs (k1 (Uq hG) (k1 (za3 hG) (k1 (zau hG) .nil))) .nil
theorem zey : Sd G W0 106 Vk := gs (k1 (Wq hG) (k1 (zau hG) .nil)) .nil
theorem zjN : Sd G W0 172 zbM := gs .nil .nil
theorem XT : Sd G W0 171 wS := gs (k1 (zjN hG) .nil) .nil
theorem zcJ : Sd G W0 131 zaT := gs (k1 (ZG hG) (k1 (XT hG) .nil)) .nil
theorem zbI : Sd G W0 107 Y9 := gs (k1 (zaj hG) (k1 (zcJ hG) .nil)) .nil
theorem zcc : Sd G W0 108 Y7 := gs .nil .nil
theorem zeg : Sd G W0 64 WK := gs (k1 (zcY hG) (k1 (zdm hG) (k1 (ze7 hG) (k1 (zcP hG) (k1 (zeu hG) (k1 (zeK hG) (k1 (zcT hG) (k1 (zbB hG) (k1 (zdB hG) (k1 (zdg hG) (k1 (zej hG) (k1 (ze5 hG) (k1 (zdn hG) (k1 (zef hG) (k1 (zcN hG) (k1 (zek hG) (k1 (zey hG) (k1 (zbI hG) (k1 (zcc hG) .nil))))))))))))))))))) .nil
theorem YM : Sd G W0 65 wn := gs .nil .nil
theorem zbT : Sd G W0 22 UX := gs (k1 (zeg hG) (k1 (YM hG) .nil)) .nil
theorem zd8 : Sd G W0 7 WU := gs (k1 (zff hG) (k1 (zet hG) (k1 (zgq hG) (k1 (zha hG) (k1 (zbT hG) .nil))))) .nil
theorem YW : Sd G W0 39 ug := gs .nil .nil
theorem zco : Sd G W0 41 Xc := gs (k1 (YW hG) .nil) .nil
theorem zhA : Sd G W0 9 zad := gs (k1 (YW hG) (k1 (Ui hG) (k1 (zco hG) .nil))) .nil
theorem zeZ : Sd G W0 122 Vg := gs (k1 (ZJ hG) .nil) .nil
theorem VI : Sd G W0 129 Yp := gs .nil .nil
theorem zbo : Sd G W0 160 Ub := gs (k1 (V1 hG) (k1 (VW hG) .nil)) .nil
theorem U1 : Sd G W0 161 Ww := gs (k1 (ZE hG) (k1 (Xn hG) .nil)) .nil
theorem zeM : Sd G W0 159 W5 := gs (k1 (ZH hG) (k1 (zbo hG) (k1 (U1 hG) .nil))) .nil
theorem zfN : Sd G W0 123 V0 := gs (k1 (VI hG) (k1 (zer hG) (k1 (zeM hG) .nil))) .nil
theorem zd7 : Sd G W0 124 WV := gs (k1 (zbo hG) .nil) .nil
theorem zeI : Sd G W0 125 Vs := gs (k1 (Zj hG) (k1 (wW hG) (k1 (U1 hG) .nil))) .nil
theorem zbn : Sd G W0 128 Uc := gs .nil .nil
theorem zez : Sd G W0 126 Vr := gs (k1 (zbn hG) (k1 (Uq hG) (k1 (za3 hG) .nil))) .nil
theorem zeQ : Sd G W0 80 Vu := gs (k1 (zeZ hG) (k1 (zfN hG) (k1 (zd7 hG) (k1 (zeI hG) (k1 (zez hG) (k1 (zfg hG) (k1 (zbn hG) (k1 (VI hG) (k1 (zaj hG) (k1 (zcJ hG) .nil)))))))))) .nil
theorem Xq : Sd G W0 81 wC := gs .nil .nil
theorem zkY : Sd G W0 42 zeE := gs (k1 (zeQ hG) (k1 (Xq hG) .nil)) .nil
theorem zhO : Sd G W0 10 U7 := gs (k1 (V3 hG) (k1 (zbT hG) (k1 (zkY hG) .nil))) .nil
theorem zam : Sd G W0 44 ZK := gs .nil .nil
theorem zkk : Sd G W0 46 zdc := gs (k1 (yr hG) .nil) .nil
theorem Xp : Sd G W0 45 wB := gs (k1 (zkk hG) .nil) .nil
theorem zkd : Sd G W0 48 zcX := gs (k1 (yr hG) .nil) .nil
theorem Y6 : Sd G W0 47 ww := gs (k1 (zkd hG) .nil) .nil
theorem zlL : Sd G W0 11 zgR := gs (k1 (vp hG) (k1 (yr hG) (k1 (ZY hG) (k1 (zam hG) (k1 (Xp hG) (k1 (Y6 hG) .nil)))))) .nil
theorem zcD : Sd G W0 4 XD := gs (k1 (zd8 hG) (k1 (zff hG) (k1 (zhA hG) (k1 (zhO hG) (k1 (zlL hG) (k1 (V3 hG) (k1 (zet hG) .nil))))))) .nil
end Go.Pe.G
