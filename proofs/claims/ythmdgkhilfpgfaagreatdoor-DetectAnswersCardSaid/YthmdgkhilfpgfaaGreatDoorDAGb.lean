/- Own work of this seat: G4e, G4f, EQ, G2i, GH, G3. -/
import Derived.Test.YthmdgkhilfpgfaaGreatDoorDAGa
set_option linter.unusedVariables false
set_option linter.unusedSectionVars false
set_option linter.unusedSimpArgs false
set_option linter.unnecessarySimpa false
set_option linter.deprecated false
set_option maxRecDepth 100000
namespace Go.Pe.G
open Go.Pe
theorem zgS (a1 : zl) : Wp a1 =
 bif decide (a1.Mutator.PC = 0) then
  (XX a1).bind fun y1 =>
  some (y1.1, ())
 else
  bif decide (a1.Mutator.PC = 1) then
   (zao a1).bind fun y2 =>
   some (y2.1, ())
  else
   bif decide (a1.Mutator.PC = 2) then
    (zbH a1).bind fun y3 =>
    some (zl.mk y3.1 (za.mk y3.2.1 y3.2.2.1 y3.2.2.2.1 y3.2.2.2.2.1 y3.2.2.2.2.2.1 y3.2.2.2.2.2.2.1 y3.2.2.2.2.2.2.2.1 y3.2.2.2.2.2.2.2.2.1 y3.2.2.2.2.2.2.2.2.2.1 y3.2.2.2.2.2.2.2.2.2.2.1 y3.2.2.2.2.2.2.2.2.2.2.2.2.2.2.2.2.1 y3.2.2.2.2.2.2.2.2.2.2.2.1 y3.2.2.2.2.2.2.2.2.2.2.2.2.1 y3.2.2.2.2.2.2.2.2.2.2.2.2.2.1 y3.2.2.2.2.2.2.2.2.2.2.2.2.2.2.1) y3.2.2.2.2.2.2.2.2.2.2.2.2.2.2.2.1, ())
   else
    bif decide (a1.Mutator.PC = 3) then
     (zat a1).bind fun y4 =>
     some (y4.1, ())
    else
     bif decide (a1.Mutator.PC = 10) then
      (zba a1).bind fun y5 =>
      some (y5.1, ())
     else
      bif decide (a1.Mutator.PC = 20) then
       (zbz a1).bind fun y6 =>
       some (y6.1, ())
      else
       bif decide (a1.Mutator.PC = 21) then
        (zab a1).bind fun y7 =>
        some (y7.1, ())
       else
        bif decide (a1.Mutator.PC = 22) then
         (VT a1).bind fun y8 =>
         some (y8.1, ())
        else
         bif decide (a1.Mutator.PC = 23) then
          (zaj a1).bind fun y9 =>
          some (y9.1, ())
         else
          bif decide (a1.Mutator.PC = 30) then
           (zad a1).bind fun y10 =>
           some (y10.1, ())
          else
           bif decide (a1.Mutator.PC = 31) then
            (za8 a1).bind fun y11 =>
            some (y11.1, ())
           else
            bif decide (a1.Mutator.PC = 32) then
             (zbt a1).bind fun y12 =>
             some (y12.1, ())
            else
             bif decide (a1.Mutator.PC = 33) then
              (zap a1).bind fun y13 =>
              some (y13.1, ())
             else
              bif decide (a1.Mutator.PC = 34) then
               (za1 a1).bind fun y14 =>
               some (y14.1, ())
              else
               bif decide (a1.Mutator.PC = 35) then
                (U7 a1).bind fun y15 =>
                some (y15.1, ())
               else
                bif decide (a1.Mutator.PC = 36) then
                 (zaV a1).bind fun y16 =>
                 some (y16.1, ())
                else
                 bif decide (a1.Mutator.PC = 37) then
                  (zbm a1).bind fun y17 =>
                  some (y17.1, ())
                 else
                  bif decide (a1.Mutator.PC = 38) then
                   (V7 a1).bind fun y18 =>
                   some (y18.1, ())
                  else
                   bif decide (a1.Mutator.PC = 39) then
                    (V6 a1).bind fun y19 =>
                    some (y19.1, ())
                   else
                    some (a1, ()) := zm (by kernel_rfl)
theorem Xk (a1 : List zc) : wh a1 =
 bif a1.isEmpty then
  zia (
   some (([] : List zc), ())) (
   (we (([] : List zc) ++ a1)).bind fun l1 =>
   some (l1, ()))
 else
  (we (([] : List zc) ++ a1)).bind fun l2 =>
  some (l2, ()) := zm (by kernel_rfl)
theorem zmn (a1 : za) (a2 : Int) : Yt a1 a2 =
 bif a1.Done then
  some (a1, ())
 else
  bif decide (a2 < 1) then
   some (a1, ())
  else
   bif decide (((a1.Ms.length : Int)) < a2) then
    some (a1, ())
   else
    (idx a1.Ms (w64 (a2 - 1))).bind fun x1 =>
    (Wp (zl.mk x1 a1 a2)).bind fun y2 =>
    (wh y2.1.s.Ms).bind fun y3 =>
    (xG y3.1 (w64 (a2 - 1))).bind fun n4 =>
    some ({ y2.1.s with Ms := y3.1.set n4 y2.1.Mutator }, ()) := zm (by kernel_rfl)
theorem zgj  : Wm  =
 (Zv (([] : List (List zh)))).bind fun y1 =>
 (Yp y1.1).bind fun y2 =>
 (Yp ({ y1.1 with Roots := 0#64 })).bind fun y3 =>
 (yi y2.1 9).bind fun y4 =>
 (yi y3.1 5).bind fun y5 =>
 (yi y3.1 6).bind fun y6 =>
 (Zv (([([] : List zh)] : List (List zh)))).bind fun y7 =>
 (Yp ({ y7.1 with Roots := 0#64, Regs := ([([0] : List Int)] : List (List Int)) })).bind fun y8 =>
 (yi y8.1 9).bind fun y9 =>
 (Yt y9.1 1).bind fun y10 =>
 (Yt y10.1 1).bind fun y11 =>
 (Yt y11.1 1).bind fun y12 =>
 bif !y4.1.Done then
  bif decide (y4.1.D.PC = 1) then
   bif decide (y4.1.Epoch = 0) then
    bif !y5.1.Done then
     bif decide (y5.1.D.PC = 6) then
      bif decide (y5.1.Epoch = 1) then
       bif y6.1.Done then
        (yi y6.1 3).bind fun y13 =>
        (zfP y13.1 y6.1).bind fun y14 =>
        bif y14.1 then
         bif decide (y9.1.D.PC = 3) then
          bif decide (y9.1.Epoch = 1) then
           (yi y12.1 4).bind fun y15 =>
           bif y15.1.Done then
            (yi y9.1 4).bind fun y16 =>
            some (!y16.1.Done, ())
           else
            some (false, ())
          else
           some (false, ())
         else
          some (false, ())
        else
         some (false, ())
       else
        some (false, ())
      else
       some (false, ())
     else
      some (false, ())
    else
     some (false, ())
   else
    some (false, ())
  else
   some (false, ())
 else
  some (false, ()) := zm (by kernel_rfl)
theorem zcg (a1 : zx) : zt a1 =
 bif decide (((a1.L.length : Int)) ≤ a1.At) then
  some (0, a1, ())
 else
  (idx a1.L (w64 ((w64 (a1.At + 1)) - 1))).bind fun x1 =>
  some ((x1.toNat : Int), { a1 with At := w64 (a1.At + 1) }, ()) := zm (by kernel_rfl)
theorem zd2 (a1 : Int) (a2 : Int) (a3 : zx) : YX a1 a2 a3 =
 (zt a3).bind fun y1 =>
 (xG ([1, 1, 2, 2, 2, 3, 4, 5] : List Int) (y1.1.tmod 8)).bind fun n2 =>
 (([1, 1, 2, 2, 2, 3, 4, 5] : List Int)[n2]?).bind fun x3 =>
 (zt y1.2.1).bind fun y4 =>
 bif decide (a1 = 0) then
  none
 else
  bif decide (x3 = 1) then
   (zt y4.2.1).bind fun y5 =>
   bif decide (a1 = 0) then
    none
   else
    bif decide (x3 < 3) then
     (zt y5.2.1).bind fun y6 =>
     bif decide (a2 = 0) then
      none
     else
      some (zh.mk x3 (y4.1.tmod a1) (y5.1.tmod a1) (y6.1.tmod a2), y6.2.1, ())
    else
     some (zh.mk x3 (y4.1.tmod a1) (y5.1.tmod a1) 0, y5.2.1, ())
  else
   bif decide (x3 = 2) then
    (zt y4.2.1).bind fun y7 =>
    bif decide (a1 = 0) then
     none
    else
     bif decide (x3 < 3) then
      (zt y7.2.1).bind fun y8 =>
      bif decide (a2 = 0) then
       none
      else
       some (zh.mk x3 (y4.1.tmod a1) (y7.1.tmod a1) (y8.1.tmod a2), y8.2.1, ())
     else
      some (zh.mk x3 (y4.1.tmod a1) (y7.1.tmod a1) 0, y7.2.1, ())
   else
    bif decide (x3 = 4) then
     (zt y4.2.1).bind fun y9 =>
     bif decide (a1 = 0) then
      none
     else
      bif decide (x3 < 3) then
       (zt y9.2.1).bind fun y10 =>
       bif decide (a2 = 0) then
        none
       else
        some (zh.mk x3 (y4.1.tmod a1) (y9.1.tmod a1) (y10.1.tmod a2), y10.2.1, ())
      else
       some (zh.mk x3 (y4.1.tmod a1) (y9.1.tmod a1) 0, y9.2.1, ())
    else
     bif decide (x3 < 3) then
      (zt y4.2.1).bind fun y11 =>
      bif decide (a2 = 0) then
       none
      else
       some (zh.mk x3 (y4.1.tmod a1) 0 (y11.1.tmod a2), y11.2.1, ())
     else
      some (zh.mk x3 (y4.1.tmod a1) 0 0, y4.2.1, ()) := zm (by kernel_rfl)
theorem zg8 (s1 : Int) (s2 : Int) (s3 : Int) (s4 : Int) (s5 : Int) (s6 : Int) (s7 : Int) (s8 : Int) (s9 : Int) (s10 : Int) (s11 : Int) (s12 : BitVec 64) (s13 : zx) (s14 : Int) (s15 : Int) (s16 : Int) (s17 : Int) (s18 : Int) (s19 : Int) (s20 : Int) (s21 : Int) (s22 : Int) (s23 : BitVec 64) (s24 : List (List Int)) (s25 : List (List Int)) (s26 : List (List zh)) (s27 : List zj) (s28 : List (List Int)) (s29 : List (List Int)) (s30 : List (List zh)) (s31 : List zj) : Yb (s1, s2, s3, s4, s5, s6, s7, s8, s9, s10, s11, s12, s13, s14, s15, s16, s17, s18, s19, s20, s21, s22, s23, s24, s25, s26, s27, s28, s29, s30, s31, ()) =
 bif decide (s2 < s1) then
  (yy ZA (s1, s2, 0, s3, s4, s5, s6, s7, s8, s9, s10, s11, s12, s13, s14, s15, s16, s17, s18, s19, s20, s21, s22, s23, ([] : List Int), s24, s25, s26, s27, s28, s29, s30, s31, ())).bind fun st => match st with
    | .again _ => none
    | .brk y1 =>
    (we (y1.2.2.2.2.2.2.2.2.2.2.2.2.2.2.2.2.2.2.2.2.2.2.2.2.2.2.2.2.1 ++ (([y1.2.2.2.2.2.2.2.2.2.2.2.2.2.2.2.2.2.2.2.2.2.2.2.1] : List (List Int))))).bind fun l2 =>
    some (.again (y1.1, w64 (y1.2.1 + 1), y1.2.2.1, y1.2.2.2.1, y1.2.2.2.2.1, y1.2.2.2.2.2.1, y1.2.2.2.2.2.2.1, y1.2.2.2.2.2.2.2.1, y1.2.2.2.2.2.2.2.2.1, y1.2.2.2.2.2.2.2.2.2.1, y1.2.2.2.2.2.2.2.2.2.2.1, y1.2.2.2.2.2.2.2.2.2.2.2.1, y1.2.2.2.2.2.2.2.2.2.2.2.2.1, y1.2.2.2.2.2.2.2.2.2.2.2.2.2.1, y1.2.2.2.2.2.2.2.2.2.2.2.2.2.2.1, y1.2.2.2.2.2.2.2.2.2.2.2.2.2.2.2.1, y1.2.2.2.2.2.2.2.2.2.2.2.2.2.2.2.2.1, y1.2.2.2.2.2.2.2.2.2.2.2.2.2.2.2.2.2.1, y1.2.2.2.2.2.2.2.2.2.2.2.2.2.2.2.2.2.2.1, y1.2.2.2.2.2.2.2.2.2.2.2.2.2.2.2.2.2.2.2.1, y1.2.2.2.2.2.2.2.2.2.2.2.2.2.2.2.2.2.2.2.2.1, y1.2.2.2.2.2.2.2.2.2.2.2.2.2.2.2.2.2.2.2.2.2.1, y1.2.2.2.2.2.2.2.2.2.2.2.2.2.2.2.2.2.2.2.2.2.2.1, y1.2.2.2.2.2.2.2.2.2.2.2.2.2.2.2.2.2.2.2.2.2.2.2.2.1, y1.2.2.2.2.2.2.2.2.2.2.2.2.2.2.2.2.2.2.2.2.2.2.2.2.2.1, y1.2.2.2.2.2.2.2.2.2.2.2.2.2.2.2.2.2.2.2.2.2.2.2.2.2.2.1, y1.2.2.2.2.2.2.2.2.2.2.2.2.2.2.2.2.2.2.2.2.2.2.2.2.2.2.2.1, l2, y1.2.2.2.2.2.2.2.2.2.2.2.2.2.2.2.2.2.2.2.2.2.2.2.2.2.2.2.2.2.1, y1.2.2.2.2.2.2.2.2.2.2.2.2.2.2.2.2.2.2.2.2.2.2.2.2.2.2.2.2.2.2.1, y1.2.2.2.2.2.2.2.2.2.2.2.2.2.2.2.2.2.2.2.2.2.2.2.2.2.2.2.2.2.2.2.1, ()))
    | .ret y1 =>
    some (.ret (()))
 else
  some (.brk (s1, s3, s4, s5, s6, s7, s8, s9, s10, s11, s12, s13, s14, s15, s16, s17, s18, s19, s20, s21, s22, s23, s24, s25, s26, s27, s28, s29, s30, s31, ())) := by kernel_rfl
theorem zf5 (s1 : Int) (s2 : Int) (s3 : Int) (s4 : Int) (s5 : Int) (s6 : Int) (s7 : Int) (s8 : Int) (s9 : Int) (s10 : Int) (s11 : Int) (s12 : Int) (s13 : BitVec 64) (s14 : zx) (s15 : Int) (s16 : Int) (s17 : Int) (s18 : Int) (s19 : Int) (s20 : Int) (s21 : Int) (s22 : Int) (s23 : Int) (s24 : BitVec 64) (s25 : List Int) (s26 : List (List Int)) (s27 : List (List Int)) (s28 : List (List zh)) (s29 : List zj) (s30 : List (List Int)) (s31 : List (List Int)) (s32 : List (List zh)) (s33 : List zj) : ZA (s1, s2, s3, s4, s5, s6, s7, s8, s9, s10, s11, s12, s13, s14, s15, s16, s17, s18, s19, s20, s21, s22, s23, s24, s25, s26, s27, s28, s29, s30, s31, s32, s33, ()) =
 bif decide (s3 < s23) then
  (zt s14).bind fun y1 =>
  bif decide ((w64 (s1 + 1)) = 0) then
   none
  else
   (we (s25 ++ (([(y1.1.tmod (w64 (s1 + 1)))] : List Int)))).bind fun l2 =>
   some (.again (s1, s2, w64 (s3 + 1), s4, s5, s6, s7, s8, s9, s10, s11, s12, s13, y1.2.1, s15, s16, s17, s18, s19, s20, s21, s22, s23, s24, l2, s26, s27, s28, s29, s30, s31, s32, s33, ()))
 else
  some (.brk (s1, s2, s4, s5, s6, s7, s8, s9, s10, s11, s12, s13, s14, s15, s16, s17, s18, s19, s20, s21, s22, s23, s24, s25, s26, s27, s28, s29, s30, s31, s32, s33, ())) := by kernel_rfl
theorem zgL (s1 : Int) (s2 : Int) (s3 : Int) (s4 : Int) (s5 : Int) (s6 : Int) (s7 : Int) (s8 : Int) (s9 : Int) (s10 : Int) (s11 : Int) (s12 : BitVec 64) (s13 : zx) (s14 : Int) (s15 : Int) (s16 : Int) (s17 : Int) (s18 : Int) (s19 : Int) (s20 : Int) (s21 : Int) (s22 : Int) (s23 : BitVec 64) (s24 : List (List Int)) (s25 : List (List Int)) (s26 : List (List zh)) (s27 : List zj) (s28 : List (List Int)) (s29 : List (List Int)) (s30 : List (List zh)) (s31 : List zj) : ZD (s1, s2, s3, s4, s5, s6, s7, s8, s9, s10, s11, s12, s13, s14, s15, s16, s17, s18, s19, s20, s21, s22, s23, s24, s25, s26, s27, s28, s29, s30, s31, ()) =
 bif decide (s2 < s15) then
  (yy ZH (s1, s2, 0, s3, s4, s5, s6, s7, s8, s9, s10, s11, s12, s13, s14, s15, s16, s17, s18, s19, s20, s21, s22, s23, ([] : List Int), s24, s25, s26, s27, s28, s29, s30, s31, ())).bind fun st => match st with
    | .again _ => none
    | .brk y1 =>
    bif decide (((y1.2.2.2.2.2.2.2.2.2.2.2.2.2.2.2.2.2.2.2.2.2.2.2.1.length : Int)) = 0) then
     (zt y1.2.2.2.2.2.2.2.2.2.2.2.2.1).bind fun y2 =>
     (yy ua (y1.1, y1.2.1, y2.1.tmod 8, y1.2.2.1, y1.2.2.2.1, y1.2.2.2.2.1, y1.2.2.2.2.2.1, y1.2.2.2.2.2.2.1, y1.2.2.2.2.2.2.2.1, y1.2.2.2.2.2.2.2.2.1, y1.2.2.2.2.2.2.2.2.2.1, y1.2.2.2.2.2.2.2.2.2.2.1, y1.2.2.2.2.2.2.2.2.2.2.2.1, y2.2.1, y1.2.2.2.2.2.2.2.2.2.2.2.2.2.1, y1.2.2.2.2.2.2.2.2.2.2.2.2.2.2.1, y1.2.2.2.2.2.2.2.2.2.2.2.2.2.2.2.1, y1.2.2.2.2.2.2.2.2.2.2.2.2.2.2.2.2.1, y1.2.2.2.2.2.2.2.2.2.2.2.2.2.2.2.2.2.1, y1.2.2.2.2.2.2.2.2.2.2.2.2.2.2.2.2.2.2.1, y1.2.2.2.2.2.2.2.2.2.2.2.2.2.2.2.2.2.2.2.1, y1.2.2.2.2.2.2.2.2.2.2.2.2.2.2.2.2.2.2.2.2.1, y1.2.2.2.2.2.2.2.2.2.2.2.2.2.2.2.2.2.2.2.2.2.1, y1.2.2.2.2.2.2.2.2.2.2.2.2.2.2.2.2.2.2.2.2.2.2.1, ([0] : List Int), ([] : List zh), y1.2.2.2.2.2.2.2.2.2.2.2.2.2.2.2.2.2.2.2.2.2.2.2.2.1, y1.2.2.2.2.2.2.2.2.2.2.2.2.2.2.2.2.2.2.2.2.2.2.2.2.2.1, y1.2.2.2.2.2.2.2.2.2.2.2.2.2.2.2.2.2.2.2.2.2.2.2.2.2.2.1, y1.2.2.2.2.2.2.2.2.2.2.2.2.2.2.2.2.2.2.2.2.2.2.2.2.2.2.2.1, y1.2.2.2.2.2.2.2.2.2.2.2.2.2.2.2.2.2.2.2.2.2.2.2.2.2.2.2.2.1, y1.2.2.2.2.2.2.2.2.2.2.2.2.2.2.2.2.2.2.2.2.2.2.2.2.2.2.2.2.2.1, y1.2.2.2.2.2.2.2.2.2.2.2.2.2.2.2.2.2.2.2.2.2.2.2.2.2.2.2.2.2.2.1, y1.2.2.2.2.2.2.2.2.2.2.2.2.2.2.2.2.2.2.2.2.2.2.2.2.2.2.2.2.2.2.2.1, ())).bind fun st => match st with
       | .again _ => none
       | .brk y3 =>
       (we (y3.2.2.2.2.2.2.2.2.2.2.2.2.2.2.2.2.2.2.2.2.2.2.2.2.2.2.2.2.2.2.1 ++ (([y3.2.2.2.2.2.2.2.2.2.2.2.2.2.2.2.2.2.2.2.2.2.2.2.1] : List (List Int))))).bind fun l4 =>
       (we (y3.2.2.2.2.2.2.2.2.2.2.2.2.2.2.2.2.2.2.2.2.2.2.2.2.2.2.2.2.2.2.2.1 ++ (([y3.2.2.2.2.2.2.2.2.2.2.2.2.2.2.2.2.2.2.2.2.2.2.2.2.1] : List (List zh))))).bind fun l5 =>
       some (.again (y3.1, w64 (y3.2.1 + 1), y3.2.2.1, y3.2.2.2.1, y3.2.2.2.2.1, y3.2.2.2.2.2.1, y3.2.2.2.2.2.2.1, y3.2.2.2.2.2.2.2.1, y3.2.2.2.2.2.2.2.2.1, y3.2.2.2.2.2.2.2.2.2.1, y3.2.2.2.2.2.2.2.2.2.2.1, y3.2.2.2.2.2.2.2.2.2.2.2.1, y3.2.2.2.2.2.2.2.2.2.2.2.2.1, y3.2.2.2.2.2.2.2.2.2.2.2.2.2.1, y3.2.2.2.2.2.2.2.2.2.2.2.2.2.2.1, y3.2.2.2.2.2.2.2.2.2.2.2.2.2.2.2.1, y3.2.2.2.2.2.2.2.2.2.2.2.2.2.2.2.2.1, y3.2.2.2.2.2.2.2.2.2.2.2.2.2.2.2.2.2.1, y3.2.2.2.2.2.2.2.2.2.2.2.2.2.2.2.2.2.2.1, y3.2.2.2.2.2.2.2.2.2.2.2.2.2.2.2.2.2.2.2.1, y3.2.2.2.2.2.2.2.2.2.2.2.2.2.2.2.2.2.2.2.2.1, y3.2.2.2.2.2.2.2.2.2.2.2.2.2.2.2.2.2.2.2.2.2.1, y3.2.2.2.2.2.2.2.2.2.2.2.2.2.2.2.2.2.2.2.2.2.2.1, y3.2.2.2.2.2.2.2.2.2.2.2.2.2.2.2.2.2.2.2.2.2.2.2.2.2.1, y3.2.2.2.2.2.2.2.2.2.2.2.2.2.2.2.2.2.2.2.2.2.2.2.2.2.2.1, y3.2.2.2.2.2.2.2.2.2.2.2.2.2.2.2.2.2.2.2.2.2.2.2.2.2.2.2.1, y3.2.2.2.2.2.2.2.2.2.2.2.2.2.2.2.2.2.2.2.2.2.2.2.2.2.2.2.2.1, y3.2.2.2.2.2.2.2.2.2.2.2.2.2.2.2.2.2.2.2.2.2.2.2.2.2.2.2.2.2.1, l4, l5, y3.2.2.2.2.2.2.2.2.2.2.2.2.2.2.2.2.2.2.2.2.2.2.2.2.2.2.2.2.2.2.2.2.1, ()))
       | .ret y3 =>
       some (.ret (()))
    else
     (zt y1.2.2.2.2.2.2.2.2.2.2.2.2.1).bind fun y6 =>
     (yy ua (y1.1, y1.2.1, y6.1.tmod 8, y1.2.2.1, y1.2.2.2.1, y1.2.2.2.2.1, y1.2.2.2.2.2.1, y1.2.2.2.2.2.2.1, y1.2.2.2.2.2.2.2.1, y1.2.2.2.2.2.2.2.2.1, y1.2.2.2.2.2.2.2.2.2.1, y1.2.2.2.2.2.2.2.2.2.2.1, y1.2.2.2.2.2.2.2.2.2.2.2.1, y6.2.1, y1.2.2.2.2.2.2.2.2.2.2.2.2.2.1, y1.2.2.2.2.2.2.2.2.2.2.2.2.2.2.1, y1.2.2.2.2.2.2.2.2.2.2.2.2.2.2.2.1, y1.2.2.2.2.2.2.2.2.2.2.2.2.2.2.2.2.1, y1.2.2.2.2.2.2.2.2.2.2.2.2.2.2.2.2.2.1, y1.2.2.2.2.2.2.2.2.2.2.2.2.2.2.2.2.2.2.1, y1.2.2.2.2.2.2.2.2.2.2.2.2.2.2.2.2.2.2.2.1, y1.2.2.2.2.2.2.2.2.2.2.2.2.2.2.2.2.2.2.2.2.1, y1.2.2.2.2.2.2.2.2.2.2.2.2.2.2.2.2.2.2.2.2.2.1, y1.2.2.2.2.2.2.2.2.2.2.2.2.2.2.2.2.2.2.2.2.2.2.1, y1.2.2.2.2.2.2.2.2.2.2.2.2.2.2.2.2.2.2.2.2.2.2.2.1, ([] : List zh), y1.2.2.2.2.2.2.2.2.2.2.2.2.2.2.2.2.2.2.2.2.2.2.2.2.1, y1.2.2.2.2.2.2.2.2.2.2.2.2.2.2.2.2.2.2.2.2.2.2.2.2.2.1, y1.2.2.2.2.2.2.2.2.2.2.2.2.2.2.2.2.2.2.2.2.2.2.2.2.2.2.1, y1.2.2.2.2.2.2.2.2.2.2.2.2.2.2.2.2.2.2.2.2.2.2.2.2.2.2.2.1, y1.2.2.2.2.2.2.2.2.2.2.2.2.2.2.2.2.2.2.2.2.2.2.2.2.2.2.2.2.1, y1.2.2.2.2.2.2.2.2.2.2.2.2.2.2.2.2.2.2.2.2.2.2.2.2.2.2.2.2.2.1, y1.2.2.2.2.2.2.2.2.2.2.2.2.2.2.2.2.2.2.2.2.2.2.2.2.2.2.2.2.2.2.1, y1.2.2.2.2.2.2.2.2.2.2.2.2.2.2.2.2.2.2.2.2.2.2.2.2.2.2.2.2.2.2.2.1, ())).bind fun st => match st with
       | .again _ => none
       | .brk y7 =>
       (we (y7.2.2.2.2.2.2.2.2.2.2.2.2.2.2.2.2.2.2.2.2.2.2.2.2.2.2.2.2.2.2.1 ++ (([y7.2.2.2.2.2.2.2.2.2.2.2.2.2.2.2.2.2.2.2.2.2.2.2.1] : List (List Int))))).bind fun l8 =>
       (we (y7.2.2.2.2.2.2.2.2.2.2.2.2.2.2.2.2.2.2.2.2.2.2.2.2.2.2.2.2.2.2.2.1 ++ (([y7.2.2.2.2.2.2.2.2.2.2.2.2.2.2.2.2.2.2.2.2.2.2.2.2.1] : List (List zh))))).bind fun l9 =>
       some (.again (y7.1, w64 (y7.2.1 + 1), y7.2.2.1, y7.2.2.2.1, y7.2.2.2.2.1, y7.2.2.2.2.2.1, y7.2.2.2.2.2.2.1, y7.2.2.2.2.2.2.2.1, y7.2.2.2.2.2.2.2.2.1, y7.2.2.2.2.2.2.2.2.2.1, y7.2.2.2.2.2.2.2.2.2.2.1, y7.2.2.2.2.2.2.2.2.2.2.2.1, y7.2.2.2.2.2.2.2.2.2.2.2.2.1, y7.2.2.2.2.2.2.2.2.2.2.2.2.2.1, y7.2.2.2.2.2.2.2.2.2.2.2.2.2.2.1, y7.2.2.2.2.2.2.2.2.2.2.2.2.2.2.2.1, y7.2.2.2.2.2.2.2.2.2.2.2.2.2.2.2.2.1, y7.2.2.2.2.2.2.2.2.2.2.2.2.2.2.2.2.2.1, y7.2.2.2.2.2.2.2.2.2.2.2.2.2.2.2.2.2.2.1, y7.2.2.2.2.2.2.2.2.2.2.2.2.2.2.2.2.2.2.2.1, y7.2.2.2.2.2.2.2.2.2.2.2.2.2.2.2.2.2.2.2.2.1, y7.2.2.2.2.2.2.2.2.2.2.2.2.2.2.2.2.2.2.2.2.2.1, y7.2.2.2.2.2.2.2.2.2.2.2.2.2.2.2.2.2.2.2.2.2.2.1, y7.2.2.2.2.2.2.2.2.2.2.2.2.2.2.2.2.2.2.2.2.2.2.2.2.2.1, y7.2.2.2.2.2.2.2.2.2.2.2.2.2.2.2.2.2.2.2.2.2.2.2.2.2.2.1, y7.2.2.2.2.2.2.2.2.2.2.2.2.2.2.2.2.2.2.2.2.2.2.2.2.2.2.2.1, y7.2.2.2.2.2.2.2.2.2.2.2.2.2.2.2.2.2.2.2.2.2.2.2.2.2.2.2.2.1, y7.2.2.2.2.2.2.2.2.2.2.2.2.2.2.2.2.2.2.2.2.2.2.2.2.2.2.2.2.2.1, l8, l9, y7.2.2.2.2.2.2.2.2.2.2.2.2.2.2.2.2.2.2.2.2.2.2.2.2.2.2.2.2.2.2.2.2.1, ()))
       | .ret y7 =>
       some (.ret (()))
    | .ret y1 =>
    some (.ret (()))
 else
  some (.brk (s3, s4, s5, s6, s7, s8, s9, s10, s11, s12, s14, s15, s16, s17, s18, s19, s20, s21, s22, s23, s24, s25, s26, s27, s28, s29, s30, s31, ())) := by kernel_rfl
theorem zgQ (s1 : Int) (s2 : Int) (s3 : Int) (s4 : Int) (s5 : Int) (s6 : Int) (s7 : Int) (s8 : Int) (s9 : Int) (s10 : Int) (s11 : Int) (s12 : Int) (s13 : BitVec 64) (s14 : zx) (s15 : Int) (s16 : Int) (s17 : Int) (s18 : Int) (s19 : Int) (s20 : Int) (s21 : Int) (s22 : Int) (s23 : Int) (s24 : BitVec 64) (s25 : List Int) (s26 : List (List Int)) (s27 : List (List Int)) (s28 : List (List zh)) (s29 : List zj) (s30 : List (List Int)) (s31 : List (List Int)) (s32 : List (List zh)) (s33 : List zj) : ZH (s1, s2, s3, s4, s5, s6, s7, s8, s9, s10, s11, s12, s13, s14, s15, s16, s17, s18, s19, s20, s21, s22, s23, s24, s25, s26, s27, s28, s29, s30, s31, s32, s33, ()) =
 (zt s14).bind fun y1 =>
 bif decide (s3 < (w64 (1 + (y1.1.tmod 3)))) then
  (zt y1.2.1).bind fun y2 =>
  bif decide ((w64 (s1 + 1)) = 0) then
   none
  else
   (we (s25 ++ (([(y2.1.tmod (w64 (s1 + 1)))] : List Int)))).bind fun l3 =>
   some (.again (s1, s2, w64 (s3 + 1), s4, s5, s6, s7, s8, s9, s10, s11, s12, s13, y2.2.1, s15, s16, s17, s18, s19, s20, s21, s22, s23, s24, l3, s26, s27, s28, s29, s30, s31, s32, s33, ()))
 else
  some (.brk (s1, s2, s4, s5, s6, s7, s8, s9, s10, s11, s12, s13, y1.2.1, s15, s16, s17, s18, s19, s20, s21, s22, s23, s24, s25, s26, s27, s28, s29, s30, s31, s32, s33, ())) := by kernel_rfl
theorem zgC (s1 : Int) (s2 : Int) (s3 : Int) (s4 : Int) (s5 : Int) (s6 : Int) (s7 : Int) (s8 : Int) (s9 : Int) (s10 : Int) (s11 : Int) (s12 : Int) (s13 : BitVec 64) (s14 : zx) (s15 : Int) (s16 : Int) (s17 : Int) (s18 : Int) (s19 : Int) (s20 : Int) (s21 : Int) (s22 : Int) (s23 : Int) (s24 : BitVec 64) (s25 : List Int) (s26 : List zh) (s27 : List (List Int)) (s28 : List (List Int)) (s29 : List (List zh)) (s30 : List zj) (s31 : List (List Int)) (s32 : List (List Int)) (s33 : List (List zh)) (s34 : List zj) : ua (s1, s2, s3, s4, s5, s6, s7, s8, s9, s10, s11, s12, s13, s14, s15, s16, s17, s18, s19, s20, s21, s22, s23, s24, s25, s26, s27, s28, s29, s30, s31, s32, s33, s34, ()) =
 bif decide (0 < s3) then
  (YX ((s25.length : Int)) s23 s14).bind fun y1 =>
  (we (s26 ++ ([y1.1] : List zh))).bind fun l2 =>
  some (.again (s1, s2, w64 (s3 - 1), s4, s5, s6, s7, s8, s9, s10, s11, s12, s13, y1.2.1, s15, s16, s17, s18, s19, s20, s21, s22, s23, s24, s25, l2, s27, s28, s29, s30, s31, s32, s33, s34, ()))
 else
  some (.brk (s1, s2, s4, s5, s6, s7, s8, s9, s10, s11, s12, s13, s14, s15, s16, s17, s18, s19, s20, s21, s22, s23, s24, s25, s26, s27, s28, s29, s30, s31, s32, s33, s34, ())) := by kernel_rfl
theorem zjy (a1 : List (BitVec 8)) : US a1 =
 (cut a1 0 (bif decide (90 < ((a1.length : Int))) then 90 else ((a1.length : Int)))).bind fun l1 =>
 (zt (zx.mk l1 0)).bind fun y2 =>
 (zt y2.2.1).bind fun y3 =>
 (zt y3.2.1).bind fun y4 =>
 (zt y4.2.1).bind fun y5 =>
 (zt y5.2.1).bind fun y6 =>
 (zt y6.2.1).bind fun y7 =>
 (zt y7.2.1).bind fun y8 =>
 (zt y8.2.1).bind fun y9 =>
 (zt y9.2.1).bind fun y10 =>
 (zt y10.2.1).bind fun y11 =>
 (yy Yb (w64 (1 + (y10.1.tmod 6)), 0, 0, 0, 0, 0, 0, 0, 0, 0, 0, 0#64, y11.2.1, w64 (1 + (y2.1.tmod 3)), y3.1.tmod 3, w64 (1 + (y4.1.tmod 3)), w64 (1 + (y5.1.tmod 2)), w64 (1 + (y6.1.tmod 3)), w64 ((w64 (1 + (y10.1.tmod 6))) + (y11.1.tmod 4)), y7.1.tmod 4, y8.1.tmod 4, w64 (1 + (y9.1.tmod 2)), 0#64, ([] : List (List Int)), ([] : List (List Int)), ([] : List (List zh)), ([] : List zj), ([] : List (List Int)), ([] : List (List Int)), ([] : List (List zh)), ([] : List zj), ())).bind fun st => match st with
   | .again _ => none
   | .brk y12 =>
   (zt y12.2.2.2.2.2.2.2.2.2.2.2.1).bind fun y13 =>
   bif decide ((w64 (y12.1 + 1)) = 0) then
    none
   else
    (zaR 0#64 (y13.1.tmod (w64 (y12.1 + 1)))).bind fun y14 =>
    (yy ZD (y12.1, 0, y12.2.1, y12.2.2.1, y12.2.2.2.1, y12.2.2.2.2.1, y12.2.2.2.2.2.1, y12.2.2.2.2.2.2.1, y12.2.2.2.2.2.2.2.1, y12.2.2.2.2.2.2.2.2.1, y12.2.2.2.2.2.2.2.2.2.1, y12.2.2.2.2.2.2.2.2.2.2.1, y13.2.1, y12.2.2.2.2.2.2.2.2.2.2.2.2.1, y12.2.2.2.2.2.2.2.2.2.2.2.2.2.1, y12.2.2.2.2.2.2.2.2.2.2.2.2.2.2.1, y12.2.2.2.2.2.2.2.2.2.2.2.2.2.2.2.1, y12.2.2.2.2.2.2.2.2.2.2.2.2.2.2.2.2.1, y12.2.2.2.2.2.2.2.2.2.2.2.2.2.2.2.2.2.1, y12.2.2.2.2.2.2.2.2.2.2.2.2.2.2.2.2.2.2.1, y12.2.2.2.2.2.2.2.2.2.2.2.2.2.2.2.2.2.2.2.1, y12.2.2.2.2.2.2.2.2.2.2.2.2.2.2.2.2.2.2.2.2.1, y14.1, y12.2.2.2.2.2.2.2.2.2.2.2.2.2.2.2.2.2.2.2.2.2.2.1, y12.2.2.2.2.2.2.2.2.2.2.2.2.2.2.2.2.2.2.2.2.2.2.2.1, y12.2.2.2.2.2.2.2.2.2.2.2.2.2.2.2.2.2.2.2.2.2.2.2.2.1, y12.2.2.2.2.2.2.2.2.2.2.2.2.2.2.2.2.2.2.2.2.2.2.2.2.2.1, y12.2.2.2.2.2.2.2.2.2.2.2.2.2.2.2.2.2.2.2.2.2.2.2.2.2.2.1, y12.2.2.2.2.2.2.2.2.2.2.2.2.2.2.2.2.2.2.2.2.2.2.2.2.2.2.2.1, y12.2.2.2.2.2.2.2.2.2.2.2.2.2.2.2.2.2.2.2.2.2.2.2.2.2.2.2.2.1, y12.2.2.2.2.2.2.2.2.2.2.2.2.2.2.2.2.2.2.2.2.2.2.2.2.2.2.2.2.2.1, ())).bind fun st => match st with
      | .again _ => none
      | .brk y15 =>
      some (zd.mk y15.2.2.2.2.2.2.2.2.2.2.1 y15.2.2.2.2.2.2.2.2.2.2.2.1 y15.2.2.2.2.2.2.2.2.2.2.2.2.1 y15.2.2.2.2.2.2.2.2.2.2.2.2.2.1 y15.2.2.2.2.2.2.2.2.2.2.2.2.2.2.1 y15.2.2.2.2.2.2.2.2.2.2.2.2.2.2.2.1 y15.2.2.2.2.2.2.2.2.2.2.2.2.2.2.2.2.1 y15.2.2.2.2.2.2.2.2.2.2.2.2.2.2.2.2.2.1 (zu.mk y15.2.2.2.2.2.2.2.2.2.2.2.2.2.2.2.2.2.2.1 y15.2.2.2.2.2.2.2.2.2.2.2.2.2.2.2.2.2.2.2.2.2.2.2.2.1) y15.2.2.2.2.2.2.2.2.2.2.2.2.2.2.2.2.2.2.2.1 y15.2.2.2.2.2.2.2.2.2.2.2.2.2.2.2.2.2.2.2.2.2.2.2.2.2.1 y15.2.2.2.2.2.2.2.2.2.2.2.2.2.2.2.2.2.2.2.2.2.2.2.2.2.2.1 y15.2.2.2.2.2.2.2.2.2.2.2.2.2.2.2.2.2.2.2.2.2.2.2.2.2.2.2.1, ())
      | .ret y15 =>
      none
   | .ret y12 =>
   none := zm (by kernel_rfl)
theorem zg4 (a1 : zy) : vy a1 =
 (Y1 a1.s.M a1.Worker.C).bind fun y1 =>
 some (y1.2.1.Out, zy.mk { a1.Worker with C := y1.2.1 } { a1.s with M := y1.1 } a1.w, ()) := zm (by kernel_rfl)
theorem UJ (a1 : Int) (a2 : zy) : Z8 a1 a2 =
 some ({ a2 with Worker := { a2.Worker with PC := 5, Obj := a1, Slot := 0 } }, ()) := zm (by kernel_rfl)
theorem zd5 (a1 : Int) (a2 : Int) (a3 : zy) : zbn a1 a2 a3 =
 (Vn a3.s.P a2).bind fun y1 =>
 (zax a1 y1.1 a3.s.P.Cap 0).bind fun y2 =>
 some (y2.1, ()) := zm (by kernel_rfl)
theorem zbR (a1 : Int) (a2 : Int) (a3 : Int) (a4 : zy) : UP a1 a2 a3 a4 =
 (Zs a4.s.P).bind fun y1 =>
 (Vu a1 a2 y1.1 a3).bind fun y2 =>
 some (y2.1, ()) := zm (by kernel_rfl)
theorem zg9 (a1 : zy) : Z5 a1 =
 bif decide (((a1.s.Ws.length : Int)) = 0) then
  none
 else
  bif decide ((w64 ((a1.Worker.Victim.tmod ((a1.s.Ws.length : Int))) + 1)) = a1.w) then
   (YA a1.s.P).bind fun y1 =>
   (UP 2 y1.1 0 ({ a1 with Worker := { a1.Worker with Victim := w64 ((a1.Worker.Victim.tmod ((a1.s.Ws.length : Int))) + 1) } })).bind fun y2 =>
   some ({ a1 with Worker := { a1.Worker with PC := 2, Victim := w64 ((a1.Worker.Victim.tmod ((a1.s.Ws.length : Int))) + 1), C := y2.1 } }, ())
  else
   (zbn 3 (w64 ((a1.Worker.Victim.tmod ((a1.s.Ws.length : Int))) + 1)) ({ a1 with Worker := { a1.Worker with Victim := w64 ((a1.Worker.Victim.tmod ((a1.s.Ws.length : Int))) + 1) } })).bind fun y3 =>
   some ({ a1 with Worker := { a1.Worker with PC := 1, Victim := w64 ((a1.Worker.Victim.tmod ((a1.s.Ws.length : Int))) + 1), D := y3.1 } }, ()) := zm (by kernel_rfl)
theorem ziI (a1 : zy) : Y5 a1 =
 (Ui a1.s.M a1.Worker.D).bind fun y1 =>
 bif decide (y1.2.1.Out = 1) then
  (Z8 y1.2.1.X (zy.mk { a1.Worker with Victim := a1.w, D := y1.2.1 } { a1.s with M := y1.1 } a1.w)).bind fun y2 =>
  some (y2.1, ())
 else
  bif decide (y1.2.1.Out = 4) then
   (Z5 (zy.mk { a1.Worker with D := y1.2.1 } { a1.s with M := y1.1 } a1.w)).bind fun y3 =>
   some (y3.1, ())
  else
   bif decide (y1.2.1.Out = 2) then
    (Z5 (zy.mk { a1.Worker with D := y1.2.1 } { a1.s with M := y1.1 } a1.w)).bind fun y4 =>
    some (y4.1, ())
   else
    some (zy.mk { a1.Worker with D := y1.2.1 } { a1.s with M := y1.1 } a1.w, ()) := zm (by kernel_rfl)
theorem zfV (a1 : zy) : vb a1 =
 (zbn 2 a1.w a1).bind fun y1 =>
 some ({ a1 with Worker := { a1.Worker with PC := 0, Victim := a1.w, D := y1.1 } }, ()) := zm (by kernel_rfl)
theorem zhp (a1 : zy) : WO a1 =
 (idx a1.s.Bins a1.Worker.Bin).bind fun x1 =>
 (xW a1.s.Bins).bind fun y2 =>
 (xG y2.1 a1.Worker.Bin).bind fun n3 =>
 (ZR a1.s.P).bind fun y4 =>
 (UP 1 y4.1 a1.Worker.Bin (zy.mk { a1.Worker with Batch := x1 } { a1.s with Bins := y2.1.set n3 ([] : List Int) } a1.w)).bind fun y5 =>
 some (zy.mk { a1.Worker with PC := 4, Batch := x1, C := y5.1 } { a1.s with Bins := y2.1.set n3 ([] : List Int) } a1.w, ()) := zm (by kernel_rfl)
theorem zkV (a1 : zy) : XF a1 =
 bif decide (a1.Worker.Slot = a1.s.H.Slots) then
  some (8, ())
 else
  some (5, ()) := zm (by kernel_rfl)
theorem zg3 (a1 : zy) : W6 a1 =
 (zbl a1.s.H a1.Worker.Obj a1.Worker.Slot).bind fun y1 =>
 bif decide (y1.1 = 0) then
  (XF ({ a1 with Worker := { a1.Worker with Slot := w64 (a1.Worker.Slot + 1) } })).bind fun y2 =>
  some ({ a1 with Worker := { a1.Worker with PC := y2.1, Slot := w64 (a1.Worker.Slot + 1) } }, ())
 else
  (Uf 1 y1.1 a1.w).bind fun y3 =>
  some ({ a1 with Worker := { a1.Worker with PC := 6, Slot := w64 (a1.Worker.Slot + 1), G := y3.1 } }, ()) := zm (by kernel_rfl)
end Go.Pe.G
namespace Go.Pe.G
open Go.Pe
theorem zgY (a1 : zy) : WR a1 =
 bif decide (a1.Worker.PC = 0) then
  bif decide (a1.Worker.PC = 0) then
   (Y5 a1).bind fun y1 =>
   some (y1.1, ())
  else
   bif decide (a1.Worker.PC = 2) then
    (vy a1).bind fun y2 =>
    bif decide (y2.1 = 1) then
     some ({ y2.2.1 with Worker := { y2.2.1.Worker with PC := 3, Bin := y2.2.1.Worker.C.X } }, ())
    else
     bif decide (y2.1 = 2) then
      (vb y2.2.1).bind fun y3 =>
      some (y3.1, ())
     else
      some (y2.2.1, ())
   else
    bif decide (a1.Worker.PC = 3) then
     (WO a1).bind fun y4 =>
     some (y4.1, ())
    else
     bif decide (a1.Worker.PC = 4) then
      (vy a1).bind fun y5 =>
      bif decide (y5.1 = 1) then
       some ({ y5.2.1 with Worker := { y5.2.1.Worker with PC := 7, Bin := 0 } }, ())
      else
       some (y5.2.1, ())
     else
      bif decide (a1.Worker.PC = 5) then
       (W6 a1).bind fun y6 =>
       some (y6.1, ())
      else
       bif decide (a1.Worker.PC = 6) then
        (U8 a1.s a1.Worker.G).bind fun y7 =>
        bif decide (y7.2.1.Out = 1) then
         (XF (zy.mk { a1.Worker with G := y7.2.1 } y7.1 a1.w)).bind fun y8 =>
         some (zy.mk { a1.Worker with PC := y8.1, G := y7.2.1 } y7.1 a1.w, ())
        else
         some (zy.mk { a1.Worker with G := y7.2.1 } y7.1 a1.w, ())
       else
        bif decide (a1.Worker.PC = 7) then
         bif decide (((a1.Worker.Batch.length : Int)) = 0) then
          (vb a1).bind fun y9 =>
          some (y9.1, ())
         else
          (idx a1.Worker.Batch 0).bind fun x10 =>
          (Z8 x10 a1).bind fun y11 =>
          (cut y11.1.Worker.Batch 1 ((y11.1.Worker.Batch.length : Int))).bind fun l12 =>
          some ({ y11.1 with Worker := { y11.1.Worker with Batch := l12 } }, ())
        else
         bif decide (a1.Worker.PC = 8) then
          (Vw a1.s.T a1.Worker.Obj).bind fun y13 =>
          (Vk a1.s.L 0).bind fun y14 =>
          some (zy.mk { a1.Worker with PC := 9 } { a1.s with T := y13.1, L := y14.1 } a1.w, ())
         else
          bif decide (a1.Worker.PC = 9) then
           some (zy.mk { a1.Worker with PC := 7, Obj := 0 } { a1.s with Work := w64 (a1.s.Work - 1) } a1.w, ())
          else
           some (a1, ())
 else
  bif decide (a1.Worker.PC = 1) then
   (Y5 a1).bind fun y15 =>
   some (y15.1, ())
  else
   bif decide (a1.Worker.PC = 2) then
    (vy a1).bind fun y16 =>
    bif decide (y16.1 = 1) then
     some ({ y16.2.1 with Worker := { y16.2.1.Worker with PC := 3, Bin := y16.2.1.Worker.C.X } }, ())
    else
     bif decide (y16.1 = 2) then
      (vb y16.2.1).bind fun y17 =>
      some (y17.1, ())
     else
      some (y16.2.1, ())
   else
    bif decide (a1.Worker.PC = 3) then
     (WO a1).bind fun y18 =>
     some (y18.1, ())
    else
     bif decide (a1.Worker.PC = 4) then
      (vy a1).bind fun y19 =>
      bif decide (y19.1 = 1) then
       some ({ y19.2.1 with Worker := { y19.2.1.Worker with PC := 7, Bin := 0 } }, ())
      else
       some (y19.2.1, ())
     else
      bif decide (a1.Worker.PC = 5) then
       (W6 a1).bind fun y20 =>
       some (y20.1, ())
      else
       bif decide (a1.Worker.PC = 6) then
        (U8 a1.s a1.Worker.G).bind fun y21 =>
        bif decide (y21.2.1.Out = 1) then
         (XF (zy.mk { a1.Worker with G := y21.2.1 } y21.1 a1.w)).bind fun y22 =>
         some (zy.mk { a1.Worker with PC := y22.1, G := y21.2.1 } y21.1 a1.w, ())
        else
         some (zy.mk { a1.Worker with G := y21.2.1 } y21.1 a1.w, ())
       else
        bif decide (a1.Worker.PC = 7) then
         bif decide (((a1.Worker.Batch.length : Int)) = 0) then
          (vb a1).bind fun y23 =>
          some (y23.1, ())
         else
          (idx a1.Worker.Batch 0).bind fun x24 =>
          (Z8 x24 a1).bind fun y25 =>
          (cut y25.1.Worker.Batch 1 ((y25.1.Worker.Batch.length : Int))).bind fun l26 =>
          some ({ y25.1 with Worker := { y25.1.Worker with Batch := l26 } }, ())
        else
         bif decide (a1.Worker.PC = 8) then
          (Vw a1.s.T a1.Worker.Obj).bind fun y27 =>
          (Vk a1.s.L 0).bind fun y28 =>
          some (zy.mk { a1.Worker with PC := 9 } { a1.s with T := y27.1, L := y28.1 } a1.w, ())
         else
          bif decide (a1.Worker.PC = 9) then
           some (zy.mk { a1.Worker with PC := 7, Obj := 0 } { a1.s with Work := w64 (a1.s.Work - 1) } a1.w, ())
          else
           some (a1, ()) := zm (by kernel_rfl)
theorem X4 (a1 : List zg) : wx a1 =
 bif a1.isEmpty then
  zia (
   some (([] : List zg), ())) (
   (we (([] : List zg) ++ a1)).bind fun l1 =>
   some (l1, ()))
 else
  (we (([] : List zg) ++ a1)).bind fun l2 =>
  some (l2, ()) := zm (by kernel_rfl)
theorem zni (a1 : za) (a2 : Int) : zeq a1 a2 =
 bif a1.Done then
  some (a1, ())
 else
  bif decide (a2 < 1) then
   some (a1, ())
  else
   bif decide (((a1.Ws.length : Int)) < a2) then
    some (a1, ())
   else
    (idx a1.Ws (w64 (a2 - 1))).bind fun x1 =>
    (WR (zy.mk x1 a1 a2)).bind fun y2 =>
    (wx y2.1.s.Ws).bind fun y3 =>
    (xG y3.1 (w64 (a2 - 1))).bind fun n4 =>
    some ({ y2.1.s with Ws := y3.1.set n4 y2.1.Worker }, ()) := zm (by kernel_rfl)
theorem zjV (a1 : za) (a2 : BitVec 8) : UY a1 a2 =
 bif decide ((w64 ((w64 (1 + ((a1.Ws.length : Int)))) + ((a1.Ms.length : Int)))) = 0) then
  none
 else
  bif decide ((((a2.toNat : Int)).tmod (w64 ((w64 (1 + ((a1.Ws.length : Int)))) + ((a1.Ms.length : Int))))) = 0) then
   (zaz a1).bind fun y1 =>
   some (y1.1, ())
  else
   bif decide ((((a2.toNat : Int)).tmod (w64 ((w64 (1 + ((a1.Ws.length : Int)))) + ((a1.Ms.length : Int))))) ≤ ((a1.Ws.length : Int))) then
    (zeq a1 (((a2.toNat : Int)).tmod (w64 ((w64 (1 + ((a1.Ws.length : Int)))) + ((a1.Ms.length : Int)))))).bind fun y2 =>
    some (y2.1, ())
   else
    (Yt a1 (w64 ((((a2.toNat : Int)).tmod (w64 ((w64 (1 + ((a1.Ws.length : Int)))) + ((a1.Ms.length : Int))))) - ((a1.Ws.length : Int))))).bind fun y3 =>
    some (y3.1, ()) := zm (by kernel_rfl)
theorem zaN (s1 : List (BitVec 8)) (s2 : Bool) (s3 : Int) (s4 : za) : uT (s1, s2, s3, s4, ()) =
 bif decide (s3 < 800) then
  bif !s4.Done then
   bif decide (0 < ((s1.length : Int))) then
    bif decide (((s1.length : Int)) = 0) then
     none
    else
     (idx s1 (s3.tmod ((s1.length : Int)))).bind fun x1 =>
     bif decide (((s1.length : Int)) = 0) then
      none
     else
      (UY s4 (x1 + (BitVec.ofInt 8 (w64 (s3.tdiv ((s1.length : Int))))))).bind fun y2 =>
      bif !(decide (((y2.1.Acks.length : Int)) = ((s4.Acks.length : Int)))) then
       some (.ret (false, ()))
      else
       bif !(decide (((y2.1.Ms.length : Int)) = ((s4.Ms.length : Int)))) then
        some (.ret (false, ()))
       else
        (yy yR (s1, s2, s3, 0, s4, y2.1, ())).bind fun st => match st with
          | .again _ => none
          | .brk y3 =>
          some (.again (y3.1, y3.2.1, w64 (y3.2.2.1 + 1), y3.2.2.2.2.1, ()))
          | .ret y3 =>
          some (.ret (y3.1, ()))
   else
    some (.brk (s2, ()))
  else
   some (.brk (s2, ()))
 else
  some (.brk (s2, ())) := by kernel_rfl
theorem Yr (s1 : List (BitVec 8)) (s2 : Bool) (s3 : Int) (s4 : Int) (s5 : za) (s6 : za) : yR (s1, s2, s3, s4, s5, s6, ()) =
 bif decide (s4 < ((s6.Acks.length : Int))) then
  (idx s6.Acks s4).bind fun x1 =>
  (idx s5.Acks s4).bind fun x2 =>
  bif decide (x1 < x2) then
   some (.ret (false, ()))
  else
   (idx s6.Acks s4).bind fun x3 =>
   bif decide (s6.Epoch < x3) then
    some (.ret (false, ()))
   else
    (idx s6.Acks s4).bind fun x4 =>
    (idx s5.Acks s4).bind fun x5 =>
    bif decide (x5 < x4) then
     (idx s6.Ms s4).bind fun x6 =>
     bif !(decide (((x6.Buf.length : Int)) = 0)) then
      some (.ret (false, ()))
     else
      some (.again (s1, s2, s3, w64 (s4 + 1), s5, s6, ()))
    else
     some (.again (s1, s2, s3, w64 (s4 + 1), s5, s6, ()))
 else
  some (.brk (s1, s2, s3, s5, s6, ())) := by kernel_rfl
theorem zcf (a1 : List (BitVec 8)) (a2 : List (BitVec 8)) : wN a1 a2 =
 (Wm).bind fun y1 =>
 bif !y1.1 then
  some (false, ())
 else
  (US a1).bind fun y2 =>
  (Yp y2.1).bind fun y3 =>
  (yy uT (a2, y1.1, 0, y3.1, ())).bind fun st => match st with
    | .again _ => none
    | .brk y4 =>
    some (y4.1, ())
    | .ret y4 =>
    some (y4.1, ()) := zm (by kernel_rfl)
end Go.Pe.G

namespace Go.Pe.G
open Go.Pe
theorem zyl : Go.Proofs.Tryz.prog.funcs[75]? = some Go.Proofs.Tryz.f75 := by kernel_rfl
theorem zxC : Go.Proofs.Tryz.f75.body.isSome = true := by kernel_rfl
theorem zxm : ZN Go.Proofs.Tryz.prog 75 = true := by kernel_rfl
theorem zya : Go.Proofs.Tryz.prog.funcs[119]? = some Go.Proofs.Tryz.f119 := by kernel_rfl
theorem zwV : Go.Proofs.Tryz.f119.body.isSome = true := by kernel_rfl
theorem zxa : ZN Go.Proofs.Tryz.prog 119 = true := by kernel_rfl
theorem zlp (ys : List Int) (s1 : Int) (s2 : Int) (s3 : BitVec 64) : VZ ys (s1, s2, s3, ()) =
 bif !(decide (s3 = 0#64)) then
  (qTZ s3).bind fun y1 =>
  (U2 ys s2 (w64 (y1.1 + 1))).bind fun _ =>
  some (.again (s1, s2 + 1, s3 &&& (s3 - 1#64), ()))
 else
  some (.brk (s1, s2, ())) := by kernel_rfl
theorem znS (n : Int) (ys : List Int) (a1 : BitVec 64) : znX (UG ys) Go.Proofs.Tryz.f119 zjj n ((a1, ()) : (BitVec 64) × Unit) =
 (yy (VZ ys) (n, 0, a1, ())).bind fun st => match st with
   | .again _ => none
   | .brk y1 =>
   some y1.2.1
   | .ret y1 =>
   some y1.2.1 := by kernel_rfl
theorem YH (ys : List (List Int)) (s1 : Int) (s2 : Int) (s3 : Int) (s4 : List Int) (s5 : Int) : vf ys (s1, s2, s3, s4, s5, ()) =
 bif decide (s3 < ((s4.length : Int))) then
  (cut s4 s3 ((s4.length : Int))).bind fun l1 =>
  bif decide (s3 = 0) && decide ((w64 (s3 + (bif decide (((l1.length : Int)) < s5) then ((l1.length : Int)) else s5))) = 0) && decide ((w64 (s3 + (bif decide (((l1.length : Int)) < s5) then ((l1.length : Int)) else s5))) = 0) then
   (U2 ys s2 ([] : List Int)).bind fun _ =>
   some (.again (s1, s2 + 1, w64 (s3 + s5), s4, s5, ()))
  else
   bif decide (s3 = 0) && decide ((w64 (s3 + (bif decide (((l1.length : Int)) < s5) then ((l1.length : Int)) else s5))) = ((s4.length : Int))) && decide ((w64 (s3 + (bif decide (((l1.length : Int)) < s5) then ((l1.length : Int)) else s5))) = ((s4.length : Int))) then
    (U2 ys s2 s4).bind fun _ =>
    some (.again (s1, s2 + 1, w64 (s3 + s5), s4, s5, ()))
   else
    bif decide ((w64 (s3 + (bif decide (((l1.length : Int)) < s5) then ((l1.length : Int)) else s5))) = (w64 (s3 + (bif decide (((l1.length : Int)) < s5) then ((l1.length : Int)) else s5)))) then
     (cut s4 s3 (w64 (s3 + (bif decide (((l1.length : Int)) < s5) then ((l1.length : Int)) else s5)))).bind fun l2 =>
     (U2 ys s2 l2).bind fun _ =>
     some (.again (s1, s2 + 1, w64 (s3 + s5), s4, s5, ()))
    else
     none
 else
  some (.brk (s1, s2, ())) := by kernel_rfl
theorem zcm (n : Int) (ys : List (List Int)) (a1 : List Int) (a2 : Int) : znX (vq ys) Go.Proofs.Tryz.f75 Wv n ((a1, a2, ()) : (List Int) × Int × Unit) =
 (yy (vf ys) (n, 0, 0, a1, a2, ())).bind fun st => match st with
   | .again _ => none
   | .brk y1 =>
   some y1.2.1
   | .ret y1 =>
   some y1.2.1 := by kernel_rfl
end Go.Pe.G
namespace Go.Pe.G
open Go.Pe
theorem zkI {A B D : Type} (g : A → Option (xi A B D)) {o : xi Unit B D} : ∀ (k m : Nat) (x : A), uH g k x = some o → k ≤ m → uH g m x = some o
  | 0, m, x, h, _ => by cases h
  | k + 1, 0, x, h, hm => by omega
  | k + 1, m + 1, x, h, hm => by
    simp only [uH, Option.bind_eq_some_iff] at h ⊢
    obtain ⟨s, h1, h2⟩ := h
    refine ⟨s, h1, ?_⟩
    cases s with
    | again y => exact zkI g k m y h2 (by omega)
    | brk b => exact h2
    | ret c => exact h2
theorem zql {α : Type} (pre post : List α) (z : α) : U2 (pre ++ z :: post) (pre.length : Int) z = some () := by
  unfold U2
  rw [if_pos]
  refine ⟨by omega, ?_⟩
  simp
theorem zeQ (n : Int) (ys : List Int) : ∀ (f : Nat) (s : BitVec 64) (l pre : List Int), za2 f s = some l → ys = pre ++ l → uH (VZ ys) f (n, (pre.length : Int), s, ()) = some (.brk (n, (ys.length : Int), ()))
  | 0, s, l, pre, h, _ => by cases h
  | f + 1, s, l, pre, h, e => by
    simp only [za2] at h
    simp only [uH, zlp]
    cases hz : decide (s = 0#64) with
    | true =>
      simp only [hz, cond_true, Option.some.injEq] at h
      subst h
      simp only [List.append_nil] at e
      subst e
      rfl
    | false =>
      simp only [hz, cond_false, Option.map_eq_some_iff] at h
      obtain ⟨l', h1, rfl⟩ := h
      have hn : U2 ys (pre.length : Int) (w64 (tz s + 1)) = some () := by rw [e]; exact zql pre l' _
      simp only [Bool.not_false, cond_true, zxv, Option.bind_some, hn]
      have := zeQ n ys f (s &&& (s - 1#64)) l' (pre ++ [w64 (tz s + 1)]) h1 (by rw [e]; simp)
      simpa using this
theorem znc (G : Nat → Prop) (W0 : World) (hG : zt6 G W0) : ZZ Go.Proofs.Tryz.prog G W0 119 Ug := by
  obtain ⟨c, hc⟩ := Option.isSome_iff_exists.1 zwV
  refine zn6 (Cg := UG []) rfl zsh (fun f s hs => Oks.at (.cons _ _ _ _ zwN (zvg hG) (.skip _ _ .nil)) f s hs) rfl zud (fun g it h => by cases h) zxa zya hc Ug (Nat.le_of_ble_eq_true (by kernel_rfl)) rfl ?_
  rintro n ⟨a, ⟨⟩⟩ ys h
  have h : za2 66 a = some ys := h
  have e := znS n ys a
  have k := zkI _ 66 Wn _ (zeQ n ys 66 a ys [] h rfl) (by decide)
  refine Eq.trans e ?_
  have k' : uH (VZ ys) Wn (n, 0, a, ()) = some (.brk (n, (ys.length : Int), ())) := k
  rw [Uc, k']
  rfl
theorem zuP {a : Int} (h : -9223372036854775808 ≤ a) (h2 : a < 9223372036854775808) : w64 a = a := by
  rw [zjg]
  omega
theorem zbk (n : Int) (ys : List (List Int)) (l : List Int) (sz : Nat) (h1 : 1 ≤ sz) (h2 : sz < 1000000) (h3 : l.length < 1000000) : ∀ (f p : Nat) (pre : List (List Int)), (l.drop p).length ≤ f → ys = pre ++ Zt sz f (l.drop p) → p < 2000000 →
    uH (vf ys) (f + 1) (n, (pre.length : Int), (p : Int), l, (sz : Int), ()) = some (.brk (n, (ys.length : Int), ())) := by
  intro f
  induction f with
  | zero =>
    intro p pre hf e hp
    simp only [uH, YH]
    simp only [List.length_drop] at hf
    have : ¬ (p : Int) < (l.length : Int) := by omega
    simp only [this, decide_false, cond_false, Option.bind_some]
    simp only [Zt, List.append_nil] at e
    rw [e]
  | succ f ih =>
    intro p pre hf e hp
    rw [uH, YH]
    by_cases hlt : p < l.length
    · have hlt' : (p : Int) < (l.length : Int) := by omega
      have hcut : cut l (p : Int) (l.length : Int) = some (l.drop p) := by
        unfold cut
        have : (decide (0 ≤ (p : Int)) && decide ((p : Int) ≤ (l.length : Int)) && decide ((l.length : Int) ≤ (l.length : Int))) = true := by simp; omega
        simp only [this, cond_true]
        simp
      obtain ⟨x, r, hxr⟩ : ∃ x r, l.drop p = x :: r := by
        cases hd : l.drop p with
        | nil => have := congrArg List.length hd; simp at this; omega
        | cons x r => exact ⟨x, r, rfl⟩
      have hch : Zt sz (f + 1) (l.drop p) = (l.drop p).take sz :: Zt sz f (l.drop (p + sz)) := by
        rw [hxr]; simp only [Zt]; rw [← hxr, List.drop_drop]
      have hm : ∃ m : Nat, (bif decide (((l.drop p).length : Int) < (sz : Int)) then (((l.drop p).length : Int)) else (sz : Int)) = (m : Int) ∧ m = min sz (l.length - p) := by
        simp only [List.length_drop]
        by_cases hs : ((l.length - p : Nat) : Int) < (sz : Int)
        · exact ⟨l.length - p, by simp only [hs, decide_true, cond_true], by omega⟩
        · exact ⟨sz, by simp only [hs, decide_false, cond_false], by omega⟩
      obtain ⟨m, hm1, hm2⟩ := hm
      have hw : w64 ((p : Int) + (m : Int)) = ((p + m : Nat) : Int) := by rw [zuP (by omega) (by omega)]; omega
      have hw2 : w64 ((p : Int) + (sz : Int)) = ((p + sz : Nat) : Int) := by rw [zuP (by omega) (by omega)]; omega
      have hne : ¬ ((p + m : Nat) : Int) = 0 := by omega
      simp only [hlt', decide_true, cond_true, hcut, Option.bind_some, hm1, hw, hw2, hne, decide_false, Bool.and_false, cond_false]
      have hn : U2 ys (pre.length : Int) ((l.drop p).take sz) = some () := by rw [e, hch]; exact zql pre _ _
      have hcut2 : cut l (p : Int) ((p + m : Nat) : Int) = some ((l.drop p).take sz) := by
        unfold cut
        have : (decide (0 ≤ (p : Int)) && decide ((p : Int) ≤ ((p + m : Nat) : Int)) && decide (((p + m : Nat) : Int) ≤ (l.length : Int))) = true := by simp; omega
        simp only [this, cond_true]
        refine congrArg some ?_
        simp only [Int.toNat_natCast]
        rw [List.drop_take, Nat.add_sub_cancel_left, hm2]
        by_cases hs : sz ≤ l.length - p
        · rw [Nat.min_eq_left hs]
        · rw [Nat.min_eq_right (by omega), List.take_of_length_le (l := l.drop p) (by simp), List.take_of_length_le (l := l.drop p) (by simp; omega)]
      have hnext := ih (p + sz) (pre ++ [(l.drop p).take sz]) (by simp only [List.length_drop] at hf ⊢; omega) (by rw [e, hch]; simp) (by omega)
      have hlen : ((pre ++ [(l.drop p).take sz]).length : Int) = (pre.length : Int) + 1 := by simp
      rw [hlen] at hnext
      cases hfull : (decide ((p : Int) = 0) && decide (((p + m : Nat) : Int) = (l.length : Int)) && decide (((p + m : Nat) : Int) = (l.length : Int))) with
      | true =>
        simp only [cond_true]
        have hl : l = (l.drop p).take sz := ?_
        · rw [← hl] at hn
          rw [hn]
          exact hnext
        simp only [Bool.and_eq_true, decide_eq_true_eq] at hfull
        obtain ⟨⟨hp0, hpl⟩, _⟩ := hfull
        have hp00 : p = 0 := by omega
        rw [hp00, List.drop_zero, List.take_of_length_le (by omega)]
      | false =>
        simp only [cond_false, hcut2, Option.bind_some, decide_true, cond_true]
        rw [hn]
        exact hnext
    · have hnl : ¬ (p : Int) < (l.length : Int) := by omega
      have hd : l.drop p = [] := List.drop_eq_nil_of_le (by omega)
      simp only [hnl, decide_false, cond_false, Option.bind_some]
      rw [hd] at e
      simp only [Zt, List.append_nil] at e
      rw [e]
theorem zbs (n : Int) (ys : List (List Int)) (l : List Int) (sz : Int) (h : zf6 l sz = some ys) : uH (vf ys) Wn (n, 0, 0, l, sz, ()) = some (.brk (n, (ys.length : Int), ())) := by
  unfold zf6 at h
  cases hc : (decide (1 ≤ sz) && decide (sz < 1000000) && decide ((l.length : Int) < 1000000)) with
  | false => simp [hc] at h
  | true =>
    simp only [hc, cond_true] at h
    injection h with h
    simp only [Bool.and_eq_true, decide_eq_true_eq] at hc
    obtain ⟨⟨c1, c2⟩, c3⟩ := hc
    have k := zkI _ (l.length + 1) Wn _ (zbk n ys l sz.toNat (by omega) (by omega) (by omega) l.length 0 [] (by simp) (by simpa using h.symm) (by omega)) (by unfold Wn; omega)
    have hs : ((sz.toNat : Nat) : Int) = sz := by omega
    rw [hs] at k
    exact k
theorem zbp (G : Nat → Prop) (W0 : World) (hG : zt6 G W0) : ZZ Go.Proofs.Tryz.prog G W0 75 wM := by
  obtain ⟨c, hc⟩ := Option.isSome_iff_exists.1 zxC
  refine zn6 (Cg := vq []) rfl zsh (fun f s hs => Oks.at .nil f s hs) rfl zud (fun g it h => by cases h) zxm zyl hc wM (Nat.le_of_ble_eq_true (by kernel_rfl)) rfl (fun n x ys h => ?_)
  refine Eq.trans (zcm n ys x.1 x.2.1) ?_
  rw [Uc, zbs n ys x.1 x.2.1 h]
  rfl
end Go.Pe.G
namespace Go.Pe.G
open Go.Pe
theorem k2 {G : Nat → Prop} {W0 : World} {f : Nat} {s : zo E} {ss r} (hs : W1 Go.Proofs.Tryz.prog G W0 f s) (h : Oks Go.Proofs.Tryz.prog G W0 ((f, ss) :: r)) (hc : ZN Go.Proofs.Tryz.prog f = true := by kernel_rfl) : Oks Go.Proofs.Tryz.prog G W0 ((f, s :: ss) :: r) := .cons _ _ _ _ hc hs h
theorem k1 {G : Nat → Prop} {W0 : World} {f : Nat} {s : zo E} {r} (hs : W1 Go.Proofs.Tryz.prog G W0 f s) (h : Oks Go.Proofs.Tryz.prog G W0 r) (hc : ZN Go.Proofs.Tryz.prog f = true := by kernel_rfl) : Oks Go.Proofs.Tryz.prog G W0 ((f, [s]) :: r) := .cons _ _ _ _ hc hs (.skip _ _ h)
abbrev Sd (G : Nat → Prop) (W0 : World) := W1 (E := E) Go.Proofs.Tryz.prog G W0
theorem gs {G : Nat → Prop} {W0 : World} {l : List (Nat × List (zo E))} {loops mv kept pk its} {f : FuncId} {fn : Func} {inn out : xf} {gi go : List Grp} {hi : uo E gi = inn.holes} {ho : uo E go = out.holes} (h : Oks Go.Proofs.Tryz.prog G W0 l) (h2 : Its Go.Proofs.Tryz.prog G W0 its) (hf : Go.Proofs.Tryz.prog.funcs[f]? = some fn := by kernel_rfl) (hb : fn.body.isSome = true := by kernel_rfl)
    (hk : (cf l loops mv kept pk its).kept = zfb inn.blks 0 := by kernel_rfl) (hn : Nat.ble inn.vals.length fn.ntmps = true := by kernel_rfl) : W1 Go.Proofs.Tryz.prog G W0 f (sp (cf l loops mv kept pk its) fn inn out gi go hi ho) := zuI (C := cf l loops mv kept pk its) zsh (zul h) rfl (zv9 h2) zud hf hb hk hn
variable {G : Nat → Prop} {W0 : World} (hG : zt6 G W0)
include hG
theorem zmr : Sd G W0 17 zit := gs .nil .nil
theorem VE : Sd G W0 68 Vo := gs .nil .nil
theorem zhn : Sd G W0 66 UO := gs (k1 (VE hG) .nil) .nil
theorem zh4 : Sd G W0 110 zaJ := gs .nil .nil
theorem ZW : Sd G W0 112 xQ := gs (k1 (zh4 hG) .nil) .nil
theorem Zr : Sd G W0 70 xz := gs (k1 (ZW hG) .nil) .nil
theorem zkk : Sd G W0 109 zc3 := gs (k1 (Zr hG) .nil) .nil
theorem Z3 : Sd G W0 150 xS := gs (k1 (zkk hG) .nil) .nil
theorem Zu : Sd G W0 111 xC := gs (k1 (Z3 hG) .nil) .nil
theorem zd6 : Sd G W0 67 zbT := gs (k1 (Zu hG) .nil) .nil
theorem zmk : Sd G W0 69 ziH := gs .nil .nil
theorem zj8 : Sd G W0 71 zcN := gs (k1 (VE hG) .nil) .nil
theorem Yv : Sd G W0 112 wb := gs (k1 (zj8 hG) .nil) .nil
theorem ZP : Sd G W0 70 xO := gs (k1 (Yv hG) .nil) .nil
theorem zjU : Sd G W0 152 zcy := gs .nil .nil
theorem zll : Sd G W0 115 zgq := gs (k1 (zjU hG) .nil) .nil
theorem zkE : Sd G W0 114 zeA := gs (k1 (zll hG) .nil) .nil
theorem Zd : Sd G W0 151 xj := gs (k1 (zkE hG) .nil) .nil
theorem uN : Sd G W0 113 yP := gs (k1 (Zd hG) .nil) .nil
theorem zmf : Sd G W0 72 zid := gs (k1 (uN hG) .nil) .nil
theorem zkO : Sd G W0 118 zgc := gs .nil .nil
theorem zjt : Sd G W0 117 zdb := gs (k1 (zkO hG) .nil) .nil
theorem uv : Sd G W0 153 yL := gs (k1 (zjt hG) .nil) .nil
theorem v8 : Sd G W0 116 yH := gs (k1 (uv hG) .nil) .nil
theorem zlA : Sd G W0 73 zf0 := gs (k1 (v8 hG) .nil) .nil
theorem zkX : Sd G W0 23 zfX := gs (k1 (zmr hG) (k1 (zhn hG) (k1 (zd6 hG) (k1 (VE hG) (k1 (zmk hG) (k1 (ZP hG) (k1 (zmf hG) (k1 (zlA hG) .nil)))))))) .nil
theorem zhu : Sd G W0 79 zhR := gs .nil .nil
theorem VW : Sd G W0 40 zbb := gs (k1 (zhu hG) .nil) .nil
theorem zp2 : Sd G W0 15 znv := gs (k1 (VW hG) .nil) .nil
theorem zlk : Sd G W0 24 zgb := gs (k1 (zp2 hG) .nil) .nil
theorem zfY : Sd G W0 74 V5 := gs .nil .nil
theorem zmb : Sd G W0 25 zh2 := gs (k1 (zfY hG) .nil) .nil
theorem zlB : Sd G W0 26 zfL := gs .nil .nil
theorem xd : Sd G W0 28 yU := gs .nil .nil
theorem YS : Sd G W0 27 wm := gs (k1 (xd hG) .nil) .nil
theorem zkB : Sd G W0 29 zep := gs .nil .nil
theorem VC : Sd G W0 30 Vt := gs .nil .nil
theorem VN : Sd G W0 31 Vr := gs .nil .nil
theorem zmg : Sd G W0 32 zik := gs .nil .nil
theorem zcc : Sd G W0 33 Xe := gs .nil .nil
theorem zm3 : Sd G W0 76 zjY := gs .nil .nil
theorem zn2 : ZZ Go.Proofs.Tryz.prog G W0 119 Ug := znc G W0 hG
theorem zmQ : Sd G W0 34 zjS := gs (k1 (zm3 hG) .nil) (.cons _ _ _ (zn2 hG) (.nil))
theorem UC : Sd G W0 43 uU := gs .nil .nil
theorem znj : Sd G W0 154 zjX := gs .nil .nil
theorem zmP : Sd G W0 155 zj0 := gs .nil .nil
theorem zng : Sd G W0 156 zj7 := gs .nil .nil
theorem zmV : Sd G W0 157 zke := gs .nil .nil
theorem Yx : Sd G W0 121 Ub := gs (k1 (UC hG) (k1 (znj hG) (k1 (zmP hG) (k1 (zng hG) (k1 (zmV hG) .nil))))) .nil
theorem zco : Sd G W0 77 zaB := gs (k1 (Yx hG) .nil) .nil
theorem zdL : Sd G W0 78 zbA := gs .nil .nil
theorem zl5 : Sd G W0 35 ziq := gs (k1 (zco hG) (k1 (zdL hG) .nil)) .nil
theorem Zx : Sd G W0 36 YR := gs .nil .nil
theorem Za : Sd G W0 38 ZM := gs (k1 (Zx hG) .nil) .nil
theorem Zw : Sd G W0 37 YI := gs (k1 (Za hG) .nil) .nil
theorem zci : ZZ Go.Proofs.Tryz.prog G W0 75 wM := zbp G W0 hG
theorem zeP : Sd G W0 8 zdj := gs (k1 (zkX hG) (k1 (zlk hG) (k1 (zmb hG) (k1 (zlB hG) (k1 (YS hG) (k1 (xd hG) (k1 (zkB hG) (k1 (VC hG) (k1 (VN hG) (k1 (zmg hG) (k1 (zcc hG) (k1 (zmQ hG) (k1 (zl5 hG) (k1 (Zx hG) (k1 (Zw hG) (k1 (Za hG) .nil)))))))))))))))) (.cons _ _ _ (zci hG) (.nil))
theorem vg : Sd G W0 54 wC := gs .nil .nil
theorem yu : Sd G W0 53 zN := gs (k1 (vg hG) .nil) .nil
theorem zeN : Sd G W0 51 zdh := gs (k1 (yu hG) .nil) .nil
theorem zfr : Sd G W0 82 VI := gs .nil .nil
theorem V3 : Sd G W0 84 uq := gs .nil .nil
theorem xE : Sd G W0 83 zY := gs (k1 (V3 hG) .nil) .nil
theorem WJ : Sd G W0 85 vv := gs .nil .nil
theorem zml : Sd G W0 50 ziJ := gs (k1 (zeN hG) (k1 (yu hG) (k1 (zfr hG) (k1 (xE hG) (k1 (WJ hG) .nil))))) .nil
theorem UE : Sd G W0 86 uS := gs .nil .nil
theorem znw : Sd G W0 52 zjv := gs (k1 (UE hG) .nil) .nil
theorem U3 : Sd G W0 87 Zq := gs .nil .nil
theorem zkH : Sd G W0 55 zeB := gs (k1 (U3 hG) .nil) .nil
theorem zfa : Sd G W0 57 VF := gs (k1 (vg hG) .nil) .nil
theorem xn : Sd G W0 56 zS := gs (k1 (zfa hG) .nil) .nil
theorem zcK : Sd G W0 88 XR := gs .nil .nil
theorem zew : Sd G W0 59 WT := gs (k1 (vg hG) (k1 (zcK hG) .nil)) .nil
theorem yT : Sd G W0 58 zL := gs (k1 (zew hG) .nil) .nil
theorem zlg : Sd G W0 13 zf8 := gs (k1 (zml hG) (k1 (zeN hG) (k1 (znw hG) (k1 (yu hG) (k1 (vg hG) (k1 (zkH hG) (k1 (xn hG) (k1 (yT hG) .nil)))))))) .nil
theorem zgF : Sd G W0 20 Uh := gs .nil .nil
theorem zhk : Sd G W0 49 UT := gs .nil .nil
theorem zcq : Sd G W0 12 zay := gs (k1 (zhk hG) .nil) .nil
theorem zgD : Sd G W0 21 Uj := gs (k1 (zcq hG) .nil) .nil
theorem wS : Sd G W0 132 vl := gs .nil .nil
theorem vP : Sd G W0 137 ve := gs .nil .nil
theorem ZU : Sd G W0 133 uA := gs (k1 (xd hG) (k1 (vP hG) .nil)) .nil
theorem zcE : Sd G W0 90 XV := gs (k1 (wS hG) (k1 (ZU hG) .nil)) .nil
theorem Ud : Sd G W0 134 Ue := gs .nil .nil
theorem zcz : Sd G W0 91 XP := gs (k1 (Ud hG) .nil) .nil
theorem zeg : Sd G W0 92 WP := gs (k1 (xd hG) .nil) .nil
theorem zbd : Sd G W0 162 Yi := gs .nil .nil
theorem zhT : Sd G W0 89 zhx := gs (k1 (zhu hG) .nil) .nil
theorem zdW : Sd G W0 177 zby := gs (k1 (VW hG) (k1 (zhT hG) .nil)) .nil
theorem Y7 : Sd G W0 180 Xr := gs .nil .nil
theorem vN : Sd G W0 186 va := gs (k1 (Zw hG) (k1 (Za hG) (k1 (Y7 hG) .nil))) .nil
theorem zcU : Sd G W0 163 XK := gs (k1 (VC hG) (k1 (VN hG) (k1 (zdW hG) (k1 (vN hG) .nil)))) .nil
theorem zcM : Sd G W0 164 X5 := gs .nil .nil
theorem zjF : Sd G W0 185 zcL := gs .nil .nil
theorem zjC : Sd G W0 185 zc2 := gs .nil .nil
theorem zkf : Sd G W0 185 zcS := gs .nil .nil
theorem zj1 : Sd G W0 185 zc1 := gs .nil .nil
theorem vi : Sd G W0 203 uK := gs (k1 (Yx hG) .nil) .nil
theorem xu : Sd G W0 204 xr := gs .nil .nil
theorem UX : Sd G W0 189 Zc := gs (k1 (vi hG) (k1 (xu hG) .nil)) .nil
theorem um : Sd G W0 205 vR := gs .nil .nil
theorem Vh : Sd G W0 206 Yn := gs .nil .nil
theorem xt : Sd G W0 207 xq := gs .nil .nil
theorem zcd : Sd G W0 190 Xh := gs (k1 (vi hG) (k1 (um hG) (k1 (Vh hG) (k1 (xt hG) .nil)))) .nil
theorem Zb : Sd G W0 208 ZI := gs (k1 (Yx hG) .nil) .nil
theorem Zn : Sd G W0 209 ui := gs (k1 (Vh hG) .nil) .nil
theorem zeW : Sd G W0 191 VG := gs (k1 (Zb hG) (k1 (Zn hG) .nil)) .nil
theorem zaL : Sd G W0 192 ZQ := gs (k1 (xu hG) (k1 (xt hG) (k1 (Zb hG) .nil))) .nil
theorem zd8 : Sd G W0 193 WE := gs (k1 (xu hG) (k1 (Zb hG) .nil)) .nil
theorem zcn : Sd G W0 210 zaC := gs .nil .nil
theorem zbi : Sd G W0 194 Yl := gs (k1 (vi hG) (k1 (um hG) (k1 (zcn hG) .nil))) .nil
theorem zcs : Sd G W0 195 XN := gs (k1 (vi hG) (k1 (xt hG) (k1 (Zn hG) .nil))) .nil
theorem Vj : Sd G W0 211 Ye := gs (k1 (Yx hG) (k1 (um hG) .nil)) .nil
theorem zcj : Sd G W0 196 Xm := gs (k1 (Vj hG) .nil) .nil
theorem zck : Sd G W0 197 Xi := gs (k1 (xu hG) (k1 (xt hG) (k1 (Zb hG) .nil))) .nil
theorem zcT : Sd G W0 198 XW := gs (k1 (xu hG) (k1 (xt hG) (k1 (Zb hG) .nil))) .nil
theorem zc8 : Sd G W0 199 XZ := gs (k1 (vi hG) (k1 (um hG) .nil)) .nil
theorem zcH : Sd G W0 200 X2 := gs (k1 (vi hG) (k1 (xu hG) (k1 (zcn hG) .nil))) .nil
theorem zcl : Sd G W0 201 Xj := gs (k1 (vi hG) (k1 (Zn hG) .nil)) .nil
theorem zbh : Sd G W0 202 Ya := gs (k1 (xt hG) (k1 (Vj hG) .nil)) .nil
theorem zdP : Sd G W0 158 zbC := gs (k2 (zjF hG) (k2 (zjC hG) (k2 (zkf hG) (k2 (zj1 hG) (.skip _ _ (k1 (UX hG) (k1 (zcd hG) (k1 (zeW hG) (k1 (zaL hG) (k1 (zd8 hG) (k1 (zbi hG) (k1 (zcs hG) (k1 (zcj hG) (k1 (zck hG) (k1 (zcT hG) (k1 (zc8 hG) (k1 (zcH hG) (k1 (zcl hG) (k1 (zbh hG) .nil))))))))))))))))))) .nil
theorem zcF : Sd G W0 165 XH := gs (k1 (zdP hG) (k1 (vN hG) .nil)) .nil
theorem zc6 : Sd G W0 166 XI := gs (k1 (vN hG) .nil) .nil
theorem zd1 : Sd G W0 187 zbO := gs (k1 (Yx hG) .nil) .nil
theorem Xt : Sd G W0 188 WF := gs .nil .nil
theorem zcw : Sd G W0 181 X3 := gs (k1 (zd1 hG) (k1 (Xt hG) .nil)) .nil
theorem zes : Sd G W0 182 W3 := gs (k1 (zco hG) (k1 (Xt hG) .nil)) .nil
theorem zce : Sd G W0 183 Xg := gs (k1 (zdL hG) (k1 (Yx hG) (k1 (Xt hG) .nil))) .nil
theorem zbf : Sd G W0 184 Yh := gs (k1 (zd1 hG) (k1 (Xt hG) .nil)) .nil
theorem Zo : Sd G W0 146 YM := gs (k1 (zcw hG) (k1 (zes hG) (k1 (zce hG) (k1 (zbf hG) .nil)))) .nil
theorem zc4 : Sd G W0 167 XY := gs (k1 (Zo hG) (k1 (vN hG) .nil)) .nil
theorem wR : Sd G W0 147 xV := gs .nil .nil
theorem zcr : Sd G W0 168 XS := gs (k1 (Zx hG) (k1 (Zw hG) (k1 (wR hG) (k1 (Y7 hG) .nil)))) .nil
theorem zbj : Sd G W0 169 Yj := gs (k1 (Zo hG) .nil) .nil
theorem zeR : Sd G W0 127 zdi := gs (k1 (zbd hG) (k1 (zcU hG) (k1 (zcM hG) (k1 (zcF hG) (k1 (zc6 hG) (k1 (zc4 hG) (k1 (zcr hG) (k1 (zbj hG) .nil)))))))) .nil
theorem X6 : Sd G W0 135 u0 := gs (k1 (zeR hG) .nil) .nil
theorem zda : Sd G W0 93 XJ := gs (k1 (X6 hG) .nil) .nil
theorem UH : Sd G W0 173 Wf := gs .nil .nil
theorem zaF : Sd G W0 148 zbu := gs (k1 (UH hG) .nil) .nil
theorem V4 : Sd G W0 136 XC := gs (k1 (wS hG) (k1 (zaF hG) .nil)) .nil
theorem zdC : Sd G W0 94 Wi := gs (k1 (wS hG) (k1 (ZU hG) (k1 (V4 hG) .nil))) .nil
theorem zeC : Sd G W0 95 WZ := gs (k1 (wS hG) (k1 (V4 hG) (k1 (vP hG) .nil))) .nil
theorem zhZ : Sd G W0 138 zhE := gs (k1 (zhT hG) .nil) .nil
theorem zcR : Sd G W0 96 XL := gs (k1 (zhZ hG) .nil) .nil
theorem zbe : Sd G W0 97 Yg := gs (k1 (xd hG) .nil) .nil
theorem zm5 : Sd G W0 139 zjK := gs (k1 (xd hG) (k1 (wR hG) (k1 (UH hG) .nil))) .nil
theorem zcG : Sd G W0 98 XM := gs (k1 (wS hG) (k1 (vP hG) (k1 (zm5 hG) .nil))) .nil
theorem zin : Sd G W0 175 zaO := gs .nil .nil
theorem Xf : Sd G W0 171 wE := gs (k1 (zin hG) .nil) .nil
theorem Zp : Sd G W0 170 uh := gs .nil .nil
theorem Ww : Sd G W0 179 Zm := gs (k1 (Zp hG) .nil) .nil
theorem zdV : Sd G W0 174 zbB := gs (k1 (Ww hG) .nil) .nil
theorem zjz : Sd G W0 140 zct := gs (k1 (Xf hG) (k1 (zdV hG) .nil)) .nil
theorem zbJ : Sd G W0 176 Yz := gs .nil .nil
theorem zlQ : Sd G W0 141 zgt := gs (k1 (zd6 hG) (k1 (zbJ hG) .nil)) .nil
theorem UW : Sd G W0 130 zak := gs (k1 (VW hG) (k1 (zhZ hG) .nil)) .nil
theorem zlu : Sd G W0 142 zgN := gs (k1 (UW hG) (k1 (zdW hG) .nil)) .nil
theorem zdc : Sd G W0 99 X1 := gs (k1 (wS hG) (k1 (ZU hG) (k1 (vP hG) (k1 (zjz hG) (k1 (zlQ hG) (k1 (zlu hG) .nil)))))) .nil
theorem ziQ : Sd G W0 178 zbF := gs .nil .nil
theorem Xw : Sd G W0 171 wO := gs (k1 (ziQ hG) .nil) .nil
theorem zkz : Sd G W0 143 zev := gs (k1 (Zp hG) (k1 (Xw hG) .nil)) .nil
theorem zjN : Sd G W0 144 zcD := gs (k1 (zdV hG) (k1 (Ww hG) .nil)) .nil
theorem WM : Sd G W0 145 ZF := gs (k1 (Zw hG) (k1 (Y7 hG) .nil)) .nil
theorem zdZ : Sd G W0 100 WH := gs (k1 (Zx hG) (k1 (zkz hG) (k1 (zjN hG) (k1 (WM hG) .nil)))) .nil
theorem zeu : Sd G W0 101 W2 := gs (k1 (Zo hG) .nil) .nil
theorem zcX : Sd G W0 102 XQ := gs (k1 (Za hG) (k1 (WM hG) (k1 (wR hG) .nil))) .nil
theorem zdU : Sd G W0 103 Wo := gs (k1 (Zo hG) .nil) .nil
theorem zcW : Sd G W0 104 XO := gs .nil .nil
theorem zac : Sd G W0 149 W7 := gs .nil .nil
theorem zdJ : Sd G W0 105 Wl := gs (k1 (Ud hG) (k1 (zaF hG) (k1 (zac hG) .nil))) .nil
theorem zek : Sd G W0 106 WU := gs (k1 (X6 hG) (k1 (zac hG) .nil)) .nil
theorem zjm : Sd G W0 172 zbW := gs .nil .nil
theorem Xs : Sd G W0 171 wQ := gs (k1 (zjm hG) .nil) .nil
theorem zcp : Sd G W0 131 zaw := gs (k1 (Zp hG) (k1 (Xs hG) .nil)) .nil
theorem zb6 : Sd G W0 107 YN := gs (k1 (UW hG) (k1 (zcp hG) .nil)) .nil
theorem zbr : Sd G W0 108 YY := gs .nil .nil
theorem zdM : Sd G W0 64 WG := gs (k1 (zcE hG) (k1 (zcz hG) (k1 (zeg hG) (k1 (zda hG) (k1 (zdC hG) (k1 (zeC hG) (k1 (zcR hG) (k1 (zbe hG) (k1 (zcG hG) (k1 (zdc hG) (k1 (zdZ hG) (k1 (zeu hG) (k1 (zcX hG) (k1 (zdU hG) (k1 (zcW hG) (k1 (zdJ hG) (k1 (zek hG) (k1 (zb6 hG) (k1 (zbr hG) .nil))))))))))))))))))) .nil
theorem Yw : Sd G W0 65 wi := gs .nil .nil
theorem zca : Sd G W0 22 Un := gs (k1 (zdM hG) (k1 (Yw hG) .nil)) .nil
theorem zdF : Sd G W0 7 WI := gs (k1 (zeP hG) (k1 (zlg hG) (k1 (zgF hG) (k1 (zgD hG) (k1 (zca hG) .nil))))) .nil
theorem YD : Sd G W0 39 vX := gs .nil .nil
theorem zbD : Sd G W0 41 Y2 := gs (k1 (YD hG) .nil) .nil
theorem zhj : Sd G W0 9 U0 := gs (k1 (YD hG) (k1 (VW hG) (k1 (zbD hG) .nil))) .nil
theorem zeH : Sd G W0 122 W9 := gs (k1 (Zo hG) .nil) .nil
theorem Vs : Sd G W0 129 Z6 := gs .nil .nil
theorem zaS : Sd G W0 160 V0 := gs (k1 (VC hG) (k1 (VN hG) .nil)) .nil
theorem UL : Sd G W0 161 Wg := gs (k1 (Zw hG) (k1 (Y7 hG) .nil)) .nil
theorem zec : Sd G W0 159 WV := gs (k1 (Zx hG) (k1 (zaS hG) (k1 (UL hG) .nil))) .nil
theorem ze7 : Sd G W0 123 VD := gs (k1 (Vs hG) (k1 (zdP hG) (k1 (zec hG) .nil))) .nil
theorem zdT : Sd G W0 124 Wt := gs (k1 (zaS hG) .nil) .nil
theorem zeo : Sd G W0 125 Vb := gs (k1 (Za hG) (k1 (wR hG) (k1 (UL hG) .nil))) .nil
theorem zaQ : Sd G W0 128 V2 := gs .nil .nil
theorem zeG : Sd G W0 126 Va := gs (k1 (zaQ hG) (k1 (Ud hG) (k1 (zaF hG) .nil))) .nil
theorem zel : Sd G W0 80 W8 := gs (k1 (zeH hG) (k1 (ze7 hG) (k1 (zdT hG) (k1 (zeo hG) (k1 (zeG hG) (k1 (zeR hG) (k1 (zaQ hG) (k1 (Vs hG) (k1 (UW hG) (k1 (zcp hG) .nil)))))))))) .nil
theorem Xb : Sd G W0 81 wy := gs .nil .nil
theorem zkv : Sd G W0 42 zeF := gs (k1 (zel hG) (k1 (Xb hG) .nil)) .nil
theorem zhs : Sd G W0 10 UQ := gs (k1 (zcq hG) (k1 (zca hG) (k1 (zkv hG) .nil))) .nil
theorem zaM : Sd G W0 3 ZL := gs (k1 (zdF hG) (k1 (zeP hG) (k1 (zhj hG) (k1 (zhs hG) .nil)))) .nil
end Go.Pe.G
