/- Own work of this seat: G4e, G4f, EQ, G2i, GH, G3. -/
import Derived.Test.YtcjjhmfdiiookaaGreatDoorMRGa
set_option linter.unusedVariables false
set_option linter.unusedSectionVars false
set_option linter.unusedSimpArgs false
set_option linter.unnecessarySimpa false
set_option linter.deprecated false
set_option maxRecDepth 100000
namespace Go.Pe.G
open Go.Pe
theorem V9 (s1 : Int) (s2 : Int) (s3 : Int) (s4 : zb) (s5 : Int) (s6 : Int) (s7 : Int) (s8 : Int) (s9 : Int) (s10 : Int) (s11 : Int) (s12 : Int) (s13 : Int) (s14 : BitVec 64) (s15 : Int) (s16 : zt) (s17 : Int) (s18 : Int) (s19 : Bool) (s20 : Bool) (s21 : Int) (s22 : Int) (s23 : Int) (s24 : Int) (s25 : zr) (s26 : List (List Int)) (s27 : List (List Int)) (s28 : List (List zg)) (s29 : List zi) (s30 : List (List Int)) (s31 : List (BitVec 64)) (s32 : List (List Int)) (s33 : List Int) (s34 : List Int) (s35 : List zj) (s36 : List zc) : uj (s1, s2, s3, s4, s5, s6, s7, s8, s9, s10, s11, s12, s13, s14, s15, s16, s17, s18, s19, s20, s21, s22, s23, s24, s25, s26, s27, s28, s29, s30, s31, s32, s33, s34, s35, s36, ()) =
 bif decide (s3 < s2) then
  (Wm s4 s1).bind fun y1 =>
  some (.again (s1, s2, w64 (s3 + 1), y1.1, s5, s6, s7, s8, s9, s10, s11, s12, s13, s14, s15, s16, s17, s18, s19, s20, s21, s22, s23, s24, s25, s26, s27, s28, s29, s30, s31, s32, s33, s34, s35, s36, ()))
 else
  some (.brk (s4, s5, s6, s7, s8, s9, s10, s11, s12, s13, s14, s15, s16, s17, s18, s19, s20, s21, s22, s23, s24, s25, s26, s27, s28, s29, s30, s31, s32, s33, s34, s35, s36, ())) := by kernel_rfl
theorem ziU (a1 : zb) (a2 : Int) (a3 : Int) : yp a1 a2 a3 =
 (yj uj (a2, a3, 0, a1, 0, 0, 0, 0, 0, 0, 0, 0, 0, 0#64, 0, zt.mk 0#64 0#64, 0, 0, false, false, 0, 0, 0, 0, zr.mk 0 0, ([] : List (List Int)), ([] : List (List Int)), ([] : List (List zg)), ([] : List zi), ([] : List (List Int)), ([] : List (BitVec 64)), ([] : List (List Int)), ([] : List Int), ([] : List Int), ([] : List zj), ([] : List zc), ())).bind fun st => match st with
   | .again _ => none
   | .brk y1 =>
   some (y1.1, ())
   | .ret y1 =>
   none := zp (by kernel_rfl)
theorem zeH (s1 : ByteArray) (s2 : List (List Int)) (s3 : Int) (s4 : Int) : zcy (s1, s2, s3, s4, ()) =
 bif decide (s4 < s3) then
  (idx s2 s4).bind fun x1 =>
  (yj zcx (s1, s2, s3, s4, x1, (x1.length : Int), 0, ([] : List ByteArray), ())).bind fun st => match st with
    | .again _ => none
    | .brk y2 =>
    (zuu y2.2.2.2.2.1 (ByteArray.mk #[44])).bind fun y3 =>
    bif decide ((ByteArray.mk #[124]).size + y3.1.size < 4294967296) then
     bif decide (y2.1.size + ((ByteArray.mk #[124]) ++ y3.1).size < 4294967296) then
      some (.again (y2.1 ++ ((ByteArray.mk #[124]) ++ y3.1), y2.2.1, y2.2.2.1, w64 (y2.2.2.2.1 + 1), ()))
     else
      none
    else
     none
    | .ret y2 =>
    some (.ret (()))
 else
  some (.brk (s1, ())) := by kernel_rfl
theorem zeI (s1 : ByteArray) (s2 : List (List Int)) (s3 : Int) (s4 : Int) (s5 : List Int) (s6 : Int) (s7 : Int) (s8 : List ByteArray) : zcx (s1, s2, s3, s4, s5, s6, s7, s8, ()) =
 bif decide (s7 < s6) then
  (idx s5 s7).bind fun x1 =>
  (zrd x1).bind fun y2 =>
  (wq (s8 ++ ([y2.1] : List ByteArray))).bind fun l3 =>
  some (.again (s1, s2, s3, s4, s5, s6, w64 (s7 + 1), l3, ()))
 else
  some (.brk (s1, s2, s3, s4, s8, ())) := by kernel_rfl
theorem zpm (a1 : zn) : zad a1 =
 (Wr a1).bind fun y1 =>
 bif !y1.1 then
  some (ByteArray.mk #[63], ())
 else
  (zrd a1.Slots).bind fun y2 =>
  (yj zcy (y2.1, a1.Objs, (a1.Objs.length : Int), 0, ())).bind fun st => match st with
    | .again _ => none
    | .brk y3 =>
    some (y3.1, ())
    | .ret y3 =>
    none := zp (by kernel_rfl)
theorem zgs  : WK  =
 (Xy (([(([(zg.mk 1 1 0 0), (zg.mk 5 1 0 0), (zg.mk 2 1 0 0)] : List zg))] : List (List zg)))).bind fun y1 =>
 (UZ y1.1).bind fun y2 =>
 (yp y2.1 1 2).bind fun y3 =>
 (yp y2.1 1 7).bind fun y4 =>
 (yp y2.1 1 8).bind fun y5 =>
 (yp y2.1 1 99).bind fun y6 =>
 (Xy (([(([(zg.mk 3 1 0 0), (zg.mk 3 1 0 0)] : List zg))] : List (List zg)))).bind fun y7 =>
 (UZ y7.1).bind fun y8 =>
 (yp y8.1 1 2).bind fun y9 =>
 (yp y8.1 1 5).bind fun y10 =>
 (yp y8.1 1 60).bind fun y11 =>
 bif !(decide (((y2.1.Ms.length : Int)) = 1)) then
  some (false, ())
 else
  bif !(decide (((y3.1.Ms.length : Int)) = 1)) then
   some (false, ())
  else
   bif !(decide (((y4.1.Ms.length : Int)) = 1)) then
    some (false, ())
   else
    bif !(decide (((y5.1.Ms.length : Int)) = 1)) then
     some (false, ())
    else
     bif !(decide (((y6.1.Ms.length : Int)) = 1)) then
      some (false, ())
     else
      bif !(decide (((y9.1.Ms.length : Int)) = 1)) then
       some (false, ())
      else
       bif !(decide (((y10.1.Ms.length : Int)) = 1)) then
        some (false, ())
       else
        bif !(decide (((y11.1.Ms.length : Int)) = 1)) then
         some (false, ())
        else
         (idx y3.1.Ms 0).bind fun x12 =>
         (idx x12.Regs 1).bind fun x13 =>
         bif decide (x13 = 2) then
          (idx y3.1.Ms 0).bind fun x14 =>
          bif decide (x14.IP = 1) then
           (idx y4.1.Ms 0).bind fun x15 =>
           bif decide (x15.PC = 23) then
            (idx y4.1.Ms 0).bind fun x16 =>
            bif decide (((x16.Buf.length : Int)) = 1) then
             (idx y4.1.Ms 0).bind fun x17 =>
             (idx x17.Buf 0).bind fun x18 =>
             bif decide (x18 = 2) then
              (zad y4.1.H).bind fun y19 =>
              bif decide (y19.1 = (ByteArray.mk #[49, 124, 50, 124, 48, 124, 48])) then
               (zad y5.1.H).bind fun y20 =>
               bif decide (y20.1 = (ByteArray.mk #[49, 124, 48, 124, 48, 124, 48])) then
                (Ve y6.1 1).bind fun y21 =>
                bif y21.1 then
                 (Ve y4.1 1).bind fun y22 =>
                 bif !y22.1 then
                  (Ve y6.1 2).bind fun y23 =>
                  bif !y23.1 then
                   (Wm y6.1 1).bind fun y24 =>
                   (zfW y6.1 y24.1).bind fun y25 =>
                   bif y25.1 then
                    (zad y9.1.H).bind fun y26 =>
                    bif decide (y26.1 = (ByteArray.mk #[49, 124, 50, 124, 48, 124, 48, 124, 48])) then
                     (idx y9.1.Ms 0).bind fun x27 =>
                     (idx x27.Regs 1).bind fun x28 =>
                     bif decide (x28 = 4) then
                      bif (decide (y9.1.T.Marks = 9#64)) && (decide (y9.1.T.Black = 8#64)) then
                       (idx y9.1.L.Bal 0).bind fun x29 =>
                       bif decide (x29 = (-2)) then
                        bif decide (y9.1.L.Spent = 2) then
                         (idx y10.1.Ms 0).bind fun x30 =>
                         bif decide (x30.PC = 32) then
                          bif decide (y11.1.L.Scanned = 2) then
                           some (decide (y11.1.T.Black = 11#64), ())
                          else
                           some (false, ())
                         else
                          some (false, ())
                        else
                         some (false, ())
                       else
                        some (false, ())
                      else
                       some (false, ())
                     else
                      some (false, ())
                    else
                     some (false, ())
                   else
                    some (false, ())
                  else
                   some (false, ())
                 else
                  some (false, ())
                else
                 some (false, ())
               else
                some (false, ())
              else
               some (false, ())
             else
              some (false, ())
            else
             some (false, ())
           else
            some (false, ())
          else
           some (false, ())
         else
          some (false, ()) := zp (by kernel_rfl)
theorem zb7 (a1 : zy) : zw a1 =
 bif decide (((a1.L.length : Int)) ≤ a1.At) then
  some (0, a1, ())
 else
  (idx a1.L (w64 ((w64 (a1.At + 1)) - 1))).bind fun x1 =>
  some ((x1.toNat : Int), { a1 with At := w64 (a1.At + 1) }, ()) := zp (by kernel_rfl)
theorem zdQ (a1 : Int) (a2 : Int) (a3 : zy) : YS a1 a2 a3 =
 (zw a3).bind fun y1 =>
 (xE ([1, 1, 2, 2, 2, 3, 4, 5] : List Int) (y1.1.tmod 8)).bind fun n2 =>
 (([1, 1, 2, 2, 2, 3, 4, 5] : List Int)[n2]?).bind fun x3 =>
 (zw y1.2.1).bind fun y4 =>
 bif decide (a1 = 0) then
  none
 else
  bif decide (x3 = 1) then
   (zw y4.2.1).bind fun y5 =>
   bif decide (a1 = 0) then
    none
   else
    bif decide (x3 < 3) then
     (zw y5.2.1).bind fun y6 =>
     bif decide (a2 = 0) then
      none
     else
      some (zg.mk x3 (y4.1.tmod a1) (y5.1.tmod a1) (y6.1.tmod a2), y6.2.1, ())
    else
     some (zg.mk x3 (y4.1.tmod a1) (y5.1.tmod a1) 0, y5.2.1, ())
  else
   bif decide (x3 = 2) then
    (zw y4.2.1).bind fun y7 =>
    bif decide (a1 = 0) then
     none
    else
     bif decide (x3 < 3) then
      (zw y7.2.1).bind fun y8 =>
      bif decide (a2 = 0) then
       none
      else
       some (zg.mk x3 (y4.1.tmod a1) (y7.1.tmod a1) (y8.1.tmod a2), y8.2.1, ())
     else
      some (zg.mk x3 (y4.1.tmod a1) (y7.1.tmod a1) 0, y7.2.1, ())
   else
    bif decide (x3 = 4) then
     (zw y4.2.1).bind fun y9 =>
     bif decide (a1 = 0) then
      none
     else
      bif decide (x3 < 3) then
       (zw y9.2.1).bind fun y10 =>
       bif decide (a2 = 0) then
        none
       else
        some (zg.mk x3 (y4.1.tmod a1) (y9.1.tmod a1) (y10.1.tmod a2), y10.2.1, ())
      else
       some (zg.mk x3 (y4.1.tmod a1) (y9.1.tmod a1) 0, y9.2.1, ())
    else
     bif decide (x3 < 3) then
      (zw y4.2.1).bind fun y11 =>
      bif decide (a2 = 0) then
       none
      else
       some (zg.mk x3 (y4.1.tmod a1) 0 (y11.1.tmod a2), y11.2.1, ())
     else
      some (zg.mk x3 (y4.1.tmod a1) 0 0, y4.2.1, ()) := zp (by kernel_rfl)
theorem zgY (s1 : Int) (s2 : Int) (s3 : Int) (s4 : Int) (s5 : Int) (s6 : Int) (s7 : Int) (s8 : Int) (s9 : Int) (s10 : Int) (s11 : Int) (s12 : BitVec 64) (s13 : zy) (s14 : Int) (s15 : Int) (s16 : Int) (s17 : Int) (s18 : Int) (s19 : Int) (s20 : Int) (s21 : Int) (s22 : Int) (s23 : BitVec 64) (s24 : List (List Int)) (s25 : List (List Int)) (s26 : List (List zg)) (s27 : List zi) (s28 : List (List Int)) (s29 : List (List Int)) (s30 : List (List zg)) (s31 : List zi) : Yk (s1, s2, s3, s4, s5, s6, s7, s8, s9, s10, s11, s12, s13, s14, s15, s16, s17, s18, s19, s20, s21, s22, s23, s24, s25, s26, s27, s28, s29, s30, s31, ()) =
 bif decide (s2 < s1) then
  (yj ZL (s1, s2, 0, s3, s4, s5, s6, s7, s8, s9, s10, s11, s12, s13, s14, s15, s16, s17, s18, s19, s20, s21, s22, s23, ([] : List Int), s24, s25, s26, s27, s28, s29, s30, s31, ())).bind fun st => match st with
    | .again _ => none
    | .brk y1 =>
    (wq (y1.2.2.2.2.2.2.2.2.2.2.2.2.2.2.2.2.2.2.2.2.2.2.2.2.2.2.2.2.1 ++ (([y1.2.2.2.2.2.2.2.2.2.2.2.2.2.2.2.2.2.2.2.2.2.2.2.1] : List (List Int))))).bind fun l2 =>
    some (.again (y1.1, w64 (y1.2.1 + 1), y1.2.2.1, y1.2.2.2.1, y1.2.2.2.2.1, y1.2.2.2.2.2.1, y1.2.2.2.2.2.2.1, y1.2.2.2.2.2.2.2.1, y1.2.2.2.2.2.2.2.2.1, y1.2.2.2.2.2.2.2.2.2.1, y1.2.2.2.2.2.2.2.2.2.2.1, y1.2.2.2.2.2.2.2.2.2.2.2.1, y1.2.2.2.2.2.2.2.2.2.2.2.2.1, y1.2.2.2.2.2.2.2.2.2.2.2.2.2.1, y1.2.2.2.2.2.2.2.2.2.2.2.2.2.2.1, y1.2.2.2.2.2.2.2.2.2.2.2.2.2.2.2.1, y1.2.2.2.2.2.2.2.2.2.2.2.2.2.2.2.2.1, y1.2.2.2.2.2.2.2.2.2.2.2.2.2.2.2.2.2.1, y1.2.2.2.2.2.2.2.2.2.2.2.2.2.2.2.2.2.2.1, y1.2.2.2.2.2.2.2.2.2.2.2.2.2.2.2.2.2.2.2.1, y1.2.2.2.2.2.2.2.2.2.2.2.2.2.2.2.2.2.2.2.2.1, y1.2.2.2.2.2.2.2.2.2.2.2.2.2.2.2.2.2.2.2.2.2.1, y1.2.2.2.2.2.2.2.2.2.2.2.2.2.2.2.2.2.2.2.2.2.2.1, y1.2.2.2.2.2.2.2.2.2.2.2.2.2.2.2.2.2.2.2.2.2.2.2.2.1, y1.2.2.2.2.2.2.2.2.2.2.2.2.2.2.2.2.2.2.2.2.2.2.2.2.2.1, y1.2.2.2.2.2.2.2.2.2.2.2.2.2.2.2.2.2.2.2.2.2.2.2.2.2.2.1, y1.2.2.2.2.2.2.2.2.2.2.2.2.2.2.2.2.2.2.2.2.2.2.2.2.2.2.2.1, l2, y1.2.2.2.2.2.2.2.2.2.2.2.2.2.2.2.2.2.2.2.2.2.2.2.2.2.2.2.2.2.1, y1.2.2.2.2.2.2.2.2.2.2.2.2.2.2.2.2.2.2.2.2.2.2.2.2.2.2.2.2.2.2.1, y1.2.2.2.2.2.2.2.2.2.2.2.2.2.2.2.2.2.2.2.2.2.2.2.2.2.2.2.2.2.2.2.1, ()))
    | .ret y1 =>
    some (.ret (()))
 else
  some (.brk (s1, s3, s4, s5, s6, s7, s8, s9, s10, s11, s12, s13, s14, s15, s16, s17, s18, s19, s20, s21, s22, s23, s24, s25, s26, s27, s28, s29, s30, s31, ())) := by kernel_rfl
theorem zfT (s1 : Int) (s2 : Int) (s3 : Int) (s4 : Int) (s5 : Int) (s6 : Int) (s7 : Int) (s8 : Int) (s9 : Int) (s10 : Int) (s11 : Int) (s12 : Int) (s13 : BitVec 64) (s14 : zy) (s15 : Int) (s16 : Int) (s17 : Int) (s18 : Int) (s19 : Int) (s20 : Int) (s21 : Int) (s22 : Int) (s23 : Int) (s24 : BitVec 64) (s25 : List Int) (s26 : List (List Int)) (s27 : List (List Int)) (s28 : List (List zg)) (s29 : List zi) (s30 : List (List Int)) (s31 : List (List Int)) (s32 : List (List zg)) (s33 : List zi) : ZL (s1, s2, s3, s4, s5, s6, s7, s8, s9, s10, s11, s12, s13, s14, s15, s16, s17, s18, s19, s20, s21, s22, s23, s24, s25, s26, s27, s28, s29, s30, s31, s32, s33, ()) =
 bif decide (s3 < s23) then
  (zw s14).bind fun y1 =>
  bif decide ((w64 (s1 + 1)) = 0) then
   none
  else
   (wq (s25 ++ (([(y1.1.tmod (w64 (s1 + 1)))] : List Int)))).bind fun l2 =>
   some (.again (s1, s2, w64 (s3 + 1), s4, s5, s6, s7, s8, s9, s10, s11, s12, s13, y1.2.1, s15, s16, s17, s18, s19, s20, s21, s22, s23, s24, l2, s26, s27, s28, s29, s30, s31, s32, s33, ()))
 else
  some (.brk (s1, s2, s4, s5, s6, s7, s8, s9, s10, s11, s12, s13, s14, s15, s16, s17, s18, s19, s20, s21, s22, s23, s24, s25, s26, s27, s28, s29, s30, s31, s32, s33, ())) := by kernel_rfl
theorem zf5 (s1 : Int) (s2 : Int) (s3 : Int) (s4 : Int) (s5 : Int) (s6 : Int) (s7 : Int) (s8 : Int) (s9 : Int) (s10 : Int) (s11 : Int) (s12 : BitVec 64) (s13 : zy) (s14 : Int) (s15 : Int) (s16 : Int) (s17 : Int) (s18 : Int) (s19 : Int) (s20 : Int) (s21 : Int) (s22 : Int) (s23 : BitVec 64) (s24 : List (List Int)) (s25 : List (List Int)) (s26 : List (List zg)) (s27 : List zi) (s28 : List (List Int)) (s29 : List (List Int)) (s30 : List (List zg)) (s31 : List zi) : ZG (s1, s2, s3, s4, s5, s6, s7, s8, s9, s10, s11, s12, s13, s14, s15, s16, s17, s18, s19, s20, s21, s22, s23, s24, s25, s26, s27, s28, s29, s30, s31, ()) =
 bif decide (s2 < s15) then
  (yj ZK (s1, s2, 0, s3, s4, s5, s6, s7, s8, s9, s10, s11, s12, s13, s14, s15, s16, s17, s18, s19, s20, s21, s22, s23, ([] : List Int), s24, s25, s26, s27, s28, s29, s30, s31, ())).bind fun st => match st with
    | .again _ => none
    | .brk y1 =>
    bif decide (((y1.2.2.2.2.2.2.2.2.2.2.2.2.2.2.2.2.2.2.2.2.2.2.2.1.length : Int)) = 0) then
     (zw y1.2.2.2.2.2.2.2.2.2.2.2.2.1).bind fun y2 =>
     (yj ur (y1.1, y1.2.1, y2.1.tmod 8, y1.2.2.1, y1.2.2.2.1, y1.2.2.2.2.1, y1.2.2.2.2.2.1, y1.2.2.2.2.2.2.1, y1.2.2.2.2.2.2.2.1, y1.2.2.2.2.2.2.2.2.1, y1.2.2.2.2.2.2.2.2.2.1, y1.2.2.2.2.2.2.2.2.2.2.1, y1.2.2.2.2.2.2.2.2.2.2.2.1, y2.2.1, y1.2.2.2.2.2.2.2.2.2.2.2.2.2.1, y1.2.2.2.2.2.2.2.2.2.2.2.2.2.2.1, y1.2.2.2.2.2.2.2.2.2.2.2.2.2.2.2.1, y1.2.2.2.2.2.2.2.2.2.2.2.2.2.2.2.2.1, y1.2.2.2.2.2.2.2.2.2.2.2.2.2.2.2.2.2.1, y1.2.2.2.2.2.2.2.2.2.2.2.2.2.2.2.2.2.2.1, y1.2.2.2.2.2.2.2.2.2.2.2.2.2.2.2.2.2.2.2.1, y1.2.2.2.2.2.2.2.2.2.2.2.2.2.2.2.2.2.2.2.2.1, y1.2.2.2.2.2.2.2.2.2.2.2.2.2.2.2.2.2.2.2.2.2.1, y1.2.2.2.2.2.2.2.2.2.2.2.2.2.2.2.2.2.2.2.2.2.2.1, ([0] : List Int), ([] : List zg), y1.2.2.2.2.2.2.2.2.2.2.2.2.2.2.2.2.2.2.2.2.2.2.2.2.1, y1.2.2.2.2.2.2.2.2.2.2.2.2.2.2.2.2.2.2.2.2.2.2.2.2.2.1, y1.2.2.2.2.2.2.2.2.2.2.2.2.2.2.2.2.2.2.2.2.2.2.2.2.2.2.1, y1.2.2.2.2.2.2.2.2.2.2.2.2.2.2.2.2.2.2.2.2.2.2.2.2.2.2.2.1, y1.2.2.2.2.2.2.2.2.2.2.2.2.2.2.2.2.2.2.2.2.2.2.2.2.2.2.2.2.1, y1.2.2.2.2.2.2.2.2.2.2.2.2.2.2.2.2.2.2.2.2.2.2.2.2.2.2.2.2.2.1, y1.2.2.2.2.2.2.2.2.2.2.2.2.2.2.2.2.2.2.2.2.2.2.2.2.2.2.2.2.2.2.1, y1.2.2.2.2.2.2.2.2.2.2.2.2.2.2.2.2.2.2.2.2.2.2.2.2.2.2.2.2.2.2.2.1, ())).bind fun st => match st with
       | .again _ => none
       | .brk y3 =>
       (wq (y3.2.2.2.2.2.2.2.2.2.2.2.2.2.2.2.2.2.2.2.2.2.2.2.2.2.2.2.2.2.2.1 ++ (([y3.2.2.2.2.2.2.2.2.2.2.2.2.2.2.2.2.2.2.2.2.2.2.2.1] : List (List Int))))).bind fun l4 =>
       (wq (y3.2.2.2.2.2.2.2.2.2.2.2.2.2.2.2.2.2.2.2.2.2.2.2.2.2.2.2.2.2.2.2.1 ++ (([y3.2.2.2.2.2.2.2.2.2.2.2.2.2.2.2.2.2.2.2.2.2.2.2.2.1] : List (List zg))))).bind fun l5 =>
       some (.again (y3.1, w64 (y3.2.1 + 1), y3.2.2.1, y3.2.2.2.1, y3.2.2.2.2.1, y3.2.2.2.2.2.1, y3.2.2.2.2.2.2.1, y3.2.2.2.2.2.2.2.1, y3.2.2.2.2.2.2.2.2.1, y3.2.2.2.2.2.2.2.2.2.1, y3.2.2.2.2.2.2.2.2.2.2.1, y3.2.2.2.2.2.2.2.2.2.2.2.1, y3.2.2.2.2.2.2.2.2.2.2.2.2.1, y3.2.2.2.2.2.2.2.2.2.2.2.2.2.1, y3.2.2.2.2.2.2.2.2.2.2.2.2.2.2.1, y3.2.2.2.2.2.2.2.2.2.2.2.2.2.2.2.1, y3.2.2.2.2.2.2.2.2.2.2.2.2.2.2.2.2.1, y3.2.2.2.2.2.2.2.2.2.2.2.2.2.2.2.2.2.1, y3.2.2.2.2.2.2.2.2.2.2.2.2.2.2.2.2.2.2.1, y3.2.2.2.2.2.2.2.2.2.2.2.2.2.2.2.2.2.2.2.1, y3.2.2.2.2.2.2.2.2.2.2.2.2.2.2.2.2.2.2.2.2.1, y3.2.2.2.2.2.2.2.2.2.2.2.2.2.2.2.2.2.2.2.2.2.1, y3.2.2.2.2.2.2.2.2.2.2.2.2.2.2.2.2.2.2.2.2.2.2.1, y3.2.2.2.2.2.2.2.2.2.2.2.2.2.2.2.2.2.2.2.2.2.2.2.2.2.1, y3.2.2.2.2.2.2.2.2.2.2.2.2.2.2.2.2.2.2.2.2.2.2.2.2.2.2.1, y3.2.2.2.2.2.2.2.2.2.2.2.2.2.2.2.2.2.2.2.2.2.2.2.2.2.2.2.1, y3.2.2.2.2.2.2.2.2.2.2.2.2.2.2.2.2.2.2.2.2.2.2.2.2.2.2.2.2.1, y3.2.2.2.2.2.2.2.2.2.2.2.2.2.2.2.2.2.2.2.2.2.2.2.2.2.2.2.2.2.1, l4, l5, y3.2.2.2.2.2.2.2.2.2.2.2.2.2.2.2.2.2.2.2.2.2.2.2.2.2.2.2.2.2.2.2.2.1, ()))
       | .ret y3 =>
       some (.ret (()))
    else
     (zw y1.2.2.2.2.2.2.2.2.2.2.2.2.1).bind fun y6 =>
     (yj ur (y1.1, y1.2.1, y6.1.tmod 8, y1.2.2.1, y1.2.2.2.1, y1.2.2.2.2.1, y1.2.2.2.2.2.1, y1.2.2.2.2.2.2.1, y1.2.2.2.2.2.2.2.1, y1.2.2.2.2.2.2.2.2.1, y1.2.2.2.2.2.2.2.2.2.1, y1.2.2.2.2.2.2.2.2.2.2.1, y1.2.2.2.2.2.2.2.2.2.2.2.1, y6.2.1, y1.2.2.2.2.2.2.2.2.2.2.2.2.2.1, y1.2.2.2.2.2.2.2.2.2.2.2.2.2.2.1, y1.2.2.2.2.2.2.2.2.2.2.2.2.2.2.2.1, y1.2.2.2.2.2.2.2.2.2.2.2.2.2.2.2.2.1, y1.2.2.2.2.2.2.2.2.2.2.2.2.2.2.2.2.2.1, y1.2.2.2.2.2.2.2.2.2.2.2.2.2.2.2.2.2.2.1, y1.2.2.2.2.2.2.2.2.2.2.2.2.2.2.2.2.2.2.2.1, y1.2.2.2.2.2.2.2.2.2.2.2.2.2.2.2.2.2.2.2.2.1, y1.2.2.2.2.2.2.2.2.2.2.2.2.2.2.2.2.2.2.2.2.2.1, y1.2.2.2.2.2.2.2.2.2.2.2.2.2.2.2.2.2.2.2.2.2.2.1, y1.2.2.2.2.2.2.2.2.2.2.2.2.2.2.2.2.2.2.2.2.2.2.2.1, ([] : List zg), y1.2.2.2.2.2.2.2.2.2.2.2.2.2.2.2.2.2.2.2.2.2.2.2.2.1, y1.2.2.2.2.2.2.2.2.2.2.2.2.2.2.2.2.2.2.2.2.2.2.2.2.2.1, y1.2.2.2.2.2.2.2.2.2.2.2.2.2.2.2.2.2.2.2.2.2.2.2.2.2.2.1, y1.2.2.2.2.2.2.2.2.2.2.2.2.2.2.2.2.2.2.2.2.2.2.2.2.2.2.2.1, y1.2.2.2.2.2.2.2.2.2.2.2.2.2.2.2.2.2.2.2.2.2.2.2.2.2.2.2.2.1, y1.2.2.2.2.2.2.2.2.2.2.2.2.2.2.2.2.2.2.2.2.2.2.2.2.2.2.2.2.2.1, y1.2.2.2.2.2.2.2.2.2.2.2.2.2.2.2.2.2.2.2.2.2.2.2.2.2.2.2.2.2.2.1, y1.2.2.2.2.2.2.2.2.2.2.2.2.2.2.2.2.2.2.2.2.2.2.2.2.2.2.2.2.2.2.2.1, ())).bind fun st => match st with
       | .again _ => none
       | .brk y7 =>
       (wq (y7.2.2.2.2.2.2.2.2.2.2.2.2.2.2.2.2.2.2.2.2.2.2.2.2.2.2.2.2.2.2.1 ++ (([y7.2.2.2.2.2.2.2.2.2.2.2.2.2.2.2.2.2.2.2.2.2.2.2.1] : List (List Int))))).bind fun l8 =>
       (wq (y7.2.2.2.2.2.2.2.2.2.2.2.2.2.2.2.2.2.2.2.2.2.2.2.2.2.2.2.2.2.2.2.1 ++ (([y7.2.2.2.2.2.2.2.2.2.2.2.2.2.2.2.2.2.2.2.2.2.2.2.2.1] : List (List zg))))).bind fun l9 =>
       some (.again (y7.1, w64 (y7.2.1 + 1), y7.2.2.1, y7.2.2.2.1, y7.2.2.2.2.1, y7.2.2.2.2.2.1, y7.2.2.2.2.2.2.1, y7.2.2.2.2.2.2.2.1, y7.2.2.2.2.2.2.2.2.1, y7.2.2.2.2.2.2.2.2.2.1, y7.2.2.2.2.2.2.2.2.2.2.1, y7.2.2.2.2.2.2.2.2.2.2.2.1, y7.2.2.2.2.2.2.2.2.2.2.2.2.1, y7.2.2.2.2.2.2.2.2.2.2.2.2.2.1, y7.2.2.2.2.2.2.2.2.2.2.2.2.2.2.1, y7.2.2.2.2.2.2.2.2.2.2.2.2.2.2.2.1, y7.2.2.2.2.2.2.2.2.2.2.2.2.2.2.2.2.1, y7.2.2.2.2.2.2.2.2.2.2.2.2.2.2.2.2.2.1, y7.2.2.2.2.2.2.2.2.2.2.2.2.2.2.2.2.2.2.1, y7.2.2.2.2.2.2.2.2.2.2.2.2.2.2.2.2.2.2.2.1, y7.2.2.2.2.2.2.2.2.2.2.2.2.2.2.2.2.2.2.2.2.1, y7.2.2.2.2.2.2.2.2.2.2.2.2.2.2.2.2.2.2.2.2.2.1, y7.2.2.2.2.2.2.2.2.2.2.2.2.2.2.2.2.2.2.2.2.2.2.1, y7.2.2.2.2.2.2.2.2.2.2.2.2.2.2.2.2.2.2.2.2.2.2.2.2.2.1, y7.2.2.2.2.2.2.2.2.2.2.2.2.2.2.2.2.2.2.2.2.2.2.2.2.2.2.1, y7.2.2.2.2.2.2.2.2.2.2.2.2.2.2.2.2.2.2.2.2.2.2.2.2.2.2.2.1, y7.2.2.2.2.2.2.2.2.2.2.2.2.2.2.2.2.2.2.2.2.2.2.2.2.2.2.2.2.1, y7.2.2.2.2.2.2.2.2.2.2.2.2.2.2.2.2.2.2.2.2.2.2.2.2.2.2.2.2.2.1, l8, l9, y7.2.2.2.2.2.2.2.2.2.2.2.2.2.2.2.2.2.2.2.2.2.2.2.2.2.2.2.2.2.2.2.2.1, ()))
       | .ret y7 =>
       some (.ret (()))
    | .ret y1 =>
    some (.ret (()))
 else
  some (.brk (s3, s4, s5, s6, s7, s8, s9, s10, s11, s12, s14, s15, s16, s17, s18, s19, s20, s21, s22, s23, s24, s25, s26, s27, s28, s29, s30, s31, ())) := by kernel_rfl
theorem zfU (s1 : Int) (s2 : Int) (s3 : Int) (s4 : Int) (s5 : Int) (s6 : Int) (s7 : Int) (s8 : Int) (s9 : Int) (s10 : Int) (s11 : Int) (s12 : Int) (s13 : BitVec 64) (s14 : zy) (s15 : Int) (s16 : Int) (s17 : Int) (s18 : Int) (s19 : Int) (s20 : Int) (s21 : Int) (s22 : Int) (s23 : Int) (s24 : BitVec 64) (s25 : List Int) (s26 : List (List Int)) (s27 : List (List Int)) (s28 : List (List zg)) (s29 : List zi) (s30 : List (List Int)) (s31 : List (List Int)) (s32 : List (List zg)) (s33 : List zi) : ZK (s1, s2, s3, s4, s5, s6, s7, s8, s9, s10, s11, s12, s13, s14, s15, s16, s17, s18, s19, s20, s21, s22, s23, s24, s25, s26, s27, s28, s29, s30, s31, s32, s33, ()) =
 (zw s14).bind fun y1 =>
 bif decide (s3 < (w64 (1 + (y1.1.tmod 3)))) then
  (zw y1.2.1).bind fun y2 =>
  bif decide ((w64 (s1 + 1)) = 0) then
   none
  else
   (wq (s25 ++ (([(y2.1.tmod (w64 (s1 + 1)))] : List Int)))).bind fun l3 =>
   some (.again (s1, s2, w64 (s3 + 1), s4, s5, s6, s7, s8, s9, s10, s11, s12, s13, y2.2.1, s15, s16, s17, s18, s19, s20, s21, s22, s23, s24, l3, s26, s27, s28, s29, s30, s31, s32, s33, ()))
 else
  some (.brk (s1, s2, s4, s5, s6, s7, s8, s9, s10, s11, s12, s13, y1.2.1, s15, s16, s17, s18, s19, s20, s21, s22, s23, s24, s25, s26, s27, s28, s29, s30, s31, s32, s33, ())) := by kernel_rfl
theorem zgP (s1 : Int) (s2 : Int) (s3 : Int) (s4 : Int) (s5 : Int) (s6 : Int) (s7 : Int) (s8 : Int) (s9 : Int) (s10 : Int) (s11 : Int) (s12 : Int) (s13 : BitVec 64) (s14 : zy) (s15 : Int) (s16 : Int) (s17 : Int) (s18 : Int) (s19 : Int) (s20 : Int) (s21 : Int) (s22 : Int) (s23 : Int) (s24 : BitVec 64) (s25 : List Int) (s26 : List zg) (s27 : List (List Int)) (s28 : List (List Int)) (s29 : List (List zg)) (s30 : List zi) (s31 : List (List Int)) (s32 : List (List Int)) (s33 : List (List zg)) (s34 : List zi) : ur (s1, s2, s3, s4, s5, s6, s7, s8, s9, s10, s11, s12, s13, s14, s15, s16, s17, s18, s19, s20, s21, s22, s23, s24, s25, s26, s27, s28, s29, s30, s31, s32, s33, s34, ()) =
 bif decide (0 < s3) then
  (YS ((s25.length : Int)) s23 s14).bind fun y1 =>
  (wq (s26 ++ ([y1.1] : List zg))).bind fun l2 =>
  some (.again (s1, s2, w64 (s3 - 1), s4, s5, s6, s7, s8, s9, s10, s11, s12, s13, y1.2.1, s15, s16, s17, s18, s19, s20, s21, s22, s23, s24, s25, l2, s27, s28, s29, s30, s31, s32, s33, s34, ()))
 else
  some (.brk (s1, s2, s4, s5, s6, s7, s8, s9, s10, s11, s12, s13, s14, s15, s16, s17, s18, s19, s20, s21, s22, s23, s24, s25, s26, s27, s28, s29, s30, s31, s32, s33, s34, ())) := by kernel_rfl
theorem zjR (a1 : List (BitVec 8)) : UR a1 =
 (cut a1 0 (bif decide (90 < ((a1.length : Int))) then 90 else ((a1.length : Int)))).bind fun l1 =>
 (zw (zy.mk l1 0)).bind fun y2 =>
 (zw y2.2.1).bind fun y3 =>
 (zw y3.2.1).bind fun y4 =>
 (zw y4.2.1).bind fun y5 =>
 (zw y5.2.1).bind fun y6 =>
 (zw y6.2.1).bind fun y7 =>
 (zw y7.2.1).bind fun y8 =>
 (zw y8.2.1).bind fun y9 =>
 (zw y9.2.1).bind fun y10 =>
 (zw y10.2.1).bind fun y11 =>
 (yj Yk (w64 (1 + (y10.1.tmod 6)), 0, 0, 0, 0, 0, 0, 0, 0, 0, 0, 0#64, y11.2.1, w64 (1 + (y2.1.tmod 3)), y3.1.tmod 3, w64 (1 + (y4.1.tmod 3)), w64 (1 + (y5.1.tmod 2)), w64 (1 + (y6.1.tmod 3)), w64 ((w64 (1 + (y10.1.tmod 6))) + (y11.1.tmod 4)), y7.1.tmod 4, y8.1.tmod 4, w64 (1 + (y9.1.tmod 2)), 0#64, ([] : List (List Int)), ([] : List (List Int)), ([] : List (List zg)), ([] : List zi), ([] : List (List Int)), ([] : List (List Int)), ([] : List (List zg)), ([] : List zi), ())).bind fun st => match st with
   | .again _ => none
   | .brk y12 =>
   (zw y12.2.2.2.2.2.2.2.2.2.2.2.1).bind fun y13 =>
   bif decide ((w64 (y12.1 + 1)) = 0) then
    none
   else
    (Uh 0#64 (y13.1.tmod (w64 (y12.1 + 1)))).bind fun y14 =>
    (yj ZG (y12.1, 0, y12.2.1, y12.2.2.1, y12.2.2.2.1, y12.2.2.2.2.1, y12.2.2.2.2.2.1, y12.2.2.2.2.2.2.1, y12.2.2.2.2.2.2.2.1, y12.2.2.2.2.2.2.2.2.1, y12.2.2.2.2.2.2.2.2.2.1, y12.2.2.2.2.2.2.2.2.2.2.1, y13.2.1, y12.2.2.2.2.2.2.2.2.2.2.2.2.1, y12.2.2.2.2.2.2.2.2.2.2.2.2.2.1, y12.2.2.2.2.2.2.2.2.2.2.2.2.2.2.1, y12.2.2.2.2.2.2.2.2.2.2.2.2.2.2.2.1, y12.2.2.2.2.2.2.2.2.2.2.2.2.2.2.2.2.1, y12.2.2.2.2.2.2.2.2.2.2.2.2.2.2.2.2.2.1, y12.2.2.2.2.2.2.2.2.2.2.2.2.2.2.2.2.2.2.1, y12.2.2.2.2.2.2.2.2.2.2.2.2.2.2.2.2.2.2.2.1, y12.2.2.2.2.2.2.2.2.2.2.2.2.2.2.2.2.2.2.2.2.1, y14.1, y12.2.2.2.2.2.2.2.2.2.2.2.2.2.2.2.2.2.2.2.2.2.2.1, y12.2.2.2.2.2.2.2.2.2.2.2.2.2.2.2.2.2.2.2.2.2.2.2.1, y12.2.2.2.2.2.2.2.2.2.2.2.2.2.2.2.2.2.2.2.2.2.2.2.2.1, y12.2.2.2.2.2.2.2.2.2.2.2.2.2.2.2.2.2.2.2.2.2.2.2.2.2.1, y12.2.2.2.2.2.2.2.2.2.2.2.2.2.2.2.2.2.2.2.2.2.2.2.2.2.2.1, y12.2.2.2.2.2.2.2.2.2.2.2.2.2.2.2.2.2.2.2.2.2.2.2.2.2.2.2.1, y12.2.2.2.2.2.2.2.2.2.2.2.2.2.2.2.2.2.2.2.2.2.2.2.2.2.2.2.2.1, y12.2.2.2.2.2.2.2.2.2.2.2.2.2.2.2.2.2.2.2.2.2.2.2.2.2.2.2.2.2.1, ())).bind fun st => match st with
      | .again _ => none
      | .brk y15 =>
      some (zd.mk y15.2.2.2.2.2.2.2.2.2.2.1 y15.2.2.2.2.2.2.2.2.2.2.2.1 y15.2.2.2.2.2.2.2.2.2.2.2.2.1 y15.2.2.2.2.2.2.2.2.2.2.2.2.2.1 y15.2.2.2.2.2.2.2.2.2.2.2.2.2.2.1 y15.2.2.2.2.2.2.2.2.2.2.2.2.2.2.2.1 y15.2.2.2.2.2.2.2.2.2.2.2.2.2.2.2.2.1 y15.2.2.2.2.2.2.2.2.2.2.2.2.2.2.2.2.2.1 (zn.mk y15.2.2.2.2.2.2.2.2.2.2.2.2.2.2.2.2.2.2.1 y15.2.2.2.2.2.2.2.2.2.2.2.2.2.2.2.2.2.2.2.2.2.2.2.2.1) y15.2.2.2.2.2.2.2.2.2.2.2.2.2.2.2.2.2.2.2.1 y15.2.2.2.2.2.2.2.2.2.2.2.2.2.2.2.2.2.2.2.2.2.2.2.2.2.1 y15.2.2.2.2.2.2.2.2.2.2.2.2.2.2.2.2.2.2.2.2.2.2.2.2.2.2.1 y15.2.2.2.2.2.2.2.2.2.2.2.2.2.2.2.2.2.2.2.2.2.2.2.2.2.2.2.1, ())
      | .ret y15 =>
      none
   | .ret y12 =>
   none := zp (by kernel_rfl)
theorem zjG (a1 : zb) (a2 : BitVec 8) : UO a1 a2 =
 bif decide (((a1.Ms.length : Int)) = 0) then
  none
 else
  (Wm a1 (w64 (1 + (((a2.toNat : Int)).tmod ((a1.Ms.length : Int)))))).bind fun y1 =>
  some (y1.1, w64 (1 + (((a2.toNat : Int)).tmod ((a1.Ms.length : Int)))), ()) := zp (by kernel_rfl)
theorem zh8 (s1 : BitVec 64) (s2 : List Int) (s3 : Int) : VL (s1, s2, s3, ()) =
 bif decide (s3 < 64) then
  (zci s2 64 s3).bind fun n1 =>
  (s2[n1]?).bind fun x2 =>
  bif decide (0 < x2) then
   (Uh s1 (w64 (s3 + 1))).bind fun y3 =>
   some (.again (y3.1, s2, w64 (s3 + 1), ()))
  else
   some (.again (s1, s2, w64 (s3 + 1), ()))
 else
  some (.brk (s1, ())) := by kernel_rfl
theorem zkE (a1 : List Int) : zaG a1 =
 bif decide (a1.length = 64) then
  (yj VL (0#64, a1, 0, ())).bind fun st => match st with
    | .again _ => none
    | .brk y1 =>
    some (y1.1, ())
    | .ret y1 =>
    none
 else
  none := zp (by kernel_rfl)
theorem zmh (a1 : Int) : zi9 a1 =
 some (true, ()) := zp (by kernel_rfl)
theorem Z2 (s1 : BitVec 64) (s2 : Int) (s3 : Int) (s4 : zn) (s5 : List Int) (s6 : List Int) (s7 : List Int) : uy (s1, s2, s3, s4, s5, s6, s7, ()) =
 bif decide (s3 < s2) then
  (xE s7 s3).bind fun n1 =>
  (s7[n1]?).bind fun x2 =>
  (zci s6 64 (w64 (x2 - 1))).bind fun n3 =>
  some (.again (s1, s2, w64 (s3 + 1), s4, s5, s6.set n3 1, s7, ()))
 else
  some (.brk (s1, s4, s5, s6, s7, ())) := by kernel_rfl
theorem vN (s1 : BitVec 64) (s2 : zn) (s3 : List Int) (s4 : List Int) (s5 : List Int) : uz (s1, s2, s3, s4, s5, ()) =
 bif decide (0 < ((s5.length : Int))) then
  (xE s5 0).bind fun n1 =>
  (s5[n1]?).bind fun x2 =>
  (zi9 x2).bind fun y3 =>
  bif !y3.1 then
   (cut s5 1 ((s5.length : Int))).bind fun l4 =>
   some (.again (s1, s2, s3, s4, l4, ()))
  else
   (idx s2.Objs (w64 (x2 - 1))).bind fun x5 =>
   (yj wF (s1, x2, x5, (x5.length : Int), 0, s2, s3, s4, s5, ())).bind fun st => match st with
     | .again _ => none
     | .brk y6 =>
     (cut y6.2.2.2.2.1 1 ((y6.2.2.2.2.1.length : Int))).bind fun l7 =>
     some (.again (y6.1, y6.2.1, y6.2.2.1, y6.2.2.2.1, l7, ()))
     | .ret y6 =>
     some (.ret (()))
 else
  some (.brk (s3, s4, ())) := by kernel_rfl
theorem ZM (s1 : BitVec 64) (s2 : Int) (s3 : List Int) (s4 : Int) (s5 : Int) (s6 : zn) (s7 : List Int) (s8 : List Int) (s9 : List Int) : wF (s1, s2, s3, s4, s5, s6, s7, s8, s9, ()) =
 bif decide (s5 < s4) then
  (idx s3 s5).bind fun x1 =>
  (Uf s1 x1).bind fun y2 =>
  bif y2.1 then
   (zci s8 64 (w64 (x1 - 1))).bind fun n3 =>
   (s8[n3]?).bind fun x4 =>
   bif decide (x4 = 0) then
    (zci s8 64 (w64 (s2 - 1))).bind fun n5 =>
    (s8[n5]?).bind fun x6 =>
    (zci s8 64 (w64 (x1 - 1))).bind fun n7 =>
    (wq (s9 ++ ([x1] : List Int))).bind fun l8 =>
    some (.again (s1, s2, s3, s4, w64 (s5 + 1), s6, s7, s8.set n7 (w64 (x6 + 1)), l8, ()))
   else
    some (.again (s1, s2, s3, s4, w64 (s5 + 1), s6, s7, s8, s9, ()))
  else
   some (.again (s1, s2, s3, s4, w64 (s5 + 1), s6, s7, s8, s9, ()))
 else
  some (.brk (s1, s6, s7, s8, s9, ())) := by kernel_rfl
theorem za3 (a1 : zn) (a2 : BitVec 64) : Zn a1 a2 =
 (Vx ((a1.Objs.length : Int))).bind fun y1 =>
 (zbS (a2 &&& y1.1)).bind fun y2 =>
 (yj uy (y1.1, (y2.1.length : Int), 0, a1, List.replicate 64 ((0 : Int)), List.replicate 64 ((0 : Int)), y2.1, ())).bind fun st => match st with
   | .again _ => none
   | .brk y3 =>
   (yj uz (y3.1, y3.2.1, y3.2.2.1, y3.2.2.2.1, y3.2.2.2.2.1, ())).bind fun st => match st with
     | .again _ => none
     | .brk y4 =>
     bif decide (y4.2.1.length = 64) then
      bif decide (y4.1.length = 64) then
       bif decide (y4.2.1.length = 64) then
        some (y4.2.1, ())
       else
        none
      else
       none
     else
      none
     | .ret y4 =>
     none
   | .ret y3 =>
   none := zp (by kernel_rfl)
end Go.Pe.G
namespace Go.Pe.G
open Go.Pe
theorem zok (a1 : zn) (a2 : BitVec 64) : Uc a1 a2 =
 (Zn a1 a2).bind fun y1 =>
 (zaG y1.1).bind fun y2 =>
 some (y2.1, ()) := zp (by kernel_rfl)
theorem zpy (a1 : zd) : zit a1 =
 (zbt a1).bind fun y1 =>
 (Uc a1.H y1.1).bind fun y2 =>
 some (y2.1, ()) := zp (by kernel_rfl)
theorem zbG (s1 : List (BitVec 8)) (s2 : Bool) (s3 : BitVec 64) (s4 : Int) (s5 : zd) (s6 : zb) : ZC (s1, s2, s3, s4, s5, s6, ()) =
 bif decide (s4 < ((s1.length : Int))) then
  bif decide (s4 < 250) then
   bif decide (0 < ((s6.Ms.length : Int))) then
    (idx s1 s4).bind fun x1 =>
    (UO s6 x1).bind fun y2 =>
    (Vx ((y2.1.H.Objs.length : Int))).bind fun y3 =>
    (Vx ((s5.H.Objs.length : Int))).bind fun y4 =>
    (yj xC (s1, s2, s3, s4, s3 ||| (y3.1 &&& ~~~y4.1), 0, s5, y2.1, ())).bind fun st => match st with
      | .again _ => none
      | .brk y5 =>
      some (.again (y5.1, y5.2.1, y5.2.2.1, w64 (y5.2.2.2.1 + 1), y5.2.2.2.2.1, y5.2.2.2.2.2.1, ()))
      | .ret y5 =>
      some (.ret (y5.1, ()))
   else
    some (.brk (s2, ()))
  else
   some (.brk (s2, ()))
 else
  some (.brk (s2, ())) := by kernel_rfl
theorem Y8 (s1 : List (BitVec 8)) (s2 : Bool) (s3 : BitVec 64) (s4 : Int) (s5 : BitVec 64) (s6 : Int) (s7 : zd) (s8 : zb) : xC (s1, s2, s3, s4, s5, s6, s7, s8, ()) =
 bif decide (s6 < ((s8.Ms.length : Int))) then
  (idx s8.Ms s6).bind fun x1 =>
  (yj xB (s1, s2, s3, s4, s5, s6, x1.Regs, (x1.Regs.length : Int), 0, s7, s8, ())).bind fun st => match st with
    | .again _ => none
    | .brk y2 =>
    some (.again (y2.1, y2.2.1, y2.2.2.1, y2.2.2.2.1, y2.2.2.2.2.1, w64 (y2.2.2.2.2.2.1 + 1), y2.2.2.2.2.2.2.1, y2.2.2.2.2.2.2.2.1, ()))
    | .ret y2 =>
    some (.ret (y2.1, ()))
 else
  some (.brk (s1, s2, s3, s4, s7, s8, ())) := by kernel_rfl
theorem Y6 (s1 : List (BitVec 8)) (s2 : Bool) (s3 : BitVec 64) (s4 : Int) (s5 : BitVec 64) (s6 : Int) (s7 : List Int) (s8 : Int) (s9 : Int) (s10 : zd) (s11 : zb) : xB (s1, s2, s3, s4, s5, s6, s7, s8, s9, s10, s11, ()) =
 bif decide (s9 < s8) then
  (idx s7 s9).bind fun x1 =>
  bif !(decide (x1 = 0)) then
   (Uf s5 x1).bind fun y2 =>
   bif !y2.1 then
    some (.ret (false, ()))
   else
    some (.again (s1, s2, s3, s4, s5, s6, s7, s8, w64 (s9 + 1), s10, s11, ()))
  else
   some (.again (s1, s2, s3, s4, s5, s6, s7, s8, w64 (s9 + 1), s10, s11, ()))
 else
  some (.brk (s1, s2, s3, s4, s5, s6, s10, s11, ())) := by kernel_rfl
theorem zd1 (a1 : List (BitVec 8)) (a2 : List (BitVec 8)) : vo a1 a2 =
 (WK).bind fun y1 =>
 bif !y1.1 then
  some (false, ())
 else
  (UR a1).bind fun y2 =>
  (UZ y2.1).bind fun y3 =>
  (zit y2.1).bind fun y4 =>
  (yj ZC (a2, y1.1, y4.1, 0, y2.1, y3.1, ())).bind fun st => match st with
    | .again _ => none
    | .brk y5 =>
    some (y5.1, ())
    | .ret y5 =>
    some (y5.1, ()) := zp (by kernel_rfl)
end Go.Pe.G

namespace Go.Pe.G
open Go.Pe
theorem zyQ : Go.Proofs.Tryz.prog.funcs[91]? = some Go.Proofs.Tryz.f91 := by kernel_rfl
theorem zxW : Go.Proofs.Tryz.f91.body.isSome = true := by kernel_rfl
theorem zxV : uV Go.Proofs.Tryz.prog 91 = true := by kernel_rfl
theorem zyq : Go.Proofs.Tryz.prog.funcs[134]? = some Go.Proofs.Tryz.f134 := by kernel_rfl
theorem zxc : Go.Proofs.Tryz.f134.body.isSome = true := by kernel_rfl
theorem zw8 : uV Go.Proofs.Tryz.prog 134 = true := by kernel_rfl
theorem zlH (ys : List Int) (s1 : Int) (s2 : Int) (s3 : BitVec 64) : VX ys (s1, s2, s3, ()) =
 bif !(decide (s3 = 0#64)) then
  (qTZ s3).bind fun y1 =>
  (UY ys s2 (w64 (y1.1 + 1))).bind fun _ =>
  some (.again (s1, s2 + 1, s3 &&& (s3 - 1#64), ()))
 else
  some (.brk (s1, s2, ())) := by kernel_rfl
theorem zoF (n : Int) (ys : List Int) (a1 : BitVec 64) : zoT (Uo ys) Go.Proofs.Tryz.f134 ziW n ((a1, ()) : (BitVec 64) × Unit) =
 (yj (VX ys) (n, 0, a1, ())).bind fun st => match st with
   | .again _ => none
   | .brk y1 =>
   some y1.2.1
   | .ret y1 =>
   some y1.2.1 := by kernel_rfl
theorem YH (ys : List (List Int)) (s1 : Int) (s2 : Int) (s3 : Int) (s4 : List Int) (s5 : Int) : vh ys (s1, s2, s3, s4, s5, ()) =
 bif decide (s3 < ((s4.length : Int))) then
  (cut s4 s3 ((s4.length : Int))).bind fun l1 =>
  bif decide (s3 = 0) && decide ((w64 (s3 + (bif decide (((l1.length : Int)) < s5) then ((l1.length : Int)) else s5))) = 0) && decide ((w64 (s3 + (bif decide (((l1.length : Int)) < s5) then ((l1.length : Int)) else s5))) = 0) then
   (UY ys s2 ([] : List Int)).bind fun _ =>
   some (.again (s1, s2 + 1, w64 (s3 + s5), s4, s5, ()))
  else
   bif decide (s3 = 0) && decide ((w64 (s3 + (bif decide (((l1.length : Int)) < s5) then ((l1.length : Int)) else s5))) = ((s4.length : Int))) && decide ((w64 (s3 + (bif decide (((l1.length : Int)) < s5) then ((l1.length : Int)) else s5))) = ((s4.length : Int))) then
    (UY ys s2 s4).bind fun _ =>
    some (.again (s1, s2 + 1, w64 (s3 + s5), s4, s5, ()))
   else
    bif decide ((w64 (s3 + (bif decide (((l1.length : Int)) < s5) then ((l1.length : Int)) else s5))) = (w64 (s3 + (bif decide (((l1.length : Int)) < s5) then ((l1.length : Int)) else s5)))) then
     (cut s4 s3 (w64 (s3 + (bif decide (((l1.length : Int)) < s5) then ((l1.length : Int)) else s5)))).bind fun l2 =>
     (UY ys s2 l2).bind fun _ =>
     some (.again (s1, s2 + 1, w64 (s3 + s5), s4, s5, ()))
    else
     none
 else
  some (.brk (s1, s2, ())) := by kernel_rfl
theorem zb8 (n : Int) (ys : List (List Int)) (a1 : List Int) (a2 : Int) : zoT (vy ys) Go.Proofs.Tryz.f91 Wh n ((a1, a2, ()) : (List Int) × Int × Unit) =
 (yj (vh ys) (n, 0, 0, a1, a2, ())).bind fun st => match st with
   | .again _ => none
   | .brk y1 =>
   some y1.2.1
   | .ret y1 =>
   some y1.2.1 := by kernel_rfl
end Go.Pe.G
namespace Go.Pe.G
open Go.Pe
theorem zkJ {A B D : Type} (g : A → Option (yO A B D)) {o : yO Unit B D} : ∀ (k m : Nat) (x : A), xS g k x = some o → k ≤ m → xS g m x = some o
  | 0, m, x, h, _ => by cases h
  | k + 1, 0, x, h, hm => by omega
  | k + 1, m + 1, x, h, hm => by
    simp only [xS, Option.bind_eq_some_iff] at h ⊢
    obtain ⟨s, h1, h2⟩ := h
    refine ⟨s, h1, ?_⟩
    cases s with
    | again y => exact zkJ g k m y h2 (by omega)
    | brk b => exact h2
    | ret c => exact h2
theorem zqD {α : Type} (pre post : List α) (z : α) : UY (pre ++ z :: post) (pre.length : Int) z = some () := by
  unfold UY
  rw [if_pos]
  refine ⟨by omega, ?_⟩
  simp
theorem zeD (n : Int) (ys : List Int) : ∀ (f : Nat) (s : BitVec 64) (l pre : List Int), Wj f s = some l → ys = pre ++ l → xS (VX ys) f (n, (pre.length : Int), s, ()) = some (.brk (n, (ys.length : Int), ()))
  | 0, s, l, pre, h, _ => by cases h
  | f + 1, s, l, pre, h, e => by
    simp only [Wj] at h
    simp only [xS, zlH]
    cases hz : decide (s = 0#64) with
    | true =>
      simp only [hz, cond_true, Option.some.injEq] at h
      subst h
      simp only [List.append_nil] at e
      subst e
      rfl
    | false =>
      simp only [hz, cond_false, Option.map_eq_some_iff] at h
      obtain ⟨l', h1, rfl⟩ := h
      have hn : UY ys (pre.length : Int) (w64 (tz s + 1)) = some () := by rw [e]; exact zqD pre l' _
      simp only [Bool.not_false, cond_true, zx5, Option.bind_some, hn]
      have := zeD n ys f (s &&& (s - 1#64)) l' (pre ++ [w64 (tz s + 1)]) h1 (by rw [e]; simp)
      simpa using this
theorem zmZ (G : Nat → Prop) (W0 : World) (hG : zpK G W0) : Z0 Go.Proofs.Tryz.prog G W0 134 V3 := by
  obtain ⟨c, hc⟩ := Option.isSome_iff_exists.1 zxc
  refine zo1 (Cg := Uo []) rfl zsm (fun f s hs => Oks.at (.cons _ _ _ _ zxv (zvq hG) (.skip _ _ .nil)) f s hs) rfl ztZ (fun g it h => by cases h) zw8 zyq hc V3 (Nat.le_of_ble_eq_true (by kernel_rfl)) rfl ?_
  rintro n ⟨a, ⟨⟩⟩ ys h
  have h : Wj 66 a = some ys := h
  have e := zoF n ys a
  have k := zkJ _ 66 uJ _ (zeD n ys 66 a ys [] h rfl) (by decide)
  refine Eq.trans e ?_
  have k' : xS (VX ys) uJ (n, 0, a, ()) = some (.brk (n, (ys.length : Int), ())) := k
  rw [W8, k']
  rfl
theorem zuX {a : Int} (h : -9223372036854775808 ≤ a) (h2 : a < 9223372036854775808) : w64 a = a := by
  rw [zjg]
  omega
theorem za6 (n : Int) (ys : List (List Int)) (l : List Int) (sz : Nat) (h1 : 1 ≤ sz) (h2 : sz < 1000000) (h3 : l.length < 1000000) : ∀ (f p : Nat) (pre : List (List Int)), (l.drop p).length ≤ f → ys = pre ++ Zz sz f (l.drop p) → p < 2000000 →
    xS (vh ys) (f + 1) (n, (pre.length : Int), (p : Int), l, (sz : Int), ()) = some (.brk (n, (ys.length : Int), ())) := by
  intro f
  induction f with
  | zero =>
    intro p pre hf e hp
    simp only [xS, YH]
    simp only [List.length_drop] at hf
    have : ¬ (p : Int) < (l.length : Int) := by omega
    simp only [this, decide_false, cond_false, Option.bind_some]
    simp only [Zz, List.append_nil] at e
    rw [e]
  | succ f ih =>
    intro p pre hf e hp
    rw [xS, YH]
    by_cases hlt : p < l.length
    · have hlt' : (p : Int) < (l.length : Int) := by omega
      have hcut : cut l (p : Int) (l.length : Int) = some (l.drop p) := by
        unfold cut
        have : (decide (0 ≤ (p : Int)) && decide ((p : Int) ≤ (l.length : Int)) && decide ((l.length : Int) ≤ (l.length : Int))) = true := by simp; omega
        simp only [this, cond_true]
        simp
      obtain ⟨x, r, hxr⟩ : ∃ x r, l.drop p = x :: r := by
        cases hd : l.drop p with
        | nil => have := congrArg List.length hd; simp at this; omega
        | cons x r => exact ⟨x, r, rfl⟩
      have hch : Zz sz (f + 1) (l.drop p) = (l.drop p).take sz :: Zz sz f (l.drop (p + sz)) := by
        rw [hxr]; simp only [Zz]; rw [← hxr, List.drop_drop]
      have hm : ∃ m : Nat, (bif decide (((l.drop p).length : Int) < (sz : Int)) then (((l.drop p).length : Int)) else (sz : Int)) = (m : Int) ∧ m = min sz (l.length - p) := by
        simp only [List.length_drop]
        by_cases hs : ((l.length - p : Nat) : Int) < (sz : Int)
        · exact ⟨l.length - p, by simp only [hs, decide_true, cond_true], by omega⟩
        · exact ⟨sz, by simp only [hs, decide_false, cond_false], by omega⟩
      obtain ⟨m, hm1, hm2⟩ := hm
      have hw : w64 ((p : Int) + (m : Int)) = ((p + m : Nat) : Int) := by rw [zuX (by omega) (by omega)]; omega
      have hw2 : w64 ((p : Int) + (sz : Int)) = ((p + sz : Nat) : Int) := by rw [zuX (by omega) (by omega)]; omega
      have hne : ¬ ((p + m : Nat) : Int) = 0 := by omega
      simp only [hlt', decide_true, cond_true, hcut, Option.bind_some, hm1, hw, hw2, hne, decide_false, Bool.and_false, cond_false]
      have hn : UY ys (pre.length : Int) ((l.drop p).take sz) = some () := by rw [e, hch]; exact zqD pre _ _
      have hcut2 : cut l (p : Int) ((p + m : Nat) : Int) = some ((l.drop p).take sz) := by
        unfold cut
        have : (decide (0 ≤ (p : Int)) && decide ((p : Int) ≤ ((p + m : Nat) : Int)) && decide (((p + m : Nat) : Int) ≤ (l.length : Int))) = true := by simp; omega
        simp only [this, cond_true]
        refine congrArg some ?_
        simp only [Int.toNat_natCast]
        rw [List.drop_take, Nat.add_sub_cancel_left, hm2]
        by_cases hs : sz ≤ l.length - p
        · rw [Nat.min_eq_left hs]
        · rw [Nat.min_eq_right (by omega), List.take_of_length_le (l := l.drop p) (by simp), List.take_of_length_le (l := l.drop p) (by simp; omega)]
      have hnext := ih (p + sz) (pre ++ [(l.drop p).take sz]) (by simp only [List.length_drop] at hf ⊢; omega) (by rw [e, hch]; simp) (by omega)
      have hlen : ((pre ++ [(l.drop p).take sz]).length : Int) = (pre.length : Int) + 1 := by simp
      rw [hlen] at hnext
      cases hfull : (decide ((p : Int) = 0) && decide (((p + m : Nat) : Int) = (l.length : Int)) && decide (((p + m : Nat) : Int) = (l.length : Int))) with
      | true =>
        simp only [cond_true]
        have hl : l = (l.drop p).take sz := ?_
        · rw [← hl] at hn
          rw [hn]
          exact hnext
        simp only [Bool.and_eq_true, decide_eq_true_eq] at hfull
        obtain ⟨⟨hp0, hpl⟩, _⟩ := hfull
        have hp00 : p = 0 := by omega
        rw [hp00, List.drop_zero, List.take_of_length_le (by omega)]
      | false =>
        simp only [cond_false, hcut2, Option.bind_some, decide_true, cond_true]
        rw [hn]
        exact hnext
    · have hnl : ¬ (p : Int) < (l.length : Int) := by omega
      have hd : l.drop p = [] := List.drop_eq_nil_of_le (by omega)
      simp only [hnl, decide_false, cond_false, Option.bind_some]
      rw [hd] at e
      simp only [Zz, List.append_nil] at e
      rw [e]
theorem zbX (n : Int) (ys : List (List Int)) (l : List Int) (sz : Int) (h : zgu l sz = some ys) : xS (vh ys) uJ (n, 0, 0, l, sz, ()) = some (.brk (n, (ys.length : Int), ())) := by
  unfold zgu at h
  cases hc : (decide (1 ≤ sz) && decide (sz < 1000000) && decide ((l.length : Int) < 1000000)) with
  | false => simp [hc] at h
  | true =>
    simp only [hc, cond_true] at h
    injection h with h
    simp only [Bool.and_eq_true, decide_eq_true_eq] at hc
    obtain ⟨⟨c1, c2⟩, c3⟩ := hc
    have k := zkJ _ (l.length + 1) uJ _ (za6 n ys l sz.toNat (by omega) (by omega) (by omega) l.length 0 [] (by simp) (by simpa using h.symm) (by omega)) (by unfold uJ; omega)
    have hs : ((sz.toNat : Nat) : Int) = sz := by omega
    rw [hs] at k
    exact k
theorem zbi (G : Nat → Prop) (W0 : World) (hG : zpK G W0) : Z0 Go.Proofs.Tryz.prog G W0 91 wO := by
  obtain ⟨c, hc⟩ := Option.isSome_iff_exists.1 zxW
  refine zo1 (Cg := vy []) rfl zsm (fun f s hs => Oks.at .nil f s hs) rfl ztZ (fun g it h => by cases h) zxV zyQ hc wO (Nat.le_of_ble_eq_true (by kernel_rfl)) rfl (fun n x ys h => ?_)
  refine Eq.trans (zb8 n ys x.1 x.2.1) ?_
  rw [W8, zbX n ys x.1 x.2.1 h]
  rfl
end Go.Pe.G
namespace Go.Pe.G
open Go.Pe
theorem k2 {G : Nat → Prop} {W0 : World} {f : Nat} {s : zq E} {ss r} (hs : Xr Go.Proofs.Tryz.prog G W0 f s) (h : Oks Go.Proofs.Tryz.prog G W0 ((f, ss) :: r)) (hc : uV Go.Proofs.Tryz.prog f = true := by kernel_rfl) : Oks Go.Proofs.Tryz.prog G W0 ((f, s :: ss) :: r) := .cons _ _ _ _ hc hs h
theorem k1 {G : Nat → Prop} {W0 : World} {f : Nat} {s : zq E} {r} (hs : Xr Go.Proofs.Tryz.prog G W0 f s) (h : Oks Go.Proofs.Tryz.prog G W0 r) (hc : uV Go.Proofs.Tryz.prog f = true := by kernel_rfl) : Oks Go.Proofs.Tryz.prog G W0 ((f, [s]) :: r) := .cons _ _ _ _ hc hs (.skip _ _ h)
abbrev Sd (G : Nat → Prop) (W0 : World) := Xr (E := E) Go.Proofs.Tryz.prog G W0
theorem gs {G : Nat → Prop} {W0 : World} {l : List (Nat × List (zq E))} {loops mv kept pk its} {f : FuncId} {fn : Func} {inn out : xm} {gi go : List Grp} {hi : uu E gi = inn.holes} {ho : uu E go = out.holes} (h : Oks Go.Proofs.Tryz.prog G W0 l) (h2 : Its Go.Proofs.Tryz.prog G W0 its) (hf : Go.Proofs.Tryz.prog.funcs[f]? = some fn := by kernel_rfl) (hb : fn.body.isSome = true := by kernel_rfl)
    (hk : (cf l loops mv kept pk its).kept = zeP inn.blks 0 := by kernel_rfl) (hn : Nat.ble inn.vals.length fn.ntmps = true := by kernel_rfl) : Xr Go.Proofs.Tryz.prog G W0 f (sp (cf l loops mv kept pk its) fn inn out gi go hi ho) := zvm (C := cf l loops mv kept pk its) zsm (zuG h) rfl (zwC h2) ztZ hf hb hk hn
variable {G : Nat → Prop} {W0 : World} (hG : zpK G W0)
include hG
theorem zh4 : Sd G W0 62 zav := gs .nil .nil
theorem Z4 : Sd G W0 114 xX := gs (k1 (zh4 hG) .nil) .nil
theorem Zx : Sd G W0 61 xI := gs (k1 (Z4 hG) .nil) .nil
theorem zjy : Sd G W0 60 zct := gs (k1 (Zx hG) .nil) .nil
theorem Z5 : Sd G W0 115 xZ := gs (k1 (zjy hG) .nil) .nil
theorem ZB : Sd G W0 63 xG := gs (k1 (Z5 hG) .nil) .nil
theorem V1 : Sd G W0 19 V2 := gs (k1 (ZB hG) .nil) .nil
theorem US : Sd G W0 25 UT := gs .nil .nil
theorem zms : Sd G W0 27 ziq := gs .nil .nil
theorem VG : Sd G W0 86 Vl := gs .nil .nil
theorem zjt : Sd G W0 87 zcC := gs (k1 (VG hG) .nil) .nil
theorem Yx : Sd G W0 114 wn := gs (k1 (zjt hG) .nil) .nil
theorem ZU : Sd G W0 61 xV := gs (k1 (Yx hG) .nil) .nil
theorem zgZ : Sd G W0 85 UH := gs (k1 (VG hG) .nil) .nil
theorem zjN : Sd G W0 156 zck := gs .nil .nil
theorem zkU : Sd G W0 130 zgt := gs (k1 (zjN hG) .nil) .nil
theorem zkG : Sd G W0 129 zea := gs (k1 (zkU hG) .nil) .nil
theorem Zo : Sd G W0 155 xn := gs (k1 (zkG hG) .nil) .nil
theorem u0 : Sd G W0 128 yU := gs (k1 (Zo hG) .nil) .nil
theorem zl8 : Sd G W0 88 zii := gs (k1 (u0 hG) .nil) .nil
theorem zlN : Sd G W0 133 zfS := gs .nil .nil
theorem zjx : Sd G W0 132 zcA := gs (k1 (zlN hG) .nil) .nil
theorem uF : Sd G W0 157 yR := gs (k1 (zjx hG) .nil) .nil
theorem ud : Sd G W0 131 yM := gs (k1 (uF hG) .nil) .nil
theorem zlF : Sd G W0 89 zgm := gs (k1 (ud hG) .nil) .nil
theorem zkX : Sd G W0 37 zgd := gs (k1 (V1 hG) (k1 (US hG) (k1 (zms hG) (k1 (ZU hG) (k1 (zgZ hG) (k1 (VG hG) (k1 (zl8 hG) (k1 (zlF hG) .nil)))))))) .nil
theorem zhG : Sd G W0 77 zhw := gs .nil .nil
theorem XE : Sd G W0 35 V7 := gs (k1 (zhG hG) .nil) .nil
theorem zpu : Sd G W0 81 znC := gs (k1 (XE hG) .nil) .nil
theorem zdY : Sd G W0 38 zbf := gs (k1 (zpu hG) .nil) .nil
theorem zgN : Sd G W0 90 Ug := gs .nil .nil
theorem zl7 : Sd G W0 39 ziu := gs (k1 (zgN hG) .nil) .nil
theorem zlx : Sd G W0 40 zf6 := gs .nil .nil
theorem xi : Sd G W0 42 y0 := gs .nil .nil
theorem YI : Sd G W0 41 wA := gs (k1 (xi hG) .nil) .nil
theorem zky : Sd G W0 43 zep := gs .nil .nil
theorem zcb : Sd G W0 44 zar := gs .nil .nil
theorem zce : Sd G W0 45 zaq := gs .nil .nil
theorem zmn : Sd G W0 46 zin := gs .nil .nil
theorem zb1 : Sd G W0 47 Xd := gs .nil .nil
theorem znu : Sd G W0 92 zjs := gs .nil .nil
theorem znO : Z0 Go.Proofs.Tryz.prog G W0 134 V3 := zmZ G W0 hG
theorem zgx : Sd G W0 48 zfa := gs (k1 (znu hG) .nil) (.cons _ _ _ (znO hG) (.nil))
theorem Un : Sd G W0 71 u7 := gs .nil .nil
theorem zm6 : Sd G W0 158 zju := gs .nil .nil
theorem zmN : Sd G W0 159 zj9 := gs .nil .nil
theorem zmX : Sd G W0 160 zj3 := gs .nil .nil
theorem znl : Sd G W0 161 zjY := gs .nil .nil
theorem Yr : Sd G W0 136 Ua := gs (k1 (Un hG) (k1 (zm6 hG) (k1 (zmN hG) (k1 (zmX hG) (k1 (znl hG) .nil))))) .nil
theorem zcd : Sd G W0 93 zam := gs (k1 (Yr hG) .nil) .nil
theorem zdV : Sd G W0 94 zbR := gs .nil .nil
theorem zmd : Sd G W0 49 ziw := gs (k1 (zcd hG) (k1 (zdV hG) .nil)) .nil
theorem XA : Sd G W0 50 Wz := gs .nil .nil
theorem Y3 : Sd G W0 52 Xp := gs (k1 (XA hG) .nil) .nil
theorem XJ : Sd G W0 51 Wo := gs (k1 (Y3 hG) .nil) .nil
theorem zb3 : Z0 Go.Proofs.Tryz.prog G W0 91 wO := zbi G W0 hG
theorem zeE : Sd G W0 11 zdc := gs (k1 (zkX hG) (k1 (zdY hG) (k1 (zl7 hG) (k1 (zlx hG) (k1 (YI hG) (k1 (xi hG) (k1 (zky hG) (k1 (zcb hG) (k1 (zce hG) (k1 (zmn hG) (k1 (zb1 hG) (k1 (zgx hG) (k1 (zmd hG) (k1 (XA hG) (k1 (XJ hG) (k1 (Y3 hG) .nil)))))))))))))))) (.cons _ _ _ (zb3 hG) (.nil))
theorem zim : Sd G W0 15 zaF := gs .nil .nil
theorem wT : Sd G W0 137 vq := gs .nil .nil
theorem vT : Sd G W0 142 vg := gs .nil .nil
theorem ZP : Sd G W0 138 uK := gs (k1 (xi hG) (k1 (vT hG) .nil)) .nil
theorem zcm : Sd G W0 95 XV := gs (k1 (wT hG) (k1 (ZP hG) .nil)) .nil
theorem zdX : Sd G W0 139 zbO := gs .nil .nil
theorem zcv : Sd G W0 96 XO := gs (k1 (zdX hG) .nil) .nil
theorem zd6 : Sd G W0 97 Vb := gs (k1 (xi hG) .nil) .nil
theorem za5 : Sd G W0 182 Yj := gs .nil .nil
theorem VP : Sd G W0 26 zaQ := gs (k1 (zhG hG) .nil) .nil
theorem zdy : Sd G W0 166 zbQ := gs (k1 (VP hG) (k1 (XE hG) .nil)) .nil
theorem VK : Sd G W0 170 Vo := gs .nil .nil
theorem vS : Sd G W0 197 ve := gs (k1 (XJ hG) (k1 (Y3 hG) (k1 (VK hG) .nil))) .nil
theorem zcL : Sd G W0 183 X5 := gs (k1 (zcb hG) (k1 (zce hG) (k1 (zdy hG) (k1 (vS hG) .nil)))) .nil
theorem zc7 : Sd G W0 184 XX := gs .nil .nil
theorem zj2 : Sd G W0 200 zcM := gs .nil .nil
theorem zjj : Sd G W0 200 zcD := gs .nil .nil
theorem zjk : Sd G W0 200 zcF := gs .nil .nil
theorem zj6 : Sd G W0 200 zcV := gs .nil .nil
theorem vp : Sd G W0 215 uS := gs (k1 (Yr hG) .nil) .nil
theorem xy : Sd G W0 216 xq := gs .nil .nil
theorem UQ : Sd G W0 201 Zk := gs (k1 (vp hG) (k1 (xy hG) .nil)) .nil
theorem uv : Sd G W0 217 vX := gs .nil .nil
theorem Vp : Sd G W0 218 Yh := gs .nil .nil
theorem xA : Sd G W0 219 xx := gs .nil .nil
theorem zb2 : Sd G W0 202 Xj := gs (k1 (vp hG) (k1 (uv hG) (k1 (Vp hG) (k1 (xA hG) .nil)))) .nil
theorem Zh : Sd G W0 220 ZX := gs (k1 (Yr hG) .nil) .nil
theorem Zy : Sd G W0 221 un := gs (k1 (Vp hG) .nil) .nil
theorem ze8 : Sd G W0 203 VE := gs (k1 (Zh hG) (k1 (Zy hG) .nil)) .nil
theorem zay : Sd G W0 204 ZW := gs (k1 (xy hG) (k1 (xA hG) (k1 (Zh hG) .nil))) .nil
theorem zdP : Sd G W0 205 Wx := gs (k1 (xy hG) (k1 (Zh hG) .nil)) .nil
theorem zcf : Sd G W0 222 zal := gs .nil .nil
theorem za1 : Sd G W0 206 Ya := gs (k1 (vp hG) (k1 (uv hG) (k1 (zcf hG) .nil))) .nil
theorem zch : Sd G W0 207 XW := gs (k1 (vp hG) (k1 (xA hG) (k1 (Zy hG) .nil))) .nil
theorem Vm : Sd G W0 223 Yp := gs (k1 (Yr hG) (k1 (uv hG) .nil)) .nil
theorem zb6 : Sd G W0 208 Xg := gs (k1 (Vm hG) .nil) .nil
theorem zb9 : Sd G W0 209 Xh := gs (k1 (xy hG) (k1 (xA hG) (k1 (Zh hG) .nil))) .nil
theorem zcH : Sd G W0 210 XS := gs (k1 (xy hG) (k1 (xA hG) (k1 (Zh hG) .nil))) .nil
theorem zcW : Sd G W0 211 XP := gs (k1 (vp hG) (k1 (uv hG) .nil)) .nil
theorem zc1 : Sd G W0 212 XN := gs (k1 (vp hG) (k1 (xy hG) (k1 (zcf hG) .nil))) .nil
theorem zb0 : Sd G W0 213 Xe := gs (k1 (vp hG) (k1 (Zy hG) .nil)) .nil
theorem za4 : Sd G W0 214 Yd := gs (k1 (xA hG) (k1 (Vm hG) .nil)) .nil
theorem zkM : Sd G W0 198 zfO := gs (k2 (zj2 hG) (k2 (zjj hG) (k2 (zjk hG) (k2 (zj6 hG) (.skip _ _ (k1 (UQ hG) (k1 (zb2 hG) (k1 (ze8 hG) (k1 (zay hG) (k1 (zdP hG) (k1 (za1 hG) (k1 (zch hG) (k1 (zb6 hG) (k1 (zb9 hG) (k1 (zcH hG) (k1 (zcW hG) (k1 (zc1 hG) (k1 (zb0 hG) (k1 (za4 hG) .nil))))))))))))))))))) .nil
theorem zcn : Sd G W0 185 XY := gs (k1 (vS hG) (k1 (zkM hG) .nil)) .nil
theorem zc6 : Sd G W0 186 XR := gs (k1 (vS hG) .nil) .nil
theorem zdN : Sd G W0 190 zbq := gs (k1 (Yr hG) .nil) .nil
theorem XI : Sd G W0 191 WD := gs .nil .nil
theorem zcQ : Sd G W0 171 X4 := gs (k1 (zdN hG) (k1 (XI hG) .nil)) .nil
theorem zeo : Sd G W0 172 W4 := gs (k1 (zcd hG) (k1 (XI hG) .nil)) .nil
theorem zb4 : Sd G W0 173 Xf := gs (k1 (zdV hG) (k1 (Yr hG) (k1 (XI hG) .nil))) .nil
theorem za8 : Sd G W0 174 Yb := gs (k1 (zdN hG) (k1 (XI hG) .nil)) .nil
theorem XG : Sd G W0 148 Wu := gs (k1 (zcQ hG) (k1 (zeo hG) (k1 (zb4 hG) (k1 (za8 hG) .nil)))) .nil
theorem zcB : Sd G W0 187 X7 := gs (k1 (XG hG) (k1 (vS hG) .nil)) .nil
theorem uB : Sd G W0 54 vb := gs .nil .nil
theorem zcq : Sd G W0 188 XM := gs (k1 (XA hG) (k1 (XJ hG) (k1 (uB hG) (k1 (VK hG) .nil)))) .nil
theorem za2 : Sd G W0 189 Ye := gs (k1 (XG hG) .nil) .nil
theorem zl9 : Sd G W0 162 ziv := gs (k1 (za5 hG) (k1 (zcL hG) (k1 (zc7 hG) (k1 (zcn hG) (k1 (zc6 hG) (k1 (zcB hG) (k1 (zcq hG) (k1 (za2 hG) .nil)))))))) .nil
theorem X8 : Sd G W0 140 Ze := gs (k1 (zl9 hG) .nil) .nil
theorem zco : Sd G W0 98 XT := gs (k1 (X8 hG) .nil) .nil
theorem UE : Sd G W0 53 We := gs .nil .nil
theorem zgb : Sd G W0 12 zfu := gs (k1 (UE hG) .nil) .nil
theorem V5 : Sd G W0 141 Xz := gs (k1 (zgb hG) (k1 (wT hG) .nil)) .nil
theorem zdT : Sd G W0 99 WC := gs (k1 (wT hG) (k1 (ZP hG) (k1 (V5 hG) .nil))) .nil
theorem zed : Sd G W0 100 Vf := gs (k1 (wT hG) (k1 (V5 hG) (k1 (vT hG) .nil))) .nil
theorem zhL : Sd G W0 21 zhl := gs (k1 (VP hG) .nil) .nil
theorem zc0 : Sd G W0 101 XL := gs (k1 (zhL hG) .nil) .nil
theorem za0 : Sd G W0 102 Yl := gs (k1 (xi hG) .nil) .nil
theorem zm4 : Sd G W0 13 zjK := gs (k1 (xi hG) (k1 (UE hG) (k1 (uB hG) .nil))) .nil
theorem zcU : Sd G W0 103 X0 := gs (k1 (zm4 hG) (k1 (wT hG) (k1 (vT hG) .nil))) .nil
theorem zbw : Sd G W0 55 YC := gs .nil .nil
theorem zld : Sd G W0 14 zfE := gs (k1 (V1 hG) (k1 (zbw hG) .nil)) .nil
theorem Zw : Sd G W0 167 ug := gs .nil .nil
theorem Wg : Sd G W0 169 Zu := gs (k1 (Zw hG) .nil) .nil
theorem zdR : Sd G W0 163 zby := gs (k1 (Wg hG) .nil) .nil
theorem zir : Sd G W0 165 zau := gs .nil .nil
theorem Xl : Sd G W0 164 wG := gs (k1 (zir hG) .nil) .nil
theorem zkc : Sd G W0 143 zcX := gs (k1 (zdR hG) (k1 (Xl hG) .nil)) .nil
theorem zeF : Sd G W0 150 zdb := gs (k1 (zhL hG) (k1 (XE hG) .nil)) .nil
theorem zk5 : Sd G W0 144 zgF := gs (k1 (zeF hG) (k1 (zdy hG) .nil)) .nil
theorem zc3 : Sd G W0 104 X6 := gs (k1 (zld hG) (k1 (wT hG) (k1 (ZP hG) (k1 (vT hG) (k1 (zkc hG) (k1 (zk5 hG) .nil)))))) .nil
theorem zi0 : Sd G W0 168 zbA := gs .nil .nil
theorem XB : Sd G W0 164 wP := gs (k1 (zi0 hG) .nil) .nil
theorem zkw : Sd G W0 145 zd5 := gs (k1 (XB hG) (k1 (Zw hG) .nil)) .nil
theorem zjV : Sd G W0 146 zcY := gs (k1 (zdR hG) (k1 (Wg hG) .nil)) .nil
theorem WV : Sd G W0 147 ZI := gs (k1 (XJ hG) (k1 (VK hG) .nil)) .nil
theorem zdC : Sd G W0 105 WP := gs (k1 (XA hG) (k1 (zkw hG) (k1 (zjV hG) (k1 (WV hG) .nil)))) .nil
theorem zee : Sd G W0 106 WW := gs (k1 (XG hG) .nil) .nil
theorem zcK : Sd G W0 107 X2 := gs (k1 (Y3 hG) (k1 (uB hG) (k1 (WV hG) .nil))) .nil
theorem zdL : Sd G W0 108 Wy := gs (k1 (XG hG) .nil) .nil
theorem zcj : Sd G W0 109 X3 := gs .nil .nil
theorem zab : Sd G W0 149 WY := gs .nil .nil
theorem zdw : Sd G W0 110 WG := gs (k1 (zgb hG) (k1 (zdX hG) (k1 (zab hG) .nil))) .nil
theorem zei : Sd G W0 111 Va := gs (k1 (X8 hG) (k1 (zab hG) .nil)) .nil
theorem ziG : Sd G W0 175 zbW := gs .nil .nil
theorem XF : Sd G W0 164 wQ := gs (k1 (ziG hG) .nil) .nil
theorem zkz : Sd G W0 151 zez := gs (k1 (XF hG) (k1 (Zw hG) .nil)) .nil
theorem zbE : Sd G W0 112 YP := gs (k1 (zeF hG) (k1 (zkz hG) .nil)) .nil
theorem zbF : Sd G W0 113 YB := gs .nil .nil
theorem zdB : Sd G W0 56 WO := gs (k1 (zcm hG) (k1 (zcv hG) (k1 (zd6 hG) (k1 (zco hG) (k1 (zdT hG) (k1 (zed hG) (k1 (zc0 hG) (k1 (za0 hG) (k1 (zcU hG) (k1 (zc3 hG) (k1 (zdC hG) (k1 (zee hG) (k1 (zcK hG) (k1 (zdL hG) (k1 (zcj hG) (k1 (zdw hG) (k1 (zei hG) (k1 (zbE hG) (k1 (zbF hG) .nil))))))))))))))))))) .nil
theorem Yv : Sd G W0 57 wp := gs .nil .nil
theorem W7 : Sd G W0 16 WA := gs (k1 (zdB hG) (k1 (Yv hG) .nil)) .nil
theorem vi : Sd G W0 59 wE := gs .nil .nil
theorem yy : Sd G W0 58 zQ := gs (k1 (vi hG) .nil) .nil
theorem zeC : Sd G W0 17 zdf := gs (k1 (yy hG) .nil) .nil
theorem zeO : Sd G W0 116 VA := gs .nil .nil
theorem VY : Sd G W0 118 uC := gs .nil .nil
theorem xK : Sd G W0 117 z7 := gs (k1 (VY hG) .nil) .nil
theorem WR : Sd G W0 119 vA := gs .nil .nil
theorem zmk : Sd G W0 64 zia := gs (k1 (zeC hG) (k1 (yy hG) (k1 (zeO hG) (k1 (xK hG) (k1 (WR hG) .nil))))) .nil
theorem Ur : Sd G W0 120 u9 := gs .nil .nil
theorem zni : Sd G W0 65 zjQ := gs (k1 (Ur hG) .nil) .nil
theorem U1 : Sd G W0 121 ZD := gs .nil .nil
theorem zkI : Sd G W0 66 zex := gs (k1 (U1 hG) .nil) .nil
theorem ze1 : Sd G W0 68 VB := gs (k1 (vi hG) .nil) .nil
theorem xt : Sd G W0 67 zV := gs (k1 (ze1 hG) .nil) .nil
theorem zcu : Sd G W0 122 XK := gs .nil .nil
theorem zem : Sd G W0 70 Vd := gs (k1 (vi hG) (k1 (zcu hG) .nil)) .nil
theorem yY : Sd G W0 69 zO := gs (k1 (zem hG) .nil) .nil
theorem zlL : Sd G W0 22 zge := gs (k1 (zeC hG) (k1 (yy hG) (k1 (vi hG) (k1 (zmk hG) (k1 (zni hG) (k1 (zkI hG) (k1 (xt hG) (k1 (yY hG) .nil)))))))) .nil
theorem zf4 : Sd G W0 31 Ui := gs .nil .nil
theorem zgI : Sd G W0 32 V6 := gs (k1 (W7 hG) .nil) .nil
theorem zml : Sd G W0 33 zh7 := gs (k1 (V1 hG) (k1 (zs3 hG) (k1 (ztc hG) .nil))) .nil
theorem zdD : Sd G W0 9 WJ := gs (k1 (zeE hG) (k1 (zim hG) (k1 (W7 hG) (k1 (zlL hG) (k1 (zf4 hG) (k1 (zgI hG) (k1 (zml hG) .nil))))))) .nil
theorem YY : Sd G W0 34 ua := gs .nil .nil
theorem zbg : Sd G W0 36 YW := gs (k1 (YY hG) .nil) .nil
theorem zhi : Sd G W0 10 UN := gs (k1 (YY hG) (k1 (XE hG) (k1 (zbg hG) .nil))) .nil
theorem zgU : Sd G W0 18 UL := gs (k1 (W7 hG) .nil) .nil
theorem zif : Sd G W0 78 zat := gs (k1 (XE hG) .nil) .nil
theorem zjU : Sd G W0 80 zcP := gs .nil .nil
theorem UK : Sd G W0 79 Zm := gs (k1 (US hG) (k1 (VP hG) (k1 (zgx hG) (k1 (zjU hG) .nil)))) .nil
theorem zkQ : Sd G W0 28 zgM := gs (k1 (zif hG) (k1 (UK hG) .nil)) .nil
theorem zme : Sd G W0 24 zh2 := gs (k1 (zkQ hG) (k1 (zdY hG) .nil)) .nil
theorem zbl : Sd G W0 7 YL := gs (k1 (zdD hG) (k1 (zhi hG) (k1 (zeE hG) (k1 (zgU hG) (k1 (zme hG) (k1 (US hG) (k1 (VP hG) .nil))))))) .nil
end Go.Pe.G
