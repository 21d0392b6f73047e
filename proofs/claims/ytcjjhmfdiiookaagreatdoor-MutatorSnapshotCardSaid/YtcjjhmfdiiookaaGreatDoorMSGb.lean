/- Own work of this seat: G4e, G4f, EQ, G2i, GH, G3. -/
import Derived.Test.YtcjjhmfdiiookaaGreatDoorMSGa
set_option linter.unusedVariables false
set_option linter.unusedSectionVars false
set_option linter.unusedSimpArgs false
set_option linter.unnecessarySimpa false
set_option linter.deprecated false
set_option maxRecDepth 100000
namespace Go.Pe.G
open Go.Pe
theorem Uz (s1 : Int) (s2 : Int) (s3 : Int) (s4 : za) (s5 : Int) (s6 : Int) (s7 : Int) (s8 : Int) (s9 : Int) (s10 : Int) (s11 : Int) (s12 : Int) (s13 : Int) (s14 : BitVec 64) (s15 : Int) (s16 : zt) (s17 : Int) (s18 : Int) (s19 : Bool) (s20 : Bool) (s21 : Int) (s22 : Int) (s23 : Int) (s24 : Int) (s25 : zx) (s26 : List (List Int)) (s27 : List (List Int)) (s28 : List (List zg)) (s29 : List zj) (s30 : List (List Int)) (s31 : List (BitVec 64)) (s32 : List (List Int)) (s33 : List Int) (s34 : List Int) (s35 : List zh) (s36 : List zb) : uE (s1, s2, s3, s4, s5, s6, s7, s8, s9, s10, s11, s12, s13, s14, s15, s16, s17, s18, s19, s20, s21, s22, s23, s24, s25, s26, s27, s28, s29, s30, s31, s32, s33, s34, s35, s36, ()) =
 bif decide (s3 < s2) then
  (W3 s4 s1).bind fun y1 =>
  some (.again (s1, s2, w64 (s3 + 1), y1.1, s5, s6, s7, s8, s9, s10, s11, s12, s13, s14, s15, s16, s17, s18, s19, s20, s21, s22, s23, s24, s25, s26, s27, s28, s29, s30, s31, s32, s33, s34, s35, s36, ()))
 else
  some (.brk (s4, s5, s6, s7, s8, s9, s10, s11, s12, s13, s14, s15, s16, s17, s18, s19, s20, s21, s22, s23, s24, s25, s26, s27, s28, s29, s30, s31, s32, s33, s34, s35, s36, ())) := by kernel_rfl
theorem zjU (a1 : za) (a2 : Int) (a3 : Int) : yw a1 a2 a3 =
 (yz uE (a2, a3, 0, a1, 0, 0, 0, 0, 0, 0, 0, 0, 0, 0#64, 0, zt.mk 0#64 0#64, 0, 0, false, false, 0, 0, 0, 0, zx.mk 0 0, ([] : List (List Int)), ([] : List (List Int)), ([] : List (List zg)), ([] : List zj), ([] : List (List Int)), ([] : List (BitVec 64)), ([] : List (List Int)), ([] : List Int), ([] : List Int), ([] : List zh), ([] : List zb), ())).bind fun st => match st with
   | .again _ => none
   | .brk y1 =>
   some (y1.1, ())
   | .ret y1 =>
   none := zr (by kernel_rfl)
theorem zfv (s1 : ByteArray) (s2 : List (List Int)) (s3 : Int) (s4 : Int) : zdA (s1, s2, s3, s4, ()) =
 bif decide (s4 < s3) then
  (idx s2 s4).bind fun x1 =>
  (yz zdc (s1, s2, s3, s4, x1, (x1.length : Int), 0, ([] : List ByteArray), ())).bind fun st => match st with
    | .again _ => none
    | .brk y2 =>
    (zvN y2.2.2.2.2.1 (ByteArray.mk #[44])).bind fun y3 =>
    bif decide ((ByteArray.mk #[124]).size + y3.1.size < 4294967296) then
     bif decide (y2.1.size + ((ByteArray.mk #[124]) ++ y3.1).size < 4294967296) then
      some (.again (y2.1 ++ ((ByteArray.mk #[124]) ++ y3.1), y2.2.1, y2.2.2.1, w64 (y2.2.2.2.1 + 1), ()))
     else
      none
    else
     none
    | .ret y2 =>
    some (.ret (()))
 else
  some (.brk (s1, ())) := by kernel_rfl
theorem zfu (s1 : ByteArray) (s2 : List (List Int)) (s3 : Int) (s4 : Int) (s5 : List Int) (s6 : Int) (s7 : Int) (s8 : List ByteArray) : zdc (s1, s2, s3, s4, s5, s6, s7, s8, ()) =
 bif decide (s7 < s6) then
  (idx s5 s7).bind fun x1 =>
  (zsl x1).bind fun y2 =>
  (wD (s8 ++ ([y2.1] : List ByteArray))).bind fun l3 =>
  some (.again (s1, s2, s3, s4, s5, s6, w64 (s7 + 1), l3, ()))
 else
  some (.brk (s1, s2, s3, s4, s8, ())) := by kernel_rfl
theorem zq5 (a1 : zo) : zaz a1 =
 (WT a1).bind fun y1 =>
 bif !y1.1 then
  some (ByteArray.mk #[63], ())
 else
  (zsl a1.Slots).bind fun y2 =>
  (yz zdA (y2.1, a1.Objs, (a1.Objs.length : Int), 0, ())).bind fun st => match st with
    | .again _ => none
    | .brk y3 =>
    some (y3.1, ())
    | .ret y3 =>
    none := zr (by kernel_rfl)
theorem zhB  : WM  =
 (XZ (([(([(zg.mk 1 1 0 0), (zg.mk 5 1 0 0), (zg.mk 2 1 0 0)] : List zg))] : List (List zg)))).bind fun y1 =>
 (zaM y1.1).bind fun y2 =>
 (yw y2.1 1 2).bind fun y3 =>
 (yw y2.1 1 7).bind fun y4 =>
 (yw y2.1 1 8).bind fun y5 =>
 (yw y2.1 1 99).bind fun y6 =>
 (XZ (([(([(zg.mk 3 1 0 0), (zg.mk 3 1 0 0)] : List zg))] : List (List zg)))).bind fun y7 =>
 (zaM y7.1).bind fun y8 =>
 (yw y8.1 1 2).bind fun y9 =>
 (yw y8.1 1 5).bind fun y10 =>
 (yw y8.1 1 60).bind fun y11 =>
 bif !(decide (((y2.1.Ms.length : Int)) = 1)) then
  some (false, ())
 else
  bif !(decide (((y3.1.Ms.length : Int)) = 1)) then
   some (false, ())
  else
   bif !(decide (((y4.1.Ms.length : Int)) = 1)) then
    some (false, ())
   else
    bif !(decide (((y5.1.Ms.length : Int)) = 1)) then
     some (false, ())
    else
     bif !(decide (((y6.1.Ms.length : Int)) = 1)) then
      some (false, ())
     else
      bif !(decide (((y9.1.Ms.length : Int)) = 1)) then
       some (false, ())
      else
       bif !(decide (((y10.1.Ms.length : Int)) = 1)) then
        some (false, ())
       else
        bif !(decide (((y11.1.Ms.length : Int)) = 1)) then
         some (false, ())
        else
         (idx y3.1.Ms 0).bind fun x12 =>
         (idx x12.Regs 1).bind fun x13 =>
         bif decide (x13 = 2) then
          (idx y3.1.Ms 0).bind fun x14 =>
          bif decide (x14.IP = 1) then
           (idx y4.1.Ms 0).bind fun x15 =>
           bif decide (x15.PC = 23) then
            (idx y4.1.Ms 0).bind fun x16 =>
            bif decide (((x16.Buf.length : Int)) = 1) then
             (idx y4.1.Ms 0).bind fun x17 =>
             (idx x17.Buf 0).bind fun x18 =>
             bif decide (x18 = 2) then
              (zaz y4.1.H).bind fun y19 =>
              bif decide (y19.1 = (ByteArray.mk #[49, 124, 50, 124, 48, 124, 48])) then
               (zaz y5.1.H).bind fun y20 =>
               bif decide (y20.1 = (ByteArray.mk #[49, 124, 48, 124, 48, 124, 48])) then
                (Vk y6.1 1).bind fun y21 =>
                bif y21.1 then
                 (Vk y4.1 1).bind fun y22 =>
                 bif !y22.1 then
                  (Vk y6.1 2).bind fun y23 =>
                  bif !y23.1 then
                   (W3 y6.1 1).bind fun y24 =>
                   (zgD y6.1 y24.1).bind fun y25 =>
                   bif y25.1 then
                    (zaz y9.1.H).bind fun y26 =>
                    bif decide (y26.1 = (ByteArray.mk #[49, 124, 50, 124, 48, 124, 48, 124, 48])) then
                     (idx y9.1.Ms 0).bind fun x27 =>
                     (idx x27.Regs 1).bind fun x28 =>
                     bif decide (x28 = 4) then
                      bif (decide (y9.1.T.Marks = 9#64)) && (decide (y9.1.T.Black = 8#64)) then
                       (idx y9.1.L.Bal 0).bind fun x29 =>
                       bif decide (x29 = (-2)) then
                        bif decide (y9.1.L.Spent = 2) then
                         (idx y10.1.Ms 0).bind fun x30 =>
                         bif decide (x30.PC = 32) then
                          bif decide (y11.1.L.Scanned = 2) then
                           some (decide (y11.1.T.Black = 11#64), ())
                          else
                           some (false, ())
                         else
                          some (false, ())
                        else
                         some (false, ())
                       else
                        some (false, ())
                      else
                       some (false, ())
                     else
                      some (false, ())
                    else
                     some (false, ())
                   else
                    some (false, ())
                  else
                   some (false, ())
                 else
                  some (false, ())
                else
                 some (false, ())
               else
                some (false, ())
              else
               some (false, ())
             else
              some (false, ())
            else
             some (false, ())
           else
            some (false, ())
          else
           some (false, ())
         else
          some (false, ()) := zr (by kernel_rfl)
theorem zcH (a1 : zF) : zy a1 =
 bif decide (((a1.L.length : Int)) ≤ a1.At) then
  some (0, a1, ())
 else
  (idx a1.L (w64 ((w64 (a1.At + 1)) - 1))).bind fun x1 =>
  some ((x1.toNat : Int), { a1 with At := w64 (a1.At + 1) }, ()) := zr (by kernel_rfl)
theorem zeo (a1 : Int) (a2 : Int) (a3 : zF) : YY a1 a2 a3 =
 (zy a3).bind fun y1 =>
 (xS ([1, 1, 2, 2, 2, 3, 4, 5] : List Int) (y1.1.tmod 8)).bind fun n2 =>
 (([1, 1, 2, 2, 2, 3, 4, 5] : List Int)[n2]?).bind fun x3 =>
 (zy y1.2.1).bind fun y4 =>
 bif decide (a1 = 0) then
  none
 else
  bif decide (x3 = 1) then
   (zy y4.2.1).bind fun y5 =>
   bif decide (a1 = 0) then
    none
   else
    bif decide (x3 < 3) then
     (zy y5.2.1).bind fun y6 =>
     bif decide (a2 = 0) then
      none
     else
      some (zg.mk x3 (y4.1.tmod a1) (y5.1.tmod a1) (y6.1.tmod a2), y6.2.1, ())
    else
     some (zg.mk x3 (y4.1.tmod a1) (y5.1.tmod a1) 0, y5.2.1, ())
  else
   bif decide (x3 = 2) then
    (zy y4.2.1).bind fun y7 =>
    bif decide (a1 = 0) then
     none
    else
     bif decide (x3 < 3) then
      (zy y7.2.1).bind fun y8 =>
      bif decide (a2 = 0) then
       none
      else
       some (zg.mk x3 (y4.1.tmod a1) (y7.1.tmod a1) (y8.1.tmod a2), y8.2.1, ())
     else
      some (zg.mk x3 (y4.1.tmod a1) (y7.1.tmod a1) 0, y7.2.1, ())
   else
    bif decide (x3 = 4) then
     (zy y4.2.1).bind fun y9 =>
     bif decide (a1 = 0) then
      none
     else
      bif decide (x3 < 3) then
       (zy y9.2.1).bind fun y10 =>
       bif decide (a2 = 0) then
        none
       else
        some (zg.mk x3 (y4.1.tmod a1) (y9.1.tmod a1) (y10.1.tmod a2), y10.2.1, ())
      else
       some (zg.mk x3 (y4.1.tmod a1) (y9.1.tmod a1) 0, y9.2.1, ())
    else
     bif decide (x3 < 3) then
      (zy y4.2.1).bind fun y11 =>
      bif decide (a2 = 0) then
       none
      else
       some (zg.mk x3 (y4.1.tmod a1) 0 (y11.1.tmod a2), y11.2.1, ())
     else
      some (zg.mk x3 (y4.1.tmod a1) 0 0, y4.2.1, ()) := zr (by kernel_rfl)
theorem zhZ (s1 : Int) (s2 : Int) (s3 : Int) (s4 : Int) (s5 : Int) (s6 : Int) (s7 : Int) (s8 : Int) (s9 : Int) (s10 : Int) (s11 : Int) (s12 : BitVec 64) (s13 : zF) (s14 : Int) (s15 : Int) (s16 : Int) (s17 : Int) (s18 : Int) (s19 : Int) (s20 : Int) (s21 : Int) (s22 : Int) (s23 : BitVec 64) (s24 : List (List Int)) (s25 : List (List Int)) (s26 : List (List zg)) (s27 : List zj) (s28 : List (List Int)) (s29 : List (List Int)) (s30 : List (List zg)) (s31 : List zj) : YE (s1, s2, s3, s4, s5, s6, s7, s8, s9, s10, s11, s12, s13, s14, s15, s16, s17, s18, s19, s20, s21, s22, s23, s24, s25, s26, s27, s28, s29, s30, s31, ()) =
 bif decide (s2 < s1) then
  (yz Z4 (s1, s2, 0, s3, s4, s5, s6, s7, s8, s9, s10, s11, s12, s13, s14, s15, s16, s17, s18, s19, s20, s21, s22, s23, ([] : List Int), s24, s25, s26, s27, s28, s29, s30, s31, ())).bind fun st => match st with
    | .again _ => none
    | .brk y1 =>
    (wD (y1.2.2.2.2.2.2.2.2.2.2.2.2.2.2.2.2.2.2.2.2.2.2.2.2.2.2.2.2.1 ++ (([y1.2.2.2.2.2.2.2.2.2.2.2.2.2.2.2.2.2.2.2.2.2.2.2.1] : List (List Int))))).bind fun l2 =>
    some (.again (y1.1, w64 (y1.2.1 + 1), y1.2.2.1, y1.2.2.2.1, y1.2.2.2.2.1, y1.2.2.2.2.2.1, y1.2.2.2.2.2.2.1, y1.2.2.2.2.2.2.2.1, y1.2.2.2.2.2.2.2.2.1, y1.2.2.2.2.2.2.2.2.2.1, y1.2.2.2.2.2.2.2.2.2.2.1, y1.2.2.2.2.2.2.2.2.2.2.2.1, y1.2.2.2.2.2.2.2.2.2.2.2.2.1, y1.2.2.2.2.2.2.2.2.2.2.2.2.2.1, y1.2.2.2.2.2.2.2.2.2.2.2.2.2.2.1, y1.2.2.2.2.2.2.2.2.2.2.2.2.2.2.2.1, y1.2.2.2.2.2.2.2.2.2.2.2.2.2.2.2.2.1, y1.2.2.2.2.2.2.2.2.2.2.2.2.2.2.2.2.2.1, y1.2.2.2.2.2.2.2.2.2.2.2.2.2.2.2.2.2.2.1, y1.2.2.2.2.2.2.2.2.2.2.2.2.2.2.2.2.2.2.2.1, y1.2.2.2.2.2.2.2.2.2.2.2.2.2.2.2.2.2.2.2.2.1, y1.2.2.2.2.2.2.2.2.2.2.2.2.2.2.2.2.2.2.2.2.2.1, y1.2.2.2.2.2.2.2.2.2.2.2.2.2.2.2.2.2.2.2.2.2.2.1, y1.2.2.2.2.2.2.2.2.2.2.2.2.2.2.2.2.2.2.2.2.2.2.2.2.1, y1.2.2.2.2.2.2.2.2.2.2.2.2.2.2.2.2.2.2.2.2.2.2.2.2.2.1, y1.2.2.2.2.2.2.2.2.2.2.2.2.2.2.2.2.2.2.2.2.2.2.2.2.2.2.1, y1.2.2.2.2.2.2.2.2.2.2.2.2.2.2.2.2.2.2.2.2.2.2.2.2.2.2.2.1, l2, y1.2.2.2.2.2.2.2.2.2.2.2.2.2.2.2.2.2.2.2.2.2.2.2.2.2.2.2.2.2.1, y1.2.2.2.2.2.2.2.2.2.2.2.2.2.2.2.2.2.2.2.2.2.2.2.2.2.2.2.2.2.2.1, y1.2.2.2.2.2.2.2.2.2.2.2.2.2.2.2.2.2.2.2.2.2.2.2.2.2.2.2.2.2.2.2.1, ()))
    | .ret y1 =>
    some (.ret (()))
 else
  some (.brk (s1, s3, s4, s5, s6, s7, s8, s9, s10, s11, s12, s13, s14, s15, s16, s17, s18, s19, s20, s21, s22, s23, s24, s25, s26, s27, s28, s29, s30, s31, ())) := by kernel_rfl
theorem zgI (s1 : Int) (s2 : Int) (s3 : Int) (s4 : Int) (s5 : Int) (s6 : Int) (s7 : Int) (s8 : Int) (s9 : Int) (s10 : Int) (s11 : Int) (s12 : Int) (s13 : BitVec 64) (s14 : zF) (s15 : Int) (s16 : Int) (s17 : Int) (s18 : Int) (s19 : Int) (s20 : Int) (s21 : Int) (s22 : Int) (s23 : Int) (s24 : BitVec 64) (s25 : List Int) (s26 : List (List Int)) (s27 : List (List Int)) (s28 : List (List zg)) (s29 : List zj) (s30 : List (List Int)) (s31 : List (List Int)) (s32 : List (List zg)) (s33 : List zj) : Z4 (s1, s2, s3, s4, s5, s6, s7, s8, s9, s10, s11, s12, s13, s14, s15, s16, s17, s18, s19, s20, s21, s22, s23, s24, s25, s26, s27, s28, s29, s30, s31, s32, s33, ()) =
 bif decide (s3 < s23) then
  (zy s14).bind fun y1 =>
  bif decide ((w64 (s1 + 1)) = 0) then
   none
  else
   (wD (s25 ++ (([(y1.1.tmod (w64 (s1 + 1)))] : List Int)))).bind fun l2 =>
   some (.again (s1, s2, w64 (s3 + 1), s4, s5, s6, s7, s8, s9, s10, s11, s12, s13, y1.2.1, s15, s16, s17, s18, s19, s20, s21, s22, s23, s24, l2, s26, s27, s28, s29, s30, s31, s32, s33, ()))
 else
  some (.brk (s1, s2, s4, s5, s6, s7, s8, s9, s10, s11, s12, s13, s14, s15, s16, s17, s18, s19, s20, s21, s22, s23, s24, s25, s26, s27, s28, s29, s30, s31, s32, s33, ())) := by kernel_rfl
theorem zgG (s1 : Int) (s2 : Int) (s3 : Int) (s4 : Int) (s5 : Int) (s6 : Int) (s7 : Int) (s8 : Int) (s9 : Int) (s10 : Int) (s11 : Int) (s12 : BitVec 64) (s13 : zF) (s14 : Int) (s15 : Int) (s16 : Int) (s17 : Int) (s18 : Int) (s19 : Int) (s20 : Int) (s21 : Int) (s22 : Int) (s23 : BitVec 64) (s24 : List (List Int)) (s25 : List (List Int)) (s26 : List (List zg)) (s27 : List zj) (s28 : List (List Int)) (s29 : List (List Int)) (s30 : List (List zg)) (s31 : List zj) : Z6 (s1, s2, s3, s4, s5, s6, s7, s8, s9, s10, s11, s12, s13, s14, s15, s16, s17, s18, s19, s20, s21, s22, s23, s24, s25, s26, s27, s28, s29, s30, s31, ()) =
 bif decide (s2 < s15) then
  (yz Yb (s1, s2, 0, s3, s4, s5, s6, s7, s8, s9, s10, s11, s12, s13, s14, s15, s16, s17, s18, s19, s20, s21, s22, s23, ([] : List Int), s24, s25, s26, s27, s28, s29, s30, s31, ())).bind fun st => match st with
    | .again _ => none
    | .brk y1 =>
    bif decide (((y1.2.2.2.2.2.2.2.2.2.2.2.2.2.2.2.2.2.2.2.2.2.2.2.1.length : Int)) = 0) then
     (zy y1.2.2.2.2.2.2.2.2.2.2.2.2.1).bind fun y2 =>
     (yz uH (y1.1, y1.2.1, y2.1.tmod 8, y1.2.2.1, y1.2.2.2.1, y1.2.2.2.2.1, y1.2.2.2.2.2.1, y1.2.2.2.2.2.2.1, y1.2.2.2.2.2.2.2.1, y1.2.2.2.2.2.2.2.2.1, y1.2.2.2.2.2.2.2.2.2.1, y1.2.2.2.2.2.2.2.2.2.2.1, y1.2.2.2.2.2.2.2.2.2.2.2.1, y2.2.1, y1.2.2.2.2.2.2.2.2.2.2.2.2.2.1, y1.2.2.2.2.2.2.2.2.2.2.2.2.2.2.1, y1.2.2.2.2.2.2.2.2.2.2.2.2.2.2.2.1, y1.2.2.2.2.2.2.2.2.2.2.2.2.2.2.2.2.1, y1.2.2.2.2.2.2.2.2.2.2.2.2.2.2.2.2.2.1, y1.2.2.2.2.2.2.2.2.2.2.2.2.2.2.2.2.2.2.1, y1.2.2.2.2.2.2.2.2.2.2.2.2.2.2.2.2.2.2.2.1, y1.2.2.2.2.2.2.2.2.2.2.2.2.2.2.2.2.2.2.2.2.1, y1.2.2.2.2.2.2.2.2.2.2.2.2.2.2.2.2.2.2.2.2.2.1, y1.2.2.2.2.2.2.2.2.2.2.2.2.2.2.2.2.2.2.2.2.2.2.1, ([0] : List Int), ([] : List zg), y1.2.2.2.2.2.2.2.2.2.2.2.2.2.2.2.2.2.2.2.2.2.2.2.2.1, y1.2.2.2.2.2.2.2.2.2.2.2.2.2.2.2.2.2.2.2.2.2.2.2.2.2.1, y1.2.2.2.2.2.2.2.2.2.2.2.2.2.2.2.2.2.2.2.2.2.2.2.2.2.2.1, y1.2.2.2.2.2.2.2.2.2.2.2.2.2.2.2.2.2.2.2.2.2.2.2.2.2.2.2.1, y1.2.2.2.2.2.2.2.2.2.2.2.2.2.2.2.2.2.2.2.2.2.2.2.2.2.2.2.2.1, y1.2.2.2.2.2.2.2.2.2.2.2.2.2.2.2.2.2.2.2.2.2.2.2.2.2.2.2.2.2.1, y1.2.2.2.2.2.2.2.2.2.2.2.2.2.2.2.2.2.2.2.2.2.2.2.2.2.2.2.2.2.2.1, y1.2.2.2.2.2.2.2.2.2.2.2.2.2.2.2.2.2.2.2.2.2.2.2.2.2.2.2.2.2.2.2.1, ())).bind fun st => match st with
       | .again _ => none
       | .brk y3 =>
       (wD (y3.2.2.2.2.2.2.2.2.2.2.2.2.2.2.2.2.2.2.2.2.2.2.2.2.2.2.2.2.2.2.1 ++ (([y3.2.2.2.2.2.2.2.2.2.2.2.2.2.2.2.2.2.2.2.2.2.2.2.1] : List (List Int))))).bind fun l4 =>
       (wD (y3.2.2.2.2.2.2.2.2.2.2.2.2.2.2.2.2.2.2.2.2.2.2.2.2.2.2.2.2.2.2.2.1 ++ (([y3.2.2.2.2.2.2.2.2.2.2.2.2.2.2.2.2.2.2.2.2.2.2.2.2.1] : List (List zg))))).bind fun l5 =>
       some (.again (y3.1, w64 (y3.2.1 + 1), y3.2.2.1, y3.2.2.2.1, y3.2.2.2.2.1, y3.2.2.2.2.2.1, y3.2.2.2.2.2.2.1, y3.2.2.2.2.2.2.2.1, y3.2.2.2.2.2.2.2.2.1, y3.2.2.2.2.2.2.2.2.2.1, y3.2.2.2.2.2.2.2.2.2.2.1, y3.2.2.2.2.2.2.2.2.2.2.2.1, y3.2.2.2.2.2.2.2.2.2.2.2.2.1, y3.2.2.2.2.2.2.2.2.2.2.2.2.2.1, y3.2.2.2.2.2.2.2.2.2.2.2.2.2.2.1, y3.2.2.2.2.2.2.2.2.2.2.2.2.2.2.2.1, y3.2.2.2.2.2.2.2.2.2.2.2.2.2.2.2.2.1, y3.2.2.2.2.2.2.2.2.2.2.2.2.2.2.2.2.2.1, y3.2.2.2.2.2.2.2.2.2.2.2.2.2.2.2.2.2.2.1, y3.2.2.2.2.2.2.2.2.2.2.2.2.2.2.2.2.2.2.2.1, y3.2.2.2.2.2.2.2.2.2.2.2.2.2.2.2.2.2.2.2.2.1, y3.2.2.2.2.2.2.2.2.2.2.2.2.2.2.2.2.2.2.2.2.2.1, y3.2.2.2.2.2.2.2.2.2.2.2.2.2.2.2.2.2.2.2.2.2.2.1, y3.2.2.2.2.2.2.2.2.2.2.2.2.2.2.2.2.2.2.2.2.2.2.2.2.2.1, y3.2.2.2.2.2.2.2.2.2.2.2.2.2.2.2.2.2.2.2.2.2.2.2.2.2.2.1, y3.2.2.2.2.2.2.2.2.2.2.2.2.2.2.2.2.2.2.2.2.2.2.2.2.2.2.2.1, y3.2.2.2.2.2.2.2.2.2.2.2.2.2.2.2.2.2.2.2.2.2.2.2.2.2.2.2.2.1, y3.2.2.2.2.2.2.2.2.2.2.2.2.2.2.2.2.2.2.2.2.2.2.2.2.2.2.2.2.2.1, l4, l5, y3.2.2.2.2.2.2.2.2.2.2.2.2.2.2.2.2.2.2.2.2.2.2.2.2.2.2.2.2.2.2.2.2.1, ()))
       | .ret y3 =>
       some (.ret (()))
    else
     (zy y1.2.2.2.2.2.2.2.2.2.2.2.2.1).bind fun y6 =>
     (yz uH (y1.1, y1.2.1, y6.1.tmod 8, y1.2.2.1, y1.2.2.2.1, y1.2.2.2.2.1, y1.2.2.2.2.2.1, y1.2.2.2.2.2.2.1, y1.2.2.2.2.2.2.2.1, y1.2.2.2.2.2.2.2.2.1, y1.2.2.2.2.2.2.2.2.2.1, y1.2.2.2.2.2.2.2.2.2.2.1, y1.2.2.2.2.2.2.2.2.2.2.2.1, y6.2.1, y1.2.2.2.2.2.2.2.2.2.2.2.2.2.1, y1.2.2.2.2.2.2.2.2.2.2.2.2.2.2.1, y1.2.2.2.2.2.2.2.2.2.2.2.2.2.2.2.1, y1.2.2.2.2.2.2.2.2.2.2.2.2.2.2.2.2.1, y1.2.2.2.2.2.2.2.2.2.2.2.2.2.2.2.2.2.1, y1.2.2.2.2.2.2.2.2.2.2.2.2.2.2.2.2.2.2.1, y1.2.2.2.2.2.2.2.2.2.2.2.2.2.2.2.2.2.2.2.1, y1.2.2.2.2.2.2.2.2.2.2.2.2.2.2.2.2.2.2.2.2.1, y1.2.2.2.2.2.2.2.2.2.2.2.2.2.2.2.2.2.2.2.2.2.1, y1.2.2.2.2.2.2.2.2.2.2.2.2.2.2.2.2.2.2.2.2.2.2.1, y1.2.2.2.2.2.2.2.2.2.2.2.2.2.2.2.2.2.2.2.2.2.2.2.1, ([] : List zg), y1.2.2.2.2.2.2.2.2.2.2.2.2.2.2.2.2.2.2.2.2.2.2.2.2.1, y1.2.2.2.2.2.2.2.2.2.2.2.2.2.2.2.2.2.2.2.2.2.2.2.2.2.1, y1.2.2.2.2.2.2.2.2.2.2.2.2.2.2.2.2.2.2.2.2.2.2.2.2.2.2.1, y1.2.2.2.2.2.2.2.2.2.2.2.2.2.2.2.2.2.2.2.2.2.2.2.2.2.2.2.1, y1.2.2.2.2.2.2.2.2.2.2.2.2.2.2.2.2.2.2.2.2.2.2.2.2.2.2.2.2.1, y1.2.2.2.2.2.2.2.2.2.2.2.2.2.2.2.2.2.2.2.2.2.2.2.2.2.2.2.2.2.1, y1.2.2.2.2.2.2.2.2.2.2.2.2.2.2.2.2.2.2.2.2.2.2.2.2.2.2.2.2.2.2.1, y1.2.2.2.2.2.2.2.2.2.2.2.2.2.2.2.2.2.2.2.2.2.2.2.2.2.2.2.2.2.2.2.1, ())).bind fun st => match st with
       | .again _ => none
       | .brk y7 =>
       (wD (y7.2.2.2.2.2.2.2.2.2.2.2.2.2.2.2.2.2.2.2.2.2.2.2.2.2.2.2.2.2.2.1 ++ (([y7.2.2.2.2.2.2.2.2.2.2.2.2.2.2.2.2.2.2.2.2.2.2.2.1] : List (List Int))))).bind fun l8 =>
       (wD (y7.2.2.2.2.2.2.2.2.2.2.2.2.2.2.2.2.2.2.2.2.2.2.2.2.2.2.2.2.2.2.2.1 ++ (([y7.2.2.2.2.2.2.2.2.2.2.2.2.2.2.2.2.2.2.2.2.2.2.2.2.1] : List (List zg))))).bind fun l9 =>
       some (.again (y7.1, w64 (y7.2.1 + 1), y7.2.2.1, y7.2.2.2.1, y7.2.2.2.2.1, y7.2.2.2.2.2.1, y7.2.2.2.2.2.2.1, y7.2.2.2.2.2.2.2.1, y7.2.2.2.2.2.2.2.2.1, y7.2.2.2.2.2.2.2.2.2.1, y7.2.2.2.2.2.2.2.2.2.2.1, y7.2.2.2.2.2.2.2.2.2.2.2.1, y7.2.2.2.2.2.2.2.2.2.2.2.2.1, y7.2.2.2.2.2.2.2.2.2.2.2.2.2.1, y7.2.2.2.2.2.2.2.2.2.2.2.2.2.2.1, y7.2.2.2.2.2.2.2.2.2.2.2.2.2.2.2.1, y7.2.2.2.2.2.2.2.2.2.2.2.2.2.2.2.2.1, y7.2.2.2.2.2.2.2.2.2.2.2.2.2.2.2.2.2.1, y7.2.2.2.2.2.2.2.2.2.2.2.2.2.2.2.2.2.2.1, y7.2.2.2.2.2.2.2.2.2.2.2.2.2.2.2.2.2.2.2.1, y7.2.2.2.2.2.2.2.2.2.2.2.2.2.2.2.2.2.2.2.2.1, y7.2.2.2.2.2.2.2.2.2.2.2.2.2.2.2.2.2.2.2.2.2.1, y7.2.2.2.2.2.2.2.2.2.2.2.2.2.2.2.2.2.2.2.2.2.2.1, y7.2.2.2.2.2.2.2.2.2.2.2.2.2.2.2.2.2.2.2.2.2.2.2.2.2.1, y7.2.2.2.2.2.2.2.2.2.2.2.2.2.2.2.2.2.2.2.2.2.2.2.2.2.2.1, y7.2.2.2.2.2.2.2.2.2.2.2.2.2.2.2.2.2.2.2.2.2.2.2.2.2.2.2.1, y7.2.2.2.2.2.2.2.2.2.2.2.2.2.2.2.2.2.2.2.2.2.2.2.2.2.2.2.2.1, y7.2.2.2.2.2.2.2.2.2.2.2.2.2.2.2.2.2.2.2.2.2.2.2.2.2.2.2.2.2.1, l8, l9, y7.2.2.2.2.2.2.2.2.2.2.2.2.2.2.2.2.2.2.2.2.2.2.2.2.2.2.2.2.2.2.2.2.1, ()))
       | .ret y7 =>
       some (.ret (()))
    | .ret y1 =>
    some (.ret (()))
 else
  some (.brk (s3, s4, s5, s6, s7, s8, s9, s10, s11, s12, s14, s15, s16, s17, s18, s19, s20, s21, s22, s23, s24, s25, s26, s27, s28, s29, s30, s31, ())) := by kernel_rfl
theorem zhl (s1 : Int) (s2 : Int) (s3 : Int) (s4 : Int) (s5 : Int) (s6 : Int) (s7 : Int) (s8 : Int) (s9 : Int) (s10 : Int) (s11 : Int) (s12 : Int) (s13 : BitVec 64) (s14 : zF) (s15 : Int) (s16 : Int) (s17 : Int) (s18 : Int) (s19 : Int) (s20 : Int) (s21 : Int) (s22 : Int) (s23 : Int) (s24 : BitVec 64) (s25 : List Int) (s26 : List (List Int)) (s27 : List (List Int)) (s28 : List (List zg)) (s29 : List zj) (s30 : List (List Int)) (s31 : List (List Int)) (s32 : List (List zg)) (s33 : List zj) : Yb (s1, s2, s3, s4, s5, s6, s7, s8, s9, s10, s11, s12, s13, s14, s15, s16, s17, s18, s19, s20, s21, s22, s23, s24, s25, s26, s27, s28, s29, s30, s31, s32, s33, ()) =
 (zy s14).bind fun y1 =>
 bif decide (s3 < (w64 (1 + (y1.1.tmod 3)))) then
  (zy y1.2.1).bind fun y2 =>
  bif decide ((w64 (s1 + 1)) = 0) then
   none
  else
   (wD (s25 ++ (([(y2.1.tmod (w64 (s1 + 1)))] : List Int)))).bind fun l3 =>
   some (.again (s1, s2, w64 (s3 + 1), s4, s5, s6, s7, s8, s9, s10, s11, s12, s13, y2.2.1, s15, s16, s17, s18, s19, s20, s21, s22, s23, s24, l3, s26, s27, s28, s29, s30, s31, s32, s33, ()))
 else
  some (.brk (s1, s2, s4, s5, s6, s7, s8, s9, s10, s11, s12, s13, y1.2.1, s15, s16, s17, s18, s19, s20, s21, s22, s23, s24, s25, s26, s27, s28, s29, s30, s31, s32, s33, ())) := by kernel_rfl
theorem zhn (s1 : Int) (s2 : Int) (s3 : Int) (s4 : Int) (s5 : Int) (s6 : Int) (s7 : Int) (s8 : Int) (s9 : Int) (s10 : Int) (s11 : Int) (s12 : Int) (s13 : BitVec 64) (s14 : zF) (s15 : Int) (s16 : Int) (s17 : Int) (s18 : Int) (s19 : Int) (s20 : Int) (s21 : Int) (s22 : Int) (s23 : Int) (s24 : BitVec 64) (s25 : List Int) (s26 : List zg) (s27 : List (List Int)) (s28 : List (List Int)) (s29 : List (List zg)) (s30 : List zj) (s31 : List (List Int)) (s32 : List (List Int)) (s33 : List (List zg)) (s34 : List zj) : uH (s1, s2, s3, s4, s5, s6, s7, s8, s9, s10, s11, s12, s13, s14, s15, s16, s17, s18, s19, s20, s21, s22, s23, s24, s25, s26, s27, s28, s29, s30, s31, s32, s33, s34, ()) =
 bif decide (0 < s3) then
  (YY ((s25.length : Int)) s23 s14).bind fun y1 =>
  (wD (s26 ++ ([y1.1] : List zg))).bind fun l2 =>
  some (.again (s1, s2, w64 (s3 - 1), s4, s5, s6, s7, s8, s9, s10, s11, s12, s13, y1.2.1, s15, s16, s17, s18, s19, s20, s21, s22, s23, s24, s25, l2, s27, s28, s29, s30, s31, s32, s33, s34, ()))
 else
  some (.brk (s1, s2, s4, s5, s6, s7, s8, s9, s10, s11, s12, s13, s14, s15, s16, s17, s18, s19, s20, s21, s22, s23, s24, s25, s26, s27, s28, s29, s30, s31, s32, s33, s34, ())) := by kernel_rfl
theorem zka (a1 : List (BitVec 8)) : zai a1 =
 (cut a1 0 (bif decide (90 < ((a1.length : Int))) then 90 else ((a1.length : Int)))).bind fun l1 =>
 (zy (zF.mk l1 0)).bind fun y2 =>
 (zy y2.2.1).bind fun y3 =>
 (zy y3.2.1).bind fun y4 =>
 (zy y4.2.1).bind fun y5 =>
 (zy y5.2.1).bind fun y6 =>
 (zy y6.2.1).bind fun y7 =>
 (zy y7.2.1).bind fun y8 =>
 (zy y8.2.1).bind fun y9 =>
 (zy y9.2.1).bind fun y10 =>
 (zy y10.2.1).bind fun y11 =>
 (yz YE (w64 (1 + (y10.1.tmod 6)), 0, 0, 0, 0, 0, 0, 0, 0, 0, 0, 0#64, y11.2.1, w64 (1 + (y2.1.tmod 3)), y3.1.tmod 3, w64 (1 + (y4.1.tmod 3)), w64 (1 + (y5.1.tmod 2)), w64 (1 + (y6.1.tmod 3)), w64 ((w64 (1 + (y10.1.tmod 6))) + (y11.1.tmod 4)), y7.1.tmod 4, y8.1.tmod 4, w64 (1 + (y9.1.tmod 2)), 0#64, ([] : List (List Int)), ([] : List (List Int)), ([] : List (List zg)), ([] : List zj), ([] : List (List Int)), ([] : List (List Int)), ([] : List (List zg)), ([] : List zj), ())).bind fun st => match st with
   | .again _ => none
   | .brk y12 =>
   (zy y12.2.2.2.2.2.2.2.2.2.2.2.1).bind fun y13 =>
   bif decide ((w64 (y12.1 + 1)) = 0) then
    none
   else
    (XV 0#64 (y13.1.tmod (w64 (y12.1 + 1)))).bind fun y14 =>
    (yz Z6 (y12.1, 0, y12.2.1, y12.2.2.1, y12.2.2.2.1, y12.2.2.2.2.1, y12.2.2.2.2.2.1, y12.2.2.2.2.2.2.1, y12.2.2.2.2.2.2.2.1, y12.2.2.2.2.2.2.2.2.1, y12.2.2.2.2.2.2.2.2.2.1, y12.2.2.2.2.2.2.2.2.2.2.1, y13.2.1, y12.2.2.2.2.2.2.2.2.2.2.2.2.1, y12.2.2.2.2.2.2.2.2.2.2.2.2.2.1, y12.2.2.2.2.2.2.2.2.2.2.2.2.2.2.1, y12.2.2.2.2.2.2.2.2.2.2.2.2.2.2.2.1, y12.2.2.2.2.2.2.2.2.2.2.2.2.2.2.2.2.1, y12.2.2.2.2.2.2.2.2.2.2.2.2.2.2.2.2.2.1, y12.2.2.2.2.2.2.2.2.2.2.2.2.2.2.2.2.2.2.1, y12.2.2.2.2.2.2.2.2.2.2.2.2.2.2.2.2.2.2.2.1, y12.2.2.2.2.2.2.2.2.2.2.2.2.2.2.2.2.2.2.2.2.1, y14.1, y12.2.2.2.2.2.2.2.2.2.2.2.2.2.2.2.2.2.2.2.2.2.2.1, y12.2.2.2.2.2.2.2.2.2.2.2.2.2.2.2.2.2.2.2.2.2.2.2.1, y12.2.2.2.2.2.2.2.2.2.2.2.2.2.2.2.2.2.2.2.2.2.2.2.2.1, y12.2.2.2.2.2.2.2.2.2.2.2.2.2.2.2.2.2.2.2.2.2.2.2.2.2.1, y12.2.2.2.2.2.2.2.2.2.2.2.2.2.2.2.2.2.2.2.2.2.2.2.2.2.2.1, y12.2.2.2.2.2.2.2.2.2.2.2.2.2.2.2.2.2.2.2.2.2.2.2.2.2.2.2.1, y12.2.2.2.2.2.2.2.2.2.2.2.2.2.2.2.2.2.2.2.2.2.2.2.2.2.2.2.2.1, y12.2.2.2.2.2.2.2.2.2.2.2.2.2.2.2.2.2.2.2.2.2.2.2.2.2.2.2.2.2.1, ())).bind fun st => match st with
      | .again _ => none
      | .brk y15 =>
      some (zc.mk y15.2.2.2.2.2.2.2.2.2.2.1 y15.2.2.2.2.2.2.2.2.2.2.2.1 y15.2.2.2.2.2.2.2.2.2.2.2.2.1 y15.2.2.2.2.2.2.2.2.2.2.2.2.2.1 y15.2.2.2.2.2.2.2.2.2.2.2.2.2.2.1 y15.2.2.2.2.2.2.2.2.2.2.2.2.2.2.2.1 y15.2.2.2.2.2.2.2.2.2.2.2.2.2.2.2.2.1 y15.2.2.2.2.2.2.2.2.2.2.2.2.2.2.2.2.2.1 (zo.mk y15.2.2.2.2.2.2.2.2.2.2.2.2.2.2.2.2.2.2.1 y15.2.2.2.2.2.2.2.2.2.2.2.2.2.2.2.2.2.2.2.2.2.2.2.2.1) y15.2.2.2.2.2.2.2.2.2.2.2.2.2.2.2.2.2.2.2.1 y15.2.2.2.2.2.2.2.2.2.2.2.2.2.2.2.2.2.2.2.2.2.2.2.2.2.1 y15.2.2.2.2.2.2.2.2.2.2.2.2.2.2.2.2.2.2.2.2.2.2.2.2.2.2.1 y15.2.2.2.2.2.2.2.2.2.2.2.2.2.2.2.2.2.2.2.2.2.2.2.2.2.2.2.1, ())
      | .ret y15 =>
      none
   | .ret y12 =>
   none := zr (by kernel_rfl)
theorem zkq (a1 : za) (a2 : BitVec 8) : zah a1 a2 =
 bif decide (((a1.Ms.length : Int)) = 0) then
  none
 else
  (W3 a1 (w64 (1 + (((a2.toNat : Int)).tmod ((a1.Ms.length : Int)))))).bind fun y1 =>
  some (y1.1, w64 (1 + (((a2.toNat : Int)).tmod ((a1.Ms.length : Int)))), ()) := zr (by kernel_rfl)
theorem zjd (s1 : BitVec 64) (s2 : List Int) (s3 : Int) : Uf (s1, s2, s3, ()) =
 bif decide (s3 < 64) then
  (zdj s2 64 s3).bind fun n1 =>
  (s2[n1]?).bind fun x2 =>
  bif decide (0 < x2) then
   (XV s1 (w64 (s3 + 1))).bind fun y3 =>
   some (.again (y3.1, s2, w64 (s3 + 1), ()))
  else
   some (.again (s1, s2, w64 (s3 + 1), ()))
 else
  some (.brk (s1, ())) := by kernel_rfl
theorem zls (a1 : List Int) : zbd a1 =
 bif decide (a1.length = 64) then
  (yz Uf (0#64, a1, 0, ())).bind fun st => match st with
    | .again _ => none
    | .brk y1 =>
    some (y1.1, ())
    | .ret y1 =>
    none
 else
  none := zr (by kernel_rfl)
theorem znb (a1 : Int) : zjM a1 =
 some (true, ()) := zr (by kernel_rfl)
theorem Yu (s1 : BitVec 64) (s2 : Int) (s3 : Int) (s4 : zo) (s5 : List Int) (s6 : List Int) (s7 : List Int) : uT (s1, s2, s3, s4, s5, s6, s7, ()) =
 bif decide (s3 < s2) then
  (xS s7 s3).bind fun n1 =>
  (s7[n1]?).bind fun x2 =>
  (zdj s6 64 (w64 (x2 - 1))).bind fun n3 =>
  some (.again (s1, s2, w64 (s3 + 1), s4, s5, s6.set n3 1, s7, ()))
 else
  some (.brk (s1, s4, s5, s6, s7, ())) := by kernel_rfl
theorem ud (s1 : BitVec 64) (s2 : zo) (s3 : List Int) (s4 : List Int) (s5 : List Int) : uU (s1, s2, s3, s4, s5, ()) =
 bif decide (0 < ((s5.length : Int))) then
  (xS s5 0).bind fun n1 =>
  (s5[n1]?).bind fun x2 =>
  (zjM x2).bind fun y3 =>
  bif !y3.1 then
   (cut s5 1 ((s5.length : Int))).bind fun l4 =>
   some (.again (s1, s2, s3, s4, l4, ()))
  else
   (idx s2.Objs (w64 (x2 - 1))).bind fun x5 =>
   (yz wW (s1, x2, x5, (x5.length : Int), 0, s2, s3, s4, s5, ())).bind fun st => match st with
     | .again _ => none
     | .brk y6 =>
     (cut y6.2.2.2.2.1 1 ((y6.2.2.2.2.1.length : Int))).bind fun l7 =>
     some (.again (y6.1, y6.2.1, y6.2.2.1, y6.2.2.2.1, l7, ()))
     | .ret y6 =>
     some (.ret (()))
 else
  some (.brk (s3, s4, ())) := by kernel_rfl
theorem Ya (s1 : BitVec 64) (s2 : Int) (s3 : List Int) (s4 : Int) (s5 : Int) (s6 : zo) (s7 : List Int) (s8 : List Int) (s9 : List Int) : wW (s1, s2, s3, s4, s5, s6, s7, s8, s9, ()) =
 bif decide (s5 < s4) then
  (idx s3 s5).bind fun x1 =>
  (zbj s1 x1).bind fun y2 =>
  bif y2.1 then
   (zdj s8 64 (w64 (x1 - 1))).bind fun n3 =>
   (s8[n3]?).bind fun x4 =>
   bif decide (x4 = 0) then
    (zdj s8 64 (w64 (s2 - 1))).bind fun n5 =>
    (s8[n5]?).bind fun x6 =>
    (zdj s8 64 (w64 (x1 - 1))).bind fun n7 =>
    (wD (s9 ++ ([x1] : List Int))).bind fun l8 =>
    some (.again (s1, s2, s3, s4, w64 (s5 + 1), s6, s7, s8.set n7 (w64 (x6 + 1)), l8, ()))
   else
    some (.again (s1, s2, s3, s4, w64 (s5 + 1), s6, s7, s8, s9, ()))
  else
   some (.again (s1, s2, s3, s4, w64 (s5 + 1), s6, s7, s8, s9, ()))
 else
  some (.brk (s1, s6, s7, s8, s9, ())) := by kernel_rfl
theorem zbK (a1 : zo) (a2 : BitVec 64) : ZI a1 a2 =
 (zd2 ((a1.Objs.length : Int))).bind fun y1 =>
 (zbT (a2 &&& y1.1)).bind fun y2 =>
 (yz uT (y1.1, (y2.1.length : Int), 0, a1, List.replicate 64 ((0 : Int)), List.replicate 64 ((0 : Int)), y2.1, ())).bind fun st => match st with
   | .again _ => none
   | .brk y3 =>
   (yz uU (y3.1, y3.2.1, y3.2.2.1, y3.2.2.2.1, y3.2.2.2.2.1, ())).bind fun st => match st with
     | .again _ => none
     | .brk y4 =>
     bif decide (y4.2.1.length = 64) then
      bif decide (y4.1.length = 64) then
       bif decide (y4.2.1.length = 64) then
        some (y4.2.1, ())
       else
        none
      else
       none
     else
      none
     | .ret y4 =>
     none
   | .ret y3 =>
   none := zr (by kernel_rfl)
end Go.Pe.G
namespace Go.Pe.G
open Go.Pe
theorem zoK (a1 : zo) (a2 : BitVec 64) : Vb a1 a2 =
 (ZI a1 a2).bind fun y1 =>
 (zbd y1.1).bind fun y2 =>
 some (y2.1, ()) := zr (by kernel_rfl)
theorem zqu (a1 : zc) : zi2 a1 =
 (zcx a1).bind fun y1 =>
 (Vb a1.H y1.1).bind fun y2 =>
 some (y2.1, ()) := zr (by kernel_rfl)
theorem zoZ (a1 : zt) : zlO a1 =
 some (a1.Marks &&& ~~~a1.Black, ()) := zr (by kernel_rfl)
theorem ztR (a1 : zA) (a2 : Int) (a3 : Int) (a4 : Int) : zrn a1 a2 a3 a4 =
 bif decide (a1.Out = 0) then
  bif decide (a2 ≤ a1.PC) then
   bif decide (a1.PC ≤ a3) then
    some (a4, ())
   else
    some (0, ())
  else
   some (0, ())
 else
  some (0, ()) := zr (by kernel_rfl)
theorem zqy (a1 : zA) : zd7 a1 =
 (zrn a1 0 1 a1.Obj).bind fun y1 =>
 some (y1.1, ()) := zr (by kernel_rfl)
theorem zeW (s1 : BitVec 64) (s2 : Int) (s3 : za) : XE (s1, s2, s3, ()) =
 bif decide (s2 < ((s3.Ms.length : Int))) then
  (idx s3.Ms s2).bind fun x1 =>
  (zgR x1.Buf).bind fun y2 =>
  (zgR ([x1.Old] : List Int)).bind fun y3 =>
  bif decide (x1.PC = 3) then
   (zd7 x1.G).bind fun y4 =>
   (XV ((s1 ||| y2.1) ||| y3.1) y4.1).bind fun y5 =>
   some (.again (y5.1, w64 (s2 + 1), s3, ()))
  else
   bif decide (x1.PC = 37) then
    (zd7 x1.G).bind fun y6 =>
    (XV ((s1 ||| y2.1) ||| y3.1) y6.1).bind fun y7 =>
    some (.again (y7.1, w64 (s2 + 1), s3, ()))
   else
    some (.again ((s1 ||| y2.1) ||| y3.1, w64 (s2 + 1), s3, ()))
 else
  some (.brk (s1, ())) := by kernel_rfl
theorem zib (a1 : za) : Vq a1 =
 (yz XE (0#64, 0, a1, ())).bind fun st => match st with
   | .again _ => none
   | .brk y1 =>
   some (y1.1, ())
   | .ret y1 =>
   none := zr (by kernel_rfl)
theorem zaj (s1 : List (BitVec 8)) (s2 : Bool) (s3 : BitVec 64) (s4 : Int) (s5 : za) : uR (s1, s2, s3, s4, s5, ()) =
 bif decide (s4 < ((s1.length : Int))) then
  bif decide (s4 < 250) then
   bif decide (0 < ((s5.Ms.length : Int))) then
    (idx s1 s4).bind fun x1 =>
    (zah s5 x1).bind fun y2 =>
    (zlO y2.1.T).bind fun y3 =>
    (Vq y2.1).bind fun y4 =>
    (Vb y2.1.H (y3.1 ||| y4.1)).bind fun y5 =>
    (ziI s3 (y2.1.T.Marks ||| y5.1)).bind fun y6 =>
    bif !y6.1 then
     some (.ret (false, ()))
    else
     some (.again (s1, s2, s3, w64 (s4 + 1), y2.1, ()))
   else
    some (.brk (s2, ()))
  else
   some (.brk (s2, ()))
 else
  some (.brk (s2, ())) := by kernel_rfl
theorem zbJ (a1 : List (BitVec 8)) (a2 : List (BitVec 8)) : wK a1 a2 =
 (WM).bind fun y1 =>
 bif !y1.1 then
  some (false, ())
 else
  (zai a1).bind fun y2 =>
  (zaM y2.1).bind fun y3 =>
  (zi2 y2.1).bind fun y4 =>
  (yz uR (a2, y1.1, y4.1, 0, y3.1, ())).bind fun st => match st with
    | .again _ => none
    | .brk y5 =>
    some (y5.1, ())
    | .ret y5 =>
    some (y5.1, ()) := zr (by kernel_rfl)
end Go.Pe.G

namespace Go.Pe.G
open Go.Pe
theorem zAG : Go.Proofs.Tryz.prog.funcs[91]? = some Go.Proofs.Tryz.f91 := by kernel_rfl
theorem zzE : Go.Proofs.Tryz.f91.body.isSome = true := by kernel_rfl
theorem zz1 : Zd Go.Proofs.Tryz.prog 91 = true := by kernel_rfl
theorem zAD : Go.Proofs.Tryz.prog.funcs[134]? = some Go.Proofs.Tryz.f134 := by kernel_rfl
theorem zy0 : Go.Proofs.Tryz.f134.body.isSome = true := by kernel_rfl
theorem zzu : Zd Go.Proofs.Tryz.prog 134 = true := by kernel_rfl
theorem zl5 (ys : List Int) (s1 : Int) (s2 : Int) (s3 : BitVec 64) : Uv ys (s1, s2, s3, ()) =
 bif !(decide (s3 = 0#64)) then
  (qTZ s3).bind fun y1 =>
  (zav ys s2 (w64 (y1.1 + 1))).bind fun _ =>
  some (.again (s1, s2 + 1, s3 &&& (s3 - 1#64), ()))
 else
  some (.brk (s1, s2, ())) := by kernel_rfl
theorem zpF (n : Int) (ys : List Int) (a1 : BitVec 64) : zqc (U3 ys) Go.Proofs.Tryz.f134 zjx n ((a1, ()) : (BitVec 64) × Unit) =
 (yz (Uv ys) (n, 0, a1, ())).bind fun st => match st with
   | .again _ => none
   | .brk y1 =>
   some y1.2.1
   | .ret y1 =>
   some y1.2.1 := by kernel_rfl
theorem Xk (ys : List (List Int)) (s1 : Int) (s2 : Int) (s3 : Int) (s4 : List Int) (s5 : Int) : vE ys (s1, s2, s3, s4, s5, ()) =
 bif decide (s3 < ((s4.length : Int))) then
  (cut s4 s3 ((s4.length : Int))).bind fun l1 =>
  bif decide (s3 = 0) && decide ((w64 (s3 + (bif decide (((l1.length : Int)) < s5) then ((l1.length : Int)) else s5))) = 0) && decide ((w64 (s3 + (bif decide (((l1.length : Int)) < s5) then ((l1.length : Int)) else s5))) = 0) then
   (zav ys s2 ([] : List Int)).bind fun _ =>
   some (.again (s1, s2 + 1, w64 (s3 + s5), s4, s5, ()))
  else
   bif decide (s3 = 0) && decide ((w64 (s3 + (bif decide (((l1.length : Int)) < s5) then ((l1.length : Int)) else s5))) = ((s4.length : Int))) && decide ((w64 (s3 + (bif decide (((l1.length : Int)) < s5) then ((l1.length : Int)) else s5))) = ((s4.length : Int))) then
    (zav ys s2 s4).bind fun _ =>
    some (.again (s1, s2 + 1, w64 (s3 + s5), s4, s5, ()))
   else
    bif decide ((w64 (s3 + (bif decide (((l1.length : Int)) < s5) then ((l1.length : Int)) else s5))) = (w64 (s3 + (bif decide (((l1.length : Int)) < s5) then ((l1.length : Int)) else s5)))) then
     (cut s4 s3 (w64 (s3 + (bif decide (((l1.length : Int)) < s5) then ((l1.length : Int)) else s5)))).bind fun l2 =>
     (zav ys s2 l2).bind fun _ =>
     some (.again (s1, s2 + 1, w64 (s3 + s5), s4, s5, ()))
    else
     none
 else
  some (.brk (s1, s2, ())) := by kernel_rfl
theorem zcB (n : Int) (ys : List (List Int)) (a1 : List Int) (a2 : Int) : zqc (vY ys) Go.Proofs.Tryz.f91 WL n ((a1, a2, ()) : (List Int) × Int × Unit) =
 (yz (vE ys) (n, 0, 0, a1, a2, ())).bind fun st => match st with
   | .again _ => none
   | .brk y1 =>
   some y1.2.1
   | .ret y1 =>
   some y1.2.1 := by kernel_rfl
end Go.Pe.G
namespace Go.Pe.G
open Go.Pe
theorem zmf {A B D : Type} (g : A → Option (xg A B D)) {o : xg Unit B D} : ∀ (k m : Nat) (x : A), wg g k x = some o → k ≤ m → wg g m x = some o
  | 0, m, x, h, _ => by cases h
  | k + 1, 0, x, h, hm => by omega
  | k + 1, m + 1, x, h, hm => by
    simp only [wg, Option.bind_eq_some_iff] at h ⊢
    obtain ⟨s, h1, h2⟩ := h
    refine ⟨s, h1, ?_⟩
    cases s with
    | again y => exact zmf g k m y h2 (by omega)
    | brk b => exact h2
    | ret c => exact h2
theorem zro {α : Type} (pre post : List α) (z : α) : zav (pre ++ z :: post) (pre.length : Int) z = some () := by
  unfold zav
  rw [if_pos]
  refine ⟨by omega, ?_⟩
  simp
theorem zfw (n : Int) (ys : List Int) : ∀ (f : Nat) (s : BitVec 64) (l pre : List Int), WV f s = some l → ys = pre ++ l → wg (Uv ys) f (n, (pre.length : Int), s, ()) = some (.brk (n, (ys.length : Int), ()))
  | 0, s, l, pre, h, _ => by cases h
  | f + 1, s, l, pre, h, e => by
    simp only [WV] at h
    simp only [wg, zl5]
    cases hz : decide (s = 0#64) with
    | true =>
      simp only [hz, cond_true, Option.some.injEq] at h
      subst h
      simp only [List.append_nil] at e
      subst e
      rfl
    | false =>
      simp only [hz, cond_false, Option.map_eq_some_iff] at h
      obtain ⟨l', h1, rfl⟩ := h
      have hn : zav ys (pre.length : Int) (w64 (tz s + 1)) = some () := by rw [e]; exact zro pre l' _
      simp only [Bool.not_false, cond_true, zz4, Option.bind_some, hn]
      have := zfw n ys f (s &&& (s - 1#64)) l' (pre ++ [w64 (tz s + 1)]) h1 (by rw [e]; simp)
      simpa using this
theorem zn3 (G : Nat → Prop) (W0 : World) (hG : zqY G W0) : Yv Go.Proofs.Tryz.prog G W0 134 UJ := by
  obtain ⟨c, hc⟩ := Option.isSome_iff_exists.1 zy0
  refine zpp (Cg := U3 []) rfl ztZ (fun f s hs => Oks.at (.cons _ _ _ _ zy3 (zwY hG) (.skip _ _ .nil)) f s hs) rfl zv3 (fun g it h => by cases h) zzu zAD hc UJ (Nat.le_of_ble_eq_true (by kernel_rfl)) rfl ?_
  rintro n ⟨a, ⟨⟩⟩ ys h
  have h : WV 66 a = some ys := h
  have e := zpF n ys a
  have k := zmf _ 66 Ze _ (zfw n ys 66 a ys [] h rfl) (by decide)
  refine Eq.trans e ?_
  have k' : wg (Uv ys) Ze (n, 0, a, ()) = some (.brk (n, (ys.length : Int), ())) := k
  rw [VG, k']
  rfl
theorem zws {a : Int} (h : -9223372036854775808 ≤ a) (h2 : a < 9223372036854775808) : w64 a = a := by
  rw [zmX]
  omega
theorem zbC (n : Int) (ys : List (List Int)) (l : List Int) (sz : Nat) (h1 : 1 ≤ sz) (h2 : sz < 1000000) (h3 : l.length < 1000000) : ∀ (f p : Nat) (pre : List (List Int)), (l.drop p).length ≤ f → ys = pre ++ ur sz f (l.drop p) → p < 2000000 →
    wg (vE ys) (f + 1) (n, (pre.length : Int), (p : Int), l, (sz : Int), ()) = some (.brk (n, (ys.length : Int), ())) := by
  intro f
  induction f with
  | zero =>
    intro p pre hf e hp
    simp only [wg, Xk]
    simp only [List.length_drop] at hf
    have : ¬ (p : Int) < (l.length : Int) := by omega
    simp only [this, decide_false, cond_false, Option.bind_some]
    simp only [ur, List.append_nil] at e
    rw [e]
  | succ f ih =>
    intro p pre hf e hp
    rw [wg, Xk]
    by_cases hlt : p < l.length
    · have hlt' : (p : Int) < (l.length : Int) := by omega
      have hcut : cut l (p : Int) (l.length : Int) = some (l.drop p) := by
        unfold cut
        have : (decide (0 ≤ (p : Int)) && decide ((p : Int) ≤ (l.length : Int)) && decide ((l.length : Int) ≤ (l.length : Int))) = true := by simp; omega
        simp only [this, cond_true]
        simp
      obtain ⟨x, r, hxr⟩ : ∃ x r, l.drop p = x :: r := by
        cases hd : l.drop p with
        | nil => have := congrArg List.length hd; simp at this; omega
        | cons x r => exact ⟨x, r, rfl⟩
      have hch : ur sz (f + 1) (l.drop p) = (l.drop p).take sz :: ur sz f (l.drop (p + sz)) := by
        rw [hxr]; simp only [ur]; rw [← hxr, List.drop_drop]
      have hm : ∃ m : Nat, (bif decide (((l.drop p).length : Int) < (sz : Int)) then (((l.drop p).length : Int)) else (sz : Int)) = (m : Int) ∧ m = min sz (l.length - p) := by
        simp only [List.length_drop]
        by_cases hs : ((l.length - p : Nat) : Int) < (sz : Int)
        · exact ⟨l.length - p, by simp only [hs, decide_true, cond_true], by omega⟩
        · exact ⟨sz, by simp only [hs, decide_false, cond_false], by omega⟩
      obtain ⟨m, hm1, hm2⟩ := hm
      have hw : w64 ((p : Int) + (m : Int)) = ((p + m : Nat) : Int) := by rw [zws (by omega) (by omega)]; omega
      have hw2 : w64 ((p : Int) + (sz : Int)) = ((p + sz : Nat) : Int) := by rw [zws (by omega) (by omega)]; omega
      have hne : ¬ ((p + m : Nat) : Int) = 0 := by omega
      simp only [hlt', decide_true, cond_true, hcut, Option.bind_some, hm1, hw, hw2, hne, decide_false, Bool.and_false, cond_false]
      have hn : zav ys (pre.length : Int) ((l.drop p).take sz) = some () := by rw [e, hch]; exact zro pre _ _
      have hcut2 : cut l (p : Int) ((p + m : Nat) : Int) = some ((l.drop p).take sz) := by
        unfold cut
        have : (decide (0 ≤ (p : Int)) && decide ((p : Int) ≤ ((p + m : Nat) : Int)) && decide (((p + m : Nat) : Int) ≤ (l.length : Int))) = true := by simp; omega
        simp only [this, cond_true]
        refine congrArg some ?_
        simp only [Int.toNat_natCast]
        rw [List.drop_take, Nat.add_sub_cancel_left, hm2]
        by_cases hs : sz ≤ l.length - p
        · rw [Nat.min_eq_left hs]
        · rw [Nat.min_eq_right (by omega), List.take_of_length_le (l := l.drop p) (by simp), List.take_of_length_le (l := l.drop p) (by simp; omega)]
      have hnext := ih (p + sz) (pre ++ [(l.drop p).take sz]) (by simp only [List.length_drop] at hf ⊢; omega) (by rw [e, hch]; simp) (by omega)
      have hlen : ((pre ++ [(l.drop p).take sz]).length : Int) = (pre.length : Int) + 1 := by simp
      rw [hlen] at hnext
      cases hfull : (decide ((p : Int) = 0) && decide (((p + m : Nat) : Int) = (l.length : Int)) && decide (((p + m : Nat) : Int) = (l.length : Int))) with
      | true =>
        simp only [cond_true]
        have hl : l = (l.drop p).take sz := ?_
        · rw [← hl] at hn
          rw [hn]
          exact hnext
        simp only [Bool.and_eq_true, decide_eq_true_eq] at hfull
        obtain ⟨⟨hp0, hpl⟩, _⟩ := hfull
        have hp00 : p = 0 := by omega
        rw [hp00, List.drop_zero, List.take_of_length_le (by omega)]
      | false =>
        simp only [cond_false, hcut2, Option.bind_some, decide_true, cond_true]
        rw [hn]
        exact hnext
    · have hnl : ¬ (p : Int) < (l.length : Int) := by omega
      have hd : l.drop p = [] := List.drop_eq_nil_of_le (by omega)
      simp only [hnl, decide_false, cond_false, Option.bind_some]
      rw [hd] at e
      simp only [ur, List.append_nil] at e
      rw [e]
theorem zbM (n : Int) (ys : List (List Int)) (l : List Int) (sz : Int) (h : zhu l sz = some ys) : wg (vE ys) Ze (n, 0, 0, l, sz, ()) = some (.brk (n, (ys.length : Int), ())) := by
  unfold zhu at h
  cases hc : (decide (1 ≤ sz) && decide (sz < 1000000) && decide ((l.length : Int) < 1000000)) with
  | false => simp [hc] at h
  | true =>
    simp only [hc, cond_true] at h
    injection h with h
    simp only [Bool.and_eq_true, decide_eq_true_eq] at hc
    obtain ⟨⟨c1, c2⟩, c3⟩ := hc
    have k := zmf _ (l.length + 1) Ze _ (zbC n ys l sz.toNat (by omega) (by omega) (by omega) l.length 0 [] (by simp) (by simpa using h.symm) (by omega)) (by unfold Ze; omega)
    have hs : ((sz.toNat : Nat) : Int) = sz := by omega
    rw [hs] at k
    exact k
theorem zbQ (G : Nat → Prop) (W0 : World) (hG : zqY G W0) : Yv Go.Proofs.Tryz.prog G W0 91 vd := by
  obtain ⟨c, hc⟩ := Option.isSome_iff_exists.1 zzE
  refine zpp (Cg := vY []) rfl ztZ (fun f s hs => Oks.at .nil f s hs) rfl zv3 (fun g it h => by cases h) zz1 zAG hc vd (Nat.le_of_ble_eq_true (by kernel_rfl)) rfl (fun n x ys h => ?_)
  refine Eq.trans (zcB n ys x.1 x.2.1) ?_
  rw [VG, zbM n ys x.1 x.2.1 h]
  rfl
end Go.Pe.G
namespace Go.Pe.G
open Go.Pe
theorem k2 {G : Nat → Prop} {W0 : World} {f : Nat} {s : zu E} {ss r} (hs : X3 Go.Proofs.Tryz.prog G W0 f s) (h : Oks Go.Proofs.Tryz.prog G W0 ((f, ss) :: r)) (hc : Zd Go.Proofs.Tryz.prog f = true := by kernel_rfl) : Oks Go.Proofs.Tryz.prog G W0 ((f, s :: ss) :: r) := .cons _ _ _ _ hc hs h
theorem k1 {G : Nat → Prop} {W0 : World} {f : Nat} {s : zu E} {r} (hs : X3 Go.Proofs.Tryz.prog G W0 f s) (h : Oks Go.Proofs.Tryz.prog G W0 r) (hc : Zd Go.Proofs.Tryz.prog f = true := by kernel_rfl) : Oks Go.Proofs.Tryz.prog G W0 ((f, [s]) :: r) := .cons _ _ _ _ hc hs (.skip _ _ h)
abbrev Sd (G : Nat → Prop) (W0 : World) := X3 (E := E) Go.Proofs.Tryz.prog G W0
theorem gs {G : Nat → Prop} {W0 : World} {l : List (Nat × List (zu E))} {loops mv kept pk its} {f : FuncId} {fn : Func} {inn out : xB} {gi go : List Grp} {hi : uO E gi = inn.holes} {ho : uO E go = out.holes} (h : Oks Go.Proofs.Tryz.prog G W0 l) (h2 : Its Go.Proofs.Tryz.prog G W0 its) (hf : Go.Proofs.Tryz.prog.funcs[f]? = some fn := by kernel_rfl) (hb : fn.body.isSome = true := by kernel_rfl)
    (hk : (cf l loops mv kept pk its).kept = zfZ inn.blks 0 := by kernel_rfl) (hn : Nat.ble inn.vals.length fn.ntmps = true := by kernel_rfl) : X3 Go.Proofs.Tryz.prog G W0 f (sp (cf l loops mv kept pk its) fn inn out gi go hi ho) := zwJ (C := cf l loops mv kept pk its) ztZ (zv0 h) rfl (zxF h2) zv3 hf hb hk hn
variable {G : Nat → Prop} {W0 : World} (hG : zqY G W0)
include hG
theorem zjh : Sd G W0 62 za0 := gs .nil .nil
theorem Yr : Sd G W0 114 wq := gs (k1 (zjh hG) .nil) .nil
theorem ZU : Sd G W0 61 xP := gs (k1 (Yr hG) .nil) .nil
theorem zkN : Sd G W0 60 zdf := gs (k1 (ZU hG) .nil) .nil
theorem Yt : Sd G W0 115 wo := gs (k1 (zkN hG) .nil) .nil
theorem Z0 : Sd G W0 63 xO := gs (k1 (Yt hG) .nil) .nil
theorem UA : Sd G W0 19 Uy := gs (k1 (Z0 hG) .nil) .nil
theorem zfq : Sd G W0 25 zdK := gs .nil .nil
theorem zfr : Sd G W0 27 zd5 := gs .nil .nil
theorem V3 : Sd G W0 86 VR := gs .nil .nil
theorem zkb : Sd G W0 87 zc5 := gs (k1 (V3 hG) .nil) .nil
theorem YT : Sd G W0 114 wE := gs (k1 (zkb hG) .nil) .nil
theorem Yg : Sd G W0 61 xZ := gs (k1 (YT hG) .nil) .nil
theorem zh3 : Sd G W0 85 zan := gs (k1 (V3 hG) .nil) .nil
theorem zkM : Sd G W0 156 zdB := gs .nil .nil
theorem zlV : Sd G W0 130 zgJ := gs (k1 (zkM hG) .nil) .nil
theorem zlo : Sd G W0 129 zeP := gs (k1 (zlV hG) .nil) .nil
theorem ZH : Sd G W0 155 xz := gs (k1 (zlo hG) .nil) .nil
theorem Zs : Sd G W0 128 xj := gs (k1 (ZH hG) .nil) .nil
theorem zng : Sd G W0 88 zjm := gs (k1 (Zs hG) .nil) .nil
theorem zlX : Sd G W0 133 zgV := gs .nil .nil
theorem zko : Sd G W0 132 zdC := gs (k1 (zlX hG) .nil) .nil
theorem u4 : Sd G W0 157 xh := gs (k1 (zko hG) .nil) .nil
theorem uz : Sd G W0 131 yX := gs (k1 (u4 hG) .nil) .nil
theorem zlU : Sd G W0 89 zhz := gs (k1 (uz hG) .nil) .nil
theorem zmo : Sd G W0 37 zgF := gs (k1 (UA hG) (k1 (zfq hG) (k1 (zfr hG) (k1 (Yg hG) (k1 (zh3 hG) (k1 (V3 hG) (k1 (zng hG) (k1 (zlU hG) .nil)))))))) .nil
theorem ziA : Sd G W0 77 zig := gs .nil .nil
theorem Z3 : Sd G W0 35 Vh := gs (k1 (ziA hG) .nil) .nil
theorem zju : Sd G W0 81 zkO := gs (k1 (Z3 hG) .nil) .nil
theorem zep : Sd G W0 38 zb1 := gs (k1 (zju hG) .nil) .nil
theorem zgx : Sd G W0 90 UE := gs .nil .nil
theorem znf : Sd G W0 39 ziT := gs (k1 (zgx hG) .nil) .nil
theorem zmv : Sd G W0 40 zg7 := gs .nil .nil
theorem xw : Sd G W0 42 xp := gs .nil .nil
theorem Y1 : Sd G W0 41 wO := gs (k1 (xw hG) .nil) .nil
theorem zlt : Sd G W0 43 zeQ := gs .nil .nil
theorem zcO : Sd G W0 44 zaR := gs .nil .nil
theorem zcP : Sd G W0 45 zaX := gs .nil .nil
theorem znp : Sd G W0 46 zi5 := gs .nil .nil
theorem zcF : Sd G W0 47 XB := gs .nil .nil
theorem zn7 : Sd G W0 92 zkr := gs .nil .nil
theorem zpB : Yv Go.Proofs.Tryz.prog G W0 134 UJ := zn3 G W0 hG
theorem zhi : Sd G W0 48 zf6 := gs (k1 (zn7 hG) .nil) (.cons _ _ _ (zpB hG) (.nil))
theorem U2 : Sd G W0 71 Zy := gs .nil .nil
theorem zob : Sd G W0 158 zk1 := gs .nil .nil
theorem znM : Sd G W0 159 zk0 := gs .nil .nil
theorem zoj : Sd G W0 160 zkK := gs .nil .nil
theorem zn6 : Sd G W0 161 zkQ := gs .nil .nil
theorem YU : Sd G W0 136 UI := gs (k1 (U2 hG) (k1 (zob hG) (k1 (znM hG) (k1 (zoj hG) (k1 (zn6 hG) .nil))))) .nil
theorem zcL : Sd G W0 93 zaY := gs (k1 (YU hG) .nil) .nil
theorem zew : Sd G W0 94 zb8 := gs .nil .nil
theorem znw : Sd G W0 49 zjp := gs (k1 (zcL hG) (k1 (zew hG) .nil)) .nil
theorem XS : Sd G W0 50 Vd := gs .nil .nil
theorem Xn : Sd G W0 52 XJ := gs (k1 (XS hG) .nil) .nil
theorem X1 : Sd G W0 51 WK := gs (k1 (Xn hG) .nil) .nil
theorem zcI : Yv Go.Proofs.Tryz.prog G W0 91 vd := zbQ G W0 hG
theorem zfx : Sd G W0 11 zd0 := gs (k1 (zmo hG) (k1 (zep hG) (k1 (znf hG) (k1 (zmv hG) (k1 (Y1 hG) (k1 (xw hG) (k1 (zlt hG) (k1 (zcO hG) (k1 (zcP hG) (k1 (znp hG) (k1 (zcF hG) (k1 (zhi hG) (k1 (znw hG) (k1 (XS hG) (k1 (X1 hG) (k1 (Xn hG) .nil)))))))))))))))) (.cons _ _ _ (zcI hG) (.nil))
theorem zjn : Sd G W0 15 za1 := gs .nil .nil
theorem vf : Sd G W0 137 vH := gs .nil .nil
theorem uj : Sd G W0 142 vy := gs .nil .nil
theorem Ym : Sd G W0 138 Za := gs (k1 (xw hG) (k1 (uj hG) .nil)) .nil
theorem zde : Sd G W0 95 Wp := gs (k1 (vf hG) (k1 (Ym hG) .nil)) .nil
theorem zeG : Sd G W0 139 zbV := gs .nil .nil
theorem zc9 : Sd G W0 96 Wk := gs (k1 (zeG hG) .nil) .nil
theorem zeO : Sd G W0 97 VH := gs (k1 (xw hG) .nil) .nil
theorem zbG : Sd G W0 182 YM := gs .nil .nil
theorem zbP : Sd G W0 26 zeF := gs (k1 (ziA hG) .nil) .nil
theorem zej : Sd G W0 166 zb4 := gs (k1 (zbP hG) (k1 (Z3 hG) .nil)) .nil
theorem Ue : Sd G W0 170 VS := gs .nil .nil
theorem ue : Sd G W0 197 vC := gs (k1 (X1 hG) (k1 (Xn hG) (k1 (Ue hG) .nil))) .nil
theorem zc6 : Sd G W0 183 Wt := gs (k1 (zcO hG) (k1 (zcP hG) (k1 (zej hG) (k1 (ue hG) .nil)))) .nil
theorem zdt : Sd G W0 184 Wa := gs .nil .nil
theorem zkz : Sd G W0 200 zdk := gs .nil .nil
theorem zkH : Sd G W0 200 zcU := gs .nil .nil
theorem zku : Sd G W0 200 zdq := gs .nil .nil
theorem zkm : Sd G W0 200 zcX := gs .nil .nil
theorem vO : Sd G W0 215 Zj := gs (k1 (YU hG) .nil) .nil
theorem xK : Sd G W0 216 xG := gs .nil .nil
theorem zag : Sd G W0 201 ZL := gs (k1 (vO hG) (k1 (xK hG) .nil)) .nil
theorem uQ : Sd G W0 217 un := gs .nil .nil
theorem VQ : Sd G W0 218 YD := gs .nil .nil
theorem xL : Sd G W0 219 xH := gs .nil .nil
theorem zcA : Sd G W0 202 Xu := gs (k1 (vO hG) (k1 (uQ hG) (k1 (VQ hG) (k1 (xL hG) .nil)))) .nil
theorem ZF : Sd G W0 220 Yf := gs (k1 (YU hG) .nil) .nil
theorem Z1 : Sd G W0 221 uJ := gs (k1 (VQ hG) .nil) .nil
theorem zfD : Sd G W0 203 V7 := gs (k1 (ZF hG) (k1 (Z1 hG) .nil)) .nil
theorem zaZ : Sd G W0 204 Ye := gs (k1 (xK hG) (k1 (xL hG) (k1 (ZF hG) .nil))) .nil
theorem zes : Sd G W0 205 WF := gs (k1 (xK hG) (k1 (ZF hG) .nil)) .nil
theorem zcM : Sd G W0 222 zaS := gs .nil .nil
theorem zbD : Sd G W0 206 Yy := gs (k1 (vO hG) (k1 (uQ hG) (k1 (zcM hG) .nil))) .nil
theorem zcV : Sd G W0 207 X4 := gs (k1 (vO hG) (k1 (xL hG) (k1 (Z1 hG) .nil))) .nil
theorem VN : Sd G W0 223 YB := gs (k1 (YU hG) (k1 (uQ hG) .nil)) .nil
theorem zcJ : Sd G W0 208 XC := gs (k1 (VN hG) .nil) .nil
theorem zcG : Sd G W0 209 Xt := gs (k1 (xK hG) (k1 (xL hG) (k1 (ZF hG) .nil))) .nil
theorem zdu : Sd G W0 210 X9 := gs (k1 (xK hG) (k1 (xL hG) (k1 (ZF hG) .nil))) .nil
theorem zcT : Sd G W0 211 X5 := gs (k1 (vO hG) (k1 (uQ hG) .nil)) .nil
theorem zc7 : Sd G W0 212 Wj := gs (k1 (vO hG) (k1 (xK hG) (k1 (zcM hG) .nil))) .nil
theorem zcK : Sd G W0 213 Xy := gs (k1 (vO hG) (k1 (Z1 hG) .nil)) .nil
theorem zbL : Sd G W0 214 YL := gs (k1 (xL hG) (k1 (VN hG) .nil)) .nil
theorem zl9 : Sd G W0 198 zgq := gs (k2 (zkz hG) (k2 (zkH hG) (k2 (zku hG) (k2 (zkm hG) (.skip _ _ (k1 (zag hG) (k1 (zcA hG) (k1 (zfD hG) (k1 (zaZ hG) (k1 (zes hG) (k1 (zbD hG) (k1 (zcV hG) (k1 (zcJ hG) (k1 (zcG hG) (k1 (zdu hG) (k1 (zcT hG) (k1 (zc7 hG) (k1 (zcK hG) (k1 (zbL hG) .nil))))))))))))))))))) .nil
theorem zcY : Sd G W0 185 Wo := gs (k1 (ue hG) (k1 (zl9 hG) .nil)) .nil
theorem zdg : Sd G W0 186 Wb := gs (k1 (ue hG) .nil) .nil
theorem zee : Sd G W0 190 zcd := gs (k1 (YU hG) .nil) .nil
theorem XP : Sd G W0 191 W2 := gs .nil .nil
theorem zdF : Sd G W0 171 Wh := gs (k1 (zee hG) (k1 (XP hG) .nil)) .nil
theorem ze8 : Sd G W0 172 VE := gs (k1 (zcL hG) (k1 (XP hG) .nil)) .nil
theorem zcD : Sd G W0 173 Xw := gs (k1 (zew hG) (k1 (YU hG) (k1 (XP hG) .nil))) .nil
theorem zbB : Sd G W0 174 Yz := gs (k1 (zee hG) (k1 (XP hG) .nil)) .nil
theorem X2 : Sd G W0 148 WH := gs (k1 (zdF hG) (k1 (ze8 hG) (k1 (zcD hG) (k1 (zbB hG) .nil)))) .nil
theorem zc3 : Sd G W0 187 Wq := gs (k1 (X2 hG) (k1 (ue hG) .nil)) .nil
theorem uS : Sd G W0 54 vq := gs .nil .nil
theorem zdi : Sd G W0 188 Wi := gs (k1 (XS hG) (k1 (X1 hG) (k1 (uS hG) (k1 (Ue hG) .nil)))) .nil
theorem zbH : Sd G W0 189 YG := gs (k1 (X2 hG) .nil) .nil
theorem znq : Sd G W0 162 zjj := gs (k1 (zbG hG) (k1 (zc6 hG) (k1 (zdt hG) (k1 (zcY hG) (k1 (zdg hG) (k1 (zc3 hG) (k1 (zdi hG) (k1 (zbH hG) .nil)))))))) .nil
theorem Wx : Sd G W0 140 ZB := gs (k1 (znq hG) .nil) .nil
theorem zdD : Sd G W0 98 X7 := gs (k1 (Wx hG) .nil) .nil
theorem U5 : Sd G W0 53 WB := gs .nil .nil
theorem zhh : Sd G W0 12 zgk := gs (k1 (U5 hG) .nil) .nil
theorem UH : Sd G W0 141 XT := gs (k1 (zhh hG) (k1 (vf hG) .nil)) .nil
theorem zet : Sd G W0 99 W7 := gs (k1 (vf hG) (k1 (Ym hG) (k1 (UH hG) .nil))) .nil
theorem zeM : Sd G W0 100 VA := gs (k1 (vf hG) (k1 (UH hG) (k1 (uj hG) .nil))) .nil
theorem ziz : Sd G W0 21 ziw := gs (k1 (zbP hG) .nil) .nil
theorem zda : Sd G W0 101 Wc := gs (k1 (ziz hG) .nil) .nil
theorem zbE : Sd G W0 102 YP := gs (k1 (xw hG) .nil) .nil
theorem zou : Sd G W0 13 zkg := gs (k1 (xw hG) (k1 (U5 hG) (k1 (uS hG) .nil))) .nil
theorem zdx : Sd G W0 103 Wr := gs (k1 (zou hG) (k1 (vf hG) (k1 (uj hG) .nil))) .nil
theorem zcf : Sd G W0 55 Y3 := gs .nil .nil
theorem zl6 : Sd G W0 14 zgr := gs (k1 (UA hG) (k1 (zcf hG) .nil)) .nil
theorem ZV : Sd G W0 167 uA := gs .nil .nil
theorem W1 : Sd G W0 169 ZR := gs (k1 (ZV hG) .nil) .nil
theorem zeC : Sd G W0 163 zbZ := gs (k1 (W1 hG) .nil) .nil
theorem zjf : Sd G W0 165 za3 := gs .nil .nil
theorem Xx : Sd G W0 164 w5 := gs (k1 (zjf hG) .nil) .nil
theorem zk8 : Sd G W0 143 zdm := gs (k1 (zeC hG) (k1 (Xx hG) .nil)) .nil
theorem zfs : Sd G W0 150 zdI := gs (k1 (ziz hG) (k1 (Z3 hG) .nil)) .nil
theorem zlP : Sd G W0 144 zhy := gs (k1 (zfs hG) (k1 (zej hG) .nil)) .nil
theorem zdG : Sd G W0 104 We := gs (k1 (zl6 hG) (k1 (vf hG) (k1 (Ym hG) (k1 (uj hG) (k1 (zk8 hG) (k1 (zlP hG) .nil)))))) .nil
theorem zjP : Sd G W0 168 zca := gs .nil .nil
theorem XY : Sd G W0 164 vc := gs (k1 (zjP hG) .nil) .nil
theorem zlm : Sd G W0 145 ze3 := gs (k1 (XY hG) (k1 (ZV hG) .nil)) .nil
theorem zk5 : Sd G W0 146 zdl := gs (k1 (zeC hG) (k1 (W1 hG) .nil)) .nil
theorem Vi : Sd G W0 147 Z5 := gs (k1 (X1 hG) (k1 (Ue hG) .nil)) .nil
theorem zec : Sd G W0 105 WO := gs (k1 (XS hG) (k1 (zlm hG) (k1 (zk5 hG) (k1 (Vi hG) .nil)))) .nil
theorem zfp : Sd G W0 106 Vw := gs (k1 (X2 hG) .nil) .nil
theorem zcQ : Sd G W0 107 X8 := gs (k1 (Xn hG) (k1 (uS hG) (k1 (Vi hG) .nil))) .nil
theorem zeB : Sd G W0 108 W6 := gs (k1 (X2 hG) .nil) .nil
theorem zc2 : Sd G W0 109 Wn := gs .nil .nil
theorem zaP : Sd G W0 149 Vv := gs .nil .nil
theorem zeA : Sd G W0 110 WR := gs (k1 (zhh hG) (k1 (zeG hG) (k1 (zaP hG) .nil))) .nil
theorem zfc : Sd G W0 111 VD := gs (k1 (Wx hG) (k1 (zaP hG) .nil)) .nil
theorem zj1 : Sd G W0 175 zbW := gs .nil .nil
theorem XM : Sd G W0 164 vb := gs (k1 (zj1 hG) .nil) .nil
theorem zlx : Sd G W0 151 zfb := gs (k1 (XM hG) (k1 (ZV hG) .nil)) .nil
theorem zb7 : Sd G W0 112 Y0 := gs (k1 (zfs hG) (k1 (zlx hG) .nil)) .nil
theorem zbX : Sd G W0 113 YW := gs .nil .nil
theorem zeD : Sd G W0 56 Va := gs (k1 (zde hG) (k1 (zc9 hG) (k1 (zeO hG) (k1 (zdD hG) (k1 (zet hG) (k1 (zeM hG) (k1 (zda hG) (k1 (zbE hG) (k1 (zdx hG) (k1 (zdG hG) (k1 (zec hG) (k1 (zfp hG) (k1 (zcQ hG) (k1 (zeB hG) (k1 (zc2 hG) (k1 (zeA hG) (k1 (zfc hG) (k1 (zb7 hG) (k1 (zbX hG) .nil))))))))))))))))))) .nil
theorem YS : Sd G W0 57 wF := gs .nil .nil
theorem Vo : Sd G W0 16 W5 := gs (k1 (zeD hG) (k1 (YS hG) .nil)) .nil
theorem vG : Sd G W0 59 wV := gs .nil .nil
theorem yG : Sd G W0 58 zV := gs (k1 (vG hG) .nil) .nil
theorem zft : Sd G W0 17 zdO := gs (k1 (yG hG) .nil) .nil
theorem zf1 : Sd G W0 116 Ub := gs .nil .nil
theorem Uw : Sd G W0 118 uV := gs .nil .nil
theorem xU : Sd G W0 117 yb := gs (k1 (Uw hG) .nil) .nil
theorem Vf : Sd G W0 119 vX := gs .nil .nil
theorem zni : Sd G W0 64 ziM := gs (k1 (zft hG) (k1 (yG hG) (k1 (zf1 hG) (k1 (xU hG) (k1 (Vf hG) .nil))))) .nil
theorem UV : Sd G W0 120 Zx := gs .nil .nil
theorem zoA : Sd G W0 65 zkT := gs (k1 (UV hG) .nil) .nil
theorem zaN : Sd G W0 121 ZX := gs .nil .nil
theorem zly : Sd G W0 66 zfk := gs (k1 (zaN hG) .nil) .nil
theorem zfI : Sd G W0 68 Uc := gs (k1 (vG hG) .nil) .nil
theorem xE : Sd G W0 67 z3 := gs (k1 (zfI hG) .nil) .nil
theorem zcW : Sd G W0 122 Wg := gs .nil .nil
theorem zeN : Sd G W0 70 VK := gs (k1 (vG hG) (k1 (zcW hG) .nil)) .nil
theorem xm : Sd G W0 69 zT := gs (k1 (zeN hG) .nil) .nil
theorem zmi : Sd G W0 22 zhM := gs (k1 (zft hG) (k1 (yG hG) (k1 (vG hG) (k1 (zni hG) (k1 (zoA hG) (k1 (zly hG) (k1 (xE hG) (k1 (xm hG) .nil)))))))) .nil
theorem zgs : Sd G W0 31 Ux := gs .nil .nil
theorem zhw : Sd G W0 32 UO := gs (k1 (Vo hG) .nil) .nil
theorem zna : Sd G W0 33 zjr := gs (k1 (UA hG) (k1 (zue hG) (k1 (zur hG) .nil))) .nil
theorem zed : Sd G W0 9 W8 := gs (k1 (zfx hG) (k1 (zjn hG) (k1 (Vo hG) (k1 (zmi hG) (k1 (zgs hG) (k1 (zhw hG) (k1 (zna hG) .nil))))))) .nil
theorem Y8 : Sd G W0 34 uv := gs .nil .nil
theorem zb9 : Sd G W0 36 YX := gs (k1 (Y8 hG) .nil) .nil
theorem zh2 : Sd G W0 10 zaf := gs (k1 (Y8 hG) (k1 (Z3 hG) (k1 (zb9 hG) .nil))) .nil
theorem zhR : Sd G W0 18 zad := gs (k1 (Vo hG) .nil) .nil
theorem ziL : Sd G W0 78 za4 := gs (k1 (Z3 hG) .nil) .nil
theorem zks : Sd G W0 80 zdH := gs .nil .nil
theorem zak : Sd G W0 79 ZM := gs (k1 (zfq hG) (k1 (zbP hG) (k1 (zhi hG) (k1 (zks hG) .nil)))) .nil
theorem zex : Sd G W0 28 zco := gs (k1 (ziL hG) (k1 (zak hG) .nil)) .nil
theorem znd : Sd G W0 24 zje := gs (k1 (zex hG) (k1 (zep hG) .nil)) .nil
theorem zlC : Sd G W0 29 zhC := gs .nil .nil
theorem zpi : Sd G W0 123 zmy := gs .nil .nil
theorem znk : Sd G W0 82 zjb := gs (k1 (zpi hG) .nil) .nil
theorem zfg : Sd G W0 30 Vx := gs (k1 (Z3 hG) (k1 (zju hG) (k1 (znk hG) .nil))) .nil
theorem zaa : Sd G W0 8 ZN := gs (k1 (zed hG) (k1 (zh2 hG) (k1 (zfx hG) (k1 (zhR hG) (k1 (znd hG) (k1 (zfr hG) (k1 (zex hG) (k1 (zlC hG) (k1 (zfg hG) .nil))))))))) .nil
end Go.Pe.G
