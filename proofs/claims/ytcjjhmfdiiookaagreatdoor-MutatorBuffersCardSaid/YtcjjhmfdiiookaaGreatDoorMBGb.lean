/- Own work of this seat: G4e, EQ, G2i, GH, G3. -/
import Derived.Test.YtcjjhmfdiiookaaGreatDoorMBGa
set_option linter.unusedVariables false
set_option linter.unusedSectionVars false
set_option linter.unusedSimpArgs false
set_option linter.unnecessarySimpa false
set_option linter.deprecated false
set_option maxRecDepth 100000
namespace Go.Pe.G
open Go.Pe
theorem VC (s1 : Int) (s2 : Int) (s3 : Int) (s4 : zc) (s5 : Int) (s6 : Int) (s7 : Int) (s8 : Int) (s9 : Int) (s10 : Int) (s11 : Int) (s12 : Int) (s13 : Int) (s14 : BitVec 64) (s15 : Int) (s16 : zr) (s17 : Int) (s18 : Int) (s19 : Bool) (s20 : Bool) (s21 : Int) (s22 : Int) (s23 : Int) (s24 : Int) (s25 : zq) (s26 : List (List Int)) (s27 : List (List Int)) (s28 : List (List zg)) (s29 : List zi) (s30 : List (List Int)) (s31 : List (BitVec 64)) (s32 : List (List Int)) (s33 : List Int) (s34 : List Int) (s35 : List zj) (s36 : List zb) : vV (s1, s2, s3, s4, s5, s6, s7, s8, s9, s10, s11, s12, s13, s14, s15, s16, s17, s18, s19, s20, s21, s22, s23, s24, s25, s26, s27, s28, s29, s30, s31, s32, s33, s34, s35, s36, ()) =
 bif decide (s3 < s2) then
  (X2 s4 s1).bind fun y1 =>
  some (.again (s1, s2, w64 (s3 + 1), y1.1, s5, s6, s7, s8, s9, s10, s11, s12, s13, s14, s15, s16, s17, s18, s19, s20, s21, s22, s23, s24, s25, s26, s27, s28, s29, s30, s31, s32, s33, s34, s35, s36, ()))
 else
  some (.brk (s4, s5, s6, s7, s8, s9, s10, s11, s12, s13, s14, s15, s16, s17, s18, s19, s20, s21, s22, s23, s24, s25, s26, s27, s28, s29, s30, s31, s32, s33, s34, s35, s36, ())) := by kernel_rfl
theorem zh8 (a1 : zc) (a2 : Int) (a3 : Int) : yj a1 a2 a3 =
 (yD vV (a2, a3, 0, a1, 0, 0, 0, 0, 0, 0, 0, 0, 0, 0#64, 0, zr.mk 0#64 0#64, 0, 0, false, false, 0, 0, 0, 0, zq.mk 0 0, ([] : List (List Int)), ([] : List (List Int)), ([] : List (List zg)), ([] : List zi), ([] : List (List Int)), ([] : List (BitVec 64)), ([] : List (List Int)), ([] : List Int), ([] : List Int), ([] : List zj), ([] : List zb), ())).bind fun st => match st with
   | .again _ => none
   | .brk y1 =>
   some (y1.1, ())
   | .ret y1 =>
   none := zn (by kernel_rfl)
theorem zdO (s1 : ByteArray) (s2 : List (List Int)) (s3 : Int) (s4 : Int) : zch (s1, s2, s3, s4, ()) =
 bif decide (s4 < s3) then
  (idx s2 s4).bind fun x1 =>
  (yD zbJ (s1, s2, s3, s4, x1, (x1.length : Int), 0, ([] : List ByteArray), ())).bind fun st => match st with
    | .again _ => none
    | .brk y2 =>
    (ztj y2.2.2.2.2.1 (ByteArray.mk #[44])).bind fun y3 =>
    bif decide ((ByteArray.mk #[124]).size + y3.1.size < 4294967296) then
     bif decide (y2.1.size + ((ByteArray.mk #[124]) ++ y3.1).size < 4294967296) then
      some (.again (y2.1 ++ ((ByteArray.mk #[124]) ++ y3.1), y2.2.1, y2.2.2.1, w64 (y2.2.2.2.1 + 1), ()))
     else
      none
    else
     none
    | .ret y2 =>
    some (.ret (()))
 else
  some (.brk (s1, ())) := by kernel_rfl
theorem zdQ (s1 : ByteArray) (s2 : List (List Int)) (s3 : Int) (s4 : Int) (s5 : List Int) (s6 : Int) (s7 : Int) (s8 : List ByteArray) : zbJ (s1, s2, s3, s4, s5, s6, s7, s8, ()) =
 bif decide (s7 < s6) then
  (idx s5 s7).bind fun x1 =>
  (zp7 x1).bind fun y2 =>
  (wj (s8 ++ ([y2.1] : List ByteArray))).bind fun l3 =>
  some (.again (s1, s2, s3, s4, s5, s6, w64 (s7 + 1), l3, ()))
 else
  some (.brk (s1, s2, s3, s4, s8, ())) := by kernel_rfl
theorem zos (a1 : zu) : Uv a1 =
 (X5 a1).bind fun y1 =>
 bif !y1.1 then
  some (ByteArray.mk #[63], ())
 else
  (zp7 a1.Slots).bind fun y2 =>
  (yD zch (y2.1, a1.Objs, (a1.Objs.length : Int), 0, ())).bind fun st => match st with
    | .again _ => none
    | .brk y3 =>
    some (y3.1, ())
    | .ret y3 =>
    none := zn (by kernel_rfl)
theorem zfe  : Wg  =
 (Xc (([(([(zg.mk 1 1 0 0), (zg.mk 5 1 0 0), (zg.mk 2 1 0 0)] : List zg))] : List (List zg)))).bind fun y1 =>
 (Uw y1.1).bind fun y2 =>
 (yj y2.1 1 2).bind fun y3 =>
 (yj y2.1 1 7).bind fun y4 =>
 (yj y2.1 1 8).bind fun y5 =>
 (yj y2.1 1 99).bind fun y6 =>
 (Xc (([(([(zg.mk 3 1 0 0), (zg.mk 3 1 0 0)] : List zg))] : List (List zg)))).bind fun y7 =>
 (Uw y7.1).bind fun y8 =>
 (yj y8.1 1 2).bind fun y9 =>
 (yj y8.1 1 5).bind fun y10 =>
 (yj y8.1 1 60).bind fun y11 =>
 bif !(decide (((y2.1.Ms.length : Int)) = 1)) then
  some (false, ())
 else
  bif !(decide (((y3.1.Ms.length : Int)) = 1)) then
   some (false, ())
  else
   bif !(decide (((y4.1.Ms.length : Int)) = 1)) then
    some (false, ())
   else
    bif !(decide (((y5.1.Ms.length : Int)) = 1)) then
     some (false, ())
    else
     bif !(decide (((y6.1.Ms.length : Int)) = 1)) then
      some (false, ())
     else
      bif !(decide (((y9.1.Ms.length : Int)) = 1)) then
       some (false, ())
      else
       bif !(decide (((y10.1.Ms.length : Int)) = 1)) then
        some (false, ())
       else
        bif !(decide (((y11.1.Ms.length : Int)) = 1)) then
         some (false, ())
        else
         (idx y3.1.Ms 0).bind fun x12 =>
         (idx x12.Regs 1).bind fun x13 =>
         bif decide (x13 = 2) then
          (idx y3.1.Ms 0).bind fun x14 =>
          bif decide (x14.IP = 1) then
           (idx y4.1.Ms 0).bind fun x15 =>
           bif decide (x15.PC = 23) then
            (idx y4.1.Ms 0).bind fun x16 =>
            bif decide (((x16.Buf.length : Int)) = 1) then
             (idx y4.1.Ms 0).bind fun x17 =>
             (idx x17.Buf 0).bind fun x18 =>
             bif decide (x18 = 2) then
              (Uv y4.1.H).bind fun y19 =>
              bif decide (y19.1 = (ByteArray.mk #[49, 124, 50, 124, 48, 124, 48])) then
               (Uv y5.1.H).bind fun y20 =>
               bif decide (y20.1 = (ByteArray.mk #[49, 124, 48, 124, 48, 124, 48])) then
                (WF y6.1 1).bind fun y21 =>
                bif y21.1 then
                 (WF y4.1 1).bind fun y22 =>
                 bif !y22.1 then
                  (WF y6.1 2).bind fun y23 =>
                  bif !y23.1 then
                   (X2 y6.1 1).bind fun y24 =>
                   (zfz y6.1 y24.1).bind fun y25 =>
                   bif y25.1 then
                    (Uv y9.1.H).bind fun y26 =>
                    bif decide (y26.1 = (ByteArray.mk #[49, 124, 50, 124, 48, 124, 48, 124, 48])) then
                     (idx y9.1.Ms 0).bind fun x27 =>
                     (idx x27.Regs 1).bind fun x28 =>
                     bif decide (x28 = 4) then
                      bif (decide (y9.1.T.Marks = 9#64)) && (decide (y9.1.T.Black = 8#64)) then
                       (idx y9.1.L.Bal 0).bind fun x29 =>
                       bif decide (x29 = (-2)) then
                        bif decide (y9.1.L.Spent = 2) then
                         (idx y10.1.Ms 0).bind fun x30 =>
                         bif decide (x30.PC = 32) then
                          bif decide (y11.1.L.Scanned = 2) then
                           some (decide (y11.1.T.Black = 11#64), ())
                          else
                           some (false, ())
                         else
                          some (false, ())
                        else
                         some (false, ())
                       else
                        some (false, ())
                      else
                       some (false, ())
                     else
                      some (false, ())
                    else
                     some (false, ())
                   else
                    some (false, ())
                  else
                   some (false, ())
                 else
                  some (false, ())
                else
                 some (false, ())
               else
                some (false, ())
              else
               some (false, ())
             else
              some (false, ())
            else
             some (false, ())
           else
            some (false, ())
          else
           some (false, ())
         else
          some (false, ()) := zn (by kernel_rfl)
theorem zbo (a1 : zx) : zt a1 =
 bif decide (((a1.L.length : Int)) ≤ a1.At) then
  some (0, a1, ())
 else
  (idx a1.L (w64 ((w64 (a1.At + 1)) - 1))).bind fun x1 =>
  some ((x1.toNat : Int), { a1 with At := w64 (a1.At + 1) }, ()) := zn (by kernel_rfl)
theorem zcS (a1 : Int) (a2 : Int) (a3 : zx) : Yi a1 a2 a3 =
 (zt a3).bind fun y1 =>
 (xT ([1, 1, 2, 2, 2, 3, 4, 5] : List Int) (y1.1.tmod 8)).bind fun n2 =>
 (([1, 1, 2, 2, 2, 3, 4, 5] : List Int)[n2]?).bind fun x3 =>
 (zt y1.2.1).bind fun y4 =>
 bif decide (a1 = 0) then
  none
 else
  bif decide (x3 = 1) then
   (zt y4.2.1).bind fun y5 =>
   bif decide (a1 = 0) then
    none
   else
    bif decide (x3 < 3) then
     (zt y5.2.1).bind fun y6 =>
     bif decide (a2 = 0) then
      none
     else
      some (zg.mk x3 (y4.1.tmod a1) (y5.1.tmod a1) (y6.1.tmod a2), y6.2.1, ())
    else
     some (zg.mk x3 (y4.1.tmod a1) (y5.1.tmod a1) 0, y5.2.1, ())
  else
   bif decide (x3 = 2) then
    (zt y4.2.1).bind fun y7 =>
    bif decide (a1 = 0) then
     none
    else
     bif decide (x3 < 3) then
      (zt y7.2.1).bind fun y8 =>
      bif decide (a2 = 0) then
       none
      else
       some (zg.mk x3 (y4.1.tmod a1) (y7.1.tmod a1) (y8.1.tmod a2), y8.2.1, ())
     else
      some (zg.mk x3 (y4.1.tmod a1) (y7.1.tmod a1) 0, y7.2.1, ())
   else
    bif decide (x3 = 4) then
     (zt y4.2.1).bind fun y9 =>
     bif decide (a1 = 0) then
      none
     else
      bif decide (x3 < 3) then
       (zt y9.2.1).bind fun y10 =>
       bif decide (a2 = 0) then
        none
       else
        some (zg.mk x3 (y4.1.tmod a1) (y9.1.tmod a1) (y10.1.tmod a2), y10.2.1, ())
      else
       some (zg.mk x3 (y4.1.tmod a1) (y9.1.tmod a1) 0, y9.2.1, ())
    else
     bif decide (x3 < 3) then
      (zt y4.2.1).bind fun y11 =>
      bif decide (a2 = 0) then
       none
      else
       some (zg.mk x3 (y4.1.tmod a1) 0 (y11.1.tmod a2), y11.2.1, ())
     else
      some (zg.mk x3 (y4.1.tmod a1) 0 0, y4.2.1, ()) := zn (by kernel_rfl)
theorem zf3 (s1 : Int) (s2 : Int) (s3 : Int) (s4 : Int) (s5 : Int) (s6 : Int) (s7 : Int) (s8 : Int) (s9 : Int) (s10 : Int) (s11 : Int) (s12 : BitVec 64) (s13 : zx) (s14 : Int) (s15 : Int) (s16 : Int) (s17 : Int) (s18 : Int) (s19 : Int) (s20 : Int) (s21 : Int) (s22 : Int) (s23 : BitVec 64) (s24 : List (List Int)) (s25 : List (List Int)) (s26 : List (List zg)) (s27 : List zi) (s28 : List (List Int)) (s29 : List (List Int)) (s30 : List (List zg)) (s31 : List zi) : ZW (s1, s2, s3, s4, s5, s6, s7, s8, s9, s10, s11, s12, s13, s14, s15, s16, s17, s18, s19, s20, s21, s22, s23, s24, s25, s26, s27, s28, s29, s30, s31, ()) =
 bif decide (s2 < s1) then
  (yD Zv (s1, s2, 0, s3, s4, s5, s6, s7, s8, s9, s10, s11, s12, s13, s14, s15, s16, s17, s18, s19, s20, s21, s22, s23, ([] : List Int), s24, s25, s26, s27, s28, s29, s30, s31, ())).bind fun st => match st with
    | .again _ => none
    | .brk y1 =>
    (wj (y1.2.2.2.2.2.2.2.2.2.2.2.2.2.2.2.2.2.2.2.2.2.2.2.2.2.2.2.2.1 ++ (([y1.2.2.2.2.2.2.2.2.2.2.2.2.2.2.2.2.2.2.2.2.2.2.2.1] : List (List Int))))).bind fun l2 =>
    some (.again (y1.1, w64 (y1.2.1 + 1), y1.2.2.1, y1.2.2.2.1, y1.2.2.2.2.1, y1.2.2.2.2.2.1, y1.2.2.2.2.2.2.1, y1.2.2.2.2.2.2.2.1, y1.2.2.2.2.2.2.2.2.1, y1.2.2.2.2.2.2.2.2.2.1, y1.2.2.2.2.2.2.2.2.2.2.1, y1.2.2.2.2.2.2.2.2.2.2.2.1, y1.2.2.2.2.2.2.2.2.2.2.2.2.1, y1.2.2.2.2.2.2.2.2.2.2.2.2.2.1, y1.2.2.2.2.2.2.2.2.2.2.2.2.2.2.1, y1.2.2.2.2.2.2.2.2.2.2.2.2.2.2.2.1, y1.2.2.2.2.2.2.2.2.2.2.2.2.2.2.2.2.1, y1.2.2.2.2.2.2.2.2.2.2.2.2.2.2.2.2.2.1, y1.2.2.2.2.2.2.2.2.2.2.2.2.2.2.2.2.2.2.1, y1.2.2.2.2.2.2.2.2.2.2.2.2.2.2.2.2.2.2.2.1, y1.2.2.2.2.2.2.2.2.2.2.2.2.2.2.2.2.2.2.2.2.1, y1.2.2.2.2.2.2.2.2.2.2.2.2.2.2.2.2.2.2.2.2.2.1, y1.2.2.2.2.2.2.2.2.2.2.2.2.2.2.2.2.2.2.2.2.2.2.1, y1.2.2.2.2.2.2.2.2.2.2.2.2.2.2.2.2.2.2.2.2.2.2.2.2.1, y1.2.2.2.2.2.2.2.2.2.2.2.2.2.2.2.2.2.2.2.2.2.2.2.2.2.1, y1.2.2.2.2.2.2.2.2.2.2.2.2.2.2.2.2.2.2.2.2.2.2.2.2.2.2.1, y1.2.2.2.2.2.2.2.2.2.2.2.2.2.2.2.2.2.2.2.2.2.2.2.2.2.2.2.1, l2, y1.2.2.2.2.2.2.2.2.2.2.2.2.2.2.2.2.2.2.2.2.2.2.2.2.2.2.2.2.2.1, y1.2.2.2.2.2.2.2.2.2.2.2.2.2.2.2.2.2.2.2.2.2.2.2.2.2.2.2.2.2.2.1, y1.2.2.2.2.2.2.2.2.2.2.2.2.2.2.2.2.2.2.2.2.2.2.2.2.2.2.2.2.2.2.2.1, ()))
    | .ret y1 =>
    some (.ret (()))
 else
  some (.brk (s1, s3, s4, s5, s6, s7, s8, s9, s10, s11, s12, s13, s14, s15, s16, s17, s18, s19, s20, s21, s22, s23, s24, s25, s26, s27, s28, s29, s30, s31, ())) := by kernel_rfl
theorem zfF (s1 : Int) (s2 : Int) (s3 : Int) (s4 : Int) (s5 : Int) (s6 : Int) (s7 : Int) (s8 : Int) (s9 : Int) (s10 : Int) (s11 : Int) (s12 : Int) (s13 : BitVec 64) (s14 : zx) (s15 : Int) (s16 : Int) (s17 : Int) (s18 : Int) (s19 : Int) (s20 : Int) (s21 : Int) (s22 : Int) (s23 : Int) (s24 : BitVec 64) (s25 : List Int) (s26 : List (List Int)) (s27 : List (List Int)) (s28 : List (List zg)) (s29 : List zi) (s30 : List (List Int)) (s31 : List (List Int)) (s32 : List (List zg)) (s33 : List zi) : Zv (s1, s2, s3, s4, s5, s6, s7, s8, s9, s10, s11, s12, s13, s14, s15, s16, s17, s18, s19, s20, s21, s22, s23, s24, s25, s26, s27, s28, s29, s30, s31, s32, s33, ()) =
 bif decide (s3 < s23) then
  (zt s14).bind fun y1 =>
  bif decide ((w64 (s1 + 1)) = 0) then
   none
  else
   (wj (s25 ++ (([(y1.1.tmod (w64 (s1 + 1)))] : List Int)))).bind fun l2 =>
   some (.again (s1, s2, w64 (s3 + 1), s4, s5, s6, s7, s8, s9, s10, s11, s12, s13, y1.2.1, s15, s16, s17, s18, s19, s20, s21, s22, s23, s24, l2, s26, s27, s28, s29, s30, s31, s32, s33, ()))
 else
  some (.brk (s1, s2, s4, s5, s6, s7, s8, s9, s10, s11, s12, s13, s14, s15, s16, s17, s18, s19, s20, s21, s22, s23, s24, s25, s26, s27, s28, s29, s30, s31, s32, s33, ())) := by kernel_rfl
theorem zfX (s1 : Int) (s2 : Int) (s3 : Int) (s4 : Int) (s5 : Int) (s6 : Int) (s7 : Int) (s8 : Int) (s9 : Int) (s10 : Int) (s11 : Int) (s12 : BitVec 64) (s13 : zx) (s14 : Int) (s15 : Int) (s16 : Int) (s17 : Int) (s18 : Int) (s19 : Int) (s20 : Int) (s21 : Int) (s22 : Int) (s23 : BitVec 64) (s24 : List (List Int)) (s25 : List (List Int)) (s26 : List (List zg)) (s27 : List zi) (s28 : List (List Int)) (s29 : List (List Int)) (s30 : List (List zg)) (s31 : List zi) : Zx (s1, s2, s3, s4, s5, s6, s7, s8, s9, s10, s11, s12, s13, s14, s15, s16, s17, s18, s19, s20, s21, s22, s23, s24, s25, s26, s27, s28, s29, s30, s31, ()) =
 bif decide (s2 < s15) then
  (yD Zt (s1, s2, 0, s3, s4, s5, s6, s7, s8, s9, s10, s11, s12, s13, s14, s15, s16, s17, s18, s19, s20, s21, s22, s23, ([] : List Int), s24, s25, s26, s27, s28, s29, s30, s31, ())).bind fun st => match st with
    | .again _ => none
    | .brk y1 =>
    bif decide (((y1.2.2.2.2.2.2.2.2.2.2.2.2.2.2.2.2.2.2.2.2.2.2.2.1.length : Int)) = 0) then
     (zt y1.2.2.2.2.2.2.2.2.2.2.2.2.1).bind fun y2 =>
     (yD vY (y1.1, y1.2.1, y2.1.tmod 8, y1.2.2.1, y1.2.2.2.1, y1.2.2.2.2.1, y1.2.2.2.2.2.1, y1.2.2.2.2.2.2.1, y1.2.2.2.2.2.2.2.1, y1.2.2.2.2.2.2.2.2.1, y1.2.2.2.2.2.2.2.2.2.1, y1.2.2.2.2.2.2.2.2.2.2.1, y1.2.2.2.2.2.2.2.2.2.2.2.1, y2.2.1, y1.2.2.2.2.2.2.2.2.2.2.2.2.2.1, y1.2.2.2.2.2.2.2.2.2.2.2.2.2.2.1, y1.2.2.2.2.2.2.2.2.2.2.2.2.2.2.2.1, y1.2.2.2.2.2.2.2.2.2.2.2.2.2.2.2.2.1, y1.2.2.2.2.2.2.2.2.2.2.2.2.2.2.2.2.2.1, y1.2.2.2.2.2.2.2.2.2.2.2.2.2.2.2.2.2.2.1, y1.2.2.2.2.2.2.2.2.2.2.2.2.2.2.2.2.2.2.2.1, y1.2.2.2.2.2.2.2.2.2.2.2.2.2.2.2.2.2.2.2.2.1, y1.2.2.2.2.2.2.2.2.2.2.2.2.2.2.2.2.2.2.2.2.2.1, y1.2.2.2.2.2.2.2.2.2.2.2.2.2.2.2.2.2.2.2.2.2.2.1, ([0] : List Int), ([] : List zg), y1.2.2.2.2.2.2.2.2.2.2.2.2.2.2.2.2.2.2.2.2.2.2.2.2.1, y1.2.2.2.2.2.2.2.2.2.2.2.2.2.2.2.2.2.2.2.2.2.2.2.2.2.1, y1.2.2.2.2.2.2.2.2.2.2.2.2.2.2.2.2.2.2.2.2.2.2.2.2.2.2.1, y1.2.2.2.2.2.2.2.2.2.2.2.2.2.2.2.2.2.2.2.2.2.2.2.2.2.2.2.1, y1.2.2.2.2.2.2.2.2.2.2.2.2.2.2.2.2.2.2.2.2.2.2.2.2.2.2.2.2.1, y1.2.2.2.2.2.2.2.2.2.2.2.2.2.2.2.2.2.2.2.2.2.2.2.2.2.2.2.2.2.1, y1.2.2.2.2.2.2.2.2.2.2.2.2.2.2.2.2.2.2.2.2.2.2.2.2.2.2.2.2.2.2.1, y1.2.2.2.2.2.2.2.2.2.2.2.2.2.2.2.2.2.2.2.2.2.2.2.2.2.2.2.2.2.2.2.1, ())).bind fun st => match st with
       | .again _ => none
       | .brk y3 =>
       (wj (y3.2.2.2.2.2.2.2.2.2.2.2.2.2.2.2.2.2.2.2.2.2.2.2.2.2.2.2.2.2.2.1 ++ (([y3.2.2.2.2.2.2.2.2.2.2.2.2.2.2.2.2.2.2.2.2.2.2.2.1] : List (List Int))))).bind fun l4 =>
       (wj (y3.2.2.2.2.2.2.2.2.2.2.2.2.2.2.2.2.2.2.2.2.2.2.2.2.2.2.2.2.2.2.2.1 ++ (([y3.2.2.2.2.2.2.2.2.2.2.2.2.2.2.2.2.2.2.2.2.2.2.2.2.1] : List (List zg))))).bind fun l5 =>
       some (.again (y3.1, w64 (y3.2.1 + 1), y3.2.2.1, y3.2.2.2.1, y3.2.2.2.2.1, y3.2.2.2.2.2.1, y3.2.2.2.2.2.2.1, y3.2.2.2.2.2.2.2.1, y3.2.2.2.2.2.2.2.2.1, y3.2.2.2.2.2.2.2.2.2.1, y3.2.2.2.2.2.2.2.2.2.2.1, y3.2.2.2.2.2.2.2.2.2.2.2.1, y3.2.2.2.2.2.2.2.2.2.2.2.2.1, y3.2.2.2.2.2.2.2.2.2.2.2.2.2.1, y3.2.2.2.2.2.2.2.2.2.2.2.2.2.2.1, y3.2.2.2.2.2.2.2.2.2.2.2.2.2.2.2.1, y3.2.2.2.2.2.2.2.2.2.2.2.2.2.2.2.2.1, y3.2.2.2.2.2.2.2.2.2.2.2.2.2.2.2.2.2.1, y3.2.2.2.2.2.2.2.2.2.2.2.2.2.2.2.2.2.2.1, y3.2.2.2.2.2.2.2.2.2.2.2.2.2.2.2.2.2.2.2.1, y3.2.2.2.2.2.2.2.2.2.2.2.2.2.2.2.2.2.2.2.2.1, y3.2.2.2.2.2.2.2.2.2.2.2.2.2.2.2.2.2.2.2.2.2.1, y3.2.2.2.2.2.2.2.2.2.2.2.2.2.2.2.2.2.2.2.2.2.2.1, y3.2.2.2.2.2.2.2.2.2.2.2.2.2.2.2.2.2.2.2.2.2.2.2.2.2.1, y3.2.2.2.2.2.2.2.2.2.2.2.2.2.2.2.2.2.2.2.2.2.2.2.2.2.2.1, y3.2.2.2.2.2.2.2.2.2.2.2.2.2.2.2.2.2.2.2.2.2.2.2.2.2.2.2.1, y3.2.2.2.2.2.2.2.2.2.2.2.2.2.2.2.2.2.2.2.2.2.2.2.2.2.2.2.2.1, y3.2.2.2.2.2.2.2.2.2.2.2.2.2.2.2.2.2.2.2.2.2.2.2.2.2.2.2.2.2.1, l4, l5, y3.2.2.2.2.2.2.2.2.2.2.2.2.2.2.2.2.2.2.2.2.2.2.2.2.2.2.2.2.2.2.2.2.1, ()))
       | .ret y3 =>
       some (.ret (()))
    else
     (zt y1.2.2.2.2.2.2.2.2.2.2.2.2.1).bind fun y6 =>
     (yD vY (y1.1, y1.2.1, y6.1.tmod 8, y1.2.2.1, y1.2.2.2.1, y1.2.2.2.2.1, y1.2.2.2.2.2.1, y1.2.2.2.2.2.2.1, y1.2.2.2.2.2.2.2.1, y1.2.2.2.2.2.2.2.2.1, y1.2.2.2.2.2.2.2.2.2.1, y1.2.2.2.2.2.2.2.2.2.2.1, y1.2.2.2.2.2.2.2.2.2.2.2.1, y6.2.1, y1.2.2.2.2.2.2.2.2.2.2.2.2.2.1, y1.2.2.2.2.2.2.2.2.2.2.2.2.2.2.1, y1.2.2.2.2.2.2.2.2.2.2.2.2.2.2.2.1, y1.2.2.2.2.2.2.2.2.2.2.2.2.2.2.2.2.1, y1.2.2.2.2.2.2.2.2.2.2.2.2.2.2.2.2.2.1, y1.2.2.2.2.2.2.2.2.2.2.2.2.2.2.2.2.2.2.1, y1.2.2.2.2.2.2.2.2.2.2.2.2.2.2.2.2.2.2.2.1, y1.2.2.2.2.2.2.2.2.2.2.2.2.2.2.2.2.2.2.2.2.1, y1.2.2.2.2.2.2.2.2.2.2.2.2.2.2.2.2.2.2.2.2.2.1, y1.2.2.2.2.2.2.2.2.2.2.2.2.2.2.2.2.2.2.2.2.2.2.1, y1.2.2.2.2.2.2.2.2.2.2.2.2.2.2.2.2.2.2.2.2.2.2.2.1, ([] : List zg), y1.2.2.2.2.2.2.2.2.2.2.2.2.2.2.2.2.2.2.2.2.2.2.2.2.1, y1.2.2.2.2.2.2.2.2.2.2.2.2.2.2.2.2.2.2.2.2.2.2.2.2.2.1, y1.2.2.2.2.2.2.2.2.2.2.2.2.2.2.2.2.2.2.2.2.2.2.2.2.2.2.1, y1.2.2.2.2.2.2.2.2.2.2.2.2.2.2.2.2.2.2.2.2.2.2.2.2.2.2.2.1, y1.2.2.2.2.2.2.2.2.2.2.2.2.2.2.2.2.2.2.2.2.2.2.2.2.2.2.2.2.1, y1.2.2.2.2.2.2.2.2.2.2.2.2.2.2.2.2.2.2.2.2.2.2.2.2.2.2.2.2.2.1, y1.2.2.2.2.2.2.2.2.2.2.2.2.2.2.2.2.2.2.2.2.2.2.2.2.2.2.2.2.2.2.1, y1.2.2.2.2.2.2.2.2.2.2.2.2.2.2.2.2.2.2.2.2.2.2.2.2.2.2.2.2.2.2.2.1, ())).bind fun st => match st with
       | .again _ => none
       | .brk y7 =>
       (wj (y7.2.2.2.2.2.2.2.2.2.2.2.2.2.2.2.2.2.2.2.2.2.2.2.2.2.2.2.2.2.2.1 ++ (([y7.2.2.2.2.2.2.2.2.2.2.2.2.2.2.2.2.2.2.2.2.2.2.2.1] : List (List Int))))).bind fun l8 =>
       (wj (y7.2.2.2.2.2.2.2.2.2.2.2.2.2.2.2.2.2.2.2.2.2.2.2.2.2.2.2.2.2.2.2.1 ++ (([y7.2.2.2.2.2.2.2.2.2.2.2.2.2.2.2.2.2.2.2.2.2.2.2.2.1] : List (List zg))))).bind fun l9 =>
       some (.again (y7.1, w64 (y7.2.1 + 1), y7.2.2.1, y7.2.2.2.1, y7.2.2.2.2.1, y7.2.2.2.2.2.1, y7.2.2.2.2.2.2.1, y7.2.2.2.2.2.2.2.1, y7.2.2.2.2.2.2.2.2.1, y7.2.2.2.2.2.2.2.2.2.1, y7.2.2.2.2.2.2.2.2.2.2.1, y7.2.2.2.2.2.2.2.2.2.2.2.1, y7.2.2.2.2.2.2.2.2.2.2.2.2.1, y7.2.2.2.2.2.2.2.2.2.2.2.2.2.1, y7.2.2.2.2.2.2.2.2.2.2.2.2.2.2.1, y7.2.2.2.2.2.2.2.2.2.2.2.2.2.2.2.1, y7.2.2.2.2.2.2.2.2.2.2.2.2.2.2.2.2.1, y7.2.2.2.2.2.2.2.2.2.2.2.2.2.2.2.2.2.1, y7.2.2.2.2.2.2.2.2.2.2.2.2.2.2.2.2.2.2.1, y7.2.2.2.2.2.2.2.2.2.2.2.2.2.2.2.2.2.2.2.1, y7.2.2.2.2.2.2.2.2.2.2.2.2.2.2.2.2.2.2.2.2.1, y7.2.2.2.2.2.2.2.2.2.2.2.2.2.2.2.2.2.2.2.2.2.1, y7.2.2.2.2.2.2.2.2.2.2.2.2.2.2.2.2.2.2.2.2.2.2.1, y7.2.2.2.2.2.2.2.2.2.2.2.2.2.2.2.2.2.2.2.2.2.2.2.2.2.1, y7.2.2.2.2.2.2.2.2.2.2.2.2.2.2.2.2.2.2.2.2.2.2.2.2.2.2.1, y7.2.2.2.2.2.2.2.2.2.2.2.2.2.2.2.2.2.2.2.2.2.2.2.2.2.2.2.1, y7.2.2.2.2.2.2.2.2.2.2.2.2.2.2.2.2.2.2.2.2.2.2.2.2.2.2.2.2.1, y7.2.2.2.2.2.2.2.2.2.2.2.2.2.2.2.2.2.2.2.2.2.2.2.2.2.2.2.2.2.1, l8, l9, y7.2.2.2.2.2.2.2.2.2.2.2.2.2.2.2.2.2.2.2.2.2.2.2.2.2.2.2.2.2.2.2.2.1, ()))
       | .ret y7 =>
       some (.ret (()))
    | .ret y1 =>
    some (.ret (()))
 else
  some (.brk (s3, s4, s5, s6, s7, s8, s9, s10, s11, s12, s14, s15, s16, s17, s18, s19, s20, s21, s22, s23, s24, s25, s26, s27, s28, s29, s30, s31, ())) := by kernel_rfl
theorem zfd (s1 : Int) (s2 : Int) (s3 : Int) (s4 : Int) (s5 : Int) (s6 : Int) (s7 : Int) (s8 : Int) (s9 : Int) (s10 : Int) (s11 : Int) (s12 : Int) (s13 : BitVec 64) (s14 : zx) (s15 : Int) (s16 : Int) (s17 : Int) (s18 : Int) (s19 : Int) (s20 : Int) (s21 : Int) (s22 : Int) (s23 : Int) (s24 : BitVec 64) (s25 : List Int) (s26 : List (List Int)) (s27 : List (List Int)) (s28 : List (List zg)) (s29 : List zi) (s30 : List (List Int)) (s31 : List (List Int)) (s32 : List (List zg)) (s33 : List zi) : Zt (s1, s2, s3, s4, s5, s6, s7, s8, s9, s10, s11, s12, s13, s14, s15, s16, s17, s18, s19, s20, s21, s22, s23, s24, s25, s26, s27, s28, s29, s30, s31, s32, s33, ()) =
 (zt s14).bind fun y1 =>
 bif decide (s3 < (w64 (1 + (y1.1.tmod 3)))) then
  (zt y1.2.1).bind fun y2 =>
  bif decide ((w64 (s1 + 1)) = 0) then
   none
  else
   (wj (s25 ++ (([(y2.1.tmod (w64 (s1 + 1)))] : List Int)))).bind fun l3 =>
   some (.again (s1, s2, w64 (s3 + 1), s4, s5, s6, s7, s8, s9, s10, s11, s12, s13, y2.2.1, s15, s16, s17, s18, s19, s20, s21, s22, s23, s24, l3, s26, s27, s28, s29, s30, s31, s32, s33, ()))
 else
  some (.brk (s1, s2, s4, s5, s6, s7, s8, s9, s10, s11, s12, s13, y1.2.1, s15, s16, s17, s18, s19, s20, s21, s22, s23, s24, s25, s26, s27, s28, s29, s30, s31, s32, s33, ())) := by kernel_rfl
theorem zf0 (s1 : Int) (s2 : Int) (s3 : Int) (s4 : Int) (s5 : Int) (s6 : Int) (s7 : Int) (s8 : Int) (s9 : Int) (s10 : Int) (s11 : Int) (s12 : Int) (s13 : BitVec 64) (s14 : zx) (s15 : Int) (s16 : Int) (s17 : Int) (s18 : Int) (s19 : Int) (s20 : Int) (s21 : Int) (s22 : Int) (s23 : Int) (s24 : BitVec 64) (s25 : List Int) (s26 : List zg) (s27 : List (List Int)) (s28 : List (List Int)) (s29 : List (List zg)) (s30 : List zi) (s31 : List (List Int)) (s32 : List (List Int)) (s33 : List (List zg)) (s34 : List zi) : vY (s1, s2, s3, s4, s5, s6, s7, s8, s9, s10, s11, s12, s13, s14, s15, s16, s17, s18, s19, s20, s21, s22, s23, s24, s25, s26, s27, s28, s29, s30, s31, s32, s33, s34, ()) =
 bif decide (0 < s3) then
  (Yi ((s25.length : Int)) s23 s14).bind fun y1 =>
  (wj (s26 ++ ([y1.1] : List zg))).bind fun l2 =>
  some (.again (s1, s2, w64 (s3 - 1), s4, s5, s6, s7, s8, s9, s10, s11, s12, s13, y1.2.1, s15, s16, s17, s18, s19, s20, s21, s22, s23, s24, s25, l2, s27, s28, s29, s30, s31, s32, s33, s34, ()))
 else
  some (.brk (s1, s2, s4, s5, s6, s7, s8, s9, s10, s11, s12, s13, s14, s15, s16, s17, s18, s19, s20, s21, s22, s23, s24, s25, s26, s27, s28, s29, s30, s31, s32, s33, s34, ())) := by kernel_rfl
theorem ziX (a1 : List (BitVec 8)) : Ue a1 =
 (cut a1 0 (bif decide (90 < ((a1.length : Int))) then 90 else ((a1.length : Int)))).bind fun l1 =>
 (zt (zx.mk l1 0)).bind fun y2 =>
 (zt y2.2.1).bind fun y3 =>
 (zt y3.2.1).bind fun y4 =>
 (zt y4.2.1).bind fun y5 =>
 (zt y5.2.1).bind fun y6 =>
 (zt y6.2.1).bind fun y7 =>
 (zt y7.2.1).bind fun y8 =>
 (zt y8.2.1).bind fun y9 =>
 (zt y9.2.1).bind fun y10 =>
 (zt y10.2.1).bind fun y11 =>
 (yD ZW (w64 (1 + (y10.1.tmod 6)), 0, 0, 0, 0, 0, 0, 0, 0, 0, 0, 0#64, y11.2.1, w64 (1 + (y2.1.tmod 3)), y3.1.tmod 3, w64 (1 + (y4.1.tmod 3)), w64 (1 + (y5.1.tmod 2)), w64 (1 + (y6.1.tmod 3)), w64 ((w64 (1 + (y10.1.tmod 6))) + (y11.1.tmod 4)), y7.1.tmod 4, y8.1.tmod 4, w64 (1 + (y9.1.tmod 2)), 0#64, ([] : List (List Int)), ([] : List (List Int)), ([] : List (List zg)), ([] : List zi), ([] : List (List Int)), ([] : List (List Int)), ([] : List (List zg)), ([] : List zi), ())).bind fun st => match st with
   | .again _ => none
   | .brk y12 =>
   (zt y12.2.2.2.2.2.2.2.2.2.2.2.1).bind fun y13 =>
   bif decide ((w64 (y12.1 + 1)) = 0) then
    none
   else
    (zaj 0#64 (y13.1.tmod (w64 (y12.1 + 1)))).bind fun y14 =>
    (yD Zx (y12.1, 0, y12.2.1, y12.2.2.1, y12.2.2.2.1, y12.2.2.2.2.1, y12.2.2.2.2.2.1, y12.2.2.2.2.2.2.1, y12.2.2.2.2.2.2.2.1, y12.2.2.2.2.2.2.2.2.1, y12.2.2.2.2.2.2.2.2.2.1, y12.2.2.2.2.2.2.2.2.2.2.1, y13.2.1, y12.2.2.2.2.2.2.2.2.2.2.2.2.1, y12.2.2.2.2.2.2.2.2.2.2.2.2.2.1, y12.2.2.2.2.2.2.2.2.2.2.2.2.2.2.1, y12.2.2.2.2.2.2.2.2.2.2.2.2.2.2.2.1, y12.2.2.2.2.2.2.2.2.2.2.2.2.2.2.2.2.1, y12.2.2.2.2.2.2.2.2.2.2.2.2.2.2.2.2.2.1, y12.2.2.2.2.2.2.2.2.2.2.2.2.2.2.2.2.2.2.1, y12.2.2.2.2.2.2.2.2.2.2.2.2.2.2.2.2.2.2.2.1, y12.2.2.2.2.2.2.2.2.2.2.2.2.2.2.2.2.2.2.2.2.1, y14.1, y12.2.2.2.2.2.2.2.2.2.2.2.2.2.2.2.2.2.2.2.2.2.2.1, y12.2.2.2.2.2.2.2.2.2.2.2.2.2.2.2.2.2.2.2.2.2.2.2.1, y12.2.2.2.2.2.2.2.2.2.2.2.2.2.2.2.2.2.2.2.2.2.2.2.2.1, y12.2.2.2.2.2.2.2.2.2.2.2.2.2.2.2.2.2.2.2.2.2.2.2.2.2.1, y12.2.2.2.2.2.2.2.2.2.2.2.2.2.2.2.2.2.2.2.2.2.2.2.2.2.2.1, y12.2.2.2.2.2.2.2.2.2.2.2.2.2.2.2.2.2.2.2.2.2.2.2.2.2.2.2.1, y12.2.2.2.2.2.2.2.2.2.2.2.2.2.2.2.2.2.2.2.2.2.2.2.2.2.2.2.2.1, y12.2.2.2.2.2.2.2.2.2.2.2.2.2.2.2.2.2.2.2.2.2.2.2.2.2.2.2.2.2.1, ())).bind fun st => match st with
      | .again _ => none
      | .brk y15 =>
      some (zd.mk y15.2.2.2.2.2.2.2.2.2.2.1 y15.2.2.2.2.2.2.2.2.2.2.2.1 y15.2.2.2.2.2.2.2.2.2.2.2.2.1 y15.2.2.2.2.2.2.2.2.2.2.2.2.2.1 y15.2.2.2.2.2.2.2.2.2.2.2.2.2.2.1 y15.2.2.2.2.2.2.2.2.2.2.2.2.2.2.2.1 y15.2.2.2.2.2.2.2.2.2.2.2.2.2.2.2.2.1 y15.2.2.2.2.2.2.2.2.2.2.2.2.2.2.2.2.2.1 (zu.mk y15.2.2.2.2.2.2.2.2.2.2.2.2.2.2.2.2.2.2.1 y15.2.2.2.2.2.2.2.2.2.2.2.2.2.2.2.2.2.2.2.2.2.2.2.2.1) y15.2.2.2.2.2.2.2.2.2.2.2.2.2.2.2.2.2.2.2.1 y15.2.2.2.2.2.2.2.2.2.2.2.2.2.2.2.2.2.2.2.2.2.2.2.2.2.1 y15.2.2.2.2.2.2.2.2.2.2.2.2.2.2.2.2.2.2.2.2.2.2.2.2.2.2.1 y15.2.2.2.2.2.2.2.2.2.2.2.2.2.2.2.2.2.2.2.2.2.2.2.2.2.2.2.1, ())
      | .ret y15 =>
      none
   | .ret y12 =>
   none := zn (by kernel_rfl)
theorem zjd (a1 : zc) (a2 : BitVec 8) : V6 a1 a2 =
 bif decide (((a1.Ms.length : Int)) = 0) then
  none
 else
  (X2 a1 (w64 (1 + (((a2.toNat : Int)).tmod ((a1.Ms.length : Int)))))).bind fun y1 =>
  some (y1.1, w64 (1 + (((a2.toNat : Int)).tmod ((a1.Ms.length : Int)))), ()) := zn (by kernel_rfl)
theorem Ug (s1 : List (BitVec 8)) (s2 : Bool) (s3 : Int) (s4 : zd) (s5 : zc) : uB (s1, s2, s3, s4, s5, ()) =
 bif decide (s3 < ((s1.length : Int))) then
  bif decide (s3 < 250) then
   bif decide (0 < ((s5.Ms.length : Int))) then
    (idx s1 s3).bind fun x1 =>
    (V6 s5 x1).bind fun y2 =>
    (idx s5.Ms (w64 (y2.2.1 - 1))).bind fun x3 =>
    (idx y2.1.Ms (w64 (y2.2.1 - 1))).bind fun x4 =>
    bif decide (s4.Buf < ((x4.Buf.length : Int))) then
     some (.ret (false, ()))
    else
     bif decide ((w64 (((x3.Buf.length : Int)) + 1)) < ((x4.Buf.length : Int))) then
      some (.ret (false, ()))
     else
      bif decide (((x3.Buf.length : Int)) < ((x4.Buf.length : Int))) then
       bif !(decide (x3.PC = 22)) then
        some (.ret (false, ()))
       else
        bif !(decide (x4.PC = 23)) then
         some (.ret (false, ()))
        else
         (idx x4.Buf (w64 (((x4.Buf.length : Int)) - 1))).bind fun x5 =>
         bif !(decide (x5 = x3.Old)) then
          some (.ret (false, ()))
         else
          bif !(decide (x4.Old = 0)) then
           some (.ret (false, ()))
          else
           (xW s5.H y2.1.H).bind fun y6 =>
           bif !y6.1 then
            bif !(decide (x3.PC = 23)) then
             bif !(decide (x3.PC = 30)) then
              some (.ret (false, ()))
             else
              some (.again (s1, s2, w64 (s3 + 1), s4, y2.1, ()))
            else
             some (.again (s1, s2, w64 (s3 + 1), s4, y2.1, ()))
           else
            some (.again (s1, s2, w64 (s3 + 1), s4, y2.1, ()))
      else
       (xW s5.H y2.1.H).bind fun y7 =>
       bif !y7.1 then
        bif !(decide (x3.PC = 23)) then
         bif !(decide (x3.PC = 30)) then
          some (.ret (false, ()))
         else
          some (.again (s1, s2, w64 (s3 + 1), s4, y2.1, ()))
        else
         some (.again (s1, s2, w64 (s3 + 1), s4, y2.1, ()))
       else
        some (.again (s1, s2, w64 (s3 + 1), s4, y2.1, ()))
   else
    some (.brk (s2, ()))
  else
   some (.brk (s2, ()))
 else
  some (.brk (s2, ())) := by kernel_rfl
theorem zbd (a1 : List (BitVec 8)) (a2 : List (BitVec 8)) : wv a1 a2 =
 (Wg).bind fun y1 =>
 bif !y1.1 then
  some (false, ())
 else
  (Ue a1).bind fun y2 =>
  (Uw y2.1).bind fun y3 =>
  (yD uB (a2, y1.1, 0, y2.1, y3.1, ())).bind fun st => match st with
    | .again _ => none
    | .brk y4 =>
    some (y4.1, ())
    | .ret y4 =>
    some (y4.1, ()) := zn (by kernel_rfl)
end Go.Pe.G

namespace Go.Pe.G
open Go.Pe
theorem zxf : Go.Proofs.Tryz.prog.funcs[91]? = some Go.Proofs.Tryz.f91 := by kernel_rfl
theorem zwu : Go.Proofs.Tryz.f91.body.isSome = true := by kernel_rfl
theorem zwA : uy Go.Proofs.Tryz.prog 91 = true := by kernel_rfl
theorem zwT : Go.Proofs.Tryz.prog.funcs[134]? = some Go.Proofs.Tryz.f134 := by kernel_rfl
theorem zv6 : Go.Proofs.Tryz.f134.body.isSome = true := by kernel_rfl
theorem zv7 : uy Go.Proofs.Tryz.prog 134 = true := by kernel_rfl
theorem zjO (ys : List Int) (s1 : Int) (s2 : Int) (s3 : BitVec 64) : Vi ys (s1, s2, s3, ()) =
 bif !(decide (s3 = 0#64)) then
  (qTZ s3).bind fun y1 =>
  (UC ys s2 (w64 (y1.1 + 1))).bind fun _ =>
  some (.again (s1, s2 + 1, s3 &&& (s3 - 1#64), ()))
 else
  some (.brk (s1, s2, ())) := by kernel_rfl
theorem zne (n : Int) (ys : List Int) (a1 : BitVec 64) : zm8 (VS ys) Go.Proofs.Tryz.f134 zh4 n ((a1, ()) : (BitVec 64) × Unit) =
 (yD (Vi ys) (n, 0, a1, ())).bind fun st => match st with
   | .again _ => none
   | .brk y1 =>
   some y1.2.1
   | .ret y1 =>
   some y1.2.1 := by kernel_rfl
theorem Yx (ys : List (List Int)) (s1 : Int) (s2 : Int) (s3 : Int) (s4 : List Int) (s5 : Int) : va ys (s1, s2, s3, s4, s5, ()) =
 bif decide (s3 < ((s4.length : Int))) then
  (cut s4 s3 ((s4.length : Int))).bind fun l1 =>
  bif decide (s3 = 0) && decide ((w64 (s3 + (bif decide (((l1.length : Int)) < s5) then ((l1.length : Int)) else s5))) = 0) && decide ((w64 (s3 + (bif decide (((l1.length : Int)) < s5) then ((l1.length : Int)) else s5))) = 0) then
   (UC ys s2 ([] : List Int)).bind fun _ =>
   some (.again (s1, s2 + 1, w64 (s3 + s5), s4, s5, ()))
  else
   bif decide (s3 = 0) && decide ((w64 (s3 + (bif decide (((l1.length : Int)) < s5) then ((l1.length : Int)) else s5))) = ((s4.length : Int))) && decide ((w64 (s3 + (bif decide (((l1.length : Int)) < s5) then ((l1.length : Int)) else s5))) = ((s4.length : Int))) then
    (UC ys s2 s4).bind fun _ =>
    some (.again (s1, s2 + 1, w64 (s3 + s5), s4, s5, ()))
   else
    bif decide ((w64 (s3 + (bif decide (((l1.length : Int)) < s5) then ((l1.length : Int)) else s5))) = (w64 (s3 + (bif decide (((l1.length : Int)) < s5) then ((l1.length : Int)) else s5)))) then
     (cut s4 s3 (w64 (s3 + (bif decide (((l1.length : Int)) < s5) then ((l1.length : Int)) else s5)))).bind fun l2 =>
     (UC ys s2 l2).bind fun _ =>
     some (.again (s1, s2 + 1, w64 (s3 + s5), s4, s5, ()))
    else
     none
 else
  some (.brk (s1, s2, ())) := by kernel_rfl
theorem zbk (n : Int) (ys : List (List Int)) (a1 : List Int) (a2 : Int) : zm8 (vn ys) Go.Proofs.Tryz.f91 Wh n ((a1, a2, ()) : (List Int) × Int × Unit) =
 (yD (va ys) (n, 0, 0, a1, a2, ())).bind fun st => match st with
   | .again _ => none
   | .brk y1 =>
   some y1.2.1
   | .ret y1 =>
   some y1.2.1 := by kernel_rfl
end Go.Pe.G
namespace Go.Pe.G
open Go.Pe
theorem zkk {A B D : Type} (g : A → Option (xf A B D)) {o : xf Unit B D} : ∀ (k m : Nat) (x : A), uk g k x = some o → k ≤ m → uk g m x = some o
  | 0, m, x, h, _ => by cases h
  | k + 1, 0, x, h, hm => by omega
  | k + 1, m + 1, x, h, hm => by
    simp only [uk, Option.bind_eq_some_iff] at h ⊢
    obtain ⟨s, h1, h2⟩ := h
    refine ⟨s, h1, ?_⟩
    cases s with
    | again y => exact zkk g k m y h2 (by omega)
    | brk b => exact h2
    | ret c => exact h2
theorem zpk {α : Type} (pre post : List α) (z : α) : UC (pre ++ z :: post) (pre.length : Int) z = some () := by
  unfold UC
  rw [if_pos]
  refine ⟨by omega, ?_⟩
  simp
theorem zdN (n : Int) (ys : List Int) : ∀ (f : Nat) (s : BitVec 64) (l pre : List Int), zan f s = some l → ys = pre ++ l → uk (Vi ys) f (n, (pre.length : Int), s, ()) = some (.brk (n, (ys.length : Int), ()))
  | 0, s, l, pre, h, _ => by cases h
  | f + 1, s, l, pre, h, e => by
    simp only [zan] at h
    simp only [uk, zjO]
    cases hz : decide (s = 0#64) with
    | true =>
      simp only [hz, cond_true, Option.some.injEq] at h
      subst h
      simp only [List.append_nil] at e
      subst e
      rfl
    | false =>
      simp only [hz, cond_false, Option.map_eq_some_iff] at h
      obtain ⟨l', h1, rfl⟩ := h
      have hn : UC ys (pre.length : Int) (w64 (tz s + 1)) = some () := by rw [e]; exact zpk pre l' _
      simp only [Bool.not_false, cond_true, zwf, Option.bind_some, hn]
      have := zdN n ys f (s &&& (s - 1#64)) l' (pre ++ [w64 (tz s + 1)]) h1 (by rw [e]; simp)
      simpa using this
theorem zlN (G : Nat → Prop) (W0 : World) (hG : zn5 G W0) : ZN Go.Proofs.Tryz.prog G W0 134 VE := by
  obtain ⟨c, hc⟩ := Option.isSome_iff_exists.1 zv6
  refine zmN (Cg := VS []) rfl zrg (fun f s hs => Oks.at (.cons _ _ _ _ zvD (zt4 hG) (.skip _ _ .nil)) f s hs) rfl zsV (fun g it h => by cases h) zv7 zwT hc VE (Nat.le_of_ble_eq_true (by kernel_rfl)) rfl ?_
  rintro n ⟨a, ⟨⟩⟩ ys h
  have h : zan 66 a = some ys := h
  have e := zne n ys a
  have k := zkk _ 66 Yj _ (zdN n ys 66 a ys [] h rfl) (by decide)
  refine Eq.trans e ?_
  have k' : uk (Vi ys) Yj (n, 0, a, ()) = some (.brk (n, (ys.length : Int), ())) := k
  rw [VF, k']
  rfl
theorem ztI {a : Int} (h : -9223372036854775808 ≤ a) (h2 : a < 9223372036854775808) : w64 a = a := by
  rw [zh7]
  omega
theorem zas (n : Int) (ys : List (List Int)) (l : List Int) (sz : Nat) (h1 : 1 ≤ sz) (h2 : sz < 1000000) (h3 : l.length < 1000000) : ∀ (f p : Nat) (pre : List (List Int)), (l.drop p).length ≤ f → ys = pre ++ Zm sz f (l.drop p) → p < 2000000 →
    uk (va ys) (f + 1) (n, (pre.length : Int), (p : Int), l, (sz : Int), ()) = some (.brk (n, (ys.length : Int), ())) := by
  intro f
  induction f with
  | zero =>
    intro p pre hf e hp
    simp only [uk, Yx]
    simp only [List.length_drop] at hf
    have : ¬ (p : Int) < (l.length : Int) := by omega
    simp only [this, decide_false, cond_false, Option.bind_some]
    simp only [Zm, List.append_nil] at e
    rw [e]
  | succ f ih =>
    intro p pre hf e hp
    rw [uk, Yx]
    by_cases hlt : p < l.length
    · have hlt' : (p : Int) < (l.length : Int) := by omega
      have hcut : cut l (p : Int) (l.length : Int) = some (l.drop p) := by
        unfold cut
        have : (decide (0 ≤ (p : Int)) && decide ((p : Int) ≤ (l.length : Int)) && decide ((l.length : Int) ≤ (l.length : Int))) = true := by simp; omega
        simp only [this, cond_true]
        simp
      obtain ⟨x, r, hxr⟩ : ∃ x r, l.drop p = x :: r := by
        cases hd : l.drop p with
        | nil => have := congrArg List.length hd; simp at this; omega
        | cons x r => exact ⟨x, r, rfl⟩
      have hch : Zm sz (f + 1) (l.drop p) = (l.drop p).take sz :: Zm sz f (l.drop (p + sz)) := by
        rw [hxr]; simp only [Zm]; rw [← hxr, List.drop_drop]
      have hm : ∃ m : Nat, (bif decide (((l.drop p).length : Int) < (sz : Int)) then (((l.drop p).length : Int)) else (sz : Int)) = (m : Int) ∧ m = min sz (l.length - p) := by
        simp only [List.length_drop]
        by_cases hs : ((l.length - p : Nat) : Int) < (sz : Int)
        · exact ⟨l.length - p, by simp only [hs, decide_true, cond_true], by omega⟩
        · exact ⟨sz, by simp only [hs, decide_false, cond_false], by omega⟩
      obtain ⟨m, hm1, hm2⟩ := hm
      have hw : w64 ((p : Int) + (m : Int)) = ((p + m : Nat) : Int) := by rw [ztI (by omega) (by omega)]; omega
      have hw2 : w64 ((p : Int) + (sz : Int)) = ((p + sz : Nat) : Int) := by rw [ztI (by omega) (by omega)]; omega
      have hne : ¬ ((p + m : Nat) : Int) = 0 := by omega
      simp only [hlt', decide_true, cond_true, hcut, Option.bind_some, hm1, hw, hw2, hne, decide_false, Bool.and_false, cond_false]
      have hn : UC ys (pre.length : Int) ((l.drop p).take sz) = some () := by rw [e, hch]; exact zpk pre _ _
      have hcut2 : cut l (p : Int) ((p + m : Nat) : Int) = some ((l.drop p).take sz) := by
        unfold cut
        have : (decide (0 ≤ (p : Int)) && decide ((p : Int) ≤ ((p + m : Nat) : Int)) && decide (((p + m : Nat) : Int) ≤ (l.length : Int))) = true := by simp; omega
        simp only [this, cond_true]
        refine congrArg some ?_
        simp only [Int.toNat_natCast]
        rw [List.drop_take, Nat.add_sub_cancel_left, hm2]
        by_cases hs : sz ≤ l.length - p
        · rw [Nat.min_eq_left hs]
        · rw [Nat.min_eq_right (by omega), List.take_of_length_le (l := l.drop p) (by simp), List.take_of_length_le (l := l.drop p) (by simp; omega)]
      have hnext := ih (p + sz) (pre ++ [(l.drop p).take sz]) (by simp only [List.length_drop] at hf ⊢; omega) (by rw [e, hch]; simp) (by omega)
      have hlen : ((pre ++ [(l.drop p).take sz]).length : Int) = (pre.length : Int) + 1 := by simp
      rw [hlen] at hnext
      cases hfull : (decide ((p : Int) = 0) && decide (((p + m : Nat) : Int) = (l.length : Int)) && decide (((p + m : Nat) : Int) = (l.length : Int))) with
      | true =>
        simp only [cond_true]
        have hl : l = (l.drop p).take sz := ?_
        · rw [← hl] at hn
          rw [hn]
          exact hnext
        simp only [Bool.and_eq_true, decide_eq_true_eq] at hfull
        obtain ⟨⟨hp0, hpl⟩, _⟩ := hfull
        have hp00 : p = 0 := by omega
        rw [hp00, List.drop_zero, List.take_of_length_le (by omega)]
      | false =>
        simp only [cond_false, hcut2, Option.bind_some, decide_true, cond_true]
        rw [hn]
        exact hnext
    · have hnl : ¬ (p : Int) < (l.length : Int) := by omega
      have hd : l.drop p = [] := List.drop_eq_nil_of_le (by omega)
      simp only [hnl, decide_false, cond_false, Option.bind_some]
      rw [hd] at e
      simp only [Zm, List.append_nil] at e
      rw [e]
theorem zaE (n : Int) (ys : List (List Int)) (l : List Int) (sz : Int) (h : zeS l sz = some ys) : uk (va ys) Yj (n, 0, 0, l, sz, ()) = some (.brk (n, (ys.length : Int), ())) := by
  unfold zeS at h
  cases hc : (decide (1 ≤ sz) && decide (sz < 1000000) && decide ((l.length : Int) < 1000000)) with
  | false => simp [hc] at h
  | true =>
    simp only [hc, cond_true] at h
    injection h with h
    simp only [Bool.and_eq_true, decide_eq_true_eq] at hc
    obtain ⟨⟨c1, c2⟩, c3⟩ := hc
    have k := zkk _ (l.length + 1) Yj _ (zas n ys l sz.toNat (by omega) (by omega) (by omega) l.length 0 [] (by simp) (by simpa using h.symm) (by omega)) (by unfold Yj; omega)
    have hs : ((sz.toNat : Nat) : Int) = sz := by omega
    rw [hs] at k
    exact k
theorem zaQ (G : Nat → Prop) (W0 : World) (hG : zn5 G W0) : ZN Go.Proofs.Tryz.prog G W0 91 wI := by
  obtain ⟨c, hc⟩ := Option.isSome_iff_exists.1 zwu
  refine zmN (Cg := vn []) rfl zrg (fun f s hs => Oks.at .nil f s hs) rfl zsV (fun g it h => by cases h) zwA zxf hc wI (Nat.le_of_ble_eq_true (by kernel_rfl)) rfl (fun n x ys h => ?_)
  refine Eq.trans (zbk n ys x.1 x.2.1) ?_
  rw [VF, zaE n ys x.1 x.2.1 h]
  rfl
end Go.Pe.G
namespace Go.Pe.G
open Go.Pe
theorem k2 {G : Nat → Prop} {W0 : World} {f : Nat} {s : zo E} {ss r} (hs : Y4 Go.Proofs.Tryz.prog G W0 f s) (h : Oks Go.Proofs.Tryz.prog G W0 ((f, ss) :: r)) (hc : uy Go.Proofs.Tryz.prog f = true := by kernel_rfl) : Oks Go.Proofs.Tryz.prog G W0 ((f, s :: ss) :: r) := .cons _ _ _ _ hc hs h
theorem k1 {G : Nat → Prop} {W0 : World} {f : Nat} {s : zo E} {r} (hs : Y4 Go.Proofs.Tryz.prog G W0 f s) (h : Oks Go.Proofs.Tryz.prog G W0 r) (hc : uy Go.Proofs.Tryz.prog f = true := by kernel_rfl) : Oks Go.Proofs.Tryz.prog G W0 ((f, [s]) :: r) := .cons _ _ _ _ hc hs (.skip _ _ h)
abbrev Sd (G : Nat → Prop) (W0 : World) := Y4 (E := E) Go.Proofs.Tryz.prog G W0
theorem gs {G : Nat → Prop} {W0 : World} {l : List (Nat × List (zo E))} {loops mv kept pk its} {f : FuncId} {fn : Func} {inn out : xk} {gi go : List Grp} {hi : uh E gi = inn.holes} {ho : uh E go = out.holes} (h : Oks Go.Proofs.Tryz.prog G W0 l) (h2 : Its Go.Proofs.Tryz.prog G W0 its) (hf : Go.Proofs.Tryz.prog.funcs[f]? = some fn := by kernel_rfl) (hb : fn.body.isSome = true := by kernel_rfl)
    (hk : (cf l loops mv kept pk its).kept = zeE inn.blks 0 := by kernel_rfl) (hn : Nat.ble inn.vals.length fn.ntmps = true := by kernel_rfl) : Y4 Go.Proofs.Tryz.prog G W0 f (sp (cf l loops mv kept pk its) fn inn out gi go hi ho) := zuc (C := cf l loops mv kept pk its) zrg (zsP h) rfl (zvb h2) zsV hf hb hk hn
variable {G : Nat → Prop} {W0 : World} (hG : zn5 G W0)
include hG
theorem zha : Sd G W0 62 UT := gs .nil .nil
theorem ZK : Sd G W0 114 xR := gs (k1 (zha hG) .nil) .nil
theorem Zk : Sd G W0 61 xE := gs (k1 (ZK hG) .nil) .nil
theorem zi7 : Sd G W0 60 zca := gs (k1 (Zk hG) .nil) .nil
theorem ZL : Sd G W0 115 xQ := gs (k1 (zi7 hG) .nil) .nil
theorem Zi : Sd G W0 63 xC := gs (k1 (ZL hG) .nil) .nil
theorem VG : Sd G W0 19 Vv := gs (k1 (Zi hG) .nil) .nil
theorem zlq : Sd G W0 25 zhp := gs .nil .nil
theorem zk7 : Sd G W0 27 zhg := gs .nil .nil
theorem Vb : Sd G W0 86 WP := gs .nil .nil
theorem ziq : Sd G W0 87 zbz := gs (k1 (Vb hG) .nil) .nil
theorem Yb : Sd G W0 114 wg := gs (k1 (ziq hG) .nil) .nil
theorem ZC : Sd G W0 61 xO := gs (k1 (Yb hG) .nil) .nil
theorem zf6 : Sd G W0 85 Ub := gs (k1 (Vb hG) .nil) .nil
theorem zir : Sd G W0 156 zbG := gs .nil .nil
theorem zkh : Sd G W0 130 zfc := gs (k1 (zir hG) .nil) .nil
theorem zjF : Sd G W0 129 zdk := gs (k1 (zkh hG) .nil) .nil
theorem u7 : Sd G W0 155 xh := gs (k1 (zjF hG) .nil) .nil
theorem uJ : Sd G W0 128 yP := gs (k1 (u7 hG) .nil) .nil
theorem zll : Sd G W0 88 zg5 := gs (k1 (uJ hG) .nil) .nil
theorem zjY : Sd G W0 133 zfk := gs .nil .nil
theorem ziZ : Sd G W0 132 zbB := gs (k1 (zjY hG) .nil) .nil
theorem uq : Sd G W0 157 yN := gs (k1 (ziZ hG) .nil) .nil
theorem vS : Sd G W0 131 yJ := gs (k1 (uq hG) .nil) .nil
theorem zj0 : Sd G W0 89 zfa := gs (k1 (vS hG) .nil) .nil
theorem zkN : Sd G W0 37 zeV := gs (k1 (VG hG) (k1 (zlq hG) (k1 (zk7 hG) (k1 (ZC hG) (k1 (zf6 hG) (k1 (Vb hG) (k1 (zll hG) (k1 (zj0 hG) .nil)))))))) .nil
theorem zgO : Sd G W0 77 zgt := gs .nil .nil
theorem Vk : Sd G W0 35 zal := gs (k1 (zgO hG) .nil) .nil
theorem zon : Sd G W0 81 zl6 := gs (k1 (Vk hG) .nil) .nil
theorem zkj : Sd G W0 38 zfR := gs (k1 (zon hG) .nil) .nil
theorem zfD : Sd G W0 90 VA := gs .nil .nil
theorem zlj : Sd G W0 39 zg3 := gs (k1 (zfD hG) .nil) .nil
theorem zka : Sd G W0 40 ze2 := gs .nil .nil
theorem xd : Sd G W0 42 yV := gs .nil .nil
theorem Yu : Sd G W0 41 wq := gs (k1 (xd hG) .nil) .nil
theorem zjD : Sd G W0 43 zdy := gs .nil .nil
theorem zbv : Sd G W0 44 US := gs .nil .nil
theorem zbu : Sd G W0 45 UR := gs .nil .nil
theorem zle : Sd G W0 46 zhk := gs .nil .nil
theorem zbj : Sd G W0 47 YP := gs .nil .nil
theorem zmx : Sd G W0 92 zi5 := gs .nil .nil
theorem znp : ZN Go.Proofs.Tryz.prog G W0 134 VE := zlN G W0 hG
theorem zmr : Sd G W0 48 ziH := gs (k1 (zmx hG) .nil) (.cons _ _ _ (znp hG) (.nil))
theorem VO : Sd G W0 71 uT := gs .nil .nil
theorem zmq : Sd G W0 158 zjf := gs .nil .nil
theorem zmo : Sd G W0 159 zi6 := gs .nil .nil
theorem zlP : Sd G W0 160 ziz := gs .nil .nil
theorem zmi : Sd G W0 161 zjg := gs .nil .nil
theorem Yc : Sd G W0 136 Vw := gs (k1 (VO hG) (k1 (zmq hG) (k1 (zmo hG) (k1 (zlP hG) (k1 (zmi hG) .nil))))) .nil
theorem zbx : Sd G W0 93 UL := gs (k1 (Yc hG) .nil) .nil
theorem zcX : Sd G W0 94 zaW := gs .nil .nil
theorem zlr : Sd G W0 49 zg2 := gs (k1 (zbx hG) (k1 (zcX hG) .nil)) .nil
theorem Y2 : Sd G W0 50 X0 := gs .nil .nil
theorem YH : Sd G W0 52 Y1 := gs (k1 (Y2 hG) .nil) .nil
theorem Xh : Sd G W0 51 Wk := gs (k1 (YH hG) .nil) .nil
theorem zbm : ZN Go.Proofs.Tryz.prog G W0 91 wI := zaQ G W0 hG
theorem zdM : Sd G W0 11 zcH := gs (k1 (zkN hG) (k1 (zkj hG) (k1 (zlj hG) (k1 (zka hG) (k1 (Yu hG) (k1 (xd hG) (k1 (zjD hG) (k1 (zbv hG) (k1 (zbu hG) (k1 (zle hG) (k1 (zbj hG) (k1 (zmr hG) (k1 (zlr hG) (k1 (Y2 hG) (k1 (Xh hG) (k1 (YH hG) .nil)))))))))))))))) (.cons _ _ _ (zbm hG) (.nil))
theorem zhq : Sd G W0 15 U1 := gs .nil .nil
theorem wL : Sd G W0 137 vg := gs .nil .nil
theorem vA : Sd G W0 142 wY := gs .nil .nil
theorem ZB : Sd G W0 138 ux := gs (k1 (xd hG) (k1 (vA hG) .nil)) .nil
theorem zcm : Sd G W0 95 Xp := gs (k1 (wL hG) (k1 (ZB hG) .nil)) .nil
theorem zcM : Sd G W0 139 zaP := gs .nil .nil
theorem zbY : Sd G W0 96 XD := gs (k1 (zcM hG) .nil) .nil
theorem zdD : Sd G W0 97 WK := gs (k1 (xd hG) .nil) .nil
theorem zat : Sd G W0 182 Z8 := gs .nil .nil
theorem zgE : Sd G W0 26 zgN := gs (k1 (zgO hG) .nil) .nil
theorem zcR : Sd G W0 166 zay := gs (k1 (zgE hG) (k1 (Vk hG) .nil)) .nil
theorem Vd : Sd G W0 170 WL := gs .nil .nil
theorem vC : Sd G W0 197 wX := gs (k1 (Xh hG) (k1 (YH hG) (k1 (Vd hG) .nil))) .nil
theorem zbU : Sd G W0 183 XB := gs (k1 (zbv hG) (k1 (zbu hG) (k1 (zcR hG) (k1 (vC hG) .nil)))) .nil
theorem zbS : Sd G W0 184 Xs := gs .nil .nil
theorem zi8 : Sd G W0 200 zbQ := gs .nil .nil
theorem zjb : Sd G W0 200 zbN := gs .nil .nil
theorem ziE : Sd G W0 200 zcf := gs .nil .nil
theorem zin : Sd G W0 200 zcg := gs .nil .nil
theorem ve : Sd G W0 215 uw := gs (k1 (Yc hG) .nil) .nil
theorem xt : Sd G W0 216 xr := gs .nil .nil
theorem Ud : Sd G W0 201 Za := gs (k1 (ve hG) (k1 (xt hG) .nil)) .nil
theorem uf : Sd G W0 217 vJ := gs .nil .nil
theorem WR : Sd G W0 218 Z6 := gs .nil .nil
theorem xx : Sd G W0 219 xp := gs .nil .nil
theorem zbr : Sd G W0 202 YX := gs (k1 (ve hG) (k1 (uf hG) (k1 (WR hG) (k1 (xx hG) .nil)))) .nil
theorem u4 : Sd G W0 220 ZF := gs (k1 (Yc hG) .nil) .nil
theorem Zl : Sd G W0 221 vX := gs (k1 (WR hG) .nil) .nil
theorem zd9 : Sd G W0 203 W8 := gs (k1 (u4 hG) (k1 (Zl hG) .nil)) .nil
theorem U3 : Sd G W0 204 Zz := gs (k1 (xt hG) (k1 (xx hG) (k1 (u4 hG) .nil))) .nil
theorem zcW : Sd G W0 205 X1 := gs (k1 (xt hG) (k1 (u4 hG) .nil)) .nil
theorem zbw : Sd G W0 222 UQ := gs .nil .nil
theorem zau : Sd G W0 206 Z0 := gs (k1 (ve hG) (k1 (uf hG) (k1 (zbw hG) .nil))) .nil
theorem zb1 : Sd G W0 207 Xl := gs (k1 (ve hG) (k1 (xx hG) (k1 (Zl hG) .nil))) .nil
theorem WQ : Sd G W0 223 Z3 := gs (k1 (Yc hG) (k1 (uf hG) .nil)) .nil
theorem zbq : Sd G W0 208 YQ := gs (k1 (WQ hG) .nil) .nil
theorem zbs : Sd G W0 209 YM := gs (k1 (xt hG) (k1 (xx hG) (k1 (u4 hG) .nil))) .nil
theorem zbK : Sd G W0 210 XF := gs (k1 (xt hG) (k1 (xx hG) (k1 (u4 hG) .nil))) .nil
theorem zb6 : Sd G W0 211 Xw := gs (k1 (ve hG) (k1 (uf hG) .nil)) .nil
theorem zb7 : Sd G W0 212 Xv := gs (k1 (ve hG) (k1 (xt hG) (k1 (zbw hG) .nil))) .nil
theorem zbp : Sd G W0 213 YW := gs (k1 (ve hG) (k1 (Zl hG) .nil)) .nil
theorem zap : Sd G W0 214 ZS := gs (k1 (xx hG) (k1 (WQ hG) .nil)) .nil
theorem zj2 : Sd G W0 198 zfg := gs (k2 (zi8 hG) (k2 (zjb hG) (k2 (ziE hG) (k2 (zin hG) (.skip _ _ (k1 (Ud hG) (k1 (zbr hG) (k1 (zd9 hG) (k1 (U3 hG) (k1 (zcW hG) (k1 (zau hG) (k1 (zb1 hG) (k1 (zbq hG) (k1 (zbs hG) (k1 (zbK hG) (k1 (zb6 hG) (k1 (zb7 hG) (k1 (zbp hG) (k1 (zap hG) .nil))))))))))))))))))) .nil
theorem zcc : Sd G W0 185 XH := gs (k1 (vC hG) (k1 (zj2 hG) .nil)) .nil
theorem zbP : Sd G W0 186 Xx := gs (k1 (vC hG) .nil) .nil
theorem zcN : Sd G W0 190 zaU := gs (k1 (Yc hG) .nil) .nil
theorem Xe : Sd G W0 191 XT := gs .nil .nil
theorem zb5 : Sd G W0 171 Xz := gs (k1 (zcN hG) (k1 (Xe hG) .nil)) .nil
theorem zdo : Sd G W0 172 WI := gs (k1 (zbx hG) (k1 (Xe hG) .nil)) .nil
theorem zbn : Sd G W0 173 YO := gs (k1 (zcX hG) (k1 (Yc hG) (k1 (Xe hG) .nil))) .nil
theorem zaq : Sd G W0 174 ZT := gs (k1 (zcN hG) (k1 (Xe hG) .nil)) .nil
theorem Xg : Sd G W0 148 XP := gs (k1 (zb5 hG) (k1 (zdo hG) (k1 (zbn hG) (k1 (zaq hG) .nil)))) .nil
theorem zcb : Sd G W0 187 Xm := gs (k1 (Xg hG) (k1 (vC hG) .nil)) .nil
theorem un : Sd G W0 54 wP := gs .nil .nil
theorem zb3 : Sd G W0 188 XE := gs (k1 (Y2 hG) (k1 (Xh hG) (k1 (un hG) (k1 (Vd hG) .nil)))) .nil
theorem zav : Sd G W0 189 Z5 := gs (k1 (Xg hG) .nil) .nil
theorem zls : Sd G W0 162 zhn := gs (k1 (zat hG) (k1 (zbU hG) (k1 (zbS hG) (k1 (zcc hG) (k1 (zbP hG) (k1 (zcb hG) (k1 (zb3 hG) (k1 (zav hG) .nil)))))))) .nil
theorem XJ : Sd G W0 140 uW := gs (k1 (zls hG) .nil) .nil
theorem zbR : Sd G W0 98 XC := gs (k1 (XJ hG) .nil) .nil
theorem V2 : Sd G W0 53 XO := gs .nil .nil
theorem zfI : Sd G W0 12 zei := gs (k1 (V2 hG) .nil) .nil
theorem Vy : Sd G W0 141 Xd := gs (k1 (zfI hG) (k1 (wL hG) .nil)) .nil
theorem zc6 : Sd G W0 99 Wc := gs (k1 (wL hG) (k1 (ZB hG) (k1 (Vy hG) .nil))) .nil
theorem zdJ : Sd G W0 100 Wx := gs (k1 (wL hG) (k1 (Vy hG) (k1 (vA hG) .nil))) .nil
theorem zgH : Sd G W0 21 zgx := gs (k1 (zgE hG) .nil) .nil
theorem zbW : Sd G W0 101 Xr := gs (k1 (zgH hG) .nil) .nil
theorem zar : Sd G W0 102 ZX := gs (k1 (xd hG) .nil) .nil
theorem zlM : Sd G W0 13 zi4 := gs (k1 (xd hG) (k1 (V2 hG) (k1 (un hG) .nil))) .nil
theorem zcl : Sd G W0 103 Xn := gs (k1 (zlM hG) (k1 (wL hG) (k1 (vA hG) .nil))) .nil
theorem zbh : Sd G W0 55 Yz := gs .nil .nil
theorem zkK : Sd G W0 14 zfl := gs (k1 (VG hG) (k1 (zbh hG) .nil)) .nil
theorem Zo : Sd G W0 167 ub := gs .nil .nil
theorem XV : Sd G W0 169 Zg := gs (k1 (Zo hG) .nil) .nil
theorem zc2 : Sd G W0 163 zbc := gs (k1 (XV hG) .nil) .nil
theorem zg1 : Sd G W0 165 UV := gs .nil .nil
theorem YS : Sd G W0 164 wz := gs (k1 (zg1 hG) .nil) .nil
theorem ziy : Sd G W0 143 zbO := gs (k1 (zc2 hG) (k1 (YS hG) .nil)) .nil
theorem zdP : Sd G W0 150 zcF := gs (k1 (zgH hG) (k1 (Vk hG) .nil)) .nil
theorem zkx : Sd G W0 144 zfN := gs (k1 (zdP hG) (k1 (zcR hG) .nil)) .nil
theorem zcj : Sd G W0 104 Xq := gs (k1 (zkK hG) (k1 (wL hG) (k1 (ZB hG) (k1 (vA hG) (k1 (ziy hG) (k1 (zkx hG) .nil)))))) .nil
theorem zhT : Sd G W0 168 zaZ := gs .nil .nil
theorem Xb : Sd G W0 164 wJ := gs (k1 (zhT hG) .nil) .nil
theorem zjE : Sd G W0 145 zdp := gs (k1 (Xb hG) (k1 (Zo hG) .nil)) .nil
theorem zi3 : Sd G W0 146 zbL := gs (k1 (zc2 hG) (k1 (XV hG) .nil)) .nil
theorem Wp : Sd G W0 147 Zw := gs (k1 (Xh hG) (k1 (Vd hG) .nil)) .nil
theorem zda : Sd G W0 105 Wj := gs (k1 (Y2 hG) (k1 (zjE hG) (k1 (zi3 hG) (k1 (Wp hG) .nil)))) .nil
theorem zdi : Sd G W0 106 Wz := gs (k1 (Xg hG) .nil) .nil
theorem zbV : Sd G W0 107 XG := gs (k1 (YH hG) (k1 (un hG) (k1 (Wp hG) .nil))) .nil
theorem zc0 : Sd G W0 108 X9 := gs (k1 (Xg hG) .nil) .nil
theorem zbM : Sd G W0 109 XA := gs .nil .nil
theorem Ur : Sd G W0 149 WB := gs .nil .nil
theorem zc4 : Sd G W0 110 X8 := gs (k1 (zfI hG) (k1 (zcM hG) (k1 (Ur hG) .nil))) .nil
theorem zdn : Sd G W0 111 Wt := gs (k1 (XJ hG) (k1 (Ur hG) .nil)) .nil
theorem zh6 : Sd G W0 175 zaI := gs .nil .nil
theorem Y9 : Sd G W0 164 wH := gs (k1 (zh6 hG) .nil) .nil
theorem zjw : Sd G W0 151 zdh := gs (k1 (Y9 hG) (k1 (Zo hG) .nil)) .nil
theorem za7 : Sd G W0 112 Yq := gs (k1 (zdP hG) (k1 (zjw hG) .nil)) .nil
theorem zba : Sd G W0 113 YB := gs .nil .nil
theorem zcZ : Sd G W0 56 We := gs (k1 (zcm hG) (k1 (zbY hG) (k1 (zdD hG) (k1 (zbR hG) (k1 (zc6 hG) (k1 (zdJ hG) (k1 (zbW hG) (k1 (zar hG) (k1 (zcl hG) (k1 (zcj hG) (k1 (zda hG) (k1 (zdi hG) (k1 (zbV hG) (k1 (zc0 hG) (k1 (zbM hG) (k1 (zc4 hG) (k1 (zdn hG) (k1 (za7 hG) (k1 (zba hG) .nil))))))))))))))))))) .nil
theorem Yd : Sd G W0 57 wb := gs .nil .nil
theorem WC : Sd G W0 16 XY := gs (k1 (zcZ hG) (k1 (Yd hG) .nil)) .nil
theorem w9 : Sd G W0 59 wx := gs .nil .nil
theorem yu : Sd G W0 58 zM := gs (k1 (w9 hG) .nil) .nil
theorem V9 : Sd G W0 17 Uj := gs (k1 (yu hG) .nil) .nil
theorem zd4 : Sd G W0 116 W6 := gs .nil .nil
theorem Vq : Sd G W0 118 ul := gs .nil .nil
theorem xF : Sd G W0 117 z6 := gs (k1 (Vq hG) .nil) .nil
theorem Wo : Sd G W0 119 vp := gs .nil .nil
theorem zld : Sd G W0 64 zg4 := gs (k1 (V9 hG) (k1 (yu hG) (k1 (zd4 hG) (k1 (xF hG) (k1 (Wo hG) .nil))))) .nil
theorem VT : Sd G W0 120 uO := gs .nil .nil
theorem zl8 : Sd G W0 65 ziA := gs (k1 (VT hG) .nil) .nil
theorem UH : Sd G W0 121 Zj := gs .nil .nil
theorem zjA : Sd G W0 66 zdj := gs (k1 (UH hG) .nil) .nil
theorem zeo : Sd G W0 68 W4 := gs (k1 (w9 hG) .nil) .nil
theorem xq : Sd G W0 67 zS := gs (k1 (zeo hG) .nil) .nil
theorem zce : Sd G W0 122 Xy := gs .nil .nil
theorem zdC : Sd G W0 70 Wy := gs (k1 (w9 hG) (k1 (zce hG) .nil)) .nil
theorem yU : Sd G W0 69 zL := gs (k1 (zdC hG) .nil) .nil
theorem zkL : Sd G W0 22 zfq := gs (k1 (V9 hG) (k1 (yu hG) (k1 (w9 hG) (k1 (zld hG) (k1 (zl8 hG) (k1 (zjA hG) (k1 (xq hG) (k1 (yU hG) .nil)))))))) .nil
theorem zfS : Sd G W0 31 Vr := gs .nil .nil
theorem zfx : Sd G W0 32 VH := gs (k1 (WC hG) .nil) .nil
theorem zlb : Sd G W0 33 zhr := gs (k1 (VG hG) (k1 (zr2 hG) (k1 (zr7 hG) .nil))) .nil
theorem zc9 : Sd G W0 9 Wb := gs (k1 (zdM hG) (k1 (zhq hG) (k1 (WC hG) (k1 (zkL hG) (k1 (zfS hG) (k1 (zfx hG) (k1 (zlb hG) .nil))))))) .nil
theorem Yw : Sd G W0 34 vO := gs .nil .nil
theorem zaH : Sd G W0 36 YA := gs (k1 (Yw hG) .nil) .nil
theorem zf5 : Sd G W0 10 V4 := gs (k1 (Yw hG) (k1 (Vk hG) (k1 (zaH hG) .nil))) .nil
theorem zgn : Sd G W0 18 Ua := gs (k1 (WC hG) .nil) .nil
theorem Uy : Sd G W0 4 Zn := gs (k1 (zc9 hG) (k1 (zf5 hG) (k1 (zdM hG) (k1 (V9 hG) (k1 (zgn hG) .nil))))) .nil
end Go.Pe.G
