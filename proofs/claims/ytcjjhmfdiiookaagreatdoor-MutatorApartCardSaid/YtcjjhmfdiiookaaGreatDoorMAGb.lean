/- Own work of this seat: G4e, G4f, EQ, G2i, GH, G3. -/
import Derived.Test.YtcjjhmfdiiookaaGreatDoorMAGa
set_option linter.unusedVariables false
set_option linter.unusedSectionVars false
set_option linter.unusedSimpArgs false
set_option linter.unnecessarySimpa false
set_option linter.deprecated false
set_option maxRecDepth 100000
namespace Go.Pe.G
open Go.Pe
theorem VS (s1 : Int) (s2 : Int) (s3 : Int) (s4 : zc) (s5 : Int) (s6 : Int) (s7 : Int) (s8 : Int) (s9 : Int) (s10 : Int) (s11 : Int) (s12 : Int) (s13 : Int) (s14 : BitVec 64) (s15 : Int) (s16 : zq) (s17 : Int) (s18 : Int) (s19 : Bool) (s20 : Bool) (s21 : Int) (s22 : Int) (s23 : Int) (s24 : Int) (s25 : zp) (s26 : List (List Int)) (s27 : List (List Int)) (s28 : List (List zh)) (s29 : List zj) (s30 : List (List Int)) (s31 : List (BitVec 64)) (s32 : List (List Int)) (s33 : List Int) (s34 : List Int) (s35 : List zi) (s36 : List za) : uv (s1, s2, s3, s4, s5, s6, s7, s8, s9, s10, s11, s12, s13, s14, s15, s16, s17, s18, s19, s20, s21, s22, s23, s24, s25, s26, s27, s28, s29, s30, s31, s32, s33, s34, s35, s36, ()) =
 bif decide (s3 < s2) then
  (Yt s4 s1).bind fun y1 =>
  some (.again (s1, s2, w64 (s3 + 1), y1.1, s5, s6, s7, s8, s9, s10, s11, s12, s13, s14, s15, s16, s17, s18, s19, s20, s21, s22, s23, s24, s25, s26, s27, s28, s29, s30, s31, s32, s33, s34, s35, s36, ()))
 else
  some (.brk (s4, s5, s6, s7, s8, s9, s10, s11, s12, s13, s14, s15, s16, s17, s18, s19, s20, s21, s22, s23, s24, s25, s26, s27, s28, s29, s30, s31, s32, s33, s34, s35, s36, ())) := by kernel_rfl
theorem zik (a1 : zc) (a2 : Int) (a3 : Int) : yj a1 a2 a3 =
 (ym uv (a2, a3, 0, a1, 0, 0, 0, 0, 0, 0, 0, 0, 0, 0#64, 0, zq.mk 0#64 0#64, 0, 0, false, false, 0, 0, 0, 0, zp.mk 0 0, ([] : List (List Int)), ([] : List (List Int)), ([] : List (List zh)), ([] : List zj), ([] : List (List Int)), ([] : List (BitVec 64)), ([] : List (List Int)), ([] : List Int), ([] : List Int), ([] : List zi), ([] : List za), ())).bind fun st => match st with
   | .again _ => none
   | .brk y1 =>
   some (y1.1, ())
   | .ret y1 =>
   none := zm (by kernel_rfl)
theorem zeg (s1 : ByteArray) (s2 : List (List Int)) (s3 : Int) (s4 : Int) : zb5 (s1, s2, s3, s4, ()) =
 bif decide (s4 < s3) then
  (idx s2 s4).bind fun x1 =>
  (ym zcg (s1, s2, s3, s4, x1, (x1.length : Int), 0, ([] : List ByteArray), ())).bind fun st => match st with
    | .again _ => none
    | .brk y2 =>
    (ztx y2.2.2.2.2.1 (ByteArray.mk #[44])).bind fun y3 =>
    bif decide ((ByteArray.mk #[124]).size + y3.1.size < 4294967296) then
     bif decide (y2.1.size + ((ByteArray.mk #[124]) ++ y3.1).size < 4294967296) then
      some (.again (y2.1 ++ ((ByteArray.mk #[124]) ++ y3.1), y2.2.1, y2.2.2.1, w64 (y2.2.2.2.1 + 1), ()))
     else
      none
    else
     none
    | .ret y2 =>
    some (.ret (()))
 else
  some (.brk (s1, ())) := by kernel_rfl
theorem zek (s1 : ByteArray) (s2 : List (List Int)) (s3 : Int) (s4 : Int) (s5 : List Int) (s6 : Int) (s7 : Int) (s8 : List ByteArray) : zcg (s1, s2, s3, s4, s5, s6, s7, s8, ()) =
 bif decide (s7 < s6) then
  (idx s5 s7).bind fun x1 =>
  (zqG x1).bind fun y2 =>
  (xX (s8 ++ ([y2.1] : List ByteArray))).bind fun l3 =>
  some (.again (s1, s2, s3, s4, s5, s6, w64 (s7 + 1), l3, ()))
 else
  some (.brk (s1, s2, s3, s4, s8, ())) := by kernel_rfl
theorem zpl (a1 : zu) : UV a1 =
 (WC a1).bind fun y1 =>
 bif !y1.1 then
  some (ByteArray.mk #[63], ())
 else
  (zqG a1.Slots).bind fun y2 =>
  (ym zb5 (y2.1, a1.Objs, (a1.Objs.length : Int), 0, ())).bind fun st => match st with
    | .again _ => none
    | .brk y3 =>
    some (y3.1, ())
    | .ret y3 =>
    none := zm (by kernel_rfl)
theorem zgh  : Wy  =
 (Xs (([(([(zh.mk 1 1 0 0), (zh.mk 5 1 0 0), (zh.mk 2 1 0 0)] : List zh))] : List (List zh)))).bind fun y1 =>
 (UX y1.1).bind fun y2 =>
 (yj y2.1 1 2).bind fun y3 =>
 (yj y2.1 1 7).bind fun y4 =>
 (yj y2.1 1 8).bind fun y5 =>
 (yj y2.1 1 99).bind fun y6 =>
 (Xs (([(([(zh.mk 3 1 0 0), (zh.mk 3 1 0 0)] : List zh))] : List (List zh)))).bind fun y7 =>
 (UX y7.1).bind fun y8 =>
 (yj y8.1 1 2).bind fun y9 =>
 (yj y8.1 1 5).bind fun y10 =>
 (yj y8.1 1 60).bind fun y11 =>
 bif !(decide (((y2.1.Ms.length : Int)) = 1)) then
  some (false, ())
 else
  bif !(decide (((y3.1.Ms.length : Int)) = 1)) then
   some (false, ())
  else
   bif !(decide (((y4.1.Ms.length : Int)) = 1)) then
    some (false, ())
   else
    bif !(decide (((y5.1.Ms.length : Int)) = 1)) then
     some (false, ())
    else
     bif !(decide (((y6.1.Ms.length : Int)) = 1)) then
      some (false, ())
     else
      bif !(decide (((y9.1.Ms.length : Int)) = 1)) then
       some (false, ())
      else
       bif !(decide (((y10.1.Ms.length : Int)) = 1)) then
        some (false, ())
       else
        bif !(decide (((y11.1.Ms.length : Int)) = 1)) then
         some (false, ())
        else
         (idx y3.1.Ms 0).bind fun x12 =>
         (idx x12.Regs 1).bind fun x13 =>
         bif decide (x13 = 2) then
          (idx y3.1.Ms 0).bind fun x14 =>
          bif decide (x14.IP = 1) then
           (idx y4.1.Ms 0).bind fun x15 =>
           bif decide (x15.PC = 23) then
            (idx y4.1.Ms 0).bind fun x16 =>
            bif decide (((x16.Buf.length : Int)) = 1) then
             (idx y4.1.Ms 0).bind fun x17 =>
             (idx x17.Buf 0).bind fun x18 =>
             bif decide (x18 = 2) then
              (UV y4.1.H).bind fun y19 =>
              bif decide (y19.1 = (ByteArray.mk #[49, 124, 50, 124, 48, 124, 48])) then
               (UV y5.1.H).bind fun y20 =>
               bif decide (y20.1 = (ByteArray.mk #[49, 124, 48, 124, 48, 124, 48])) then
                (WZ y6.1 1).bind fun y21 =>
                bif y21.1 then
                 (WZ y4.1 1).bind fun y22 =>
                 bif !y22.1 then
                  (WZ y6.1 2).bind fun y23 =>
                  bif !y23.1 then
                   (Yt y6.1 1).bind fun y24 =>
                   (Wc y6.1 y24.1).bind fun y25 =>
                   bif y25.1 then
                    (UV y9.1.H).bind fun y26 =>
                    bif decide (y26.1 = (ByteArray.mk #[49, 124, 50, 124, 48, 124, 48, 124, 48])) then
                     (idx y9.1.Ms 0).bind fun x27 =>
                     (idx x27.Regs 1).bind fun x28 =>
                     bif decide (x28 = 4) then
                      bif (decide (y9.1.T.Marks = 9#64)) && (decide (y9.1.T.Black = 8#64)) then
                       (idx y9.1.L.Bal 0).bind fun x29 =>
                       bif decide (x29 = (-2)) then
                        bif decide (y9.1.L.Spent = 2) then
                         (idx y10.1.Ms 0).bind fun x30 =>
                         bif decide (x30.PC = 32) then
                          bif decide (y11.1.L.Scanned = 2) then
                           some (decide (y11.1.T.Black = 11#64), ())
                          else
                           some (false, ())
                         else
                          some (false, ())
                        else
                         some (false, ())
                       else
                        some (false, ())
                      else
                       some (false, ())
                     else
                      some (false, ())
                    else
                     some (false, ())
                   else
                    some (false, ())
                  else
                   some (false, ())
                 else
                  some (false, ())
                else
                 some (false, ())
               else
                some (false, ())
              else
               some (false, ())
             else
              some (false, ())
            else
             some (false, ())
           else
            some (false, ())
          else
           some (false, ())
         else
          some (false, ()) := zm (by kernel_rfl)
theorem zbK (a1 : zy) : zt a1 =
 bif decide (((a1.L.length : Int)) ≤ a1.At) then
  some (0, a1, ())
 else
  (idx a1.L (w64 ((w64 (a1.At + 1)) - 1))).bind fun x1 =>
  some ((x1.toNat : Int), { a1 with At := w64 (a1.At + 1) }, ()) := zm (by kernel_rfl)
theorem zdr (a1 : Int) (a2 : Int) (a3 : zy) : YY a1 a2 a3 =
 (zt a3).bind fun y1 =>
 (y0 ([1, 1, 2, 2, 2, 3, 4, 5] : List Int) (y1.1.tmod 8)).bind fun n2 =>
 (([1, 1, 2, 2, 2, 3, 4, 5] : List Int)[n2]?).bind fun x3 =>
 (zt y1.2.1).bind fun y4 =>
 bif decide (a1 = 0) then
  none
 else
  bif decide (x3 = 1) then
   (zt y4.2.1).bind fun y5 =>
   bif decide (a1 = 0) then
    none
   else
    bif decide (x3 < 3) then
     (zt y5.2.1).bind fun y6 =>
     bif decide (a2 = 0) then
      none
     else
      some (zh.mk x3 (y4.1.tmod a1) (y5.1.tmod a1) (y6.1.tmod a2), y6.2.1, ())
    else
     some (zh.mk x3 (y4.1.tmod a1) (y5.1.tmod a1) 0, y5.2.1, ())
  else
   bif decide (x3 = 2) then
    (zt y4.2.1).bind fun y7 =>
    bif decide (a1 = 0) then
     none
    else
     bif decide (x3 < 3) then
      (zt y7.2.1).bind fun y8 =>
      bif decide (a2 = 0) then
       none
      else
       some (zh.mk x3 (y4.1.tmod a1) (y7.1.tmod a1) (y8.1.tmod a2), y8.2.1, ())
     else
      some (zh.mk x3 (y4.1.tmod a1) (y7.1.tmod a1) 0, y7.2.1, ())
   else
    bif decide (x3 = 4) then
     (zt y4.2.1).bind fun y9 =>
     bif decide (a1 = 0) then
      none
     else
      bif decide (x3 < 3) then
       (zt y9.2.1).bind fun y10 =>
       bif decide (a2 = 0) then
        none
       else
        some (zh.mk x3 (y4.1.tmod a1) (y9.1.tmod a1) (y10.1.tmod a2), y10.2.1, ())
      else
       some (zh.mk x3 (y4.1.tmod a1) (y9.1.tmod a1) 0, y9.2.1, ())
    else
     bif decide (x3 < 3) then
      (zt y4.2.1).bind fun y11 =>
      bif decide (a2 = 0) then
       none
      else
       some (zh.mk x3 (y4.1.tmod a1) 0 (y11.1.tmod a2), y11.2.1, ())
     else
      some (zh.mk x3 (y4.1.tmod a1) 0 0, y4.2.1, ()) := zm (by kernel_rfl)
theorem zgJ (s1 : Int) (s2 : Int) (s3 : Int) (s4 : Int) (s5 : Int) (s6 : Int) (s7 : Int) (s8 : Int) (s9 : Int) (s10 : Int) (s11 : Int) (s12 : BitVec 64) (s13 : zy) (s14 : Int) (s15 : Int) (s16 : Int) (s17 : Int) (s18 : Int) (s19 : Int) (s20 : Int) (s21 : Int) (s22 : Int) (s23 : BitVec 64) (s24 : List (List Int)) (s25 : List (List Int)) (s26 : List (List zh)) (s27 : List zj) (s28 : List (List Int)) (s29 : List (List Int)) (s30 : List (List zh)) (s31 : List zj) : Yi (s1, s2, s3, s4, s5, s6, s7, s8, s9, s10, s11, s12, s13, s14, s15, s16, s17, s18, s19, s20, s21, s22, s23, s24, s25, s26, s27, s28, s29, s30, s31, ()) =
 bif decide (s2 < s1) then
  (ym ZI (s1, s2, 0, s3, s4, s5, s6, s7, s8, s9, s10, s11, s12, s13, s14, s15, s16, s17, s18, s19, s20, s21, s22, s23, ([] : List Int), s24, s25, s26, s27, s28, s29, s30, s31, ())).bind fun st => match st with
    | .again _ => none
    | .brk y1 =>
    (xX (y1.2.2.2.2.2.2.2.2.2.2.2.2.2.2.2.2.2.2.2.2.2.2.2.2.2.2.2.2.1 ++ (([y1.2.2.2.2.2.2.2.2.2.2.2.2.2.2.2.2.2.2.2.2.2.2.2.1] : List (List Int))))).bind fun l2 =>
    some (.again (y1.1, w64 (y1.2.1 + 1), y1.2.2.1, y1.2.2.2.1, y1.2.2.2.2.1, y1.2.2.2.2.2.1, y1.2.2.2.2.2.2.1, y1.2.2.2.2.2.2.2.1, y1.2.2.2.2.2.2.2.2.1, y1.2.2.2.2.2.2.2.2.2.1, y1.2.2.2.2.2.2.2.2.2.2.1, y1.2.2.2.2.2.2.2.2.2.2.2.1, y1.2.2.2.2.2.2.2.2.2.2.2.2.1, y1.2.2.2.2.2.2.2.2.2.2.2.2.2.1, y1.2.2.2.2.2.2.2.2.2.2.2.2.2.2.1, y1.2.2.2.2.2.2.2.2.2.2.2.2.2.2.2.1, y1.2.2.2.2.2.2.2.2.2.2.2.2.2.2.2.2.1, y1.2.2.2.2.2.2.2.2.2.2.2.2.2.2.2.2.2.1, y1.2.2.2.2.2.2.2.2.2.2.2.2.2.2.2.2.2.2.1, y1.2.2.2.2.2.2.2.2.2.2.2.2.2.2.2.2.2.2.2.1, y1.2.2.2.2.2.2.2.2.2.2.2.2.2.2.2.2.2.2.2.2.1, y1.2.2.2.2.2.2.2.2.2.2.2.2.2.2.2.2.2.2.2.2.2.1, y1.2.2.2.2.2.2.2.2.2.2.2.2.2.2.2.2.2.2.2.2.2.2.1, y1.2.2.2.2.2.2.2.2.2.2.2.2.2.2.2.2.2.2.2.2.2.2.2.2.1, y1.2.2.2.2.2.2.2.2.2.2.2.2.2.2.2.2.2.2.2.2.2.2.2.2.2.1, y1.2.2.2.2.2.2.2.2.2.2.2.2.2.2.2.2.2.2.2.2.2.2.2.2.2.2.1, y1.2.2.2.2.2.2.2.2.2.2.2.2.2.2.2.2.2.2.2.2.2.2.2.2.2.2.2.1, l2, y1.2.2.2.2.2.2.2.2.2.2.2.2.2.2.2.2.2.2.2.2.2.2.2.2.2.2.2.2.2.1, y1.2.2.2.2.2.2.2.2.2.2.2.2.2.2.2.2.2.2.2.2.2.2.2.2.2.2.2.2.2.2.1, y1.2.2.2.2.2.2.2.2.2.2.2.2.2.2.2.2.2.2.2.2.2.2.2.2.2.2.2.2.2.2.2.1, ()))
    | .ret y1 =>
    some (.ret (()))
 else
  some (.brk (s1, s3, s4, s5, s6, s7, s8, s9, s10, s11, s12, s13, s14, s15, s16, s17, s18, s19, s20, s21, s22, s23, s24, s25, s26, s27, s28, s29, s30, s31, ())) := by kernel_rfl
theorem zgn (s1 : Int) (s2 : Int) (s3 : Int) (s4 : Int) (s5 : Int) (s6 : Int) (s7 : Int) (s8 : Int) (s9 : Int) (s10 : Int) (s11 : Int) (s12 : Int) (s13 : BitVec 64) (s14 : zy) (s15 : Int) (s16 : Int) (s17 : Int) (s18 : Int) (s19 : Int) (s20 : Int) (s21 : Int) (s22 : Int) (s23 : Int) (s24 : BitVec 64) (s25 : List Int) (s26 : List (List Int)) (s27 : List (List Int)) (s28 : List (List zh)) (s29 : List zj) (s30 : List (List Int)) (s31 : List (List Int)) (s32 : List (List zh)) (s33 : List zj) : ZI (s1, s2, s3, s4, s5, s6, s7, s8, s9, s10, s11, s12, s13, s14, s15, s16, s17, s18, s19, s20, s21, s22, s23, s24, s25, s26, s27, s28, s29, s30, s31, s32, s33, ()) =
 bif decide (s3 < s23) then
  (zt s14).bind fun y1 =>
  bif decide ((w64 (s1 + 1)) = 0) then
   none
  else
   (xX (s25 ++ (([(y1.1.tmod (w64 (s1 + 1)))] : List Int)))).bind fun l2 =>
   some (.again (s1, s2, w64 (s3 + 1), s4, s5, s6, s7, s8, s9, s10, s11, s12, s13, y1.2.1, s15, s16, s17, s18, s19, s20, s21, s22, s23, s24, l2, s26, s27, s28, s29, s30, s31, s32, s33, ()))
 else
  some (.brk (s1, s2, s4, s5, s6, s7, s8, s9, s10, s11, s12, s13, s14, s15, s16, s17, s18, s19, s20, s21, s22, s23, s24, s25, s26, s27, s28, s29, s30, s31, s32, s33, ())) := by kernel_rfl
theorem zf2 (s1 : Int) (s2 : Int) (s3 : Int) (s4 : Int) (s5 : Int) (s6 : Int) (s7 : Int) (s8 : Int) (s9 : Int) (s10 : Int) (s11 : Int) (s12 : BitVec 64) (s13 : zy) (s14 : Int) (s15 : Int) (s16 : Int) (s17 : Int) (s18 : Int) (s19 : Int) (s20 : Int) (s21 : Int) (s22 : Int) (s23 : BitVec 64) (s24 : List (List Int)) (s25 : List (List Int)) (s26 : List (List zh)) (s27 : List zj) (s28 : List (List Int)) (s29 : List (List Int)) (s30 : List (List zh)) (s31 : List zj) : ZN (s1, s2, s3, s4, s5, s6, s7, s8, s9, s10, s11, s12, s13, s14, s15, s16, s17, s18, s19, s20, s21, s22, s23, s24, s25, s26, s27, s28, s29, s30, s31, ()) =
 bif decide (s2 < s15) then
  (ym ZM (s1, s2, 0, s3, s4, s5, s6, s7, s8, s9, s10, s11, s12, s13, s14, s15, s16, s17, s18, s19, s20, s21, s22, s23, ([] : List Int), s24, s25, s26, s27, s28, s29, s30, s31, ())).bind fun st => match st with
    | .again _ => none
    | .brk y1 =>
    bif decide (((y1.2.2.2.2.2.2.2.2.2.2.2.2.2.2.2.2.2.2.2.2.2.2.2.1.length : Int)) = 0) then
     (zt y1.2.2.2.2.2.2.2.2.2.2.2.2.1).bind fun y2 =>
     (ym um (y1.1, y1.2.1, y2.1.tmod 8, y1.2.2.1, y1.2.2.2.1, y1.2.2.2.2.1, y1.2.2.2.2.2.1, y1.2.2.2.2.2.2.1, y1.2.2.2.2.2.2.2.1, y1.2.2.2.2.2.2.2.2.1, y1.2.2.2.2.2.2.2.2.2.1, y1.2.2.2.2.2.2.2.2.2.2.1, y1.2.2.2.2.2.2.2.2.2.2.2.1, y2.2.1, y1.2.2.2.2.2.2.2.2.2.2.2.2.2.1, y1.2.2.2.2.2.2.2.2.2.2.2.2.2.2.1, y1.2.2.2.2.2.2.2.2.2.2.2.2.2.2.2.1, y1.2.2.2.2.2.2.2.2.2.2.2.2.2.2.2.2.1, y1.2.2.2.2.2.2.2.2.2.2.2.2.2.2.2.2.2.1, y1.2.2.2.2.2.2.2.2.2.2.2.2.2.2.2.2.2.2.1, y1.2.2.2.2.2.2.2.2.2.2.2.2.2.2.2.2.2.2.2.1, y1.2.2.2.2.2.2.2.2.2.2.2.2.2.2.2.2.2.2.2.2.1, y1.2.2.2.2.2.2.2.2.2.2.2.2.2.2.2.2.2.2.2.2.2.1, y1.2.2.2.2.2.2.2.2.2.2.2.2.2.2.2.2.2.2.2.2.2.2.1, ([0] : List Int), ([] : List zh), y1.2.2.2.2.2.2.2.2.2.2.2.2.2.2.2.2.2.2.2.2.2.2.2.2.1, y1.2.2.2.2.2.2.2.2.2.2.2.2.2.2.2.2.2.2.2.2.2.2.2.2.2.1, y1.2.2.2.2.2.2.2.2.2.2.2.2.2.2.2.2.2.2.2.2.2.2.2.2.2.2.1, y1.2.2.2.2.2.2.2.2.2.2.2.2.2.2.2.2.2.2.2.2.2.2.2.2.2.2.2.1, y1.2.2.2.2.2.2.2.2.2.2.2.2.2.2.2.2.2.2.2.2.2.2.2.2.2.2.2.2.1, y1.2.2.2.2.2.2.2.2.2.2.2.2.2.2.2.2.2.2.2.2.2.2.2.2.2.2.2.2.2.1, y1.2.2.2.2.2.2.2.2.2.2.2.2.2.2.2.2.2.2.2.2.2.2.2.2.2.2.2.2.2.2.1, y1.2.2.2.2.2.2.2.2.2.2.2.2.2.2.2.2.2.2.2.2.2.2.2.2.2.2.2.2.2.2.2.1, ())).bind fun st => match st with
       | .again _ => none
       | .brk y3 =>
       (xX (y3.2.2.2.2.2.2.2.2.2.2.2.2.2.2.2.2.2.2.2.2.2.2.2.2.2.2.2.2.2.2.1 ++ (([y3.2.2.2.2.2.2.2.2.2.2.2.2.2.2.2.2.2.2.2.2.2.2.2.1] : List (List Int))))).bind fun l4 =>
       (xX (y3.2.2.2.2.2.2.2.2.2.2.2.2.2.2.2.2.2.2.2.2.2.2.2.2.2.2.2.2.2.2.2.1 ++ (([y3.2.2.2.2.2.2.2.2.2.2.2.2.2.2.2.2.2.2.2.2.2.2.2.2.1] : List (List zh))))).bind fun l5 =>
       some (.again (y3.1, w64 (y3.2.1 + 1), y3.2.2.1, y3.2.2.2.1, y3.2.2.2.2.1, y3.2.2.2.2.2.1, y3.2.2.2.2.2.2.1, y3.2.2.2.2.2.2.2.1, y3.2.2.2.2.2.2.2.2.1, y3.2.2.2.2.2.2.2.2.2.1, y3.2.2.2.2.2.2.2.2.2.2.1, y3.2.2.2.2.2.2.2.2.2.2.2.1, y3.2.2.2.2.2.2.2.2.2.2.2.2.1, y3.2.2.2.2.2.2.2.2.2.2.2.2.2.1, y3.2.2.2.2.2.2.2.2.2.2.2.2.2.2.1, y3.2.2.2.2.2.2.2.2.2.2.2.2.2.2.2.1, y3.2.2.2.2.2.2.2.2.2.2.2.2.2.2.2.2.1, y3.2.2.2.2.2.2.2.2.2.2.2.2.2.2.2.2.2.1, y3.2.2.2.2.2.2.2.2.2.2.2.2.2.2.2.2.2.2.1, y3.2.2.2.2.2.2.2.2.2.2.2.2.2.2.2.2.2.2.2.1, y3.2.2.2.2.2.2.2.2.2.2.2.2.2.2.2.2.2.2.2.2.1, y3.2.2.2.2.2.2.2.2.2.2.2.2.2.2.2.2.2.2.2.2.2.1, y3.2.2.2.2.2.2.2.2.2.2.2.2.2.2.2.2.2.2.2.2.2.2.1, y3.2.2.2.2.2.2.2.2.2.2.2.2.2.2.2.2.2.2.2.2.2.2.2.2.2.1, y3.2.2.2.2.2.2.2.2.2.2.2.2.2.2.2.2.2.2.2.2.2.2.2.2.2.2.1, y3.2.2.2.2.2.2.2.2.2.2.2.2.2.2.2.2.2.2.2.2.2.2.2.2.2.2.2.1, y3.2.2.2.2.2.2.2.2.2.2.2.2.2.2.2.2.2.2.2.2.2.2.2.2.2.2.2.2.1, y3.2.2.2.2.2.2.2.2.2.2.2.2.2.2.2.2.2.2.2.2.2.2.2.2.2.2.2.2.2.1, l4, l5, y3.2.2.2.2.2.2.2.2.2.2.2.2.2.2.2.2.2.2.2.2.2.2.2.2.2.2.2.2.2.2.2.2.1, ()))
       | .ret y3 =>
       some (.ret (()))
    else
     (zt y1.2.2.2.2.2.2.2.2.2.2.2.2.1).bind fun y6 =>
     (ym um (y1.1, y1.2.1, y6.1.tmod 8, y1.2.2.1, y1.2.2.2.1, y1.2.2.2.2.1, y1.2.2.2.2.2.1, y1.2.2.2.2.2.2.1, y1.2.2.2.2.2.2.2.1, y1.2.2.2.2.2.2.2.2.1, y1.2.2.2.2.2.2.2.2.2.1, y1.2.2.2.2.2.2.2.2.2.2.1, y1.2.2.2.2.2.2.2.2.2.2.2.1, y6.2.1, y1.2.2.2.2.2.2.2.2.2.2.2.2.2.1, y1.2.2.2.2.2.2.2.2.2.2.2.2.2.2.1, y1.2.2.2.2.2.2.2.2.2.2.2.2.2.2.2.1, y1.2.2.2.2.2.2.2.2.2.2.2.2.2.2.2.2.1, y1.2.2.2.2.2.2.2.2.2.2.2.2.2.2.2.2.2.1, y1.2.2.2.2.2.2.2.2.2.2.2.2.2.2.2.2.2.2.1, y1.2.2.2.2.2.2.2.2.2.2.2.2.2.2.2.2.2.2.2.1, y1.2.2.2.2.2.2.2.2.2.2.2.2.2.2.2.2.2.2.2.2.1, y1.2.2.2.2.2.2.2.2.2.2.2.2.2.2.2.2.2.2.2.2.2.1, y1.2.2.2.2.2.2.2.2.2.2.2.2.2.2.2.2.2.2.2.2.2.2.1, y1.2.2.2.2.2.2.2.2.2.2.2.2.2.2.2.2.2.2.2.2.2.2.2.1, ([] : List zh), y1.2.2.2.2.2.2.2.2.2.2.2.2.2.2.2.2.2.2.2.2.2.2.2.2.1, y1.2.2.2.2.2.2.2.2.2.2.2.2.2.2.2.2.2.2.2.2.2.2.2.2.2.1, y1.2.2.2.2.2.2.2.2.2.2.2.2.2.2.2.2.2.2.2.2.2.2.2.2.2.2.1, y1.2.2.2.2.2.2.2.2.2.2.2.2.2.2.2.2.2.2.2.2.2.2.2.2.2.2.2.1, y1.2.2.2.2.2.2.2.2.2.2.2.2.2.2.2.2.2.2.2.2.2.2.2.2.2.2.2.2.1, y1.2.2.2.2.2.2.2.2.2.2.2.2.2.2.2.2.2.2.2.2.2.2.2.2.2.2.2.2.2.1, y1.2.2.2.2.2.2.2.2.2.2.2.2.2.2.2.2.2.2.2.2.2.2.2.2.2.2.2.2.2.2.1, y1.2.2.2.2.2.2.2.2.2.2.2.2.2.2.2.2.2.2.2.2.2.2.2.2.2.2.2.2.2.2.2.1, ())).bind fun st => match st with
       | .again _ => none
       | .brk y7 =>
       (xX (y7.2.2.2.2.2.2.2.2.2.2.2.2.2.2.2.2.2.2.2.2.2.2.2.2.2.2.2.2.2.2.1 ++ (([y7.2.2.2.2.2.2.2.2.2.2.2.2.2.2.2.2.2.2.2.2.2.2.2.1] : List (List Int))))).bind fun l8 =>
       (xX (y7.2.2.2.2.2.2.2.2.2.2.2.2.2.2.2.2.2.2.2.2.2.2.2.2.2.2.2.2.2.2.2.1 ++ (([y7.2.2.2.2.2.2.2.2.2.2.2.2.2.2.2.2.2.2.2.2.2.2.2.2.1] : List (List zh))))).bind fun l9 =>
       some (.again (y7.1, w64 (y7.2.1 + 1), y7.2.2.1, y7.2.2.2.1, y7.2.2.2.2.1, y7.2.2.2.2.2.1, y7.2.2.2.2.2.2.1, y7.2.2.2.2.2.2.2.1, y7.2.2.2.2.2.2.2.2.1, y7.2.2.2.2.2.2.2.2.2.1, y7.2.2.2.2.2.2.2.2.2.2.1, y7.2.2.2.2.2.2.2.2.2.2.2.1, y7.2.2.2.2.2.2.2.2.2.2.2.2.1, y7.2.2.2.2.2.2.2.2.2.2.2.2.2.1, y7.2.2.2.2.2.2.2.2.2.2.2.2.2.2.1, y7.2.2.2.2.2.2.2.2.2.2.2.2.2.2.2.1, y7.2.2.2.2.2.2.2.2.2.2.2.2.2.2.2.2.1, y7.2.2.2.2.2.2.2.2.2.2.2.2.2.2.2.2.2.1, y7.2.2.2.2.2.2.2.2.2.2.2.2.2.2.2.2.2.2.1, y7.2.2.2.2.2.2.2.2.2.2.2.2.2.2.2.2.2.2.2.1, y7.2.2.2.2.2.2.2.2.2.2.2.2.2.2.2.2.2.2.2.2.1, y7.2.2.2.2.2.2.2.2.2.2.2.2.2.2.2.2.2.2.2.2.2.1, y7.2.2.2.2.2.2.2.2.2.2.2.2.2.2.2.2.2.2.2.2.2.2.1, y7.2.2.2.2.2.2.2.2.2.2.2.2.2.2.2.2.2.2.2.2.2.2.2.2.2.1, y7.2.2.2.2.2.2.2.2.2.2.2.2.2.2.2.2.2.2.2.2.2.2.2.2.2.2.1, y7.2.2.2.2.2.2.2.2.2.2.2.2.2.2.2.2.2.2.2.2.2.2.2.2.2.2.2.1, y7.2.2.2.2.2.2.2.2.2.2.2.2.2.2.2.2.2.2.2.2.2.2.2.2.2.2.2.2.1, y7.2.2.2.2.2.2.2.2.2.2.2.2.2.2.2.2.2.2.2.2.2.2.2.2.2.2.2.2.2.1, l8, l9, y7.2.2.2.2.2.2.2.2.2.2.2.2.2.2.2.2.2.2.2.2.2.2.2.2.2.2.2.2.2.2.2.2.1, ()))
       | .ret y7 =>
       some (.ret (()))
    | .ret y1 =>
    some (.ret (()))
 else
  some (.brk (s3, s4, s5, s6, s7, s8, s9, s10, s11, s12, s14, s15, s16, s17, s18, s19, s20, s21, s22, s23, s24, s25, s26, s27, s28, s29, s30, s31, ())) := by kernel_rfl
theorem zfl (s1 : Int) (s2 : Int) (s3 : Int) (s4 : Int) (s5 : Int) (s6 : Int) (s7 : Int) (s8 : Int) (s9 : Int) (s10 : Int) (s11 : Int) (s12 : Int) (s13 : BitVec 64) (s14 : zy) (s15 : Int) (s16 : Int) (s17 : Int) (s18 : Int) (s19 : Int) (s20 : Int) (s21 : Int) (s22 : Int) (s23 : Int) (s24 : BitVec 64) (s25 : List Int) (s26 : List (List Int)) (s27 : List (List Int)) (s28 : List (List zh)) (s29 : List zj) (s30 : List (List Int)) (s31 : List (List Int)) (s32 : List (List zh)) (s33 : List zj) : ZM (s1, s2, s3, s4, s5, s6, s7, s8, s9, s10, s11, s12, s13, s14, s15, s16, s17, s18, s19, s20, s21, s22, s23, s24, s25, s26, s27, s28, s29, s30, s31, s32, s33, ()) =
 (zt s14).bind fun y1 =>
 bif decide (s3 < (w64 (1 + (y1.1.tmod 3)))) then
  (zt y1.2.1).bind fun y2 =>
  bif decide ((w64 (s1 + 1)) = 0) then
   none
  else
   (xX (s25 ++ (([(y2.1.tmod (w64 (s1 + 1)))] : List Int)))).bind fun l3 =>
   some (.again (s1, s2, w64 (s3 + 1), s4, s5, s6, s7, s8, s9, s10, s11, s12, s13, y2.2.1, s15, s16, s17, s18, s19, s20, s21, s22, s23, s24, l3, s26, s27, s28, s29, s30, s31, s32, s33, ()))
 else
  some (.brk (s1, s2, s4, s5, s6, s7, s8, s9, s10, s11, s12, s13, y1.2.1, s15, s16, s17, s18, s19, s20, s21, s22, s23, s24, s25, s26, s27, s28, s29, s30, s31, s32, s33, ())) := by kernel_rfl
theorem zfD (s1 : Int) (s2 : Int) (s3 : Int) (s4 : Int) (s5 : Int) (s6 : Int) (s7 : Int) (s8 : Int) (s9 : Int) (s10 : Int) (s11 : Int) (s12 : Int) (s13 : BitVec 64) (s14 : zy) (s15 : Int) (s16 : Int) (s17 : Int) (s18 : Int) (s19 : Int) (s20 : Int) (s21 : Int) (s22 : Int) (s23 : Int) (s24 : BitVec 64) (s25 : List Int) (s26 : List zh) (s27 : List (List Int)) (s28 : List (List Int)) (s29 : List (List zh)) (s30 : List zj) (s31 : List (List Int)) (s32 : List (List Int)) (s33 : List (List zh)) (s34 : List zj) : um (s1, s2, s3, s4, s5, s6, s7, s8, s9, s10, s11, s12, s13, s14, s15, s16, s17, s18, s19, s20, s21, s22, s23, s24, s25, s26, s27, s28, s29, s30, s31, s32, s33, s34, ()) =
 bif decide (0 < s3) then
  (YY ((s25.length : Int)) s23 s14).bind fun y1 =>
  (xX (s26 ++ ([y1.1] : List zh))).bind fun l2 =>
  some (.again (s1, s2, w64 (s3 - 1), s4, s5, s6, s7, s8, s9, s10, s11, s12, s13, y1.2.1, s15, s16, s17, s18, s19, s20, s21, s22, s23, s24, s25, l2, s27, s28, s29, s30, s31, s32, s33, s34, ()))
 else
  some (.brk (s1, s2, s4, s5, s6, s7, s8, s9, s10, s11, s12, s13, s14, s15, s16, s17, s18, s19, s20, s21, s22, s23, s24, s25, s26, s27, s28, s29, s30, s31, s32, s33, s34, ())) := by kernel_rfl
theorem ziW (a1 : List (BitVec 8)) : Ut a1 =
 (cut a1 0 (bif decide (90 < ((a1.length : Int))) then 90 else ((a1.length : Int)))).bind fun l1 =>
 (zt (zy.mk l1 0)).bind fun y2 =>
 (zt y2.2.1).bind fun y3 =>
 (zt y3.2.1).bind fun y4 =>
 (zt y4.2.1).bind fun y5 =>
 (zt y5.2.1).bind fun y6 =>
 (zt y6.2.1).bind fun y7 =>
 (zt y7.2.1).bind fun y8 =>
 (zt y8.2.1).bind fun y9 =>
 (zt y9.2.1).bind fun y10 =>
 (zt y10.2.1).bind fun y11 =>
 (ym Yi (w64 (1 + (y10.1.tmod 6)), 0, 0, 0, 0, 0, 0, 0, 0, 0, 0, 0#64, y11.2.1, w64 (1 + (y2.1.tmod 3)), y3.1.tmod 3, w64 (1 + (y4.1.tmod 3)), w64 (1 + (y5.1.tmod 2)), w64 (1 + (y6.1.tmod 3)), w64 ((w64 (1 + (y10.1.tmod 6))) + (y11.1.tmod 4)), y7.1.tmod 4, y8.1.tmod 4, w64 (1 + (y9.1.tmod 2)), 0#64, ([] : List (List Int)), ([] : List (List Int)), ([] : List (List zh)), ([] : List zj), ([] : List (List Int)), ([] : List (List Int)), ([] : List (List zh)), ([] : List zj), ())).bind fun st => match st with
   | .again _ => none
   | .brk y12 =>
   (zt y12.2.2.2.2.2.2.2.2.2.2.2.1).bind fun y13 =>
   bif decide ((w64 (y12.1 + 1)) = 0) then
    none
   else
    (zao 0#64 (y13.1.tmod (w64 (y12.1 + 1)))).bind fun y14 =>
    (ym ZN (y12.1, 0, y12.2.1, y12.2.2.1, y12.2.2.2.1, y12.2.2.2.2.1, y12.2.2.2.2.2.1, y12.2.2.2.2.2.2.1, y12.2.2.2.2.2.2.2.1, y12.2.2.2.2.2.2.2.2.1, y12.2.2.2.2.2.2.2.2.2.1, y12.2.2.2.2.2.2.2.2.2.2.1, y13.2.1, y12.2.2.2.2.2.2.2.2.2.2.2.2.1, y12.2.2.2.2.2.2.2.2.2.2.2.2.2.1, y12.2.2.2.2.2.2.2.2.2.2.2.2.2.2.1, y12.2.2.2.2.2.2.2.2.2.2.2.2.2.2.2.1, y12.2.2.2.2.2.2.2.2.2.2.2.2.2.2.2.2.1, y12.2.2.2.2.2.2.2.2.2.2.2.2.2.2.2.2.2.1, y12.2.2.2.2.2.2.2.2.2.2.2.2.2.2.2.2.2.2.1, y12.2.2.2.2.2.2.2.2.2.2.2.2.2.2.2.2.2.2.2.1, y12.2.2.2.2.2.2.2.2.2.2.2.2.2.2.2.2.2.2.2.2.1, y14.1, y12.2.2.2.2.2.2.2.2.2.2.2.2.2.2.2.2.2.2.2.2.2.2.1, y12.2.2.2.2.2.2.2.2.2.2.2.2.2.2.2.2.2.2.2.2.2.2.2.1, y12.2.2.2.2.2.2.2.2.2.2.2.2.2.2.2.2.2.2.2.2.2.2.2.2.1, y12.2.2.2.2.2.2.2.2.2.2.2.2.2.2.2.2.2.2.2.2.2.2.2.2.2.1, y12.2.2.2.2.2.2.2.2.2.2.2.2.2.2.2.2.2.2.2.2.2.2.2.2.2.2.1, y12.2.2.2.2.2.2.2.2.2.2.2.2.2.2.2.2.2.2.2.2.2.2.2.2.2.2.2.1, y12.2.2.2.2.2.2.2.2.2.2.2.2.2.2.2.2.2.2.2.2.2.2.2.2.2.2.2.2.1, y12.2.2.2.2.2.2.2.2.2.2.2.2.2.2.2.2.2.2.2.2.2.2.2.2.2.2.2.2.2.1, ())).bind fun st => match st with
      | .again _ => none
      | .brk y15 =>
      some (zd.mk y15.2.2.2.2.2.2.2.2.2.2.1 y15.2.2.2.2.2.2.2.2.2.2.2.1 y15.2.2.2.2.2.2.2.2.2.2.2.2.1 y15.2.2.2.2.2.2.2.2.2.2.2.2.2.1 y15.2.2.2.2.2.2.2.2.2.2.2.2.2.2.1 y15.2.2.2.2.2.2.2.2.2.2.2.2.2.2.2.1 y15.2.2.2.2.2.2.2.2.2.2.2.2.2.2.2.2.1 y15.2.2.2.2.2.2.2.2.2.2.2.2.2.2.2.2.2.1 (zu.mk y15.2.2.2.2.2.2.2.2.2.2.2.2.2.2.2.2.2.2.1 y15.2.2.2.2.2.2.2.2.2.2.2.2.2.2.2.2.2.2.2.2.2.2.2.2.1) y15.2.2.2.2.2.2.2.2.2.2.2.2.2.2.2.2.2.2.2.1 y15.2.2.2.2.2.2.2.2.2.2.2.2.2.2.2.2.2.2.2.2.2.2.2.2.2.1 y15.2.2.2.2.2.2.2.2.2.2.2.2.2.2.2.2.2.2.2.2.2.2.2.2.2.2.1 y15.2.2.2.2.2.2.2.2.2.2.2.2.2.2.2.2.2.2.2.2.2.2.2.2.2.2.2.1, ())
      | .ret y15 =>
      none
   | .ret y12 =>
   none := zm (by kernel_rfl)
theorem zi5 (a1 : zc) (a2 : BitVec 8) : X7 a1 a2 =
 bif decide (((a1.Ms.length : Int)) = 0) then
  none
 else
  (Yt a1 (w64 (1 + (((a2.toNat : Int)).tmod ((a1.Ms.length : Int)))))).bind fun y1 =>
  some (y1.1, w64 (1 + (((a2.toNat : Int)).tmod ((a1.Ms.length : Int)))), ()) := zm (by kernel_rfl)
theorem zbr (a1 : List Int) : ZD a1 =
 bif a1.isEmpty then
  zhZ (
   some (([] : List Int), ())) (
   (xX (([] : List Int) ++ a1)).bind fun l1 =>
   some (l1, ()))
 else
  (xX (([] : List Int) ++ a1)).bind fun l2 =>
  some (l2, ()) := zm (by kernel_rfl)
theorem zly (a1 : zi) : zit a1 =
 (z8 a1.Batch).bind fun y1 =>
 some ({ a1 with Batch := y1.1 }, ()) := zm (by kernel_rfl)
theorem vw (s1 : Int) (s2 : Int) (s3 : List zi) : yS (s1, s2, s3, ()) =
 bif decide (s2 < s1) then
  (y0 s3 s2).bind fun n1 =>
  (s3[n1]?).bind fun x2 =>
  (zit x2).bind fun y3 =>
  (y0 s3 s2).bind fun n4 =>
  some (.again (s1, w64 (s2 + 1), s3.set n4 y3.1, ()))
 else
  some (.brk (s3, ())) := by kernel_rfl
theorem XU (a1 : List zi) : wB a1 =
 bif decide (((a1.length : Int)) = ((a1.length : Int))) then
  (Za ((a1.length : Int))).bind fun n1 =>
  bif decide (a1.length = ((List.replicate n1 (zi.mk 0 0 0 0 0 (([] : List Int)) (zg.mk 0 0 0 0 0#64 0#64 0 0) (zw.mk 0 0 0 0 0#64 0 0 0) (zA.mk 0 0 0 0 (zg.mk 0 0 0 0 0#64 0#64 0 0) (zw.mk 0 0 0 0 0#64 0 0 0) 0 0))).length)) then
   bif a1.isEmpty then
    (ym yS (((List.replicate n1 (zi.mk 0 0 0 0 0 (([] : List Int)) (zg.mk 0 0 0 0 0#64 0#64 0 0) (zw.mk 0 0 0 0 0#64 0 0 0) (zA.mk 0 0 0 0 (zg.mk 0 0 0 0 0#64 0#64 0 0) (zw.mk 0 0 0 0 0#64 0 0 0) 0 0))).length : Int), 0, List.replicate n1 (zi.mk 0 0 0 0 0 (([] : List Int)) (zg.mk 0 0 0 0 0#64 0#64 0 0) (zw.mk 0 0 0 0 0#64 0 0 0) (zA.mk 0 0 0 0 (zg.mk 0 0 0 0 0#64 0#64 0 0) (zw.mk 0 0 0 0 0#64 0 0 0) 0 0)), ())).bind fun st => match st with
      | .again _ => none
      | .brk y2 =>
      some (y2.1, ())
      | .ret y2 =>
      none
   else
    (ym yS ((a1.length : Int), 0, a1, ())).bind fun st => match st with
      | .again _ => none
      | .brk y3 =>
      some (y3.1, ())
      | .ret y3 =>
      none
  else
   none
 else
  none := zm (by kernel_rfl)
theorem zlD (a1 : za) : zio a1 =
 (z8 a1.Regs).bind fun y1 =>
 (z8 a1.Buf).bind fun y2 =>
 (z8 a1.Batch).bind fun y3 =>
 some ({ a1 with Regs := y1.1, Buf := y2.1, Batch := y3.1 }, ()) := zm (by kernel_rfl)
end Go.Pe.G
namespace Go.Pe.G
open Go.Pe
theorem vo (s1 : Int) (s2 : Int) (s3 : List za) : yP (s1, s2, s3, ()) =
 bif decide (s2 < s1) then
  (y0 s3 s2).bind fun n1 =>
  (s3[n1]?).bind fun x2 =>
  (zio x2).bind fun y3 =>
  (y0 s3 s2).bind fun n4 =>
  some (.again (s1, w64 (s2 + 1), s3.set n4 y3.1, ()))
 else
  some (.brk (s3, ())) := by kernel_rfl
theorem XB (a1 : List za) : wq a1 =
 bif decide (((a1.length : Int)) = ((a1.length : Int))) then
  (Za ((a1.length : Int))).bind fun n1 =>
  bif decide (a1.length = ((List.replicate n1 (za.mk 0 0 0 0 0 0 0 0 (([] : List Int)) (([] : List Int)) (([] : List Int)) (zw.mk 0 0 0 0 0#64 0 0 0) (zA.mk 0 0 0 0 (zg.mk 0 0 0 0 0#64 0#64 0 0) (zw.mk 0 0 0 0 0#64 0 0 0) 0 0))).length)) then
   bif a1.isEmpty then
    (ym yP (((List.replicate n1 (za.mk 0 0 0 0 0 0 0 0 (([] : List Int)) (([] : List Int)) (([] : List Int)) (zw.mk 0 0 0 0 0#64 0 0 0) (zA.mk 0 0 0 0 (zg.mk 0 0 0 0 0#64 0#64 0 0) (zw.mk 0 0 0 0 0#64 0 0 0) 0 0))).length : Int), 0, List.replicate n1 (za.mk 0 0 0 0 0 0 0 0 (([] : List Int)) (([] : List Int)) (([] : List Int)) (zw.mk 0 0 0 0 0#64 0 0 0) (zA.mk 0 0 0 0 (zg.mk 0 0 0 0 0#64 0#64 0 0) (zw.mk 0 0 0 0 0#64 0 0 0) 0 0)), ())).bind fun st => match st with
      | .again _ => none
      | .brk y2 =>
      some (y2.1, ())
      | .ret y2 =>
      none
   else
    (ym yP ((a1.length : Int), 0, a1, ())).bind fun st => match st with
      | .again _ => none
      | .brk y3 =>
      some (y3.1, ())
      | .ret y3 =>
      none
  else
   none
 else
  none := zm (by kernel_rfl)
theorem zox (a1 : zc) : zgl a1 =
 (yI a1.H.Objs).bind fun y1 =>
 (yM a1.M).bind fun y2 =>
 (yI a1.Bins).bind fun y3 =>
 (z8 a1.Acks).bind fun y4 =>
 (ZD a1.L.Bal).bind fun y5 =>
 (wB a1.Ws).bind fun y6 =>
 (wq a1.Ms).bind fun y7 =>
 some ({ a1 with H := { a1.H with Objs := y1.1 }, M := y2.1, Bins := y3.1, Acks := y4.1, L := { a1.L with Bal := y5.1 }, Ws := y6.1, Ms := y7.1 }, ()) := zm (by kernel_rfl)
theorem zaM (s1 : List (BitVec 8)) (s2 : BitVec 8) (s3 : Bool) (s4 : Int) (s5 : zc) : Zl (s1, s2, s3, s4, s5, ()) =
 bif decide (s4 < ((s1.length : Int))) then
  bif decide (s4 < 250) then
   (idx s1 s4).bind fun x1 =>
   (X7 s5 x1).bind fun y2 =>
   some (.again (s1, s2, s3, w64 (s4 + 1), y2.1, ()))
  else
   some (.brk (s2, s3, s5, ()))
 else
  some (.brk (s2, s3, s5, ())) := by kernel_rfl
theorem zb6 (a1 : List (BitVec 8)) (a2 : List (BitVec 8)) (a3 : BitVec 8) : w8 a1 a2 a3 =
 (Wy).bind fun y1 =>
 bif !y1.1 then
  some (false, ())
 else
  (Ut a1).bind fun y2 =>
  (UX y2.1).bind fun y3 =>
  bif decide (((y3.1.Ms.length : Int)) = 0) then
   bif y1.1 then
    (Yt y3.1 ((a3.toNat : Int))).bind fun y4 =>
    (Wc y4.1 y3.1).bind fun y5 =>
    some (y5.1, ())
   else
    some (false, ())
  else
   (ym Zl (a2, a3, y1.1, 0, y3.1, ())).bind fun st => match st with
     | .again _ => none
     | .brk y6 =>
     (zgl y6.2.2.1).bind fun y7 =>
     (X7 y6.2.2.1 y6.1).bind fun y8 =>
     (Wc y6.2.2.1 y7.1).bind fun y9 =>
     bif !y9.1 then
      some (false, ())
     else
      bif !(decide (((y8.1.Ms.length : Int)) = ((y6.2.2.1.Ms.length : Int)))) then
       some (false, ())
      else
       bif !(decide (((y8.1.Ws.length : Int)) = ((y6.2.2.1.Ws.length : Int)))) then
        some (false, ())
       else
        (xX y8.1.Ms).bind fun l10 =>
        (idx y6.2.2.1.Ms (w64 (y8.2.1 - 1))).bind fun x11 =>
        (y0 l10 (w64 (y8.2.1 - 1))).bind fun n12 =>
        bif y6.2.1 then
         (Wc ({ y6.2.2.1 with P := y8.1.P, Epoch := y8.1.Epoch, Done := y8.1.Done, Restarts := y8.1.Restarts, Ws := y8.1.Ws, Ms := l10.set n12 x11, D := y8.1.D }) y6.2.2.1).bind fun y13 =>
         some (y13.1, ())
        else
         some (false, ())
     | .ret y6 =>
     none := zm (by kernel_rfl)
end Go.Pe.G

namespace Go.Pe.G
open Go.Pe
theorem zxV : Go.Proofs.Tryz.prog.funcs[91]? = some Go.Proofs.Tryz.f91 := by kernel_rfl
theorem zwZ : Go.Proofs.Tryz.f91.body.isSome = true := by kernel_rfl
theorem zxf : uO Go.Proofs.Tryz.prog 91 = true := by kernel_rfl
theorem zxw : Go.Proofs.Tryz.prog.funcs[134]? = some Go.Proofs.Tryz.f134 := by kernel_rfl
theorem zwx : Go.Proofs.Tryz.f134.body.isSome = true := by kernel_rfl
theorem zwj : uO Go.Proofs.Tryz.prog 134 = true := by kernel_rfl
theorem zkm (ys : List Int) (s1 : Int) (s2 : Int) (s3 : BitVec 64) : VH ys (s1, s2, s3, ()) =
 bif !(decide (s3 = 0#64)) then
  (qTZ s3).bind fun y1 =>
  (UD ys s2 (w64 (y1.1 + 1))).bind fun _ =>
  some (.again (s1, s2 + 1, s3 &&& (s3 - 1#64), ()))
 else
  some (.brk (s1, s2, ())) := by kernel_rfl
theorem znl (n : Int) (ys : List Int) (a1 : BitVec 64) : zoy (Uf ys) Go.Proofs.Tryz.f134 ziB n ((a1, ()) : (BitVec 64) × Unit) =
 (ym (VH ys) (n, 0, a1, ())).bind fun st => match st with
   | .again _ => none
   | .brk y1 =>
   some y1.2.1
   | .ret y1 =>
   some y1.2.1 := by kernel_rfl
theorem Yz (ys : List (List Int)) (s1 : Int) (s2 : Int) (s3 : Int) (s4 : List Int) (s5 : Int) : vg ys (s1, s2, s3, s4, s5, ()) =
 bif decide (s3 < ((s4.length : Int))) then
  (cut s4 s3 ((s4.length : Int))).bind fun l1 =>
  bif decide (s3 = 0) && decide ((w64 (s3 + (bif decide (((l1.length : Int)) < s5) then ((l1.length : Int)) else s5))) = 0) && decide ((w64 (s3 + (bif decide (((l1.length : Int)) < s5) then ((l1.length : Int)) else s5))) = 0) then
   (UD ys s2 ([] : List Int)).bind fun _ =>
   some (.again (s1, s2 + 1, w64 (s3 + s5), s4, s5, ()))
  else
   bif decide (s3 = 0) && decide ((w64 (s3 + (bif decide (((l1.length : Int)) < s5) then ((l1.length : Int)) else s5))) = ((s4.length : Int))) && decide ((w64 (s3 + (bif decide (((l1.length : Int)) < s5) then ((l1.length : Int)) else s5))) = ((s4.length : Int))) then
    (UD ys s2 s4).bind fun _ =>
    some (.again (s1, s2 + 1, w64 (s3 + s5), s4, s5, ()))
   else
    bif decide ((w64 (s3 + (bif decide (((l1.length : Int)) < s5) then ((l1.length : Int)) else s5))) = (w64 (s3 + (bif decide (((l1.length : Int)) < s5) then ((l1.length : Int)) else s5)))) then
     (cut s4 s3 (w64 (s3 + (bif decide (((l1.length : Int)) < s5) then ((l1.length : Int)) else s5)))).bind fun l2 =>
     (UD ys s2 l2).bind fun _ =>
     some (.again (s1, s2 + 1, w64 (s3 + s5), s4, s5, ()))
    else
     none
 else
  some (.brk (s1, s2, ())) := by kernel_rfl
theorem zbG (n : Int) (ys : List (List Int)) (a1 : List Int) (a2 : Int) : zoy (vy ys) Go.Proofs.Tryz.f91 WB n ((a1, a2, ()) : (List Int) × Int × Unit) =
 (ym (vg ys) (n, 0, 0, a1, a2, ())).bind fun st => match st with
   | .again _ => none
   | .brk y1 =>
   some y1.2.1
   | .ret y1 =>
   some y1.2.1 := by kernel_rfl
end Go.Pe.G
namespace Go.Pe.G
open Go.Pe
theorem zk0 {A B D : Type} (g : A → Option (yW A B D)) {o : yW Unit B D} : ∀ (k m : Nat) (x : A), uE g k x = some o → k ≤ m → uE g m x = some o
  | 0, m, x, h, _ => by cases h
  | k + 1, 0, x, h, hm => by omega
  | k + 1, m + 1, x, h, hm => by
    simp only [uE, Option.bind_eq_some_iff] at h ⊢
    obtain ⟨s, h1, h2⟩ := h
    refine ⟨s, h1, ?_⟩
    cases s with
    | again y => exact zk0 g k m y h2 (by omega)
    | brk b => exact h2
    | ret c => exact h2
theorem zp5 {α : Type} (pre post : List α) (z : α) : UD (pre ++ z :: post) (pre.length : Int) z = some () := by
  unfold UD
  rw [if_pos]
  refine ⟨by omega, ?_⟩
  simp
theorem zel (n : Int) (ys : List Int) : ∀ (f : Nat) (s : BitVec 64) (l pre : List Int), zat f s = some l → ys = pre ++ l → uE (VH ys) f (n, (pre.length : Int), s, ()) = some (.brk (n, (ys.length : Int), ()))
  | 0, s, l, pre, h, _ => by cases h
  | f + 1, s, l, pre, h, e => by
    simp only [zat] at h
    simp only [uE, zkm]
    cases hz : decide (s = 0#64) with
    | true =>
      simp only [hz, cond_true, Option.some.injEq] at h
      subst h
      simp only [List.append_nil] at e
      subst e
      rfl
    | false =>
      simp only [hz, cond_false, Option.map_eq_some_iff] at h
      obtain ⟨l', h1, rfl⟩ := h
      have hn : UD ys (pre.length : Int) (w64 (tz s + 1)) = some () := by rw [e]; exact zp5 pre l' _
      simp only [Bool.not_false, cond_true, zwR, Option.bind_some, hn]
      have := zel n ys f (s &&& (s - 1#64)) l' (pre ++ [w64 (tz s + 1)]) h1 (by rw [e]; simp)
      simpa using this
theorem zmU (G : Nat → Prop) (W0 : World) (hG : zpe G W0) : Z2 Go.Proofs.Tryz.prog G W0 134 VV := by
  obtain ⟨c, hc⟩ := Option.isSome_iff_exists.1 zwx
  refine znK (Cg := Uf []) rfl zrN (fun f s hs => Oks.at (.cons _ _ _ _ zwu (zuh hG) (.skip _ _ .nil)) f s hs) rfl ztC (fun g it h => by cases h) zwj zxw hc VV (Nat.le_of_ble_eq_true (by kernel_rfl)) rfl ?_
  rintro n ⟨a, ⟨⟩⟩ ys h
  have h : zat 66 a = some ys := h
  have e := znl n ys a
  have k := zk0 _ 66 YC _ (zel n ys 66 a ys [] h rfl) (by decide)
  refine Eq.trans e ?_
  have k' : uE (VH ys) YC (n, 0, a, ()) = some (.brk (n, (ys.length : Int), ())) := k
  rw [VQ, k']
  rfl
theorem zuD {a : Int} (h : -9223372036854775808 ≤ a) (h2 : a < 9223372036854775808) : w64 a = a := by
  rw [zij]
  omega
theorem zaF (n : Int) (ys : List (List Int)) (l : List Int) (sz : Nat) (h1 : 1 ≤ sz) (h2 : sz < 1000000) (h3 : l.length < 1000000) : ∀ (f p : Nat) (pre : List (List Int)), (l.drop p).length ≤ f → ys = pre ++ Zu sz f (l.drop p) → p < 2000000 →
    uE (vg ys) (f + 1) (n, (pre.length : Int), (p : Int), l, (sz : Int), ()) = some (.brk (n, (ys.length : Int), ())) := by
  intro f
  induction f with
  | zero =>
    intro p pre hf e hp
    simp only [uE, Yz]
    simp only [List.length_drop] at hf
    have : ¬ (p : Int) < (l.length : Int) := by omega
    simp only [this, decide_false, cond_false, Option.bind_some]
    simp only [Zu, List.append_nil] at e
    rw [e]
  | succ f ih =>
    intro p pre hf e hp
    rw [uE, Yz]
    by_cases hlt : p < l.length
    · have hlt' : (p : Int) < (l.length : Int) := by omega
      have hcut : cut l (p : Int) (l.length : Int) = some (l.drop p) := by
        unfold cut
        have : (decide (0 ≤ (p : Int)) && decide ((p : Int) ≤ (l.length : Int)) && decide ((l.length : Int) ≤ (l.length : Int))) = true := by simp; omega
        simp only [this, cond_true]
        simp
      obtain ⟨x, r, hxr⟩ : ∃ x r, l.drop p = x :: r := by
        cases hd : l.drop p with
        | nil => have := congrArg List.length hd; simp at this; omega
        | cons x r => exact ⟨x, r, rfl⟩
      have hch : Zu sz (f + 1) (l.drop p) = (l.drop p).take sz :: Zu sz f (l.drop (p + sz)) := by
        rw [hxr]; simp only [Zu]; rw [← hxr, List.drop_drop]
      have hm : ∃ m : Nat, (bif decide (((l.drop p).length : Int) < (sz : Int)) then (((l.drop p).length : Int)) else (sz : Int)) = (m : Int) ∧ m = min sz (l.length - p) := by
        simp only [List.length_drop]
        by_cases hs : ((l.length - p : Nat) : Int) < (sz : Int)
        · exact ⟨l.length - p, by simp only [hs, decide_true, cond_true], by omega⟩
        · exact ⟨sz, by simp only [hs, decide_false, cond_false], by omega⟩
      obtain ⟨m, hm1, hm2⟩ := hm
      have hw : w64 ((p : Int) + (m : Int)) = ((p + m : Nat) : Int) := by rw [zuD (by omega) (by omega)]; omega
      have hw2 : w64 ((p : Int) + (sz : Int)) = ((p + sz : Nat) : Int) := by rw [zuD (by omega) (by omega)]; omega
      have hne : ¬ ((p + m : Nat) : Int) = 0 := by omega
      simp only [hlt', decide_true, cond_true, hcut, Option.bind_some, hm1, hw, hw2, hne, decide_false, Bool.and_false, cond_false]
      have hn : UD ys (pre.length : Int) ((l.drop p).take sz) = some () := by rw [e, hch]; exact zp5 pre _ _
      have hcut2 : cut l (p : Int) ((p + m : Nat) : Int) = some ((l.drop p).take sz) := by
        unfold cut
        have : (decide (0 ≤ (p : Int)) && decide ((p : Int) ≤ ((p + m : Nat) : Int)) && decide (((p + m : Nat) : Int) ≤ (l.length : Int))) = true := by simp; omega
        simp only [this, cond_true]
        refine congrArg some ?_
        simp only [Int.toNat_natCast]
        rw [List.drop_take, Nat.add_sub_cancel_left, hm2]
        by_cases hs : sz ≤ l.length - p
        · rw [Nat.min_eq_left hs]
        · rw [Nat.min_eq_right (by omega), List.take_of_length_le (l := l.drop p) (by simp), List.take_of_length_le (l := l.drop p) (by simp; omega)]
      have hnext := ih (p + sz) (pre ++ [(l.drop p).take sz]) (by simp only [List.length_drop] at hf ⊢; omega) (by rw [e, hch]; simp) (by omega)
      have hlen : ((pre ++ [(l.drop p).take sz]).length : Int) = (pre.length : Int) + 1 := by simp
      rw [hlen] at hnext
      cases hfull : (decide ((p : Int) = 0) && decide (((p + m : Nat) : Int) = (l.length : Int)) && decide (((p + m : Nat) : Int) = (l.length : Int))) with
      | true =>
        simp only [cond_true]
        have hl : l = (l.drop p).take sz := ?_
        · rw [← hl] at hn
          rw [hn]
          exact hnext
        simp only [Bool.and_eq_true, decide_eq_true_eq] at hfull
        obtain ⟨⟨hp0, hpl⟩, _⟩ := hfull
        have hp00 : p = 0 := by omega
        rw [hp00, List.drop_zero, List.take_of_length_le (by omega)]
      | false =>
        simp only [cond_false, hcut2, Option.bind_some, decide_true, cond_true]
        rw [hn]
        exact hnext
    · have hnl : ¬ (p : Int) < (l.length : Int) := by omega
      have hd : l.drop p = [] := List.drop_eq_nil_of_le (by omega)
      simp only [hnl, decide_false, cond_false, Option.bind_some]
      rw [hd] at e
      simp only [Zu, List.append_nil] at e
      rw [e]
theorem zaU (n : Int) (ys : List (List Int)) (l : List Int) (sz : Int) (h : zf7 l sz = some ys) : uE (vg ys) YC (n, 0, 0, l, sz, ()) = some (.brk (n, (ys.length : Int), ())) := by
  unfold zf7 at h
  cases hc : (decide (1 ≤ sz) && decide (sz < 1000000) && decide ((l.length : Int) < 1000000)) with
  | false => simp [hc] at h
  | true =>
    simp only [hc, cond_true] at h
    injection h with h
    simp only [Bool.and_eq_true, decide_eq_true_eq] at hc
    obtain ⟨⟨c1, c2⟩, c3⟩ := hc
    have k := zk0 _ (l.length + 1) YC _ (zaF n ys l sz.toNat (by omega) (by omega) (by omega) l.length 0 [] (by simp) (by simpa using h.symm) (by omega)) (by unfold YC; omega)
    have hs : ((sz.toNat : Nat) : Int) = sz := by omega
    rw [hs] at k
    exact k
theorem za0 (G : Nat → Prop) (W0 : World) (hG : zpe G W0) : Z2 Go.Proofs.Tryz.prog G W0 91 wL := by
  obtain ⟨c, hc⟩ := Option.isSome_iff_exists.1 zwZ
  refine znK (Cg := vy []) rfl zrN (fun f s hs => Oks.at .nil f s hs) rfl ztC (fun g it h => by cases h) zxf zxV hc wL (Nat.le_of_ble_eq_true (by kernel_rfl)) rfl (fun n x ys h => ?_)
  refine Eq.trans (zbG n ys x.1 x.2.1) ?_
  rw [VQ, zaU n ys x.1 x.2.1 h]
  rfl
end Go.Pe.G
namespace Go.Pe.G
open Go.Pe
theorem k2 {G : Nat → Prop} {W0 : World} {f : Nat} {s : zo E} {ss r} (hs : Xu Go.Proofs.Tryz.prog G W0 f s) (h : Oks Go.Proofs.Tryz.prog G W0 ((f, ss) :: r)) (hc : uO Go.Proofs.Tryz.prog f = true := by kernel_rfl) : Oks Go.Proofs.Tryz.prog G W0 ((f, s :: ss) :: r) := .cons _ _ _ _ hc hs h
theorem k1 {G : Nat → Prop} {W0 : World} {f : Nat} {s : zo E} {r} (hs : Xu Go.Proofs.Tryz.prog G W0 f s) (h : Oks Go.Proofs.Tryz.prog G W0 r) (hc : uO Go.Proofs.Tryz.prog f = true := by kernel_rfl) : Oks Go.Proofs.Tryz.prog G W0 ((f, [s]) :: r) := .cons _ _ _ _ hc hs (.skip _ _ h)
abbrev Sd (G : Nat → Prop) (W0 : World) := Xu (E := E) Go.Proofs.Tryz.prog G W0
theorem gs {G : Nat → Prop} {W0 : World} {l : List (Nat × List (zo E))} {loops mv kept pk its} {f : FuncId} {fn : Func} {inn out : xm} {gi go : List Grp} {hi : uz E gi = inn.holes} {ho : uz E go = out.holes} (h : Oks Go.Proofs.Tryz.prog G W0 l) (h2 : Its Go.Proofs.Tryz.prog G W0 its) (hf : Go.Proofs.Tryz.prog.funcs[f]? = some fn := by kernel_rfl) (hb : fn.body.isSome = true := by kernel_rfl)
    (hk : (cf l loops mv kept pk its).kept = ze1 inn.blks 0 := by kernel_rfl) (hn : Nat.ble inn.vals.length fn.ntmps = true := by kernel_rfl) : Xu Go.Proofs.Tryz.prog G W0 f (sp (cf l loops mv kept pk its) fn inn out gi go hi ho) := zuu (C := cf l loops mv kept pk its) zrN (ztY h) rfl (zvS h2) ztC hf hb hk hn
variable {G : Nat → Prop} {W0 : World} (hG : zpe G W0)
include hG
theorem zhw : Sd G W0 62 zaj := gs .nil .nil
theorem Z1 : Sd G W0 114 xU := gs (k1 (zhw hG) .nil) .nil
theorem Zx : Sd G W0 61 xD := gs (k1 (Z1 hG) .nil) .nil
theorem zja : Sd G W0 60 zbU := gs (k1 (Zx hG) .nil) .nil
theorem Z5 : Sd G W0 115 xW := gs (k1 (zja hG) .nil) .nil
theorem Zy : Sd G W0 63 xF := gs (k1 (Z5 hG) .nil) .nil
theorem VW : Sd G W0 19 VL := gs (k1 (Zy hG) .nil) .nil
theorem zlJ : Sd G W0 25 zhy := gs .nil .nil
theorem zlE : Sd G W0 27 zhG := gs .nil .nil
theorem Vu : Sd G W0 86 Vb := gs .nil .nil
theorem zjA : Sd G W0 87 zcp := gs (k1 (Vu hG) .nil) .nil
theorem Yx : Sd G W0 114 wm := gs (k1 (zjA hG) .nil) .nil
theorem ZV : Sd G W0 61 xR := gs (k1 (Yx hG) .nil) .nil
theorem zgs : Sd G W0 85 Up := gs (k1 (Vu hG) .nil) .nil
theorem zjG : Sd G W0 156 zcs := gs .nil .nil
theorem zk1 : Sd G W0 130 zfi := gs (k1 (zjG hG) .nil) .nil
theorem zjW : Sd G W0 129 zdG := gs (k1 (zk1 hG) .nil) .nil
theorem Zk : Sd G W0 155 xn := gs (k1 (zjW hG) .nil) .nil
theorem uZ : Sd G W0 128 yV := gs (k1 (Zk hG) .nil) .nil
theorem zlH : Sd G W0 88 zhr := gs (k1 (uZ hG) .nil) .nil
theorem zkx : Sd G W0 133 zgr := gs .nil .nil
theorem ziZ : Sd G W0 132 zbX := gs (k1 (zkx hG) .nil) .nil
theorem uG : Sd G W0 157 yR := gs (k1 (ziZ hG) .nil) .nil
theorem ug : Sd G W0 131 yL := gs (k1 (uG hG) .nil) .nil
theorem zkQ : Sd G W0 89 zfU := gs (k1 (ug hG) .nil) .nil
theorem zka : Sd G W0 37 zfG := gs (k1 (VW hG) (k1 (zlJ hG) (k1 (zlE hG) (k1 (ZV hG) (k1 (zgs hG) (k1 (Vu hG) (k1 (zlH hG) (k1 (zkQ hG) .nil)))))))) .nil
theorem zhf : Sd G W0 77 zhd := gs .nil .nil
theorem VA : Sd G W0 35 zaz := gs (k1 (zhf hG) .nil) .nil
theorem zpB : Sd G W0 81 zmN := gs (k1 (VA hG) .nil) .nil
theorem zkr : Sd G W0 38 zfu := gs (k1 (zpB hG) .nil) .nil
theorem zf9 : Sd G W0 90 VX := gs .nil .nil
theorem zlR : Sd G W0 39 zhP := gs (k1 (zf9 hG) .nil) .nil
theorem zkL : Sd G W0 40 zfF := gs .nil .nil
theorem yr : Sd G W0 42 yB := gs .nil .nil
theorem vq : Sd G W0 41 yX := gs (k1 (yr hG) .nil) .nil
theorem zj3 : Sd G W0 43 zdQ := gs .nil .nil
theorem zbO : Sd G W0 44 U4 := gs .nil .nil
theorem zbR : Sd G W0 45 U7 := gs .nil .nil
theorem zlx : Sd G W0 46 zhz := gs .nil .nil
theorem zbC : Sd G W0 47 Xa := gs .nil .nil
theorem zmR : Sd G W0 92 zjk := gs .nil .nil
theorem znB : Z2 Go.Proofs.Tryz.prog G W0 134 VV := zmU G W0 hG
theorem zmE : Sd G W0 48 zjn := gs (k1 (zmR hG) .nil) (.cons _ _ _ (znB hG) (.nil))
theorem ZF : Sd G W0 71 vf := gs .nil .nil
theorem zmw : Sd G W0 158 zjB := gs .nil .nil
theorem zm1 : Sd G W0 159 zi2 := gs .nil .nil
theorem zmk : Sd G W0 160 zjp := gs .nil .nil
theorem zm4 : Sd G W0 161 zji := gs .nil .nil
theorem Yr : Sd G W0 136 VR := gs (k1 (ZF hG) (k1 (zmw hG) (k1 (zm1 hG) (k1 (zmk hG) (k1 (zm4 hG) .nil))))) .nil
theorem zbQ : Sd G W0 93 U6 := gs (k1 (Yr hG) .nil) .nil
theorem zdg : Sd G W0 94 zbg := gs .nil .nil
theorem zlX : Sd G W0 49 zhS := gs (k1 (zbQ hG) (k1 (zdg hG) .nil)) .nil
theorem Xl : Sd G W0 50 WI := gs .nil .nil
theorem Y1 : Sd G W0 52 Xk := gs (k1 (Xl hG) .nil) .nil
theorem Xw : Sd G W0 51 WD := gs (k1 (Y1 hG) .nil) .nil
theorem zbF : Z2 Go.Proofs.Tryz.prog G W0 91 wL := za0 G W0 hG
theorem zej : Sd G W0 11 zcY := gs (k1 (zka hG) (k1 (zkr hG) (k1 (zlR hG) (k1 (zkL hG) (k1 (vq hG) (k1 (yr hG) (k1 (zj3 hG) (k1 (zbO hG) (k1 (zbR hG) (k1 (zlx hG) (k1 (zbC hG) (k1 (zmE hG) (k1 (zlX hG) (k1 (Xl hG) (k1 (Xw hG) (k1 (Y1 hG) .nil)))))))))))))))) (.cons _ _ _ (zbF hG) (.nil))
theorem zhC : Sd G W0 15 zak := gs .nil .nil
theorem wP : Sd G W0 137 vl := gs .nil .nil
theorem vP : Sd G W0 142 vb := gs .nil .nil
theorem ZO : Sd G W0 138 uN := gs (k1 (yr hG) (k1 (vP hG) .nil)) .nil
theorem zcE : Sd G W0 95 XL := gs (k1 (wP hG) (k1 (ZO hG) .nil)) .nil
theorem zdp : Sd G W0 139 zbf := gs .nil .nil
theorem zcu : Sd G W0 96 XI := gs (k1 (zdp hG) .nil) .nil
theorem zd9 : Sd G W0 97 WW := gs (k1 (yr hG) .nil) .nil
theorem zaI : Sd G W0 182 Yl := gs .nil .nil
theorem zhi : Sd G W0 26 zha := gs (k1 (zhf hG) .nil) .nil
theorem zdz : Sd G W0 166 za1 := gs (k1 (zhi hG) (k1 (VA hG) .nil)) .nil
theorem Vt : Sd G W0 170 Vc := gs .nil .nil
theorem vW : Sd G W0 197 vd := gs (k1 (Xw hG) (k1 (Y1 hG) (k1 (Vt hG) .nil))) .nil
theorem zcl : Sd G W0 183 XN := gs (k1 (zbO hG) (k1 (zbR hG) (k1 (zdz hG) (k1 (vW hG) .nil)))) .nil
theorem zcC : Sd G W0 184 XG := gs .nil .nil
theorem zjm : Sd G W0 200 zb2 := gs .nil .nil
theorem zjq : Sd G W0 200 zcc := gs .nil .nil
theorem zi7 : Sd G W0 200 zcG := gs .nil .nil
theorem ziX : Sd G W0 200 zcJ := gs .nil .nil
theorem vm : Sd G W0 215 uP := gs (k1 (Yr hG) .nil) .nil
theorem xA : Sd G W0 216 xr := gs .nil .nil
theorem Uw : Sd G W0 201 Zj := gs (k1 (vm hG) (k1 (xA hG) .nil)) .nil
theorem uy : Sd G W0 217 vX := gs .nil .nil
theorem Vd : Sd G W0 218 Z7 := gs .nil .nil
theorem xB : Sd G W0 219 xu := gs .nil .nil
theorem zbN : Sd G W0 202 Y8 := gs (k1 (vm hG) (k1 (uy hG) (k1 (Vd hG) (k1 (xB hG) .nil)))) .nil
theorem Zg : Sd G W0 220 ZQ := gs (k1 (Yr hG) .nil) .nil
theorem Zv : Sd G W0 221 uq := gs (k1 (Vd hG) .nil) .nil
theorem zeO : Sd G W0 203 Vn := gs (k1 (Zg hG) (k1 (Zv hG) .nil)) .nil
theorem zaa : Sd G W0 204 ZS := gs (k1 (xA hG) (k1 (xB hG) (k1 (Zg hG) .nil))) .nil
theorem zdk : Sd G W0 205 WA := gs (k1 (xA hG) (k1 (Zg hG) .nil)) .nil
theorem zbP : Sd G W0 222 U2 := gs .nil .nil
theorem zaN : Sd G W0 206 Yb := gs (k1 (vm hG) (k1 (uy hG) (k1 (zbP hG) .nil))) .nil
theorem zb1 : Sd G W0 207 XW := gs (k1 (vm hG) (k1 (xB hG) (k1 (Zv hG) .nil))) .nil
theorem Vg : Sd G W0 223 Ye := gs (k1 (Yr hG) (k1 (uy hG) .nil)) .nil
theorem zbJ : Sd G W0 208 Y7 := gs (k1 (Vg hG) .nil) .nil
theorem zbE : Sd G W0 209 Xb := gs (k1 (xA hG) (k1 (xB hG) (k1 (Zg hG) .nil))) .nil
theorem zco : Sd G W0 210 X1 := gs (k1 (xA hG) (k1 (xB hG) (k1 (Zg hG) .nil))) .nil
theorem zch : Sd G W0 211 XS := gs (k1 (vm hG) (k1 (uy hG) .nil)) .nil
theorem zbW : Sd G W0 212 XV := gs (k1 (vm hG) (k1 (xA hG) (k1 (zbP hG) .nil))) .nil
theorem zbI : Sd G W0 213 Xh := gs (k1 (vm hG) (k1 (Zv hG) .nil)) .nil
theorem zaG : Sd G W0 214 Z9 := gs (k1 (xB hG) (k1 (Vg hG) .nil)) .nil
theorem zkR : Sd G W0 198 zfJ := gs (k2 (zjm hG) (k2 (zjq hG) (k2 (zi7 hG) (k2 (ziX hG) (.skip _ _ (k1 (Uw hG) (k1 (zbN hG) (k1 (zeO hG) (k1 (zaa hG) (k1 (zdk hG) (k1 (zaN hG) (k1 (zb1 hG) (k1 (zbJ hG) (k1 (zbE hG) (k1 (zco hG) (k1 (zch hG) (k1 (zbW hG) (k1 (zbI hG) (k1 (zaG hG) .nil))))))))))))))))))) .nil
theorem zb4 : Sd G W0 185 XH := gs (k1 (vW hG) (k1 (zkR hG) .nil)) .nil
theorem zcj : Sd G W0 186 XJ := gs (k1 (vW hG) .nil) .nil
theorem zde : Sd G W0 190 za4 := gs (k1 (Yr hG) .nil) .nil
theorem Xv : Sd G W0 191 Wx := gs .nil .nil
theorem zcD : Sd G W0 171 X0 := gs (k1 (zde hG) (k1 (Xv hG) .nil)) .nil
theorem zd4 : Sd G W0 172 W3 := gs (k1 (zbQ hG) (k1 (Xv hG) .nil)) .nil
theorem zbD : Sd G W0 173 Xe := gs (k1 (zdg hG) (k1 (Yr hG) (k1 (Xv hG) .nil))) .nil
theorem zaL : Sd G W0 174 Yh := gs (k1 (zde hG) (k1 (Xv hG) .nil)) .nil
theorem Xq : Sd G W0 148 Wz := gs (k1 (zcD hG) (k1 (zd4 hG) (k1 (zbD hG) (k1 (zaL hG) .nil)))) .nil
theorem zcI : Sd G W0 187 XT := gs (k1 (Xq hG) (k1 (vW hG) .nil)) .nil
theorem uC : Sd G W0 54 w9 := gs .nil .nil
theorem zcB : Sd G W0 188 XY := gs (k1 (Xl hG) (k1 (Xw hG) (k1 (uC hG) (k1 (Vt hG) .nil)))) .nil
theorem zaH : Sd G W0 189 Yg := gs (k1 (Xq hG) .nil) .nil
theorem zlM : Sd G W0 162 zh2 := gs (k1 (zaI hG) (k1 (zcl hG) (k1 (zcC hG) (k1 (zb4 hG) (k1 (zcj hG) (k1 (zcI hG) (k1 (zcB hG) (k1 (zaH hG) .nil)))))))) .nil
theorem X3 : Sd G W0 140 Zc := gs (k1 (zlM hG) .nil) .nil
theorem zbT : Sd G W0 98 XQ := gs (k1 (X3 hG) .nil) .nil
theorem Uk : Sd G W0 53 X8 := gs .nil .nil
theorem zf0 : Sd G W0 12 zex := gs (k1 (Uk hG) .nil) .nil
theorem VM : Sd G W0 141 Xx := gs (k1 (zf0 hG) (k1 (wP hG) .nil)) .nil
theorem zdB : Sd G W0 99 Wt := gs (k1 (wP hG) (k1 (ZO hG) (k1 (VM hG) .nil))) .nil
theorem zd7 : Sd G W0 100 WO := gs (k1 (wP hG) (k1 (VM hG) (k1 (vP hG) .nil))) .nil
theorem zgY : Sd G W0 21 zg1 := gs (k1 (zhi hG) .nil) .nil
theorem zcA : Sd G W0 101 XO := gs (k1 (zgY hG) .nil) .nil
theorem zaK : Sd G W0 102 Yj := gs (k1 (yr hG) .nil) .nil
theorem zmg : Sd G W0 13 zjF := gs (k1 (yr hG) (k1 (Uk hG) (k1 (uC hG) .nil))) .nil
theorem zbS : Sd G W0 103 XK := gs (k1 (zmg hG) (k1 (wP hG) (k1 (vP hG) .nil))) .nil
theorem zbm : Sd G W0 55 YV := gs .nil .nil
theorem zld : Sd G W0 14 zfA := gs (k1 (VW hG) (k1 (zbm hG) .nil)) .nil
theorem Zw : Sd G W0 167 ui := gs .nil .nil
theorem Wp : Sd G W0 169 Zq := gs (k1 (Zw hG) .nil) .nil
theorem zdf : Sd G W0 163 zbd := gs (k1 (Wp hG) .nil) .nil
theorem zhF : Sd G W0 165 U8 := gs .nil .nil
theorem Y9 : Sd G W0 164 wG := gs (k1 (zhF hG) .nil) .nil
theorem zjb : Sd G W0 143 zbV := gs (k1 (zdf hG) (k1 (Y9 hG) .nil)) .nil
theorem zef : Sd G W0 150 zcS := gs (k1 (zgY hG) (k1 (VA hG) .nil)) .nil
theorem zkk : Sd G W0 144 zfH := gs (k1 (zef hG) (k1 (zdz hG) .nil)) .nil
theorem zck : Sd G W0 104 X2 := gs (k1 (zld hG) (k1 (wP hG) (k1 (ZO hG) (k1 (vP hG) (k1 (zjb hG) (k1 (zkk hG) .nil)))))) .nil
theorem ziA : Sd G W0 168 za8 := gs .nil .nil
theorem XC : Sd G W0 164 wN := gs (k1 (ziA hG) .nil) .nil
theorem zjV : Sd G W0 145 zd6 := gs (k1 (XC hG) (k1 (Zw hG) .nil)) .nil
theorem zi0 : Sd G W0 146 zb7 := gs (k1 (zdf hG) (k1 (Wp hG) .nil)) .nil
theorem WN : Sd G W0 147 ZH := gs (k1 (Xw hG) (k1 (Vt hG) .nil)) .nil
theorem zda : Sd G W0 105 Wf := gs (k1 (Xl hG) (k1 (zjV hG) (k1 (zi0 hG) (k1 (WN hG) .nil)))) .nil
theorem zdY : Sd G W0 106 WX := gs (k1 (Xq hG) .nil) .nil
theorem zb0 : Sd G W0 107 XF := gs (k1 (Y1 hG) (k1 (uC hG) (k1 (WN hG) .nil))) .nil
theorem zdh : Sd G W0 108 Wj := gs (k1 (Xq hG) .nil) .nil
theorem zcq : Sd G W0 109 XM := gs .nil .nil
theorem UY : Sd G W0 149 WT := gs .nil .nil
theorem zc9 : Sd G W0 110 Ww := gs (k1 (zf0 hG) (k1 (zdp hG) (k1 (UY hG) .nil))) .nil
theorem zd0 : Sd G W0 111 WR := gs (k1 (X3 hG) (k1 (UY hG) .nil)) .nil
theorem ziz : Sd G W0 175 zbk := gs .nil .nil
theorem Xy : Sd G W0 164 wM := gs (k1 (ziz hG) .nil) .nil
theorem zj4 : Sd G W0 151 zd1 := gs (k1 (Xy hG) (k1 (Zw hG) .nil)) .nil
theorem za2 : Sd G W0 112 YX := gs (k1 (zef hG) (k1 (zj4 hG) .nil)) .nil
theorem zbl : Sd G W0 113 YR := gs .nil .nil
theorem zdC : Sd G W0 56 Wl := gs (k1 (zcE hG) (k1 (zcu hG) (k1 (zd9 hG) (k1 (zbT hG) (k1 (zdB hG) (k1 (zd7 hG) (k1 (zcA hG) (k1 (zaK hG) (k1 (zbS hG) (k1 (zck hG) (k1 (zda hG) (k1 (zdY hG) (k1 (zb0 hG) (k1 (zdh hG) (k1 (zcq hG) (k1 (zc9 hG) (k1 (zd0 hG) (k1 (za2 hG) (k1 (zbl hG) .nil))))))))))))))))))) .nil
theorem Yv : Sd G W0 57 wh := gs .nil .nil
theorem Yp : Sd G W0 16 Yu := gs (k1 (zdC hG) (k1 (Yv hG) .nil)) .nil
theorem vh : Sd G W0 59 wD := gs .nil .nil
theorem yy : Sd G W0 58 zN := gs (k1 (vh hG) .nil) .nil
theorem zee : Sd G W0 17 zc5 := gs (k1 (yy hG) .nil) .nil
theorem zew : Sd G W0 116 Vq := gs .nil .nil
theorem VK : Sd G W0 118 uA := gs .nil .nil
theorem xI : Sd G W0 117 zZ := gs (k1 (VK hG) .nil) .nil
theorem WK : Sd G W0 119 vz := gs .nil .nil
theorem zlI : Sd G W0 64 zh3 := gs (k1 (zee hG) (k1 (yy hG) (k1 (zew hG) (k1 (xI hG) (k1 (WK hG) .nil))))) .nil
theorem Uh : Sd G W0 120 u7 := gs .nil .nil
theorem zmu : Sd G W0 65 zi4 := gs (k1 (Uh hG) .nil) .nil
theorem UZ : Sd G W0 121 Zz := gs .nil .nil
theorem zj2 : Sd G W0 66 zdH := gs (k1 (UZ hG) .nil) .nil
theorem zeB : Sd G W0 68 Vs := gs (k1 (vh hG) .nil) .nil
theorem xq : Sd G W0 67 zS := gs (k1 (zeB hG) .nil) .nil
theorem zbY : Sd G W0 122 XR := gs .nil .nil
theorem zdS : Sd G W0 70 WU := gs (k1 (vh hG) (k1 (zbY hG) .nil)) .nil
theorem xe : Sd G W0 69 zL := gs (k1 (zdS hG) .nil) .nil
theorem zdl : Sd G W0 22 zbe := gs (k1 (zee hG) (k1 (yy hG) (k1 (vh hG) (k1 (zlI hG) (k1 (zmu hG) (k1 (zj2 hG) (k1 (xq hG) (k1 (xe hG) .nil)))))))) .nil
theorem zgg : Sd G W0 31 VZ := gs .nil .nil
theorem zgf : Sd G W0 32 VT := gs (k1 (Yp hG) .nil) .nil
theorem zlW : Sd G W0 33 zh5 := gs (k1 (VW hG) (k1 (zsD hG) (k1 (zsQ hG) .nil))) .nil
theorem zc8 : Sd G W0 9 Wb := gs (k1 (zej hG) (k1 (zhC hG) (k1 (Yp hG) (k1 (zdl hG) (k1 (zgg hG) (k1 (zgf hG) (k1 (zlW hG) .nil))))))) .nil
theorem YH : Sd G W0 34 uc := gs .nil .nil
theorem zaS : Sd G W0 36 YS := gs (k1 (YH hG) .nil) .nil
theorem zgG : Sd G W0 10 Uv := gs (k1 (YH hG) (k1 (VA hG) (k1 (zaS hG) .nil))) .nil
theorem zgx : Sd G W0 18 Uq := gs (k1 (Yp hG) .nil) .nil
theorem UN : Sd G W0 72 ZA := gs .nil .nil
theorem ziV : Sd G W0 74 zcw := gs (k1 (yr hG) .nil) .nil
theorem Y3 : Sd G W0 73 wA := gs (k1 (ziV hG) .nil) .nil
theorem zjt : Sd G W0 76 zb9 := gs (k1 (yr hG) .nil) .nil
theorem YA : Sd G W0 75 ww := gs (k1 (zjt hG) .nil) .nil
theorem zkH : Sd G W0 23 zf5 := gs (k1 (vq hG) (k1 (yr hG) (k1 (ZF hG) (k1 (UN hG) (k1 (Y3 hG) (k1 (YA hG) .nil)))))) .nil
theorem zaJ : Sd G W0 6 Z8 := gs (k1 (zc8 hG) (k1 (zgG hG) (k1 (zej hG) (k1 (Yp hG) (k1 (zgx hG) (k1 (zdl hG) (k1 (zkH hG) .nil))))))) .nil
end Go.Pe.G
