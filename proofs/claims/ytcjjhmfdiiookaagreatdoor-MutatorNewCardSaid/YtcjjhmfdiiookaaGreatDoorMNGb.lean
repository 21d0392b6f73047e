/- Own work of this seat: G4e, G4f, EQ, G2i, GH, G3. -/
import Derived.Test.YtcjjhmfdiiookaaGreatDoorMNGa
set_option linter.unusedVariables false
set_option linter.unusedSectionVars false
set_option linter.unusedSimpArgs false
set_option linter.unnecessarySimpa false
set_option linter.deprecated false
set_option maxRecDepth 100000
namespace Go.Pe.G
open Go.Pe
theorem VL (s1 : Int) (s2 : Int) (s3 : Int) (s4 : zb) (s5 : Int) (s6 : Int) (s7 : Int) (s8 : Int) (s9 : Int) (s10 : Int) (s11 : Int) (s12 : Int) (s13 : Int) (s14 : BitVec 64) (s15 : Int) (s16 : zp) (s17 : Int) (s18 : Int) (s19 : Bool) (s20 : Bool) (s21 : Int) (s22 : Int) (s23 : Int) (s24 : Int) (s25 : zq) (s26 : List (List Int)) (s27 : List (List Int)) (s28 : List (List zg)) (s29 : List zj) (s30 : List (List Int)) (s31 : List (BitVec 64)) (s32 : List (List Int)) (s33 : List Int) (s34 : List Int) (s35 : List zk) (s36 : List zc) : uf (s1, s2, s3, s4, s5, s6, s7, s8, s9, s10, s11, s12, s13, s14, s15, s16, s17, s18, s19, s20, s21, s22, s23, s24, s25, s26, s27, s28, s29, s30, s31, s32, s33, s34, s35, s36, ()) =
 bif decide (s3 < s2) then
  (Wv s4 s1).bind fun y1 =>
  some (.again (s1, s2, w64 (s3 + 1), y1.1, s5, s6, s7, s8, s9, s10, s11, s12, s13, s14, s15, s16, s17, s18, s19, s20, s21, s22, s23, s24, s25, s26, s27, s28, s29, s30, s31, s32, s33, s34, s35, s36, ()))
 else
  some (.brk (s4, s5, s6, s7, s8, s9, s10, s11, s12, s13, s14, s15, s16, s17, s18, s19, s20, s21, s22, s23, s24, s25, s26, s27, s28, s29, s30, s31, s32, s33, s34, s35, s36, ())) := by kernel_rfl
theorem zim (a1 : zb) (a2 : Int) (a3 : Int) : yj a1 a2 a3 =
 (yp uf (a2, a3, 0, a1, 0, 0, 0, 0, 0, 0, 0, 0, 0, 0#64, 0, zp.mk 0#64 0#64, 0, 0, false, false, 0, 0, 0, 0, zq.mk 0 0, ([] : List (List Int)), ([] : List (List Int)), ([] : List (List zg)), ([] : List zj), ([] : List (List Int)), ([] : List (BitVec 64)), ([] : List (List Int)), ([] : List Int), ([] : List Int), ([] : List zk), ([] : List zc), ())).bind fun st => match st with
   | .again _ => none
   | .brk y1 =>
   some (y1.1, ())
   | .ret y1 =>
   none := zn (by kernel_rfl)
theorem zej (s1 : ByteArray) (s2 : List (List Int)) (s3 : Int) (s4 : Int) : zcy (s1, s2, s3, s4, ()) =
 bif decide (s4 < s3) then
  (idx s2 s4).bind fun x1 =>
  (yp zcJ (s1, s2, s3, s4, x1, (x1.length : Int), 0, ([] : List ByteArray), ())).bind fun st => match st with
    | .again _ => none
    | .brk y2 =>
    (zt3 y2.2.2.2.2.1 (ByteArray.mk #[44])).bind fun y3 =>
    bif decide ((ByteArray.mk #[124]).size + y3.1.size < 4294967296) then
     bif decide (y2.1.size + ((ByteArray.mk #[124]) ++ y3.1).size < 4294967296) then
      some (.again (y2.1 ++ ((ByteArray.mk #[124]) ++ y3.1), y2.2.1, y2.2.2.1, w64 (y2.2.2.2.1 + 1), ()))
     else
      none
    else
     none
    | .ret y2 =>
    some (.ret (()))
 else
  some (.brk (s1, ())) := by kernel_rfl
theorem zep (s1 : ByteArray) (s2 : List (List Int)) (s3 : Int) (s4 : Int) (s5 : List Int) (s6 : Int) (s7 : Int) (s8 : List ByteArray) : zcJ (s1, s2, s3, s4, s5, s6, s7, s8, ()) =
 bif decide (s7 < s6) then
  (idx s5 s7).bind fun x1 =>
  (zqx x1).bind fun y2 =>
  (wj (s8 ++ ([y2.1] : List ByteArray))).bind fun l3 =>
  some (.again (s1, s2, s3, s4, s5, s6, w64 (s7 + 1), l3, ()))
 else
  some (.brk (s1, s2, s3, s4, s8, ())) := by kernel_rfl
theorem zpw (a1 : zu) : UR a1 =
 (Yq a1).bind fun y1 =>
 bif !y1.1 then
  some (ByteArray.mk #[63], ())
 else
  (zqx a1.Slots).bind fun y2 =>
  (yp zcy (y2.1, a1.Objs, (a1.Objs.length : Int), 0, ())).bind fun st => match st with
    | .again _ => none
    | .brk y3 =>
    some (y3.1, ())
    | .ret y3 =>
    none := zn (by kernel_rfl)
theorem zfs  : Wq  =
 (Xe (([(([(zg.mk 1 1 0 0), (zg.mk 5 1 0 0), (zg.mk 2 1 0 0)] : List zg))] : List (List zg)))).bind fun y1 =>
 (UF y1.1).bind fun y2 =>
 (yj y2.1 1 2).bind fun y3 =>
 (yj y2.1 1 7).bind fun y4 =>
 (yj y2.1 1 8).bind fun y5 =>
 (yj y2.1 1 99).bind fun y6 =>
 (Xe (([(([(zg.mk 3 1 0 0), (zg.mk 3 1 0 0)] : List zg))] : List (List zg)))).bind fun y7 =>
 (UF y7.1).bind fun y8 =>
 (yj y8.1 1 2).bind fun y9 =>
 (yj y8.1 1 5).bind fun y10 =>
 (yj y8.1 1 60).bind fun y11 =>
 bif !(decide (((y2.1.Ms.length : Int)) = 1)) then
  some (false, ())
 else
  bif !(decide (((y3.1.Ms.length : Int)) = 1)) then
   some (false, ())
  else
   bif !(decide (((y4.1.Ms.length : Int)) = 1)) then
    some (false, ())
   else
    bif !(decide (((y5.1.Ms.length : Int)) = 1)) then
     some (false, ())
    else
     bif !(decide (((y6.1.Ms.length : Int)) = 1)) then
      some (false, ())
     else
      bif !(decide (((y9.1.Ms.length : Int)) = 1)) then
       some (false, ())
      else
       bif !(decide (((y10.1.Ms.length : Int)) = 1)) then
        some (false, ())
       else
        bif !(decide (((y11.1.Ms.length : Int)) = 1)) then
         some (false, ())
        else
         (idx y3.1.Ms 0).bind fun x12 =>
         (idx x12.Regs 1).bind fun x13 =>
         bif decide (x13 = 2) then
          (idx y3.1.Ms 0).bind fun x14 =>
          bif decide (x14.IP = 1) then
           (idx y4.1.Ms 0).bind fun x15 =>
           bif decide (x15.PC = 23) then
            (idx y4.1.Ms 0).bind fun x16 =>
            bif decide (((x16.Buf.length : Int)) = 1) then
             (idx y4.1.Ms 0).bind fun x17 =>
             (idx x17.Buf 0).bind fun x18 =>
             bif decide (x18 = 2) then
              (UR y4.1.H).bind fun y19 =>
              bif decide (y19.1 = (ByteArray.mk #[49, 124, 50, 124, 48, 124, 48])) then
               (UR y5.1.H).bind fun y20 =>
               bif decide (y20.1 = (ByteArray.mk #[49, 124, 48, 124, 48, 124, 48])) then
                (WQ y6.1 1).bind fun y21 =>
                bif y21.1 then
                 (WQ y4.1 1).bind fun y22 =>
                 bif !y22.1 then
                  (WQ y6.1 2).bind fun y23 =>
                  bif !y23.1 then
                   (Wv y6.1 1).bind fun y24 =>
                   (zfN y6.1 y24.1).bind fun y25 =>
                   bif y25.1 then
                    (UR y9.1.H).bind fun y26 =>
                    bif decide (y26.1 = (ByteArray.mk #[49, 124, 50, 124, 48, 124, 48, 124, 48])) then
                     (idx y9.1.Ms 0).bind fun x27 =>
                     (idx x27.Regs 1).bind fun x28 =>
                     bif decide (x28 = 4) then
                      bif (decide (y9.1.T.Marks = 9#64)) && (decide (y9.1.T.Black = 8#64)) then
                       (idx y9.1.L.Bal 0).bind fun x29 =>
                       bif decide (x29 = (-2)) then
                        bif decide (y9.1.L.Spent = 2) then
                         (idx y10.1.Ms 0).bind fun x30 =>
                         bif decide (x30.PC = 32) then
                          bif decide (y11.1.L.Scanned = 2) then
                           some (decide (y11.1.T.Black = 11#64), ())
                          else
                           some (false, ())
                         else
                          some (false, ())
                        else
                         some (false, ())
                       else
                        some (false, ())
                      else
                       some (false, ())
                     else
                      some (false, ())
                    else
                     some (false, ())
                   else
                    some (false, ())
                  else
                   some (false, ())
                 else
                  some (false, ())
                else
                 some (false, ())
               else
                some (false, ())
              else
               some (false, ())
             else
              some (false, ())
            else
             some (false, ())
           else
            some (false, ())
          else
           some (false, ())
         else
          some (false, ()) := zn (by kernel_rfl)
theorem zbB (a1 : zx) : zt a1 =
 bif decide (((a1.L.length : Int)) ≤ a1.At) then
  some (0, a1, ())
 else
  (idx a1.L (w64 ((w64 (a1.At + 1)) - 1))).bind fun x1 =>
  some ((x1.toNat : Int), { a1 with At := w64 (a1.At + 1) }, ()) := zn (by kernel_rfl)
theorem zdw (a1 : Int) (a2 : Int) (a3 : zx) : YH a1 a2 a3 =
 (zt a3).bind fun y1 =>
 (xT ([1, 1, 2, 2, 2, 3, 4, 5] : List Int) (y1.1.tmod 8)).bind fun n2 =>
 (([1, 1, 2, 2, 2, 3, 4, 5] : List Int)[n2]?).bind fun x3 =>
 (zt y1.2.1).bind fun y4 =>
 bif decide (a1 = 0) then
  none
 else
  bif decide (x3 = 1) then
   (zt y4.2.1).bind fun y5 =>
   bif decide (a1 = 0) then
    none
   else
    bif decide (x3 < 3) then
     (zt y5.2.1).bind fun y6 =>
     bif decide (a2 = 0) then
      none
     else
      some (zg.mk x3 (y4.1.tmod a1) (y5.1.tmod a1) (y6.1.tmod a2), y6.2.1, ())
    else
     some (zg.mk x3 (y4.1.tmod a1) (y5.1.tmod a1) 0, y5.2.1, ())
  else
   bif decide (x3 = 2) then
    (zt y4.2.1).bind fun y7 =>
    bif decide (a1 = 0) then
     none
    else
     bif decide (x3 < 3) then
      (zt y7.2.1).bind fun y8 =>
      bif decide (a2 = 0) then
       none
      else
       some (zg.mk x3 (y4.1.tmod a1) (y7.1.tmod a1) (y8.1.tmod a2), y8.2.1, ())
     else
      some (zg.mk x3 (y4.1.tmod a1) (y7.1.tmod a1) 0, y7.2.1, ())
   else
    bif decide (x3 = 4) then
     (zt y4.2.1).bind fun y9 =>
     bif decide (a1 = 0) then
      none
     else
      bif decide (x3 < 3) then
       (zt y9.2.1).bind fun y10 =>
       bif decide (a2 = 0) then
        none
       else
        some (zg.mk x3 (y4.1.tmod a1) (y9.1.tmod a1) (y10.1.tmod a2), y10.2.1, ())
      else
       some (zg.mk x3 (y4.1.tmod a1) (y9.1.tmod a1) 0, y9.2.1, ())
    else
     bif decide (x3 < 3) then
      (zt y4.2.1).bind fun y11 =>
      bif decide (a2 = 0) then
       none
      else
       some (zg.mk x3 (y4.1.tmod a1) 0 (y11.1.tmod a2), y11.2.1, ())
     else
      some (zg.mk x3 (y4.1.tmod a1) 0 0, y4.2.1, ()) := zn (by kernel_rfl)
theorem zgV (s1 : Int) (s2 : Int) (s3 : Int) (s4 : Int) (s5 : Int) (s6 : Int) (s7 : Int) (s8 : Int) (s9 : Int) (s10 : Int) (s11 : Int) (s12 : BitVec 64) (s13 : zx) (s14 : Int) (s15 : Int) (s16 : Int) (s17 : Int) (s18 : Int) (s19 : Int) (s20 : Int) (s21 : Int) (s22 : Int) (s23 : BitVec 64) (s24 : List (List Int)) (s25 : List (List Int)) (s26 : List (List zg)) (s27 : List zj) (s28 : List (List Int)) (s29 : List (List Int)) (s30 : List (List zg)) (s31 : List zj) : Z7 (s1, s2, s3, s4, s5, s6, s7, s8, s9, s10, s11, s12, s13, s14, s15, s16, s17, s18, s19, s20, s21, s22, s23, s24, s25, s26, s27, s28, s29, s30, s31, ()) =
 bif decide (s2 < s1) then
  (yp Zv (s1, s2, 0, s3, s4, s5, s6, s7, s8, s9, s10, s11, s12, s13, s14, s15, s16, s17, s18, s19, s20, s21, s22, s23, ([] : List Int), s24, s25, s26, s27, s28, s29, s30, s31, ())).bind fun st => match st with
    | .again _ => none
    | .brk y1 =>
    (wj (y1.2.2.2.2.2.2.2.2.2.2.2.2.2.2.2.2.2.2.2.2.2.2.2.2.2.2.2.2.1 ++ (([y1.2.2.2.2.2.2.2.2.2.2.2.2.2.2.2.2.2.2.2.2.2.2.2.1] : List (List Int))))).bind fun l2 =>
    some (.again (y1.1, w64 (y1.2.1 + 1), y1.2.2.1, y1.2.2.2.1, y1.2.2.2.2.1, y1.2.2.2.2.2.1, y1.2.2.2.2.2.2.1, y1.2.2.2.2.2.2.2.1, y1.2.2.2.2.2.2.2.2.1, y1.2.2.2.2.2.2.2.2.2.1, y1.2.2.2.2.2.2.2.2.2.2.1, y1.2.2.2.2.2.2.2.2.2.2.2.1, y1.2.2.2.2.2.2.2.2.2.2.2.2.1, y1.2.2.2.2.2.2.2.2.2.2.2.2.2.1, y1.2.2.2.2.2.2.2.2.2.2.2.2.2.2.1, y1.2.2.2.2.2.2.2.2.2.2.2.2.2.2.2.1, y1.2.2.2.2.2.2.2.2.2.2.2.2.2.2.2.2.1, y1.2.2.2.2.2.2.2.2.2.2.2.2.2.2.2.2.2.1, y1.2.2.2.2.2.2.2.2.2.2.2.2.2.2.2.2.2.2.1, y1.2.2.2.2.2.2.2.2.2.2.2.2.2.2.2.2.2.2.2.1, y1.2.2.2.2.2.2.2.2.2.2.2.2.2.2.2.2.2.2.2.2.1, y1.2.2.2.2.2.2.2.2.2.2.2.2.2.2.2.2.2.2.2.2.2.1, y1.2.2.2.2.2.2.2.2.2.2.2.2.2.2.2.2.2.2.2.2.2.2.1, y1.2.2.2.2.2.2.2.2.2.2.2.2.2.2.2.2.2.2.2.2.2.2.2.2.1, y1.2.2.2.2.2.2.2.2.2.2.2.2.2.2.2.2.2.2.2.2.2.2.2.2.2.1, y1.2.2.2.2.2.2.2.2.2.2.2.2.2.2.2.2.2.2.2.2.2.2.2.2.2.2.1, y1.2.2.2.2.2.2.2.2.2.2.2.2.2.2.2.2.2.2.2.2.2.2.2.2.2.2.2.1, l2, y1.2.2.2.2.2.2.2.2.2.2.2.2.2.2.2.2.2.2.2.2.2.2.2.2.2.2.2.2.2.1, y1.2.2.2.2.2.2.2.2.2.2.2.2.2.2.2.2.2.2.2.2.2.2.2.2.2.2.2.2.2.2.1, y1.2.2.2.2.2.2.2.2.2.2.2.2.2.2.2.2.2.2.2.2.2.2.2.2.2.2.2.2.2.2.2.1, ()))
    | .ret y1 =>
    some (.ret (()))
 else
  some (.brk (s1, s3, s4, s5, s6, s7, s8, s9, s10, s11, s12, s13, s14, s15, s16, s17, s18, s19, s20, s21, s22, s23, s24, s25, s26, s27, s28, s29, s30, s31, ())) := by kernel_rfl
theorem zgo (s1 : Int) (s2 : Int) (s3 : Int) (s4 : Int) (s5 : Int) (s6 : Int) (s7 : Int) (s8 : Int) (s9 : Int) (s10 : Int) (s11 : Int) (s12 : Int) (s13 : BitVec 64) (s14 : zx) (s15 : Int) (s16 : Int) (s17 : Int) (s18 : Int) (s19 : Int) (s20 : Int) (s21 : Int) (s22 : Int) (s23 : Int) (s24 : BitVec 64) (s25 : List Int) (s26 : List (List Int)) (s27 : List (List Int)) (s28 : List (List zg)) (s29 : List zj) (s30 : List (List Int)) (s31 : List (List Int)) (s32 : List (List zg)) (s33 : List zj) : Zv (s1, s2, s3, s4, s5, s6, s7, s8, s9, s10, s11, s12, s13, s14, s15, s16, s17, s18, s19, s20, s21, s22, s23, s24, s25, s26, s27, s28, s29, s30, s31, s32, s33, ()) =
 bif decide (s3 < s23) then
  (zt s14).bind fun y1 =>
  bif decide ((w64 (s1 + 1)) = 0) then
   none
  else
   (wj (s25 ++ (([(y1.1.tmod (w64 (s1 + 1)))] : List Int)))).bind fun l2 =>
   some (.again (s1, s2, w64 (s3 + 1), s4, s5, s6, s7, s8, s9, s10, s11, s12, s13, y1.2.1, s15, s16, s17, s18, s19, s20, s21, s22, s23, s24, l2, s26, s27, s28, s29, s30, s31, s32, s33, ()))
 else
  some (.brk (s1, s2, s4, s5, s6, s7, s8, s9, s10, s11, s12, s13, s14, s15, s16, s17, s18, s19, s20, s21, s22, s23, s24, s25, s26, s27, s28, s29, s30, s31, s32, s33, ())) := by kernel_rfl
theorem zfr (s1 : Int) (s2 : Int) (s3 : Int) (s4 : Int) (s5 : Int) (s6 : Int) (s7 : Int) (s8 : Int) (s9 : Int) (s10 : Int) (s11 : Int) (s12 : BitVec 64) (s13 : zx) (s14 : Int) (s15 : Int) (s16 : Int) (s17 : Int) (s18 : Int) (s19 : Int) (s20 : Int) (s21 : Int) (s22 : Int) (s23 : BitVec 64) (s24 : List (List Int)) (s25 : List (List Int)) (s26 : List (List zg)) (s27 : List zj) (s28 : List (List Int)) (s29 : List (List Int)) (s30 : List (List zg)) (s31 : List zj) : Zy (s1, s2, s3, s4, s5, s6, s7, s8, s9, s10, s11, s12, s13, s14, s15, s16, s17, s18, s19, s20, s21, s22, s23, s24, s25, s26, s27, s28, s29, s30, s31, ()) =
 bif decide (s2 < s15) then
  (yp ZA (s1, s2, 0, s3, s4, s5, s6, s7, s8, s9, s10, s11, s12, s13, s14, s15, s16, s17, s18, s19, s20, s21, s22, s23, ([] : List Int), s24, s25, s26, s27, s28, s29, s30, s31, ())).bind fun st => match st with
    | .again _ => none
    | .brk y1 =>
    bif decide (((y1.2.2.2.2.2.2.2.2.2.2.2.2.2.2.2.2.2.2.2.2.2.2.2.1.length : Int)) = 0) then
     (zt y1.2.2.2.2.2.2.2.2.2.2.2.2.1).bind fun y2 =>
     (yp uc (y1.1, y1.2.1, y2.1.tmod 8, y1.2.2.1, y1.2.2.2.1, y1.2.2.2.2.1, y1.2.2.2.2.2.1, y1.2.2.2.2.2.2.1, y1.2.2.2.2.2.2.2.1, y1.2.2.2.2.2.2.2.2.1, y1.2.2.2.2.2.2.2.2.2.1, y1.2.2.2.2.2.2.2.2.2.2.1, y1.2.2.2.2.2.2.2.2.2.2.2.1, y2.2.1, y1.2.2.2.2.2.2.2.2.2.2.2.2.2.1, y1.2.2.2.2.2.2.2.2.2.2.2.2.2.2.1, y1.2.2.2.2.2.2.2.2.2.2.2.2.2.2.2.1, y1.2.2.2.2.2.2.2.2.2.2.2.2.2.2.2.2.1, y1.2.2.2.2.2.2.2.2.2.2.2.2.2.2.2.2.2.1, y1.2.2.2.2.2.2.2.2.2.2.2.2.2.2.2.2.2.2.1, y1.2.2.2.2.2.2.2.2.2.2.2.2.2.2.2.2.2.2.2.1, y1.2.2.2.2.2.2.2.2.2.2.2.2.2.2.2.2.2.2.2.2.1, y1.2.2.2.2.2.2.2.2.2.2.2.2.2.2.2.2.2.2.2.2.2.1, y1.2.2.2.2.2.2.2.2.2.2.2.2.2.2.2.2.2.2.2.2.2.2.1, ([0] : List Int), ([] : List zg), y1.2.2.2.2.2.2.2.2.2.2.2.2.2.2.2.2.2.2.2.2.2.2.2.2.1, y1.2.2.2.2.2.2.2.2.2.2.2.2.2.2.2.2.2.2.2.2.2.2.2.2.2.1, y1.2.2.2.2.2.2.2.2.2.2.2.2.2.2.2.2.2.2.2.2.2.2.2.2.2.2.1, y1.2.2.2.2.2.2.2.2.2.2.2.2.2.2.2.2.2.2.2.2.2.2.2.2.2.2.2.1, y1.2.2.2.2.2.2.2.2.2.2.2.2.2.2.2.2.2.2.2.2.2.2.2.2.2.2.2.2.1, y1.2.2.2.2.2.2.2.2.2.2.2.2.2.2.2.2.2.2.2.2.2.2.2.2.2.2.2.2.2.1, y1.2.2.2.2.2.2.2.2.2.2.2.2.2.2.2.2.2.2.2.2.2.2.2.2.2.2.2.2.2.2.1, y1.2.2.2.2.2.2.2.2.2.2.2.2.2.2.2.2.2.2.2.2.2.2.2.2.2.2.2.2.2.2.2.1, ())).bind fun st => match st with
       | .again _ => none
       | .brk y3 =>
       (wj (y3.2.2.2.2.2.2.2.2.2.2.2.2.2.2.2.2.2.2.2.2.2.2.2.2.2.2.2.2.2.2.1 ++ (([y3.2.2.2.2.2.2.2.2.2.2.2.2.2.2.2.2.2.2.2.2.2.2.2.1] : List (List Int))))).bind fun l4 =>
       (wj (y3.2.2.2.2.2.2.2.2.2.2.2.2.2.2.2.2.2.2.2.2.2.2.2.2.2.2.2.2.2.2.2.1 ++ (([y3.2.2.2.2.2.2.2.2.2.2.2.2.2.2.2.2.2.2.2.2.2.2.2.2.1] : List (List zg))))).bind fun l5 =>
       some (.again (y3.1, w64 (y3.2.1 + 1), y3.2.2.1, y3.2.2.2.1, y3.2.2.2.2.1, y3.2.2.2.2.2.1, y3.2.2.2.2.2.2.1, y3.2.2.2.2.2.2.2.1, y3.2.2.2.2.2.2.2.2.1, y3.2.2.2.2.2.2.2.2.2.1, y3.2.2.2.2.2.2.2.2.2.2.1, y3.2.2.2.2.2.2.2.2.2.2.2.1, y3.2.2.2.2.2.2.2.2.2.2.2.2.1, y3.2.2.2.2.2.2.2.2.2.2.2.2.2.1, y3.2.2.2.2.2.2.2.2.2.2.2.2.2.2.1, y3.2.2.2.2.2.2.2.2.2.2.2.2.2.2.2.1, y3.2.2.2.2.2.2.2.2.2.2.2.2.2.2.2.2.1, y3.2.2.2.2.2.2.2.2.2.2.2.2.2.2.2.2.2.1, y3.2.2.2.2.2.2.2.2.2.2.2.2.2.2.2.2.2.2.1, y3.2.2.2.2.2.2.2.2.2.2.2.2.2.2.2.2.2.2.2.1, y3.2.2.2.2.2.2.2.2.2.2.2.2.2.2.2.2.2.2.2.2.1, y3.2.2.2.2.2.2.2.2.2.2.2.2.2.2.2.2.2.2.2.2.2.1, y3.2.2.2.2.2.2.2.2.2.2.2.2.2.2.2.2.2.2.2.2.2.2.1, y3.2.2.2.2.2.2.2.2.2.2.2.2.2.2.2.2.2.2.2.2.2.2.2.2.2.1, y3.2.2.2.2.2.2.2.2.2.2.2.2.2.2.2.2.2.2.2.2.2.2.2.2.2.2.1, y3.2.2.2.2.2.2.2.2.2.2.2.2.2.2.2.2.2.2.2.2.2.2.2.2.2.2.2.1, y3.2.2.2.2.2.2.2.2.2.2.2.2.2.2.2.2.2.2.2.2.2.2.2.2.2.2.2.2.1, y3.2.2.2.2.2.2.2.2.2.2.2.2.2.2.2.2.2.2.2.2.2.2.2.2.2.2.2.2.2.1, l4, l5, y3.2.2.2.2.2.2.2.2.2.2.2.2.2.2.2.2.2.2.2.2.2.2.2.2.2.2.2.2.2.2.2.2.1, ()))
       | .ret y3 =>
       some (.ret (()))
    else
     (zt y1.2.2.2.2.2.2.2.2.2.2.2.2.1).bind fun y6 =>
     (yp uc (y1.1, y1.2.1, y6.1.tmod 8, y1.2.2.1, y1.2.2.2.1, y1.2.2.2.2.1, y1.2.2.2.2.2.1, y1.2.2.2.2.2.2.1, y1.2.2.2.2.2.2.2.1, y1.2.2.2.2.2.2.2.2.1, y1.2.2.2.2.2.2.2.2.2.1, y1.2.2.2.2.2.2.2.2.2.2.1, y1.2.2.2.2.2.2.2.2.2.2.2.1, y6.2.1, y1.2.2.2.2.2.2.2.2.2.2.2.2.2.1, y1.2.2.2.2.2.2.2.2.2.2.2.2.2.2.1, y1.2.2.2.2.2.2.2.2.2.2.2.2.2.2.2.1, y1.2.2.2.2.2.2.2.2.2.2.2.2.2.2.2.2.1, y1.2.2.2.2.2.2.2.2.2.2.2.2.2.2.2.2.2.1, y1.2.2.2.2.2.2.2.2.2.2.2.2.2.2.2.2.2.2.1, y1.2.2.2.2.2.2.2.2.2.2.2.2.2.2.2.2.2.2.2.1, y1.2.2.2.2.2.2.2.2.2.2.2.2.2.2.2.2.2.2.2.2.1, y1.2.2.2.2.2.2.2.2.2.2.2.2.2.2.2.2.2.2.2.2.2.1, y1.2.2.2.2.2.2.2.2.2.2.2.2.2.2.2.2.2.2.2.2.2.2.1, y1.2.2.2.2.2.2.2.2.2.2.2.2.2.2.2.2.2.2.2.2.2.2.2.1, ([] : List zg), y1.2.2.2.2.2.2.2.2.2.2.2.2.2.2.2.2.2.2.2.2.2.2.2.2.1, y1.2.2.2.2.2.2.2.2.2.2.2.2.2.2.2.2.2.2.2.2.2.2.2.2.2.1, y1.2.2.2.2.2.2.2.2.2.2.2.2.2.2.2.2.2.2.2.2.2.2.2.2.2.2.1, y1.2.2.2.2.2.2.2.2.2.2.2.2.2.2.2.2.2.2.2.2.2.2.2.2.2.2.2.1, y1.2.2.2.2.2.2.2.2.2.2.2.2.2.2.2.2.2.2.2.2.2.2.2.2.2.2.2.2.1, y1.2.2.2.2.2.2.2.2.2.2.2.2.2.2.2.2.2.2.2.2.2.2.2.2.2.2.2.2.2.1, y1.2.2.2.2.2.2.2.2.2.2.2.2.2.2.2.2.2.2.2.2.2.2.2.2.2.2.2.2.2.2.1, y1.2.2.2.2.2.2.2.2.2.2.2.2.2.2.2.2.2.2.2.2.2.2.2.2.2.2.2.2.2.2.2.1, ())).bind fun st => match st with
       | .again _ => none
       | .brk y7 =>
       (wj (y7.2.2.2.2.2.2.2.2.2.2.2.2.2.2.2.2.2.2.2.2.2.2.2.2.2.2.2.2.2.2.1 ++ (([y7.2.2.2.2.2.2.2.2.2.2.2.2.2.2.2.2.2.2.2.2.2.2.2.1] : List (List Int))))).bind fun l8 =>
       (wj (y7.2.2.2.2.2.2.2.2.2.2.2.2.2.2.2.2.2.2.2.2.2.2.2.2.2.2.2.2.2.2.2.1 ++ (([y7.2.2.2.2.2.2.2.2.2.2.2.2.2.2.2.2.2.2.2.2.2.2.2.2.1] : List (List zg))))).bind fun l9 =>
       some (.again (y7.1, w64 (y7.2.1 + 1), y7.2.2.1, y7.2.2.2.1, y7.2.2.2.2.1, y7.2.2.2.2.2.1, y7.2.2.2.2.2.2.1, y7.2.2.2.2.2.2.2.1, y7.2.2.2.2.2.2.2.2.1, y7.2.2.2.2.2.2.2.2.2.1, y7.2.2.2.2.2.2.2.2.2.2.1, y7.2.2.2.2.2.2.2.2.2.2.2.1, y7.2.2.2.2.2.2.2.2.2.2.2.2.1, y7.2.2.2.2.2.2.2.2.2.2.2.2.2.1, y7.2.2.2.2.2.2.2.2.2.2.2.2.2.2.1, y7.2.2.2.2.2.2.2.2.2.2.2.2.2.2.2.1, y7.2.2.2.2.2.2.2.2.2.2.2.2.2.2.2.2.1, y7.2.2.2.2.2.2.2.2.2.2.2.2.2.2.2.2.2.1, y7.2.2.2.2.2.2.2.2.2.2.2.2.2.2.2.2.2.2.1, y7.2.2.2.2.2.2.2.2.2.2.2.2.2.2.2.2.2.2.2.1, y7.2.2.2.2.2.2.2.2.2.2.2.2.2.2.2.2.2.2.2.2.1, y7.2.2.2.2.2.2.2.2.2.2.2.2.2.2.2.2.2.2.2.2.2.1, y7.2.2.2.2.2.2.2.2.2.2.2.2.2.2.2.2.2.2.2.2.2.2.1, y7.2.2.2.2.2.2.2.2.2.2.2.2.2.2.2.2.2.2.2.2.2.2.2.2.2.1, y7.2.2.2.2.2.2.2.2.2.2.2.2.2.2.2.2.2.2.2.2.2.2.2.2.2.2.1, y7.2.2.2.2.2.2.2.2.2.2.2.2.2.2.2.2.2.2.2.2.2.2.2.2.2.2.2.1, y7.2.2.2.2.2.2.2.2.2.2.2.2.2.2.2.2.2.2.2.2.2.2.2.2.2.2.2.2.1, y7.2.2.2.2.2.2.2.2.2.2.2.2.2.2.2.2.2.2.2.2.2.2.2.2.2.2.2.2.2.1, l8, l9, y7.2.2.2.2.2.2.2.2.2.2.2.2.2.2.2.2.2.2.2.2.2.2.2.2.2.2.2.2.2.2.2.2.1, ()))
       | .ret y7 =>
       some (.ret (()))
    | .ret y1 =>
    some (.ret (()))
 else
  some (.brk (s3, s4, s5, s6, s7, s8, s9, s10, s11, s12, s14, s15, s16, s17, s18, s19, s20, s21, s22, s23, s24, s25, s26, s27, s28, s29, s30, s31, ())) := by kernel_rfl
theorem zgc (s1 : Int) (s2 : Int) (s3 : Int) (s4 : Int) (s5 : Int) (s6 : Int) (s7 : Int) (s8 : Int) (s9 : Int) (s10 : Int) (s11 : Int) (s12 : Int) (s13 : BitVec 64) (s14 : zx) (s15 : Int) (s16 : Int) (s17 : Int) (s18 : Int) (s19 : Int) (s20 : Int) (s21 : Int) (s22 : Int) (s23 : Int) (s24 : BitVec 64) (s25 : List Int) (s26 : List (List Int)) (s27 : List (List Int)) (s28 : List (List zg)) (s29 : List zj) (s30 : List (List Int)) (s31 : List (List Int)) (s32 : List (List zg)) (s33 : List zj) : ZA (s1, s2, s3, s4, s5, s6, s7, s8, s9, s10, s11, s12, s13, s14, s15, s16, s17, s18, s19, s20, s21, s22, s23, s24, s25, s26, s27, s28, s29, s30, s31, s32, s33, ()) =
 (zt s14).bind fun y1 =>
 bif decide (s3 < (w64 (1 + (y1.1.tmod 3)))) then
  (zt y1.2.1).bind fun y2 =>
  bif decide ((w64 (s1 + 1)) = 0) then
   none
  else
   (wj (s25 ++ (([(y2.1.tmod (w64 (s1 + 1)))] : List Int)))).bind fun l3 =>
   some (.again (s1, s2, w64 (s3 + 1), s4, s5, s6, s7, s8, s9, s10, s11, s12, s13, y2.2.1, s15, s16, s17, s18, s19, s20, s21, s22, s23, s24, l3, s26, s27, s28, s29, s30, s31, s32, s33, ()))
 else
  some (.brk (s1, s2, s4, s5, s6, s7, s8, s9, s10, s11, s12, s13, y1.2.1, s15, s16, s17, s18, s19, s20, s21, s22, s23, s24, s25, s26, s27, s28, s29, s30, s31, s32, s33, ())) := by kernel_rfl
theorem zfQ (s1 : Int) (s2 : Int) (s3 : Int) (s4 : Int) (s5 : Int) (s6 : Int) (s7 : Int) (s8 : Int) (s9 : Int) (s10 : Int) (s11 : Int) (s12 : Int) (s13 : BitVec 64) (s14 : zx) (s15 : Int) (s16 : Int) (s17 : Int) (s18 : Int) (s19 : Int) (s20 : Int) (s21 : Int) (s22 : Int) (s23 : Int) (s24 : BitVec 64) (s25 : List Int) (s26 : List zg) (s27 : List (List Int)) (s28 : List (List Int)) (s29 : List (List zg)) (s30 : List zj) (s31 : List (List Int)) (s32 : List (List Int)) (s33 : List (List zg)) (s34 : List zj) : uc (s1, s2, s3, s4, s5, s6, s7, s8, s9, s10, s11, s12, s13, s14, s15, s16, s17, s18, s19, s20, s21, s22, s23, s24, s25, s26, s27, s28, s29, s30, s31, s32, s33, s34, ()) =
 bif decide (0 < s3) then
  (YH ((s25.length : Int)) s23 s14).bind fun y1 =>
  (wj (s26 ++ ([y1.1] : List zg))).bind fun l2 =>
  some (.again (s1, s2, w64 (s3 - 1), s4, s5, s6, s7, s8, s9, s10, s11, s12, s13, y1.2.1, s15, s16, s17, s18, s19, s20, s21, s22, s23, s24, s25, l2, s27, s28, s29, s30, s31, s32, s33, s34, ()))
 else
  some (.brk (s1, s2, s4, s5, s6, s7, s8, s9, s10, s11, s12, s13, s14, s15, s16, s17, s18, s19, s20, s21, s22, s23, s24, s25, s26, s27, s28, s29, s30, s31, s32, s33, s34, ())) := by kernel_rfl
theorem zjM (a1 : List (BitVec 8)) : Ut a1 =
 (cut a1 0 (bif decide (90 < ((a1.length : Int))) then 90 else ((a1.length : Int)))).bind fun l1 =>
 (zt (zx.mk l1 0)).bind fun y2 =>
 (zt y2.2.1).bind fun y3 =>
 (zt y3.2.1).bind fun y4 =>
 (zt y4.2.1).bind fun y5 =>
 (zt y5.2.1).bind fun y6 =>
 (zt y6.2.1).bind fun y7 =>
 (zt y7.2.1).bind fun y8 =>
 (zt y8.2.1).bind fun y9 =>
 (zt y9.2.1).bind fun y10 =>
 (zt y10.2.1).bind fun y11 =>
 (yp Z7 (w64 (1 + (y10.1.tmod 6)), 0, 0, 0, 0, 0, 0, 0, 0, 0, 0, 0#64, y11.2.1, w64 (1 + (y2.1.tmod 3)), y3.1.tmod 3, w64 (1 + (y4.1.tmod 3)), w64 (1 + (y5.1.tmod 2)), w64 (1 + (y6.1.tmod 3)), w64 ((w64 (1 + (y10.1.tmod 6))) + (y11.1.tmod 4)), y7.1.tmod 4, y8.1.tmod 4, w64 (1 + (y9.1.tmod 2)), 0#64, ([] : List (List Int)), ([] : List (List Int)), ([] : List (List zg)), ([] : List zj), ([] : List (List Int)), ([] : List (List Int)), ([] : List (List zg)), ([] : List zj), ())).bind fun st => match st with
   | .again _ => none
   | .brk y12 =>
   (zt y12.2.2.2.2.2.2.2.2.2.2.2.1).bind fun y13 =>
   bif decide ((w64 (y12.1 + 1)) = 0) then
    none
   else
    (zaE 0#64 (y13.1.tmod (w64 (y12.1 + 1)))).bind fun y14 =>
    (yp Zy (y12.1, 0, y12.2.1, y12.2.2.1, y12.2.2.2.1, y12.2.2.2.2.1, y12.2.2.2.2.2.1, y12.2.2.2.2.2.2.1, y12.2.2.2.2.2.2.2.1, y12.2.2.2.2.2.2.2.2.1, y12.2.2.2.2.2.2.2.2.2.1, y12.2.2.2.2.2.2.2.2.2.2.1, y13.2.1, y12.2.2.2.2.2.2.2.2.2.2.2.2.1, y12.2.2.2.2.2.2.2.2.2.2.2.2.2.1, y12.2.2.2.2.2.2.2.2.2.2.2.2.2.2.1, y12.2.2.2.2.2.2.2.2.2.2.2.2.2.2.2.1, y12.2.2.2.2.2.2.2.2.2.2.2.2.2.2.2.2.1, y12.2.2.2.2.2.2.2.2.2.2.2.2.2.2.2.2.2.1, y12.2.2.2.2.2.2.2.2.2.2.2.2.2.2.2.2.2.2.1, y12.2.2.2.2.2.2.2.2.2.2.2.2.2.2.2.2.2.2.2.1, y12.2.2.2.2.2.2.2.2.2.2.2.2.2.2.2.2.2.2.2.2.1, y14.1, y12.2.2.2.2.2.2.2.2.2.2.2.2.2.2.2.2.2.2.2.2.2.2.1, y12.2.2.2.2.2.2.2.2.2.2.2.2.2.2.2.2.2.2.2.2.2.2.2.1, y12.2.2.2.2.2.2.2.2.2.2.2.2.2.2.2.2.2.2.2.2.2.2.2.2.1, y12.2.2.2.2.2.2.2.2.2.2.2.2.2.2.2.2.2.2.2.2.2.2.2.2.2.1, y12.2.2.2.2.2.2.2.2.2.2.2.2.2.2.2.2.2.2.2.2.2.2.2.2.2.2.1, y12.2.2.2.2.2.2.2.2.2.2.2.2.2.2.2.2.2.2.2.2.2.2.2.2.2.2.2.1, y12.2.2.2.2.2.2.2.2.2.2.2.2.2.2.2.2.2.2.2.2.2.2.2.2.2.2.2.2.1, y12.2.2.2.2.2.2.2.2.2.2.2.2.2.2.2.2.2.2.2.2.2.2.2.2.2.2.2.2.2.1, ())).bind fun st => match st with
      | .again _ => none
      | .brk y15 =>
      some (zd.mk y15.2.2.2.2.2.2.2.2.2.2.1 y15.2.2.2.2.2.2.2.2.2.2.2.1 y15.2.2.2.2.2.2.2.2.2.2.2.2.1 y15.2.2.2.2.2.2.2.2.2.2.2.2.2.1 y15.2.2.2.2.2.2.2.2.2.2.2.2.2.2.1 y15.2.2.2.2.2.2.2.2.2.2.2.2.2.2.2.1 y15.2.2.2.2.2.2.2.2.2.2.2.2.2.2.2.2.1 y15.2.2.2.2.2.2.2.2.2.2.2.2.2.2.2.2.2.1 (zu.mk y15.2.2.2.2.2.2.2.2.2.2.2.2.2.2.2.2.2.2.1 y15.2.2.2.2.2.2.2.2.2.2.2.2.2.2.2.2.2.2.2.2.2.2.2.2.1) y15.2.2.2.2.2.2.2.2.2.2.2.2.2.2.2.2.2.2.2.1 y15.2.2.2.2.2.2.2.2.2.2.2.2.2.2.2.2.2.2.2.2.2.2.2.2.2.1 y15.2.2.2.2.2.2.2.2.2.2.2.2.2.2.2.2.2.2.2.2.2.2.2.2.2.2.1 y15.2.2.2.2.2.2.2.2.2.2.2.2.2.2.2.2.2.2.2.2.2.2.2.2.2.2.2.1, ())
      | .ret y15 =>
      none
   | .ret y12 =>
   none := zn (by kernel_rfl)
theorem zjP (a1 : zb) (a2 : BitVec 8) : Uq a1 a2 =
 bif decide (((a1.Ms.length : Int)) = 0) then
  none
 else
  (Wv a1 (w64 (1 + (((a2.toNat : Int)).tmod ((a1.Ms.length : Int)))))).bind fun y1 =>
  some (y1.1, w64 (1 + (((a2.toNat : Int)).tmod ((a1.Ms.length : Int)))), ()) := zn (by kernel_rfl)
theorem zjl (s1 : Int) (s2 : List Int) (s3 : Int) (s4 : Int) (s5 : zh) : Un (s1, s2, s3, s4, s5, ()) =
 bif decide (s4 < s3) then
  (idx s2 s4).bind fun x1 =>
  bif decide (x1 < (-1099511627776)) then
   some (.ret (false, ()))
  else
   bif decide (1099511627776 < x1) then
    some (.ret (false, ()))
   else
    some (.again (w64 (s1 + x1), s2, s3, w64 (s4 + 1), s5, ()))
 else
  some (.brk (s1, s5, ())) := by kernel_rfl
theorem zlI (a1 : zh) : zcq a1 =
 bif decide (16 < ((a1.Bal.length : Int))) then
  some (false, ())
 else
  bif decide ((bif decide (a1.Pool < (bif decide (a1.Spent < a1.Scanned) then a1.Spent else a1.Scanned)) then a1.Pool else (bif decide (a1.Spent < a1.Scanned) then a1.Spent else a1.Scanned)) < 0) then
   some (false, ())
  else
   bif decide (1099511627776 < (bif decide ((bif decide (a1.Scanned < a1.Spent) then a1.Spent else a1.Scanned) < a1.Pool) then a1.Pool else (bif decide (a1.Scanned < a1.Spent) then a1.Spent else a1.Scanned))) then
    some (false, ())
   else
    (yp Un (w64 (a1.Spent + a1.Pool), a1.Bal, (a1.Bal.length : Int), 0, a1, ())).bind fun st => match st with
      | .again _ => none
      | .brk y1 =>
      some (decide (y1.1 = y1.2.1.Scanned), ())
      | .ret y1 =>
      some (y1.1, ()) := zn (by kernel_rfl)
end Go.Pe.G
namespace Go.Pe.G
open Go.Pe
theorem zbz (s1 : List (BitVec 8)) (s2 : Bool) (s3 : Int) (s4 : zd) (s5 : zb) : ZG (s1, s2, s3, s4, s5, ()) =
 bif decide (s3 < ((s1.length : Int))) then
  bif decide (s3 < 250) then
   bif decide (0 < ((s5.Ms.length : Int))) then
    (idx s1 s3).bind fun x1 =>
    (Uq s5 x1).bind fun y2 =>
    (Yq y2.1.H).bind fun y3 =>
    bif !y3.1 then
     some (.ret (false, ()))
    else
     bif decide (s4.Most < ((y2.1.H.Objs.length : Int))) then
      some (.ret (false, ()))
     else
      (zcq y2.1.L).bind fun y4 =>
      bif !y4.1 then
       some (.ret (false, ()))
      else
       bif !(decide (y2.1.L.Spent = (w64 (s4.Price * (w64 (((y2.1.H.Objs.length : Int)) - ((s4.H.Objs.length : Int)))))))) then
        some (.ret (false, ()))
       else
        (yp xH (s1, s2, s3, w64 (((s4.H.Objs.length : Int)) + 1), s4, y2.1, ())).bind fun st => match st with
          | .again _ => none
          | .brk y5 =>
          (yp xG (y5.1, y5.2.1, y5.2.2.1, 0, y5.2.2.2.1, y5.2.2.2.2.1, ())).bind fun st => match st with
            | .again _ => none
            | .brk y6 =>
            some (.again (y6.1, y6.2.1, w64 (y6.2.2.1 + 1), y6.2.2.2.1, y6.2.2.2.2.1, ()))
            | .ret y6 =>
            some (.ret (y6.1, ()))
          | .ret y5 =>
          some (.ret (y5.1, ()))
   else
    some (.brk (s2, ()))
  else
   some (.brk (s2, ()))
 else
  some (.brk (s2, ())) := by kernel_rfl
theorem Xd (s1 : List (BitVec 8)) (s2 : Bool) (s3 : Int) (s4 : Int) (s5 : zd) (s6 : zb) : xH (s1, s2, s3, s4, s5, s6, ()) =
 bif decide (s4 ≤ ((s6.H.Objs.length : Int))) then
  (zdz s6.T s4).bind fun y1 =>
  bif !(decide (y1.1 = 2)) then
   some (.ret (false, ()))
  else
   some (.again (s1, s2, s3, w64 (s4 + 1), s5, s6, ()))
 else
  some (.brk (s1, s2, s3, s5, s6, ())) := by kernel_rfl
theorem Xr (s1 : List (BitVec 8)) (s2 : Bool) (s3 : Int) (s4 : Int) (s5 : zd) (s6 : zb) : xG (s1, s2, s3, s4, s5, s6, ()) =
 bif decide (s4 < ((s6.L.Bal.length : Int))) then
  (idx s6.L.Bal s4).bind fun x1 =>
  bif decide (x1 < (w64 (0 - s5.Limit))) then
   some (.ret (false, ()))
  else
   some (.again (s1, s2, s3, w64 (s4 + 1), s5, s6, ()))
 else
  some (.brk (s1, s2, s3, s5, s6, ())) := by kernel_rfl
theorem zeg (a1 : List (BitVec 8)) (a2 : List (BitVec 8)) : vw a1 a2 =
 (Wq).bind fun y1 =>
 bif !y1.1 then
  some (false, ())
 else
  (Ut a1).bind fun y2 =>
  (UF y2.1).bind fun y3 =>
  (yp ZG (a2, y1.1, 0, y2.1, y3.1, ())).bind fun st => match st with
    | .again _ => none
    | .brk y4 =>
    some (y4.1, ())
    | .ret y4 =>
    some (y4.1, ()) := zn (by kernel_rfl)
end Go.Pe.G

namespace Go.Pe.G
open Go.Pe
theorem zya : Go.Proofs.Tryz.prog.funcs[91]? = some Go.Proofs.Tryz.f91 := by kernel_rfl
theorem zwX : Go.Proofs.Tryz.f91.body.isSome = true := by kernel_rfl
theorem zxd : uL Go.Proofs.Tryz.prog 91 = true := by kernel_rfl
theorem zx0 : Go.Proofs.Tryz.prog.funcs[134]? = some Go.Proofs.Tryz.f134 := by kernel_rfl
theorem zwm : Go.Proofs.Tryz.f134.body.isSome = true := by kernel_rfl
theorem zwo : uL Go.Proofs.Tryz.prog 134 = true := by kernel_rfl
theorem zkw (ys : List Int) (s1 : Int) (s2 : Int) (s3 : BitVec 64) : Vy ys (s1, s2, s3, ()) =
 bif !(decide (s3 = 0#64)) then
  (qTZ s3).bind fun y1 =>
  (Uz ys s2 (w64 (y1.1 + 1))).bind fun _ =>
  some (.again (s1, s2 + 1, s3 &&& (s3 - 1#64), ()))
 else
  some (.brk (s1, s2, ())) := by kernel_rfl
theorem znt (n : Int) (ys : List Int) (a1 : BitVec 64) : znz (Ub ys) Go.Proofs.Tryz.f134 zin n ((a1, ()) : (BitVec 64) × Unit) =
 (yp (Vy ys) (n, 0, a1, ())).bind fun st => match st with
   | .again _ => none
   | .brk y1 =>
   some y1.2.1
   | .ret y1 =>
   some y1.2.1 := by kernel_rfl
theorem Yy (ys : List (List Int)) (s1 : Int) (s2 : Int) (s3 : Int) (s4 : List Int) (s5 : Int) : va ys (s1, s2, s3, s4, s5, ()) =
 bif decide (s3 < ((s4.length : Int))) then
  (cut s4 s3 ((s4.length : Int))).bind fun l1 =>
  bif decide (s3 = 0) && decide ((w64 (s3 + (bif decide (((l1.length : Int)) < s5) then ((l1.length : Int)) else s5))) = 0) && decide ((w64 (s3 + (bif decide (((l1.length : Int)) < s5) then ((l1.length : Int)) else s5))) = 0) then
   (Uz ys s2 ([] : List Int)).bind fun _ =>
   some (.again (s1, s2 + 1, w64 (s3 + s5), s4, s5, ()))
  else
   bif decide (s3 = 0) && decide ((w64 (s3 + (bif decide (((l1.length : Int)) < s5) then ((l1.length : Int)) else s5))) = ((s4.length : Int))) && decide ((w64 (s3 + (bif decide (((l1.length : Int)) < s5) then ((l1.length : Int)) else s5))) = ((s4.length : Int))) then
    (Uz ys s2 s4).bind fun _ =>
    some (.again (s1, s2 + 1, w64 (s3 + s5), s4, s5, ()))
   else
    bif decide ((w64 (s3 + (bif decide (((l1.length : Int)) < s5) then ((l1.length : Int)) else s5))) = (w64 (s3 + (bif decide (((l1.length : Int)) < s5) then ((l1.length : Int)) else s5)))) then
     (cut s4 s3 (w64 (s3 + (bif decide (((l1.length : Int)) < s5) then ((l1.length : Int)) else s5)))).bind fun l2 =>
     (Uz ys s2 l2).bind fun _ =>
     some (.again (s1, s2 + 1, w64 (s3 + s5), s4, s5, ()))
    else
     none
 else
  some (.brk (s1, s2, ())) := by kernel_rfl
theorem zbF (n : Int) (ys : List (List Int)) (a1 : List Int) (a2 : Int) : znz (vq ys) Go.Proofs.Tryz.f91 X6 n ((a1, a2, ()) : (List Int) × Int × Unit) =
 (yp (va ys) (n, 0, 0, a1, a2, ())).bind fun st => match st with
   | .again _ => none
   | .brk y1 =>
   some y1.2.1
   | .ret y1 =>
   some y1.2.1 := by kernel_rfl
end Go.Pe.G
namespace Go.Pe.G
open Go.Pe
theorem zle {A B D : Type} (g : A → Option (yN A B D)) {o : yN Unit B D} : ∀ (k m : Nat) (x : A), ut g k x = some o → k ≤ m → ut g m x = some o
  | 0, m, x, h, _ => by cases h
  | k + 1, 0, x, h, hm => by omega
  | k + 1, m + 1, x, h, hm => by
    simp only [ut, Option.bind_eq_some_iff] at h ⊢
    obtain ⟨s, h1, h2⟩ := h
    refine ⟨s, h1, ?_⟩
    cases s with
    | again y => exact zle g k m y h2 (by omega)
    | brk b => exact h2
    | ret c => exact h2
theorem zpK {α : Type} (pre post : List α) (z : α) : Uz (pre ++ z :: post) (pre.length : Int) z = some () := by
  unfold Uz
  rw [if_pos]
  refine ⟨by omega, ?_⟩
  simp
theorem zen (n : Int) (ys : List Int) : ∀ (f : Nat) (s : BitVec 64) (l pre : List Int), zao f s = some l → ys = pre ++ l → ut (Vy ys) f (n, (pre.length : Int), s, ()) = some (.brk (n, (ys.length : Int), ()))
  | 0, s, l, pre, h, _ => by cases h
  | f + 1, s, l, pre, h, e => by
    simp only [zao] at h
    simp only [ut, zkw]
    cases hz : decide (s = 0#64) with
    | true =>
      simp only [hz, cond_true, Option.some.injEq] at h
      subst h
      simp only [List.append_nil] at e
      subst e
      rfl
    | false =>
      simp only [hz, cond_false, Option.map_eq_some_iff] at h
      obtain ⟨l', h1, rfl⟩ := h
      have hn : Uz ys (pre.length : Int) (w64 (tz s + 1)) = some () := by rw [e]; exact zpK pre l' _
      simp only [Bool.not_false, cond_true, zw6, Option.bind_some, hn]
      have := zen n ys f (s &&& (s - 1#64)) l' (pre ++ [w64 (tz s + 1)]) h1 (by rw [e]; simp)
      simpa using this
theorem zmC (G : Nat → Prop) (W0 : World) (hG : zpc G W0) : ZS Go.Proofs.Tryz.prog G W0 134 VN := by
  obtain ⟨c, hc⟩ := Option.isSome_iff_exists.1 zwm
  refine zn4 (Cg := Ub []) rfl zqO (fun f s hs => Oks.at (.cons _ _ _ _ zwO (zu6 hG) (.skip _ _ .nil)) f s hs) rfl ztN (fun g it h => by cases h) zwo zx0 hc VN (Nat.le_of_ble_eq_true (by kernel_rfl)) rfl ?_
  rintro n ⟨a, ⟨⟩⟩ ys h
  have h : zao 66 a = some ys := h
  have e := znt n ys a
  have k := zle _ 66 YC _ (zen n ys 66 a ys [] h rfl) (by decide)
  refine Eq.trans e ?_
  have k' : ut (Vy ys) YC (n, 0, a, ()) = some (.brk (n, (ys.length : Int), ())) := k
  rw [VK, k']
  rfl
theorem zuT {a : Int} (h : -9223372036854775808 ≤ a) (h2 : a < 9223372036854775808) : w64 a = a := by
  rw [zir]
  omega
theorem zaK (n : Int) (ys : List (List Int)) (l : List Int) (sz : Nat) (h1 : 1 ≤ sz) (h2 : sz < 1000000) (h3 : l.length < 1000000) : ∀ (f p : Nat) (pre : List (List Int)), (l.drop p).length ≤ f → ys = pre ++ Zq sz f (l.drop p) → p < 2000000 →
    ut (va ys) (f + 1) (n, (pre.length : Int), (p : Int), l, (sz : Int), ()) = some (.brk (n, (ys.length : Int), ())) := by
  intro f
  induction f with
  | zero =>
    intro p pre hf e hp
    simp only [ut, Yy]
    simp only [List.length_drop] at hf
    have : ¬ (p : Int) < (l.length : Int) := by omega
    simp only [this, decide_false, cond_false, Option.bind_some]
    simp only [Zq, List.append_nil] at e
    rw [e]
  | succ f ih =>
    intro p pre hf e hp
    rw [ut, Yy]
    by_cases hlt : p < l.length
    · have hlt' : (p : Int) < (l.length : Int) := by omega
      have hcut : cut l (p : Int) (l.length : Int) = some (l.drop p) := by
        unfold cut
        have : (decide (0 ≤ (p : Int)) && decide ((p : Int) ≤ (l.length : Int)) && decide ((l.length : Int) ≤ (l.length : Int))) = true := by simp; omega
        simp only [this, cond_true]
        simp
      obtain ⟨x, r, hxr⟩ : ∃ x r, l.drop p = x :: r := by
        cases hd : l.drop p with
        | nil => have := congrArg List.length hd; simp at this; omega
        | cons x r => exact ⟨x, r, rfl⟩
      have hch : Zq sz (f + 1) (l.drop p) = (l.drop p).take sz :: Zq sz f (l.drop (p + sz)) := by
        rw [hxr]; simp only [Zq]; rw [← hxr, List.drop_drop]
      have hm : ∃ m : Nat, (bif decide (((l.drop p).length : Int) < (sz : Int)) then (((l.drop p).length : Int)) else (sz : Int)) = (m : Int) ∧ m = min sz (l.length - p) := by
        simp only [List.length_drop]
        by_cases hs : ((l.length - p : Nat) : Int) < (sz : Int)
        · exact ⟨l.length - p, by simp only [hs, decide_true, cond_true], by omega⟩
        · exact ⟨sz, by simp only [hs, decide_false, cond_false], by omega⟩
      obtain ⟨m, hm1, hm2⟩ := hm
      have hw : w64 ((p : Int) + (m : Int)) = ((p + m : Nat) : Int) := by rw [zuT (by omega) (by omega)]; omega
      have hw2 : w64 ((p : Int) + (sz : Int)) = ((p + sz : Nat) : Int) := by rw [zuT (by omega) (by omega)]; omega
      have hne : ¬ ((p + m : Nat) : Int) = 0 := by omega
      simp only [hlt', decide_true, cond_true, hcut, Option.bind_some, hm1, hw, hw2, hne, decide_false, Bool.and_false, cond_false]
      have hn : Uz ys (pre.length : Int) ((l.drop p).take sz) = some () := by rw [e, hch]; exact zpK pre _ _
      have hcut2 : cut l (p : Int) ((p + m : Nat) : Int) = some ((l.drop p).take sz) := by
        unfold cut
        have : (decide (0 ≤ (p : Int)) && decide ((p : Int) ≤ ((p + m : Nat) : Int)) && decide (((p + m : Nat) : Int) ≤ (l.length : Int))) = true := by simp; omega
        simp only [this, cond_true]
        refine congrArg some ?_
        simp only [Int.toNat_natCast]
        rw [List.drop_take, Nat.add_sub_cancel_left, hm2]
        by_cases hs : sz ≤ l.length - p
        · rw [Nat.min_eq_left hs]
        · rw [Nat.min_eq_right (by omega), List.take_of_length_le (l := l.drop p) (by simp), List.take_of_length_le (l := l.drop p) (by simp; omega)]
      have hnext := ih (p + sz) (pre ++ [(l.drop p).take sz]) (by simp only [List.length_drop] at hf ⊢; omega) (by rw [e, hch]; simp) (by omega)
      have hlen : ((pre ++ [(l.drop p).take sz]).length : Int) = (pre.length : Int) + 1 := by simp
      rw [hlen] at hnext
      cases hfull : (decide ((p : Int) = 0) && decide (((p + m : Nat) : Int) = (l.length : Int)) && decide (((p + m : Nat) : Int) = (l.length : Int))) with
      | true =>
        simp only [cond_true]
        have hl : l = (l.drop p).take sz := ?_
        · rw [← hl] at hn
          rw [hn]
          exact hnext
        simp only [Bool.and_eq_true, decide_eq_true_eq] at hfull
        obtain ⟨⟨hp0, hpl⟩, _⟩ := hfull
        have hp00 : p = 0 := by omega
        rw [hp00, List.drop_zero, List.take_of_length_le (by omega)]
      | false =>
        simp only [cond_false, hcut2, Option.bind_some, decide_true, cond_true]
        rw [hn]
        exact hnext
    · have hnl : ¬ (p : Int) < (l.length : Int) := by omega
      have hd : l.drop p = [] := List.drop_eq_nil_of_le (by omega)
      simp only [hnl, decide_false, cond_false, Option.bind_some]
      rw [hd] at e
      simp only [Zq, List.append_nil] at e
      rw [e]
theorem zbq (n : Int) (ys : List (List Int)) (l : List Int) (sz : Int) (h : zf3 l sz = some ys) : ut (va ys) YC (n, 0, 0, l, sz, ()) = some (.brk (n, (ys.length : Int), ())) := by
  unfold zf3 at h
  cases hc : (decide (1 ≤ sz) && decide (sz < 1000000) && decide ((l.length : Int) < 1000000)) with
  | false => simp [hc] at h
  | true =>
    simp only [hc, cond_true] at h
    injection h with h
    simp only [Bool.and_eq_true, decide_eq_true_eq] at hc
    obtain ⟨⟨c1, c2⟩, c3⟩ := hc
    have k := zle _ (l.length + 1) YC _ (zaK n ys l sz.toNat (by omega) (by omega) (by omega) l.length 0 [] (by simp) (by simpa using h.symm) (by omega)) (by unfold YC; omega)
    have hs : ((sz.toNat : Nat) : Int) = sz := by omega
    rw [hs] at k
    exact k
theorem zaV (G : Nat → Prop) (W0 : World) (hG : zpc G W0) : ZS Go.Proofs.Tryz.prog G W0 91 wI := by
  obtain ⟨c, hc⟩ := Option.isSome_iff_exists.1 zwX
  refine zn4 (Cg := vq []) rfl zqO (fun f s hs => Oks.at .nil f s hs) rfl ztN (fun g it h => by cases h) zxd zya hc wI (Nat.le_of_ble_eq_true (by kernel_rfl)) rfl (fun n x ys h => ?_)
  refine Eq.trans (zbF n ys x.1 x.2.1) ?_
  rw [VK, zbq n ys x.1 x.2.1 h]
  rfl
end Go.Pe.G
namespace Go.Pe.G
open Go.Pe
theorem k2 {G : Nat → Prop} {W0 : World} {f : Nat} {s : zo E} {ss r} (hs : Xm Go.Proofs.Tryz.prog G W0 f s) (h : Oks Go.Proofs.Tryz.prog G W0 ((f, ss) :: r)) (hc : uL Go.Proofs.Tryz.prog f = true := by kernel_rfl) : Oks Go.Proofs.Tryz.prog G W0 ((f, s :: ss) :: r) := .cons _ _ _ _ hc hs h
theorem k1 {G : Nat → Prop} {W0 : World} {f : Nat} {s : zo E} {r} (hs : Xm Go.Proofs.Tryz.prog G W0 f s) (h : Oks Go.Proofs.Tryz.prog G W0 r) (hc : uL Go.Proofs.Tryz.prog f = true := by kernel_rfl) : Oks Go.Proofs.Tryz.prog G W0 ((f, [s]) :: r) := .cons _ _ _ _ hc hs (.skip _ _ h)
abbrev Sd (G : Nat → Prop) (W0 : World) := Xm (E := E) Go.Proofs.Tryz.prog G W0
theorem gs {G : Nat → Prop} {W0 : World} {l : List (Nat × List (zo E))} {loops mv kept pk its} {f : FuncId} {fn : Func} {inn out : xk} {gi go : List Grp} {hi : uo E gi = inn.holes} {ho : uo E go = out.holes} (h : Oks Go.Proofs.Tryz.prog G W0 l) (h2 : Its Go.Proofs.Tryz.prog G W0 its) (hf : Go.Proofs.Tryz.prog.funcs[f]? = some fn := by kernel_rfl) (hb : fn.body.isSome = true := by kernel_rfl)
    (hk : (cf l loops mv kept pk its).kept = zfd inn.blks 0 := by kernel_rfl) (hn : Nat.ble inn.vals.length fn.ntmps = true := by kernel_rfl) : Xm Go.Proofs.Tryz.prog G W0 f (sp (cf l loops mv kept pk its) fn inn out gi go hi ho) := zux (C := cf l loops mv kept pk its) zqO (ztd h) rfl (zvC h2) ztN hf hb hk hn
variable {G : Nat → Prop} {W0 : World} (hG : zpc G W0)
include hG
theorem zh3 : Sd G W0 62 zaa := gs .nil .nil
theorem ZQ : Sd G W0 114 xU := gs (k1 (zh3 hG) .nil) .nil
theorem Zk : Sd G W0 61 xB := gs (k1 (ZQ hG) .nil) .nil
theorem zjz : Sd G W0 60 zcB := gs (k1 (Zk hG) .nil) .nil
theorem ZR : Sd G W0 115 xV := gs (k1 (zjz hG) .nil) .nil
theorem Zo : Sd G W0 63 xE := gs (k1 (ZR hG) .nil) .nil
theorem Xj : Sd G W0 19 Wl := gs (k1 (Zo hG) .nil) .nil
theorem zlN : Sd G W0 25 zh8 := gs .nil .nil
theorem zlV : Sd G W0 27 zhA := gs .nil .nil
theorem Vi : Sd G W0 86 W6 := gs .nil .nil
theorem ziV : Sd G W0 87 zcE := gs (k1 (Vi hG) .nil) .nil
theorem Yc : Sd G W0 114 wh := gs (k1 (ziV hG) .nil) .nil
theorem ZK : Sd G W0 61 xN := gs (k1 (Yc hG) .nil) .nil
theorem zgU : Sd G W0 85 Up := gs (k1 (Vi hG) .nil) .nil
theorem zi2 : Sd G W0 156 zb7 := gs .nil .nil
theorem zkI : Sd G W0 130 zfX := gs (k1 (zi2 hG) .nil) .nil
theorem zj9 : Sd G W0 129 zdY := gs (k1 (zkI hG) .nil) .nil
theorem Za : Sd G W0 155 xi := gs (k1 (zj9 hG) .nil) .nil
theorem uQ : Sd G W0 128 yR := gs (k1 (Za hG) .nil) .nil
theorem zlQ : Sd G W0 88 zia := gs (k1 (uQ hG) .nil) .nil
theorem zkN : Sd G W0 133 zfB := gs .nil .nil
theorem zjO : Sd G W0 132 zbS := gs (k1 (zkN hG) .nil) .nil
theorem uy : Sd G W0 157 yO := gs (k1 (zjO hG) .nil) .nil
theorem v8 : Sd G W0 131 yH := gs (k1 (uy hG) .nil) .nil
theorem zkD : Sd G W0 89 zf0 := gs (k1 (v8 hG) .nil) .nil
theorem zkZ : Sd G W0 37 zf7 := gs (k1 (Xj hG) (k1 (zlN hG) (k1 (zlV hG) (k1 (ZK hG) (k1 (zgU hG) (k1 (Vi hG) (k1 (zlQ hG) (k1 (zkD hG) .nil)))))))) .nil
theorem zhj : Sd G W0 77 zhm := gs .nil .nil
theorem VD : Sd G W0 35 zaF := gs (k1 (zhj hG) .nil) .nil
theorem zoU : Sd G W0 81 zmN := gs (k1 (VD hG) .nil) .nil
theorem zkj : Sd G W0 38 zfy := gs (k1 (zoU hG) .nil) .nil
theorem zgt : Sd G W0 90 VJ := gs .nil .nil
theorem zlB : Sd G W0 39 zhE := gs (k1 (zgt hG) .nil) .nil
theorem zku : Sd G W0 40 zgh := gs .nil .nil
theorem xe : Sd G W0 42 yX := gs .nil .nil
theorem Yi : Sd G W0 41 wm := gs (k1 (xe hG) .nil) .nil
theorem zka : Sd G W0 43 zed := gs .nil .nil
theorem zbP : Sd G W0 44 U3 := gs .nil .nil
theorem zbM : Sd G W0 45 U2 := gs .nil .nil
theorem zlx : Sd G W0 46 zhv := gs .nil .nil
theorem zbD : Sd G W0 47 YZ := gs .nil .nil
theorem zmX : Sd G W0 92 zjn := gs .nil .nil
theorem znf : ZS Go.Proofs.Tryz.prog G W0 134 VN := zmC G W0 hG
theorem zmE : Sd G W0 48 zjt := gs (k1 (zmX hG) .nil) (.cons _ _ _ (znf hG) (.nil))
theorem VZ : Sd G W0 71 uU := gs .nil .nil
theorem zmr : Sd G W0 158 zjq := gs .nil .nil
theorem zmA : Sd G W0 159 ziW := gs .nil .nil
theorem zmw : Sd G W0 160 zi1 := gs .nil .nil
theorem zmx : Sd G W0 161 zjb := gs .nil .nil
theorem Yf : Sd G W0 136 VI := gs (k1 (VZ hG) (k1 (zmr hG) (k1 (zmA hG) (k1 (zmw hG) (k1 (zmx hG) .nil))))) .nil
theorem zbN : Sd G W0 93 UY := gs (k1 (Yf hG) .nil) .nil
theorem zdc : Sd G W0 94 za6 := gs .nil .nil
theorem zlS : Sd G W0 49 zhI := gs (k1 (zbN hG) (k1 (zdc hG) .nil)) .nil
theorem Xi : Sd G W0 50 X9 := gs .nil .nil
theorem YI : Sd G W0 52 Y4 := gs (k1 (Xi hG) .nil) .nil
theorem Xp : Sd G W0 51 XZ := gs (k1 (YI hG) .nil) .nil
theorem zbA : ZS Go.Proofs.Tryz.prog G W0 91 wI := zaV G W0 hG
theorem zeo : Sd G W0 11 zcP := gs (k1 (zkZ hG) (k1 (zkj hG) (k1 (zlB hG) (k1 (zku hG) (k1 (Yi hG) (k1 (xe hG) (k1 (zka hG) (k1 (zbP hG) (k1 (zbM hG) (k1 (zlx hG) (k1 (zbD hG) (k1 (zmE hG) (k1 (zlS hG) (k1 (Xi hG) (k1 (Xp hG) (k1 (YI hG) .nil)))))))))))))))) (.cons _ _ _ (zbA hG) (.nil))
theorem zhu : Sd G W0 15 zah := gs .nil .nil
theorem wN : Sd G W0 137 vc := gs .nil .nil
theorem vH : Sd G W0 142 wZ := gs .nil .nil
theorem ZB : Sd G W0 138 uK := gs (k1 (xe hG) (k1 (vH hG) .nil)) .nil
theorem zcm : Sd G W0 95 XH := gs (k1 (wN hG) (k1 (ZB hG) .nil)) .nil
theorem zdn : Sd G W0 139 zbe := gs .nil .nil
theorem zcA : Sd G W0 96 XB := gs (k1 (zdn hG) .nil) .nil
theorem zdL : Sd G W0 97 WE := gs (k1 (xe hG) .nil) .nil
theorem zaN : Sd G W0 182 Z4 := gs .nil .nil
theorem zhd : Sd G W0 26 zg2 := gs (k1 (zhj hG) .nil) .nil
theorem zdr : Sd G W0 166 zbs := gs (k1 (zhd hG) (k1 (VD hG) .nil)) .nil
theorem Vj : Sd G W0 170 W4 := gs .nil .nil
theorem vJ : Sd G W0 197 w9 := gs (k1 (Xp hG) (k1 (YI hG) (k1 (Vj hG) .nil))) .nil
theorem zb8 : Sd G W0 183 XL := gs (k1 (zbP hG) (k1 (zbM hG) (k1 (zdr hG) (k1 (vJ hG) .nil)))) .nil
theorem zbV : Sd G W0 184 XG := gs .nil .nil
theorem zi3 : Sd G W0 200 zb6 := gs .nil .nil
theorem zjD : Sd G W0 200 zco := gs .nil .nil
theorem zjH : Sd G W0 200 zbU := gs .nil .nil
theorem ziY : Sd G W0 200 zcH := gs .nil .nil
theorem vh : Sd G W0 215 uE := gs (k1 (Yf hG) .nil) .nil
theorem xw : Sd G W0 216 xr := gs .nil .nil
theorem Uj : Sd G W0 201 Zc := gs (k1 (vh hG) (k1 (xw hG) .nil)) .nil
theorem un : Sd G W0 217 vN := gs .nil .nil
theorem W3 : Sd G W0 218 Z1 := gs .nil .nil
theorem xy : Sd G W0 219 xq := gs .nil .nil
theorem zbC : Sd G W0 202 YW := gs (k1 (vh hG) (k1 (un hG) (k1 (W3 hG) (k1 (xy hG) .nil)))) .nil
theorem u7 : Sd G W0 220 ZI := gs (k1 (Yf hG) .nil) .nil
theorem Zp : Sd G W0 221 ug := gs (k1 (W3 hG) .nil) .nil
theorem zey : Sd G W0 203 Vh := gs (k1 (u7 hG) (k1 (Zp hG) .nil)) .nil
theorem zab : Sd G W0 204 ZJ := gs (k1 (xw hG) (k1 (xy hG) (k1 (u7 hG) .nil))) .nil
theorem zc9 : Sd G W0 205 Wj := gs (k1 (xw hG) (k1 (u7 hG) .nil)) .nil
theorem zbO : Sd G W0 222 U5 := gs .nil .nil
theorem zaM : Sd G W0 206 Z0 := gs (k1 (vh hG) (k1 (un hG) (k1 (zbO hG) .nil))) .nil
theorem zb9 : Sd G W0 207 Xu := gs (k1 (vh hG) (k1 (xy hG) (k1 (Zp hG) .nil))) .nil
theorem W8 : Sd G W0 223 ZX := gs (k1 (Yf hG) (k1 (un hG) .nil)) .nil
theorem zbE : Sd G W0 208 YT := gs (k1 (W8 hG) .nil) .nil
theorem zbK : Sd G W0 209 YQ := gs (k1 (xw hG) (k1 (xy hG) (k1 (u7 hG) .nil))) .nil
theorem zbZ : Sd G W0 210 Xv := gs (k1 (xw hG) (k1 (xy hG) (k1 (u7 hG) .nil))) .nil
theorem zbX : Sd G W0 211 XC := gs (k1 (vh hG) (k1 (un hG) .nil)) .nil
theorem zcC : Sd G W0 212 XP := gs (k1 (vh hG) (k1 (xw hG) (k1 (zbO hG) .nil))) .nil
theorem zbI : Sd G W0 213 YU := gs (k1 (vh hG) (k1 (Zp hG) .nil)) .nil
theorem zaL : Sd G W0 214 ZZ := gs (k1 (xy hG) (k1 (W8 hG) .nil)) .nil
theorem zkB : Sd G W0 198 zgn := gs (k2 (zi3 hG) (k2 (zjD hG) (k2 (zjH hG) (k2 (ziY hG) (.skip _ _ (k1 (Uj hG) (k1 (zbC hG) (k1 (zey hG) (k1 (zab hG) (k1 (zc9 hG) (k1 (zaM hG) (k1 (zb9 hG) (k1 (zbE hG) (k1 (zbK hG) (k1 (zbZ hG) (k1 (zbX hG) (k1 (zcC hG) (k1 (zbI hG) (k1 (zaL hG) .nil))))))))))))))))))) .nil
theorem zb4 : Sd G W0 185 XE := gs (k1 (vJ hG) (k1 (zkB hG) .nil)) .nil
theorem zcg : Sd G W0 186 XK := gs (k1 (vJ hG) .nil) .nil
theorem zdk : Sd G W0 190 zbv := gs (k1 (Yf hG) .nil) .nil
theorem Xq : Sd G W0 191 X1 := gs .nil .nil
theorem zce : Sd G W0 171 XI := gs (k1 (zdk hG) (k1 (Xq hG) .nil)) .nil
theorem zd3 : Sd G W0 172 WU := gs (k1 (zbN hG) (k1 (Xq hG) .nil)) .nil
theorem zbH : Sd G W0 173 YY := gs (k1 (zdc hG) (k1 (Yf hG) (k1 (Xq hG) .nil))) .nil
theorem zaH : Sd G W0 174 Z6 := gs (k1 (zdk hG) (k1 (Xq hG) .nil)) .nil
theorem Xk : Sd G W0 148 X8 := gs (k1 (zce hG) (k1 (zd3 hG) (k1 (zbH hG) (k1 (zaH hG) .nil)))) .nil
theorem zbQ : Sd G W0 187 XA := gs (k1 (Xk hG) (k1 (vJ hG) .nil)) .nil
theorem uu : Sd G W0 54 wW := gs .nil .nil
theorem zb0 : Sd G W0 188 Xy := gs (k1 (Xi hG) (k1 (Xp hG) (k1 (uu hG) (k1 (Vj hG) .nil)))) .nil
theorem zaG : Sd G W0 189 Z2 := gs (k1 (Xk hG) .nil) .nil
theorem zlH : Sd G W0 162 zhL := gs (k1 (zaN hG) (k1 (zb8 hG) (k1 (zbV hG) (k1 (zb4 hG) (k1 (zcg hG) (k1 (zbQ hG) (k1 (zb0 hG) (k1 (zaG hG) .nil)))))))) .nil
theorem XQ : Sd G W0 140 uY := gs (k1 (zlH hG) .nil) .nil
theorem zcx : Sd G W0 98 Xs := gs (k1 (XQ hG) .nil) .nil
theorem Uf : Sd G W0 53 XU := gs .nil .nil
theorem zgv : Sd G W0 12 zeU := gs (k1 (Uf hG) .nil) .nil
theorem VG : Sd G W0 141 Y8 := gs (k1 (zgv hG) (k1 (wN hG) .nil)) .nil
theorem zdg : Sd G W0 99 X2 := gs (k1 (wN hG) (k1 (ZB hG) (k1 (VG hG) .nil))) .nil
theorem zdZ : Sd G W0 100 WI := gs (k1 (wN hG) (k1 (VG hG) (k1 (vH hG) .nil))) .nil
theorem za0 : Sd G W0 21 zdl := gs (k1 (zhd hG) .nil) .nil
theorem zcK : Sd G W0 101 XJ := gs (k1 (za0 hG) .nil) .nil
theorem zaJ : Sd G W0 102 Z8 := gs (k1 (xe hG) .nil) .nil
theorem zml : Sd G W0 13 ziX := gs (k1 (xe hG) (k1 (Uf hG) (k1 (uu hG) .nil))) .nil
theorem zcF : Sd G W0 103 Xt := gs (k1 (zml hG) (k1 (wN hG) (k1 (vH hG) .nil))) .nil
theorem zbn : Sd G W0 55 Yr := gs .nil .nil
theorem zkO : Sd G W0 14 zgw := gs (k1 (Xj hG) (k1 (zbn hG) .nil)) .nil
theorem Zm : Sd G W0 167 uj := gs .nil .nil
theorem X0 : Sd G W0 169 Zh := gs (k1 (Zm hG) .nil) .nil
theorem zc7 : Sd G W0 163 zbd := gs (k1 (X0 hG) .nil) .nil
theorem zh7 : Sd G W0 165 zai := gs .nil .nil
theorem Y1 : Sd G W0 164 wA := gs (k1 (zh7 hG) .nil) .nil
theorem zji : Sd G W0 143 zcd := gs (k1 (zc7 hG) (k1 (Y1 hG) .nil)) .nil
theorem zel : Sd G W0 150 zcN := gs (k1 (za0 hG) (k1 (VD hG) .nil)) .nil
theorem zkX : Sd G W0 144 zf5 := gs (k1 (zel hG) (k1 (zdr hG) .nil)) .nil
theorem zct : Sd G W0 104 Xx := gs (k1 (zkO hG) (k1 (wN hG) (k1 (ZB hG) (k1 (vH hG) (k1 (zji hG) (k1 (zkX hG) .nil)))))) .nil
theorem ziz : Sd G W0 168 zbx := gs .nil .nil
theorem Xc : Sd G W0 164 wK := gs (k1 (ziz hG) .nil) .nil
theorem zj1 : Sd G W0 145 zdS := gs (k1 (Xc hG) (k1 (Zm hG) .nil)) .nil
theorem zjp : Sd G W0 146 zci := gs (k1 (zc7 hG) (k1 (X0 hG) .nil)) .nil
theorem WA : Sd G W0 147 Zz := gs (k1 (Xp hG) (k1 (Vj hG) .nil)) .nil
theorem zdo : Sd G W0 105 Wk := gs (k1 (Xi hG) (k1 (zj1 hG) (k1 (zjp hG) (k1 (WA hG) .nil)))) .nil
theorem zdM : Sd G W0 106 WH := gs (k1 (Xk hG) .nil) .nil
theorem zcw : Sd G W0 107 XO := gs (k1 (YI hG) (k1 (uu hG) (k1 (WA hG) .nil))) .nil
theorem zdx : Sd G W0 108 Wf := gs (k1 (Xk hG) .nil) .nil
theorem zcl : Sd G W0 109 Xw := gs .nil .nil
theorem Uy : Sd G W0 149 WJ := gs .nil .nil
theorem zdE : Sd G W0 110 Wm := gs (k1 (zgv hG) (k1 (zdn hG) (k1 (Uy hG) .nil))) .nil
theorem zd1 : Sd G W0 111 WR := gs (k1 (XQ hG) (k1 (Uy hG) .nil)) .nil
theorem ziP : Sd G W0 175 zby := gs .nil .nil
theorem Xg : Sd G W0 164 wJ := gs (k1 (ziP hG) .nil) .nil
theorem zj6 : Sd G W0 151 zdP := gs (k1 (Xg hG) (k1 (Zm hG) .nil)) .nil
theorem zbk : Sd G W0 112 Yv := gs (k1 (zel hG) (k1 (zj6 hG) .nil)) .nil
theorem zaT : Sd G W0 113 YB := gs .nil .nil
theorem zdA : Sd G W0 56 Wu := gs (k1 (zcm hG) (k1 (zcA hG) (k1 (zdL hG) (k1 (zcx hG) (k1 (zdg hG) (k1 (zdZ hG) (k1 (zcK hG) (k1 (zaJ hG) (k1 (zcF hG) (k1 (zct hG) (k1 (zdo hG) (k1 (zdM hG) (k1 (zcw hG) (k1 (zdx hG) (k1 (zcl hG) (k1 (zdE hG) (k1 (zd1 hG) (k1 (zbk hG) (k1 (zaT hG) .nil))))))))))))))))))) .nil
theorem Ye : Sd G W0 57 we := gs .nil .nil
theorem WK : Sd G W0 16 Wb := gs (k1 (zdA hG) (k1 (Ye hG) .nil)) .nil
theorem vb : Sd G W0 59 wy := gs .nil .nil
theorem yw : Sd G W0 58 zN := gs (k1 (vb hG) .nil) .nil
theorem zei : Sd G W0 17 zcO := gs (k1 (yw hG) .nil) .nil
theorem zeP : Sd G W0 116 Vs := gs .nil .nil
theorem VF : Sd G W0 118 ur := gs .nil .nil
theorem xF : Sd G W0 117 zZ := gs (k1 (VF hG) .nil) .nil
theorem Wy : Sd G W0 119 vr := gs .nil .nil
theorem zly : Sd G W0 64 zh4 := gs (k1 (zei hG) (k1 (yw hG) (k1 (zeP hG) (k1 (xF hG) (k1 (Wy hG) .nil))))) .nil
theorem V2 : Sd G W0 120 uX := gs .nil .nil
theorem zmH : Sd G W0 65 zjw := gs (k1 (V2 hG) .nil) .nil
theorem UK : Sd G W0 121 Zn := gs .nil .nil
theorem zj7 : Sd G W0 66 zd5 := gs (k1 (UK hG) .nil) .nil
theorem zeI : Sd G W0 68 Vq := gs (k1 (vb hG) .nil) .nil
theorem xt : Sd G W0 67 zT := gs (k1 (zeI hG) .nil) .nil
theorem zcf : Sd G W0 122 XD := gs .nil .nil
theorem zdU : Sd G W0 70 WF := gs (k1 (vb hG) (k1 (zcf hG) .nil)) .nil
theorem yU : Sd G W0 69 zM := gs (k1 (zdU hG) .nil) .nil
theorem zkf : Sd G W0 22 zft := gs (k1 (zei hG) (k1 (yw hG) (k1 (vb hG) (k1 (zly hG) (k1 (zmH hG) (k1 (zj7 hG) (k1 (xt hG) (k1 (yU hG) .nil)))))))) .nil
theorem zfA : Sd G W0 31 VS := gs .nil .nil
theorem zfG : Sd G W0 32 VH := gs (k1 (WK hG) .nil) .nil
theorem zlT : Sd G W0 33 zhx := gs (k1 (Xj hG) (k1 (zst hG) (k1 (zsk hG) .nil))) .nil
theorem zdy : Sd G W0 9 Wn := gs (k1 (zeo hG) (k1 (zhu hG) (k1 (WK hG) (k1 (zkf hG) (k1 (zfA hG) (k1 (zfG hG) (k1 (zlT hG) .nil))))))) .nil
theorem YF : Sd G W0 34 vT := gs .nil .nil
theorem zbr : Sd G W0 36 YA := gs (k1 (YF hG) .nil) .nil
theorem zgS : Sd G W0 10 Uu := gs (k1 (YF hG) (k1 (VD hG) (k1 (zbr hG) .nil))) .nil
theorem zgR : Sd G W0 18 Ur := gs (k1 (WK hG) .nil) .nil
theorem zi9 : Sd G W0 20 zcr := gs .nil .nil
theorem zbG : Sd G W0 5 YR := gs (k1 (zdy hG) (k1 (zgS hG) (k1 (zeo hG) (k1 (zgR hG) (k1 (Xj hG) (k1 (zi9 hG) (k1 (za0 hG) .nil))))))) .nil
end Go.Pe.G
