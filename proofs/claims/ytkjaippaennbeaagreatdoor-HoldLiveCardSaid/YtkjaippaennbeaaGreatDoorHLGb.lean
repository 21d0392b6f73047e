/- Own work of this seat: G4e, G4f, EQ, G2i, GH, GW, GX, G3. -/
import Derived.Test.YtkjaippaennbeaaGreatDoorHLGa
import Derived.Tactics
import Derived.Tactics2
import Derived.Shelf.SlicesE.DeleteFunc
import Derived.Shelf.Spec.SlicesGrow
set_option linter.unusedVariables false
set_option linter.unusedSectionVars false
set_option linter.unusedSimpArgs false
set_option linter.unnecessarySimpa false
set_option linter.deprecated false
set_option maxRecDepth 100000
open Array renaming getElem?_eq_some_iff → zHa, getElem?_push → zIh, toArray_toList → zIn
open Bool renaming and_eq_true → zGM
open Int renaming toNat_natCast → zHs
open List renaming getElem?_eq_getElem → zGN, append_nil → zGO, getD_eq_getElem?_getD → zGP, append_assoc → zGR, nil_append → zGV, length_drop → zH1, length_filter_le → zH5, drop_eq_nil_of_le → zIi, take_of_length_le → zIu, getElem_append_left → zIy
open Nat renaming le_refl → zGQ, lt_of_lt_of_le → zG5, le_of_ble_eq_true → zHq, add_zero → zHr, mul_one → zHF, zero_le → zHN, le_trans → zHP
open Option renaming bind_some → zGL, bind_eq_some_iff → zGW, map_eq_some_iff → zG0, map_some → zHG, isSome_iff_exists → zIw
namespace Go.Pe.G
open Go.Pe
theorem zm2 (s1:Int) (s2:List zg) (s3:Int) (s4:za) (s5:Int) (s6:Int) (s7:Int) (s8:Int) (s9:Int) (s10:Int) (s11:Int) (s12:Int) (s13:Int) (s14:BitVec 64) (s15:Int) (s16:zq) (s17:Int) (s18:Int) (s19:Bool) (s20:Bool) (s21:Int) (s22:Int) (s23:Int) (s24:Int) (s25:zw) (s26:List (List Int)) (s27:List (List Int)) (s28:List (List zm)) (s29:List zg) (s30:List (List Int)) (s31:List (BitVec 64)) (s32:List (List Int)) (s33:List Int) (s34:List Int) (s35:List zh) (s36:List zc):zaE (s1,s2,s3,s4,s5,s6,s7,s8,s9,s10,s11,s12,s13,s14,s15,s16,s17,s18,s19,s20,s21,s22,s23,s24,s25,s26,s27,s28,s29,s30,s31,s32,s33,s34,s35,s36,()) =
 bif decide (s3<s1) then
 bif !s4.Done then
  (u6 s4 s2).bind fun y1 =>
  some (.again (s1,s2,w64 (s3+1),y1.1,s5,s6,s7,s8,s9,s10,s11,s12,s13,s14,s15,s16,s17,s18,s19,s20,s21,s22,s23,s24,s25,s26,s27,s28,s29,s30,s31,s32,s33,s34,s35,s36,()))
 else
  some (.brk (s3,s4,s5,s6,s7,s8,s9,s10,s11,s12,s13,s14,s15,s16,s17,s18,s19,s20,s21,s22,s23,s24,s25,s26,s27,s28,s29,s30,s31,s32,s33,s34,s35,s36,()))
 else
 some (.brk (s3,s4,s5,s6,s7,s8,s9,s10,s11,s12,s13,s14,s15,s16,s17,s18,s19,s20,s21,s22,s23,s24,s25,s26,s27,s28,s29,s30,s31,s32,s33,s34,s35,s36,())):=by kernel_rfl
theorem zp9 (a1:za) (a2:Int):zap a1 a2 =
 (zjX ((a1.Ws.length:Int)) ((a1.Ms.length:Int))).bind fun y1 =>
 (zP zaE (a2,y1.1,0,a1,0,0,0,0,0,0,0,0,0,0#64,0,zq.mk 0#64 0#64,0,0,false,false,0,0,0,0,zw.mk 0 0,([]:List (List Int)),([]:List (List Int)),([]:List (List zm)),([]:List zg),([]:List (List Int)),([]:List (BitVec 64)),([]:List (List Int)),([]:List Int),([]:List Int),([]:List zh),([]:List zc),())).bind fun st=>match st with
  | .again _=>none
  | .brk y2 =>
  some (y2.2.1,y2.1,())
  | .ret y2 =>
  none:=zt (by kernel_rfl)
theorem zk2 (s1:List Int) (s2:List Int) (s3:Int):Um (s1,s2,s3,()) =
 bif decide (s3<((s1.length:Int))) then
 (idx s1 s3).bind fun x1 =>
 (idx s2 s3).bind fun x2 =>
 bif !(decide (x1=x2)) then
  some (.ret (false,()))
 else
  some (.again (s1,s2,w64 (s3+1),()))
 else
 some (.brk (())):=by kernel_rfl
theorem zos (a1:List Int) (a2:List Int):ZZ a1 a2 =
 bif !(decide (((a1.length:Int))=((a2.length:Int)))) then
 some (false,())
 else
 (zP Um (a1,a2,0,())).bind fun st=>match st with
  | .again _=>none
  | .brk y1 =>
  some (true,())
  | .ret y1 =>
  some (y1.1,()):=zt (by kernel_rfl)
theorem zwH (a1:za):zsU a1 =
 some (a1,()):=zt (by kernel_rfl)
theorem XI (s1:List (List Int)) (s2:Int) (s3:List (List Int)) (s4:Int) (s5:Int):xz (s1,s2,s3,s4,s5,()) =
 bif decide (s5<s4) then
 (idx s3 s5).bind fun x1 =>
 bif decide ((w64 (s2+((x1.length:Int))))<0) then
  none
 else
  some (.again (s1,w64 (s2+((x1.length:Int))),s3,s4,w64 (s5+1),()))
 else
 some (.brk (s1,s2,())):=by kernel_rfl
theorem Xg (s1:List (List Int)) (s2:Int) (s3:Int) (s4:List Int):xt (s1,s2,s3,s4,()) =
 bif decide (s3<s2) then
 (idx s1 s3).bind fun x1 =>
 (yf (s4++x1)).bind fun l2 =>
 some (.again (s1,s2,w64 (s3+1),l2,()))
 else
 some (.brk (s4,())):=by kernel_rfl
theorem zd3 (a1:List (List Int)):YE a1 =
 (zP xz (a1,0,a1,(a1.length:Int),0,())).bind fun st=>match st with
  | .again _=>none
  | .brk y1 =>
  (zAi y1.2.1).bind fun y2 =>
  (zP xt (y1.1,(y1.1.length:Int),0,y2.1,())).bind fun st=>match st with
   | .again _=>none
   | .brk y3 =>
   some (y3.1,())
   | .ret y3 =>
   none
  | .ret y1 =>
  none:=zt (by kernel_rfl)
theorem zx8 (a1:List Int) (a2:List Int):zpN a1 a2 =
 (YE (([a1,a2]:List (List Int)))).bind fun y1 =>
 (zqL y1.1).bind fun y2 =>
 some (y2.1,()):=zt (by kernel_rfl)
theorem zpi (s1:List (BitVec 64)) (s2:Int) (s3:Int) (s4:Int) (s5:List Int):zdN (s1,s2,s3,s4,s5,()) =
 bif !(decide (s4=0)) then
 bif decide (((s5.length:Int))<(bif decide (1000<s3) then 1000 else s3)) then
  (yf (s5++([s4]:List Int))).bind fun l1 =>
  (V3 s1 (w64 (s2+s4))).bind fun y2 =>
  some (.again (s1,s2,s3,y2.1.toInt,l1,()))
 else
  some (.brk (s5,()))
 else
 some (.brk (s5,())):=by kernel_rfl
theorem zsK (a1:List (BitVec 64)) (a2:Int) (a3:Int) (a4:Int):zko a1 a2 a3 a4 =
 (V3 a1 a2).bind fun y1 =>
 (Yv y1.1).bind fun y2 =>
 (zP zdN (a1,a3,a4,y2.1,([]:List Int),())).bind fun st=>match st with
  | .again _=>none
  | .brk y3 =>
  some (y3.1,())
  | .ret y3 =>
  none:=zt (by kernel_rfl)
theorem zwM (a1:List Int):yA a1 =
 (zqL a1).bind fun y1 =>
 some (y1.1,()):=zt (by kernel_rfl)
theorem zgE (s1:Int) (s2:Int) (s3:za) (s4:List Int) (s5:List Int):WR (s1,s2,s3,s4,s5,()) =
 bif decide (s2<s1) then
 (xx s5 s2).bind fun n1 =>
 (s5[n1]?).bind fun x2 =>
 bif decide (x2<((s3.Bins.length:Int))) then
  (idx s3.Bins x2).bind fun x3 =>
  (yf (s4++x3)).bind fun l4 =>
  some (.again (s1,w64 (s2+1),s3,l4,s5,()))
 else
  some (.again (s1,w64 (s2+1),s3,s4,s5,()))
 else
 some (.brk (s4,())):=by kernel_rfl
theorem zs2 (a1:za):ZO a1 =
 (YO a1.P).bind fun y1 =>
 (ZK a1.P).bind fun y2 =>
 (zko a1.M y1.1 y2.1 ((a1.Bins.length:Int))).bind fun y3 =>
 (zP WR ((y3.1.length:Int),0,a1,([]:List Int),y3.1,())).bind fun st=>match st with
  | .again _=>none
  | .brk y4 =>
  (yA y4.1).bind fun y5 =>
  some (y5.1,())
  | .ret y4 =>
  none:=zt (by kernel_rfl)
theorem zr4 (a1:za) (a2:Int) (a3:zd):zhI a1 a2 a3 =
 bif decide (a3.PC=3) then
 bif !(decide (a3.T=(a3.B-1#64))) then
  (yU a1.P a2).bind fun y1 =>
  bif decide ((BitVec.ofInt 64 a1.P.Cap)=0#64) then
  none
  else
  (Y0 a1.M (Zq.mk 1 (w64 ((w64 (y1.1+2))+(((a3.B-1#64)%(BitVec.ofInt 64 a1.P.Cap)).toInt))) 0#64 0#64)).bind fun y2 =>
  some (([y2.2.1.toInt]:List Int),())
 else
  bif decide (a3.PC=6) then
  some (([a3.X]:List Int),())
  else
  some (([]:List Int),())
 else
 bif decide (a3.PC=6) then
  some (([a3.X]:List Int),())
 else
  some (([]:List Int),()):=zt (by kernel_rfl)
theorem zjM (a1:zu) (a2:Int) (a3:Int) (a4:Int):zlA a1 a2 a3 a4 =
 bif decide (a1.Out=0) then
 bif decide (a2<=a1.PC) then
  bif decide (a1.PC<=a3) then
  some (a4,())
  else
  some (0,())
 else
  some (0,())
 else
 some (0,()):=zt (by kernel_rfl)
theorem ztw (a1:zu):u0 a1 =
 (zlA a1 3 7 a1.Obj).bind fun y1 =>
 some (y1.1,()):=zt (by kernel_rfl)
theorem zdC (s1:List (BitVec 64)) (s2:BitVec 64) (s3:BitVec 64) (s4:zd) (s5:List Int):ya (s1,s2,s3,s4,s5,()) =
 bif !(decide (s3=s2)) then
 (ua s3 s4).bind fun y1 =>
 (vn s1 y1.1).bind fun y2 =>
 (yf (s5++([y2.1.toInt]:List Int))).bind fun l3 =>
 some (.again (s1,s2,s3+1#64,s4,l3,()))
 else
 some (.brk (s5,())):=by kernel_rfl
theorem zr7 (a1:List (BitVec 64)) (a2:Int) (a3:Int) (a4:zd):xS a1 a2 a3 a4 =
 (uX (zd.mk 0 0 a2 a3 0#64 0#64 0 0)).bind fun y1 =>
 (vn a1 y1.1).bind fun y2 =>
 (xL (zd.mk 0 0 a2 a3 0#64 0#64 0 0)).bind fun y3 =>
 (vn a1 y3.1).bind fun y4 =>
 bif decide (a4.Kind=2) then
 bif decide (a4.Out=0) then
  bif decide (a4.PC=2) then
  bif decide (a4.PC=2) then
   (xe (y4.1+1#64) y2.1).bind fun y5 =>
   bif !y5.1 then
   some (([]:List Int),())
   else
   (z5 (zd.mk 0 0 a2 a3 0#64 0#64 0 0)).bind fun y6 =>
   bif decide ((bif decide (64#64<y6.1) then 64#64 else y6.1)<((y4.1+1#64)-y2.1)) then
    some (([]:List Int),())
   else
    (zP ya (a1,y4.1+1#64,y2.1,zd.mk 0 0 a2 a3 0#64 0#64 0 0,([]:List Int),())).bind fun st=>match st with
     | .again _=>none
     | .brk y7 =>
     some (y7.1,())
     | .ret y7 =>
     none
  else
   bif decide (a4.PC=3) then
   bif decide (a4.T=(a4.B-1#64)) then
    (xe (y4.1+1#64) y2.1).bind fun y8 =>
    bif !y8.1 then
    some (([]:List Int),())
    else
    (z5 (zd.mk 0 0 a2 a3 0#64 0#64 0 0)).bind fun y9 =>
    bif decide ((bif decide (64#64<y9.1) then 64#64 else y9.1)<((y4.1+1#64)-y2.1)) then
     some (([]:List Int),())
    else
     (zP ya (a1,y4.1+1#64,y2.1,zd.mk 0 0 a2 a3 0#64 0#64 0 0,([]:List Int),())).bind fun st=>match st with
      | .again _=>none
      | .brk y10 =>
      some (y10.1,())
      | .ret y10 =>
      none
   else
    (xe y4.1 y2.1).bind fun y11 =>
    bif !y11.1 then
    some (([]:List Int),())
    else
    (z5 (zd.mk 0 0 a2 a3 0#64 0#64 0 0)).bind fun y12 =>
    bif decide ((bif decide (64#64<y12.1) then 64#64 else y12.1)<(y4.1-y2.1)) then
     some (([]:List Int),())
    else
     (zP ya (a1,y4.1,y2.1,zd.mk 0 0 a2 a3 0#64 0#64 0 0,([]:List Int),())).bind fun st=>match st with
      | .again _=>none
      | .brk y13 =>
      some (y13.1,())
      | .ret y13 =>
      none
   else
   (xe y4.1 y2.1).bind fun y14 =>
   bif !y14.1 then
    some (([]:List Int),())
   else
    (z5 (zd.mk 0 0 a2 a3 0#64 0#64 0 0)).bind fun y15 =>
    bif decide ((bif decide (64#64<y15.1) then 64#64 else y15.1)<(y4.1-y2.1)) then
    some (([]:List Int),())
    else
    (zP ya (a1,y4.1,y2.1,zd.mk 0 0 a2 a3 0#64 0#64 0 0,([]:List Int),())).bind fun st=>match st with
     | .again _=>none
     | .brk y16 =>
     some (y16.1,())
     | .ret y16 =>
     none
  else
  bif decide (a4.PC=4) then
   bif decide (a4.PC=4) then
   (xe (y4.1+1#64) y2.1).bind fun y17 =>
   bif !y17.1 then
    some (([]:List Int),())
   else
    (z5 (zd.mk 0 0 a2 a3 0#64 0#64 0 0)).bind fun y18 =>
    bif decide ((bif decide (64#64<y18.1) then 64#64 else y18.1)<((y4.1+1#64)-y2.1)) then
    some (([]:List Int),())
    else
    (zP ya (a1,y4.1+1#64,y2.1,zd.mk 0 0 a2 a3 0#64 0#64 0 0,([]:List Int),())).bind fun st=>match st with
     | .again _=>none
     | .brk y19 =>
     some (y19.1,())
     | .ret y19 =>
     none
   else
   bif decide (a4.PC=3) then
    bif decide (a4.T=(a4.B-1#64)) then
    (xe (y4.1+1#64) y2.1).bind fun y20 =>
    bif !y20.1 then
     some (([]:List Int),())
    else
     (z5 (zd.mk 0 0 a2 a3 0#64 0#64 0 0)).bind fun y21 =>
     bif decide ((bif decide (64#64<y21.1) then 64#64 else y21.1)<((y4.1+1#64)-y2.1)) then
     some (([]:List Int),())
     else
     (zP ya (a1,y4.1+1#64,y2.1,zd.mk 0 0 a2 a3 0#64 0#64 0 0,([]:List Int),())).bind fun st=>match st with
      | .again _=>none
      | .brk y22 =>
      some (y22.1,())
      | .ret y22 =>
      none
    else
    (xe y4.1 y2.1).bind fun y23 =>
    bif !y23.1 then
     some (([]:List Int),())
    else
     (z5 (zd.mk 0 0 a2 a3 0#64 0#64 0 0)).bind fun y24 =>
     bif decide ((bif decide (64#64<y24.1) then 64#64 else y24.1)<(y4.1-y2.1)) then
     some (([]:List Int),())
     else
     (zP ya (a1,y4.1,y2.1,zd.mk 0 0 a2 a3 0#64 0#64 0 0,([]:List Int),())).bind fun st=>match st with
      | .again _=>none
      | .brk y25 =>
      some (y25.1,())
      | .ret y25 =>
      none
   else
    (xe y4.1 y2.1).bind fun y26 =>
    bif !y26.1 then
    some (([]:List Int),())
    else
    (z5 (zd.mk 0 0 a2 a3 0#64 0#64 0 0)).bind fun y27 =>
    bif decide ((bif decide (64#64<y27.1) then 64#64 else y27.1)<(y4.1-y2.1)) then
     some (([]:List Int),())
    else
     (zP ya (a1,y4.1,y2.1,zd.mk 0 0 a2 a3 0#64 0#64 0 0,([]:List Int),())).bind fun st=>match st with
      | .again _=>none
      | .brk y28 =>
      some (y28.1,())
      | .ret y28 =>
      none
  else
   bif decide (a4.PC=5) then
   (xe (y4.1+1#64) y2.1).bind fun y29 =>
   bif !y29.1 then
    some (([]:List Int),())
   else
    (z5 (zd.mk 0 0 a2 a3 0#64 0#64 0 0)).bind fun y30 =>
    bif decide ((bif decide (64#64<y30.1) then 64#64 else y30.1)<((y4.1+1#64)-y2.1)) then
    some (([]:List Int),())
    else
    (zP ya (a1,y4.1+1#64,y2.1,zd.mk 0 0 a2 a3 0#64 0#64 0 0,([]:List Int),())).bind fun st=>match st with
     | .again _=>none
     | .brk y31 =>
     some (y31.1,())
     | .ret y31 =>
     none
   else
   bif decide (a4.PC=3) then
    bif decide (a4.T=(a4.B-1#64)) then
    (xe (y4.1+1#64) y2.1).bind fun y32 =>
    bif !y32.1 then
     some (([]:List Int),())
    else
     (z5 (zd.mk 0 0 a2 a3 0#64 0#64 0 0)).bind fun y33 =>
     bif decide ((bif decide (64#64<y33.1) then 64#64 else y33.1)<((y4.1+1#64)-y2.1)) then
     some (([]:List Int),())
     else
     (zP ya (a1,y4.1+1#64,y2.1,zd.mk 0 0 a2 a3 0#64 0#64 0 0,([]:List Int),())).bind fun st=>match st with
      | .again _=>none
      | .brk y34 =>
      some (y34.1,())
      | .ret y34 =>
      none
    else
    (xe y4.1 y2.1).bind fun y35 =>
    bif !y35.1 then
     some (([]:List Int),())
    else
     (z5 (zd.mk 0 0 a2 a3 0#64 0#64 0 0)).bind fun y36 =>
     bif decide ((bif decide (64#64<y36.1) then 64#64 else y36.1)<(y4.1-y2.1)) then
     some (([]:List Int),())
     else
     (zP ya (a1,y4.1,y2.1,zd.mk 0 0 a2 a3 0#64 0#64 0 0,([]:List Int),())).bind fun st=>match st with
      | .again _=>none
      | .brk y37 =>
      some (y37.1,())
      | .ret y37 =>
      none
   else
    (xe y4.1 y2.1).bind fun y38 =>
    bif !y38.1 then
    some (([]:List Int),())
    else
    (z5 (zd.mk 0 0 a2 a3 0#64 0#64 0 0)).bind fun y39 =>
    bif decide ((bif decide (64#64<y39.1) then 64#64 else y39.1)<(y4.1-y2.1)) then
     some (([]:List Int),())
    else
     (zP ya (a1,y4.1,y2.1,zd.mk 0 0 a2 a3 0#64 0#64 0 0,([]:List Int),())).bind fun st=>match st with
      | .again _=>none
      | .brk y40 =>
      some (y40.1,())
      | .ret y40 =>
      none
 else
  (xe y4.1 y2.1).bind fun y41 =>
  bif !y41.1 then
  some (([]:List Int),())
  else
  (z5 (zd.mk 0 0 a2 a3 0#64 0#64 0 0)).bind fun y42 =>
  bif decide ((bif decide (64#64<y42.1) then 64#64 else y42.1)<(y4.1-y2.1)) then
   some (([]:List Int),())
  else
   (zP ya (a1,y4.1,y2.1,zd.mk 0 0 a2 a3 0#64 0#64 0 0,([]:List Int),())).bind fun st=>match st with
    | .again _=>none
    | .brk y43 =>
    some (y43.1,())
    | .ret y43 =>
    none
 else
 (xe y4.1 y2.1).bind fun y44 =>
 bif !y44.1 then
  some (([]:List Int),())
 else
  (z5 (zd.mk 0 0 a2 a3 0#64 0#64 0 0)).bind fun y45 =>
  bif decide ((bif decide (64#64<y45.1) then 64#64 else y45.1)<(y4.1-y2.1)) then
  some (([]:List Int),())
  else
  (zP ya (a1,y4.1,y2.1,zd.mk 0 0 a2 a3 0#64 0#64 0 0,([]:List Int),())).bind fun st=>match st with
   | .again _=>none
   | .brk y46 =>
   some (y46.1,())
   | .ret y46 =>
   none:=zt (by kernel_rfl)
theorem zjx (a1:za) (a2:Int):u9 a1 a2 =
 bif decide (a2<1) then
 some (([]:List Int),())
 else
 bif decide (((a1.Ws.length:Int))<a2) then
  some (([]:List Int),())
 else
  (idx a1.Ws (w64 (a2-1))).bind fun x1 =>
  (yB x1.Batch).bind fun y2 =>
  bif decide (x1.PC=0) then
  (zhI a1 a2 x1.D).bind fun y3 =>
  (yf (y2.1++y3.1)).bind fun l4 =>
  (yU a1.P a2).bind fun y5 =>
  (xS a1.M y5.1 a1.P.Cap x1.D).bind fun y6 =>
  (yf (l4++y6.1)).bind fun l7 =>
  (yA l7).bind fun y8 =>
  some (y8.1,())
  else
  bif decide (x1.PC=3) then
   (idx a1.Bins x1.Bin).bind fun x9 =>
   (yf (y2.1++x9)).bind fun l10 =>
   (yU a1.P a2).bind fun y11 =>
   (xS a1.M y11.1 a1.P.Cap (zd.mk 0 0 0 0 0#64 0#64 0 0)).bind fun y12 =>
   (yf (l10++y12.1)).bind fun l13 =>
   (yA l13).bind fun y14 =>
   some (y14.1,())
  else
   bif decide (x1.PC=5) then
   bif decide (x1.PC=5) then
    (yf (y2.1++([x1.Obj]:List Int))).bind fun l15 =>
    (yU a1.P a2).bind fun y16 =>
    (xS a1.M y16.1 a1.P.Cap (zd.mk 0 0 0 0 0#64 0#64 0 0)).bind fun y17 =>
    (yf (l15++y17.1)).bind fun l18 =>
    (yA l18).bind fun y19 =>
    some (y19.1,())
   else
    bif decide (x1.PC=6) then
    (yf (y2.1++([x1.Obj]:List Int))).bind fun l20 =>
    (u0 x1.G).bind fun y21 =>
    (zdx ([y21.1]:List Int)).bind fun y22 =>
    (yf (l20++y22.1)).bind fun l23 =>
    bif decide (x1.G.PC=3) then
     (yU a1.P a2).bind fun y24 =>
     (xS a1.M y24.1 a1.P.Cap x1.G.D).bind fun y25 =>
     (yf (l23++y25.1)).bind fun l26 =>
     (yA l26).bind fun y27 =>
     some (y27.1,())
    else
     (yU a1.P a2).bind fun y28 =>
     (xS a1.M y28.1 a1.P.Cap (zd.mk 0 0 0 0 0#64 0#64 0 0)).bind fun y29 =>
     (yf (l23++y29.1)).bind fun l30 =>
     (yA l30).bind fun y31 =>
     some (y31.1,())
    else
    (yU a1.P a2).bind fun y32 =>
    (xS a1.M y32.1 a1.P.Cap (zd.mk 0 0 0 0 0#64 0#64 0 0)).bind fun y33 =>
    (yf (y2.1++y33.1)).bind fun l34 =>
    (yA l34).bind fun y35 =>
    some (y35.1,())
   else
   bif decide (x1.PC=8) then
    (yf (y2.1++([x1.Obj]:List Int))).bind fun l36 =>
    (yU a1.P a2).bind fun y37 =>
    (xS a1.M y37.1 a1.P.Cap (zd.mk 0 0 0 0 0#64 0#64 0 0)).bind fun y38 =>
    (yf (l36++y38.1)).bind fun l39 =>
    (yA l39).bind fun y40 =>
    some (y40.1,())
   else
    bif decide (x1.PC=6) then
    (yf (y2.1++([x1.Obj]:List Int))).bind fun l41 =>
    (u0 x1.G).bind fun y42 =>
    (zdx ([y42.1]:List Int)).bind fun y43 =>
    (yf (l41++y43.1)).bind fun l44 =>
    bif decide (x1.G.PC=3) then
     (yU a1.P a2).bind fun y45 =>
     (xS a1.M y45.1 a1.P.Cap x1.G.D).bind fun y46 =>
     (yf (l44++y46.1)).bind fun l47 =>
     (yA l47).bind fun y48 =>
     some (y48.1,())
    else
     (yU a1.P a2).bind fun y49 =>
     (xS a1.M y49.1 a1.P.Cap (zd.mk 0 0 0 0 0#64 0#64 0 0)).bind fun y50 =>
     (yf (l44++y50.1)).bind fun l51 =>
     (yA l51).bind fun y52 =>
     some (y52.1,())
    else
    (yU a1.P a2).bind fun y53 =>
    (xS a1.M y53.1 a1.P.Cap (zd.mk 0 0 0 0 0#64 0#64 0 0)).bind fun y54 =>
    (yf (y2.1++y54.1)).bind fun l55 =>
    (yA l55).bind fun y56 =>
    some (y56.1,()):=zt (by kernel_rfl)
theorem zef (a1:zc):uj a1 =
 bif decide (a1.PC=3) then
 some (true,())
 else
 some (decide (a1.PC=37),()):=zt (by kernel_rfl)
theorem zrf (a1:za) (a2:Int):XL a1 a2 =
 bif decide (a2<1) then
 some (([]:List Int),())
 else
 bif decide (((a1.Ms.length:Int))<a2) then
  some (([]:List Int),())
 else
  (idx a1.Ms (w64 (a2-1))).bind fun x1 =>
  (yB x1.Batch).bind fun y2 =>
  bif decide (x1.PC=33) then
  (idx a1.Bins x1.Bin).bind fun x3 =>
  (yf (y2.1++x3)).bind fun l4 =>
  bif decide (36<=x1.PC) then
   bif decide (x1.PC<=38) then
   (yf (l4++([x1.Obj]:List Int))).bind fun l5 =>
   (uj x1).bind fun y6 =>
   bif y6.1 then
    (u0 x1.G).bind fun y7 =>
    (zdx ([y7.1]:List Int)).bind fun y8 =>
    (yf (l5++y8.1)).bind fun l9 =>
    (yA l9).bind fun y10 =>
    some (y10.1,())
   else
    (yA l5).bind fun y11 =>
    some (y11.1,())
   else
   (uj x1).bind fun y12 =>
   bif y12.1 then
    (u0 x1.G).bind fun y13 =>
    (zdx ([y13.1]:List Int)).bind fun y14 =>
    (yf (l4++y14.1)).bind fun l15 =>
    (yA l15).bind fun y16 =>
    some (y16.1,())
   else
    (yA l4).bind fun y17 =>
    some (y17.1,())
  else
   (uj x1).bind fun y18 =>
   bif y18.1 then
   (u0 x1.G).bind fun y19 =>
   (zdx ([y19.1]:List Int)).bind fun y20 =>
   (yf (l4++y20.1)).bind fun l21 =>
   (yA l21).bind fun y22 =>
   some (y22.1,())
   else
   (yA l4).bind fun y23 =>
   some (y23.1,())
  else
  bif decide (36<=x1.PC) then
   bif decide (x1.PC<=38) then
   (yf (y2.1++([x1.Obj]:List Int))).bind fun l24 =>
   (uj x1).bind fun y25 =>
   bif y25.1 then
    (u0 x1.G).bind fun y26 =>
    (zdx ([y26.1]:List Int)).bind fun y27 =>
    (yf (l24++y27.1)).bind fun l28 =>
    (yA l28).bind fun y29 =>
    some (y29.1,())
   else
    (yA l24).bind fun y30 =>
    some (y30.1,())
   else
   (uj x1).bind fun y31 =>
   bif y31.1 then
    (u0 x1.G).bind fun y32 =>
    (zdx ([y32.1]:List Int)).bind fun y33 =>
    (yf (y2.1++y33.1)).bind fun l34 =>
    (yA l34).bind fun y35 =>
    some (y35.1,())
   else
    (yA y2.1).bind fun y36 =>
    some (y36.1,())
  else
   (uj x1).bind fun y37 =>
   bif y37.1 then
   (u0 x1.G).bind fun y38 =>
   (zdx ([y38.1]:List Int)).bind fun y39 =>
   (yf (y2.1++y39.1)).bind fun l40 =>
   (yA l40).bind fun y41 =>
   some (y41.1,())
   else
   (yA y2.1).bind fun y42 =>
   some (y42.1,()):=zt (by kernel_rfl)
theorem zrl (y:List Int) (s1:List Int):zbi y (s1,()) =
 (zpN s1 y).bind fun y1 =>
 some (y1.1,()):=by kernel_rfl
theorem zuI (a1:za):U6 a1 =
 (zsU a1).bind fun y1 =>
 (zqs y1.1.P.Workers y1.1.P.Mutators y1.1.P.Cap y1.1.P.Buf y1.1.P.Bin y1.1.P.Most y1.1.P.Price y1.1.P.Limit y1.1.P.H.Slots y1.1.P.H.Objs y1.1.P.Roots y1.1.P.Regs y1.1.P.Progs y1.1.P.Picks y1.1.H.Slots y1.1.H.Objs y1.1.M y1.1.Bins y1.1.T.Marks y1.1.T.Black y1.1.Work y1.1.Epoch y1.1.Flag y1.1.Done y1.1.Restarts y1.1.Acks y1.1.L.Scanned y1.1.L.Spent y1.1.L.Pool y1.1.L.Bal y1.1.Ws y1.1.Ms y1.1.D.PC y1.1.D.I).bind fun (ys2:List (List Int)) =>
 (Zb zbi ys2 (([]:List Int),())).bind fun (y3:(List Int)×Unit) =>
 some (y3.1,()):=zt (by kernel_rfl)
theorem zda (s1:List zh) (s2:Int) (s3:Int) (s4:za) (s5:List zu):YF (s1,s2,s3,s4,s5,()) =
 bif decide (s3<s2) then
 (idx s1 s3).bind fun x1 =>
 bif decide (x1.PC=6) then
  (yf (s5++([x1.G]:List zu))).bind fun l2 =>
  some (.again (s1,s2,w64 (s3+1),s4,l2,()))
 else
  some (.again (s1,s2,w64 (s3+1),s4,s5,()))
 else
 some (.brk (s4,s5,())):=by kernel_rfl
theorem zc8 (s1:List zc) (s2:Int) (s3:Int) (s4:List zu):YA (s1,s2,s3,s4,()) =
 bif decide (s3<s2) then
 (idx s1 s3).bind fun x1 =>
 (uj x1).bind fun y2 =>
 bif y2.1 then
  (yf (s4++([x1.G]:List zu))).bind fun l3 =>
  some (.again (s1,s2,w64 (s3+1),l3,()))
 else
  some (.again (s1,s2,w64 (s3+1),s4,()))
 else
 some (.brk (s4,())):=by kernel_rfl
theorem zpO (a1:za):zay a1 =
 (zP YF (a1.Ws,(a1.Ws.length:Int),0,a1,([]:List zu),())).bind fun st=>match st with
  | .again _=>none
  | .brk y1 =>
  (zP YA (y1.1.Ms,(y1.1.Ms.length:Int),0,y1.2.1,())).bind fun st=>match st with
   | .again _=>none
   | .brk y2 =>
   some (y2.1,())
   | .ret y2 =>
   none
  | .ret y1 =>
  none:=zt (by kernel_rfl)
theorem zu2 (a1:zu):zl8 a1 =
 (zlA a1 0 1 a1.Obj).bind fun y1 =>
 some (y1.1,()):=zt (by kernel_rfl)
theorem zet (s1:BitVec 64) (s2:Int) (s3:Int) (s4:za) (s5:List zu):Xl (s1,s2,s3,s4,s5,()) =
 bif decide (s3<s2) then
 (xx s5 s3).bind fun n1 =>
 (s5[n1]?).bind fun x2 =>
 (zl8 x2).bind fun y3 =>
 (Z1 s1 y3.1).bind fun y4 =>
 some (.again (y4.1,s2,w64 (s3+1),s4,s5,()))
 else
 some (.brk (s1,s4,())):=by kernel_rfl
theorem zep (s1:BitVec 64) (s2:List zc) (s3:Int) (s4:Int):Xf (s1,s2,s3,s4,()) =
 bif decide (s4<s3) then
 (idx s2 s4).bind fun x1 =>
 (zjv x1.Buf).bind fun y2 =>
 bif decide (x1.PC=21) then
  (Z1 (s1|||y2.1) x1.Old).bind fun y3 =>
  some (.again (y3.1,s2,s3,w64 (s4+1),()))
 else
  bif decide (x1.PC=22) then
  (Z1 (s1|||y2.1) x1.Old).bind fun y4 =>
  some (.again (y4.1,s2,s3,w64 (s4+1),()))
  else
  bif decide (x1.Ret=22) then
   bif decide (x1.PC=1) then
   (Z1 (s1|||y2.1) x1.Old).bind fun y5 =>
   some (.again (y5.1,s2,s3,w64 (s4+1),()))
   else
   bif decide (x1.PC=3) then
    (Z1 (s1|||y2.1) x1.Old).bind fun y6 =>
    some (.again (y6.1,s2,s3,w64 (s4+1),()))
   else
    some (.again (s1|||y2.1,s2,s3,w64 (s4+1),()))
  else
   some (.again (s1|||y2.1,s2,s3,w64 (s4+1),()))
 else
 some (.brk (s1,())):=by kernel_rfl
theorem zrc (a1:za):XK a1 =
 (zay a1).bind fun y1 =>
 (zP Xl (0#64,(y1.1.length:Int),0,a1,y1.1,())).bind fun st=>match st with
  | .again _=>none
  | .brk y2 =>
  (zP Xf (y2.1,y2.2.1.Ms,(y2.2.1.Ms.length:Int),0,())).bind fun st=>match st with
   | .again _=>none
   | .brk y3 =>
   some (y3.1,())
   | .ret y3 =>
   none
  | .ret y2 =>
  none:=zt (by kernel_rfl)
theorem zri (a1:zh):zeU a1 =
 bif !(decide (a1.Obj=0)) then
 some (true,())
 else
 some (decide (0<((a1.Batch.length:Int))),()):=zt (by kernel_rfl)
theorem uU (s1:List zh) (s2:Int) (s3:Int):yN (s1,s2,s3,()) =
 bif decide (s3<s2) then
 (idx s1 s3).bind fun x1 =>
 (zeU x1).bind fun y2 =>
 bif y2.1 then
  some (.ret (s3,()))
 else
  some (.again (s1,s2,w64 (s3+1),()))
 else
 some (.brk (())):=by kernel_rfl
theorem Zg (a1:List zh):wp a1 =
 (zP yN (a1,(a1.length:Int),0,())).bind fun st=>match st with
  | .again _=>none
  | .brk y1 =>
  some (-1,())
  | .ret y1 =>
  some (y1.1,()):=zt (by kernel_rfl)
theorem uW (a1:List zh):yO a1 =
 (wp a1).bind fun y1 =>
 some (decide (0<=y1.1),()):=zt (by kernel_rfl)
theorem zqZ (a1:zc):zfg a1 =
 bif !(decide (a1.Obj=0)) then
 some (true,())
 else
 some (decide (0<(w64 (((a1.Batch.length:Int))+((a1.Buf.length:Int))))),()):=zt (by kernel_rfl)
theorem uG (s1:List zc) (s2:Int) (s3:Int):yH (s1,s2,s3,()) =
 bif decide (s3<s2) then
 (idx s1 s3).bind fun x1 =>
 (zfg x1).bind fun y2 =>
 bif y2.1 then
  some (.ret (s3,()))
 else
  some (.again (s1,s2,w64 (s3+1),()))
 else
 some (.brk (())):=by kernel_rfl
theorem u4 (a1:List zc):wa a1 =
 (zP yH (a1,(a1.length:Int),0,())).bind fun st=>match st with
  | .again _=>none
  | .brk y1 =>
  some (-1,())
  | .ret y1 =>
  some (y1.1,()):=zt (by kernel_rfl)
theorem uF (a1:List zc):yK a1 =
 (wa a1).bind fun y1 =>
 some (decide (0<=y1.1),()):=zt (by kernel_rfl)
end Go.Pe.G
namespace Go.Pe.G
open Go.Pe
theorem zs6 (a1:za):zdF a1 =
 (U6 a1).bind fun y1 =>
 bif decide (((y1.1.length:Int))=0) then
 (yO a1.Ws).bind fun y2 =>
 bif !y2.1 then
  (yK a1.Ms).bind fun y3 =>
  some (!y3.1,())
 else
  some (false,())
 else
 some (false,()):=zt (by kernel_rfl)
theorem zuB (a1:zu):zmP a1 =
 (zlA a1 1 2 1).bind fun y1 =>
 some (y1.1,()):=zt (by kernel_rfl)
theorem zh1 (s1:Int) (s2:Int) (s3:Int) (s4:za) (s5:List zu):VX (s1,s2,s3,s4,s5,()) =
 bif decide (s3<s2) then
 (xx s5 s3).bind fun n1 =>
 (s5[n1]?).bind fun x2 =>
 (zmP x2).bind fun y3 =>
 some (.again (w64 (s1+y3.1),s2,w64 (s3+1),s4,s5,()))
 else
 some (.brk (s1,s4,())):=by kernel_rfl
theorem zhZ (s1:Int) (s2:List zh) (s3:Int) (s4:Int) (s5:za):Uc (s1,s2,s3,s4,s5,()) =
 bif decide (s4<s3) then
 (idx s2 s4).bind fun x1 =>
 bif decide (x1.PC=9) then
  some (.again (w64 (s1+1),s2,s3,w64 (s4+1),s5,()))
 else
  some (.again (s1,s2,s3,w64 (s4+1),s5,()))
 else
 some (.brk (s1,s5,())):=by kernel_rfl
theorem zhg (s1:Int) (s2:List zc) (s3:Int) (s4:Int):WW (s1,s2,s3,s4,()) =
 bif decide (s4<s3) then
 (idx s2 s4).bind fun x1 =>
 bif decide (x1.PC=39) then
  some (.again (w64 (s1+1),s2,s3,w64 (s4+1),()))
 else
  some (.again (s1,s2,s3,w64 (s4+1),()))
 else
 some (.brk (s1,())):=by kernel_rfl
theorem zvn (a1:za):zmj a1 =
 (zay a1).bind fun y1 =>
 (zP VX (0,(y1.1.length:Int),0,a1,y1.1,())).bind fun st=>match st with
  | .again _=>none
  | .brk y2 =>
  (zP Uc (y2.1,y2.2.1.Ws,(y2.2.1.Ws.length:Int),0,y2.2.1,())).bind fun st=>match st with
   | .again _=>none
   | .brk y3 =>
   (zP WW (y3.1,y3.2.1.Ms,(y3.2.1.Ms.length:Int),0,())).bind fun st=>match st with
    | .again _=>none
    | .brk y4 =>
    some (y4.1,())
    | .ret y4 =>
    none
   | .ret y3 =>
   none
  | .ret y2 =>
  none:=zt (by kernel_rfl)
theorem Ug (s1:List zg) (s2:Int) (s3:za) (s4:za):wQ (s1,s2,s3,s4,()) =
 bif decide (s2<6) then
 (u6 s4 s1).bind fun y1 =>
 some (.again (s1,w64 (s2+1),s3,y1.1,()))
 else
 some (.brk (s1,s3,s4,())):=by kernel_rfl
theorem zkE:V7 =
 (zaS (([(([(zm.mk 1 1 0 0),(zm.mk 5 1 0 0),(zm.mk 2 1 0 0)]:List zm))]:List (List zm)))).bind fun y1 =>
 (zgc y1.1).bind fun y2 =>
 (zP wQ (([(zg.mk 2 1)]:List zg),0,y2.1,y2.1,())).bind fun st=>match st with
  | .again _=>none
  | .brk y3 =>
  (u6 y3.2.2.1 y3.1).bind fun y4 =>
  (u6 y4.1 y3.1).bind fun y5 =>
  (zap y5.1 900).bind fun y6 =>
  (u6 y3.2.1 (([(zg.mk 1 1),(zg.mk 1 1),(zg.mk 1 1),(zg.mk 1 1),(zg.mk 1 1),(zg.mk 1 1),(zg.mk 1 1)]:List zg))).bind fun y7 =>
  (U6 y3.2.1).bind fun y8 =>
  (ZZ y8.1 ([1]:List Int)).bind fun y9 =>
  bif y9.1 then
  (ZO y3.2.1).bind fun y10 =>
  (ZZ y10.1 ([1]:List Int)).bind fun y11 =>
  bif y11.1 then
   (XK y3.2.1).bind fun y12 =>
   bif decide (y12.1=0#64) then
   (Ve y3.2.1).bind fun y13 =>
   bif decide (y13.1=3#64) then
    (zbP y3.2.1).bind fun y14 =>
    bif decide (y14.1=1#64) then
    (XK y3.2.2.1).bind fun y15 =>
    bif decide (y15.1=2#64) then
     (XK y4.1).bind fun y16 =>
     bif decide (y16.1=2#64) then
     (Ve y5.1).bind fun y17 =>
     bif decide (y17.1=1#64) then
      (XK y5.1).bind fun y18 =>
      bif decide (y18.1=2#64) then
      bif y6.1.Done then
       (zdF y6.1).bind fun y19 =>
       bif y19.1 then
       bif decide (y6.1.T.Marks=3#64) then
        (zdF y3.2.1).bind fun y20 =>
        bif !y20.1 then
        (ZO y7.1).bind fun y21 =>
        bif decide (((y21.1.length:Int))=0) then
         (u9 y7.1 1).bind fun y22 =>
         (ZZ y22.1 ([1]:List Int)).bind fun y23 =>
         bif y23.1 then
         (u9 y3.2.1 2).bind fun y24 =>
         bif decide (((y24.1.length:Int))=0) then
          (XL y3.2.1 1).bind fun y25 =>
          bif decide (((y25.1.length:Int))=0) then
          (zmj y3.2.1).bind fun y26 =>
          some (decide (y26.1=0),())
          else
          some (false,())
         else
          some (false,())
         else
         some (false,())
        else
         some (false,())
        else
        some (false,())
       else
        some (false,())
       else
       some (false,())
      else
       some (false,())
      else
      some (false,())
     else
      some (false,())
     else
     some (false,())
    else
     some (false,())
    else
    some (false,())
   else
    some (false,())
   else
   some (false,())
  else
   some (false,())
  else
  some (false,())
  | .ret y3 =>
  none:=zt (by kernel_rfl)
theorem zeG (a1:zG):zC a1 =
 bif decide (((a1.L.length:Int))<=a1.At) then
 some (0,a1,())
 else
 (idx a1.L (w64 ((w64 (a1.At+1))-1))).bind fun x1 =>
 some ((x1.toNat:Int),{a1 with At:=w64 (a1.At+1)},()):=zt (by kernel_rfl)
theorem zhd (a1:Int) (a2:Int) (a3:zG):XX a1 a2 a3 =
 (zC a3).bind fun y1 =>
 (xx ([1,1,2,2,2,3,4,5]:List Int) (y1.1.tmod 8)).bind fun n2 =>
 (([1,1,2,2,2,3,4,5]:List Int)[n2]?).bind fun x3 =>
 (zC y1.2.1).bind fun y4 =>
 bif decide (a1=0) then
 none
 else
 bif decide (x3=1) then
  (zC y4.2.1).bind fun y5 =>
  bif decide (a1=0) then
  none
  else
  bif decide (x3<3) then
   (zC y5.2.1).bind fun y6 =>
   bif decide (a2=0) then
   none
   else
   some (zm.mk x3 (y4.1.tmod a1) (y5.1.tmod a1) (y6.1.tmod a2),y6.2.1,())
  else
   some (zm.mk x3 (y4.1.tmod a1) (y5.1.tmod a1) 0,y5.2.1,())
 else
  bif decide (x3=2) then
  (zC y4.2.1).bind fun y7 =>
  bif decide (a1=0) then
   none
  else
   bif decide (x3<3) then
   (zC y7.2.1).bind fun y8 =>
   bif decide (a2=0) then
    none
   else
    some (zm.mk x3 (y4.1.tmod a1) (y7.1.tmod a1) (y8.1.tmod a2),y8.2.1,())
   else
   some (zm.mk x3 (y4.1.tmod a1) (y7.1.tmod a1) 0,y7.2.1,())
  else
  bif decide (x3=4) then
   (zC y4.2.1).bind fun y9 =>
   bif decide (a1=0) then
   none
   else
   bif decide (x3<3) then
    (zC y9.2.1).bind fun y10 =>
    bif decide (a2=0) then
    none
    else
    some (zm.mk x3 (y4.1.tmod a1) (y9.1.tmod a1) (y10.1.tmod a2),y10.2.1,())
   else
    some (zm.mk x3 (y4.1.tmod a1) (y9.1.tmod a1) 0,y9.2.1,())
  else
   bif decide (x3<3) then
   (zC y4.2.1).bind fun y11 =>
   bif decide (a2=0) then
    none
   else
    some (zm.mk x3 (y4.1.tmod a1) 0 (y11.1.tmod a2),y11.2.1,())
   else
   some (zm.mk x3 (y4.1.tmod a1) 0 0,y4.2.1,()):=zt (by kernel_rfl)
theorem zkN (s1:Int) (s2:Int) (s3:Int) (s4:Int) (s5:Int) (s6:Int) (s7:Int) (s8:Int) (s9:Int) (s10:Int) (s11:Int) (s12:BitVec 64) (s13:zG) (s14:Int) (s15:Int) (s16:Int) (s17:Int) (s18:Int) (s19:Int) (s20:Int) (s21:Int) (s22:Int) (s23:BitVec 64) (s24:List (List Int)) (s25:List (List Int)) (s26:List (List zm)) (s27:List zg) (s28:List (List Int)) (s29:List (List Int)) (s30:List (List zm)) (s31:List zg):Xu (s1,s2,s3,s4,s5,s6,s7,s8,s9,s10,s11,s12,s13,s14,s15,s16,s17,s18,s19,s20,s21,s22,s23,s24,s25,s26,s27,s28,s29,s30,s31,()) =
 bif decide (s2<s1) then
 (zP YQ (s1,s2,0,s3,s4,s5,s6,s7,s8,s9,s10,s11,s12,s13,s14,s15,s16,s17,s18,s19,s20,s21,s22,s23,([]:List Int),s24,s25,s26,s27,s28,s29,s30,s31,())).bind fun st=>match st with
  | .again _=>none
  | .brk y1 =>
  (yf (y1.2.2.2.2.2.2.2.2.2.2.2.2.2.2.2.2.2.2.2.2.2.2.2.2.2.2.2.2.1++(([y1.2.2.2.2.2.2.2.2.2.2.2.2.2.2.2.2.2.2.2.2.2.2.2.1]:List (List Int))))).bind fun l2 =>
  some (.again (y1.1,w64 (y1.2.1+1),y1.2.2.1,y1.2.2.2.1,y1.2.2.2.2.1,y1.2.2.2.2.2.1,y1.2.2.2.2.2.2.1,y1.2.2.2.2.2.2.2.1,y1.2.2.2.2.2.2.2.2.1,y1.2.2.2.2.2.2.2.2.2.1,y1.2.2.2.2.2.2.2.2.2.2.1,y1.2.2.2.2.2.2.2.2.2.2.2.1,y1.2.2.2.2.2.2.2.2.2.2.2.2.1,y1.2.2.2.2.2.2.2.2.2.2.2.2.2.1,y1.2.2.2.2.2.2.2.2.2.2.2.2.2.2.1,y1.2.2.2.2.2.2.2.2.2.2.2.2.2.2.2.1,y1.2.2.2.2.2.2.2.2.2.2.2.2.2.2.2.2.1,y1.2.2.2.2.2.2.2.2.2.2.2.2.2.2.2.2.2.1,y1.2.2.2.2.2.2.2.2.2.2.2.2.2.2.2.2.2.2.1,y1.2.2.2.2.2.2.2.2.2.2.2.2.2.2.2.2.2.2.2.1,y1.2.2.2.2.2.2.2.2.2.2.2.2.2.2.2.2.2.2.2.2.1,y1.2.2.2.2.2.2.2.2.2.2.2.2.2.2.2.2.2.2.2.2.2.1,y1.2.2.2.2.2.2.2.2.2.2.2.2.2.2.2.2.2.2.2.2.2.2.1,y1.2.2.2.2.2.2.2.2.2.2.2.2.2.2.2.2.2.2.2.2.2.2.2.2.1,y1.2.2.2.2.2.2.2.2.2.2.2.2.2.2.2.2.2.2.2.2.2.2.2.2.2.1,y1.2.2.2.2.2.2.2.2.2.2.2.2.2.2.2.2.2.2.2.2.2.2.2.2.2.2.1,y1.2.2.2.2.2.2.2.2.2.2.2.2.2.2.2.2.2.2.2.2.2.2.2.2.2.2.2.1,l2,y1.2.2.2.2.2.2.2.2.2.2.2.2.2.2.2.2.2.2.2.2.2.2.2.2.2.2.2.2.2.1,y1.2.2.2.2.2.2.2.2.2.2.2.2.2.2.2.2.2.2.2.2.2.2.2.2.2.2.2.2.2.2.1,y1.2.2.2.2.2.2.2.2.2.2.2.2.2.2.2.2.2.2.2.2.2.2.2.2.2.2.2.2.2.2.2.1,()))
  | .ret y1 =>
  some (.ret (()))
 else
 some (.brk (s1,s3,s4,s5,s6,s7,s8,s9,s10,s11,s12,s13,s14,s15,s16,s17,s18,s19,s20,s21,s22,s23,s24,s25,s26,s27,s28,s29,s30,s31,())):=by kernel_rfl
theorem zi9 (s1:Int) (s2:Int) (s3:Int) (s4:Int) (s5:Int) (s6:Int) (s7:Int) (s8:Int) (s9:Int) (s10:Int) (s11:Int) (s12:Int) (s13:BitVec 64) (s14:zG) (s15:Int) (s16:Int) (s17:Int) (s18:Int) (s19:Int) (s20:Int) (s21:Int) (s22:Int) (s23:Int) (s24:BitVec 64) (s25:List Int) (s26:List (List Int)) (s27:List (List Int)) (s28:List (List zm)) (s29:List zg) (s30:List (List Int)) (s31:List (List Int)) (s32:List (List zm)) (s33:List zg):YQ (s1,s2,s3,s4,s5,s6,s7,s8,s9,s10,s11,s12,s13,s14,s15,s16,s17,s18,s19,s20,s21,s22,s23,s24,s25,s26,s27,s28,s29,s30,s31,s32,s33,()) =
 bif decide (s3<s23) then
 (zC s14).bind fun y1 =>
 bif decide ((w64 (s1+1))=0) then
  none
 else
  (yf (s25++(([(y1.1.tmod (w64 (s1+1)))]:List Int)))).bind fun l2 =>
  some (.again (s1,s2,w64 (s3+1),s4,s5,s6,s7,s8,s9,s10,s11,s12,s13,y1.2.1,s15,s16,s17,s18,s19,s20,s21,s22,s23,s24,l2,s26,s27,s28,s29,s30,s31,s32,s33,()))
 else
 some (.brk (s1,s2,s4,s5,s6,s7,s8,s9,s10,s11,s12,s13,s14,s15,s16,s17,s18,s19,s20,s21,s22,s23,s24,s25,s26,s27,s28,s29,s30,s31,s32,s33,())):=by kernel_rfl
theorem zjI (s1:Int) (s2:Int) (s3:Int) (s4:Int) (s5:Int) (s6:Int) (s7:Int) (s8:Int) (s9:Int) (s10:Int) (s11:Int) (s12:BitVec 64) (s13:zG) (s14:Int) (s15:Int) (s16:Int) (s17:Int) (s18:Int) (s19:Int) (s20:Int) (s21:Int) (s22:Int) (s23:BitVec 64) (s24:List (List Int)) (s25:List (List Int)) (s26:List (List zm)) (s27:List zg) (s28:List (List Int)) (s29:List (List Int)) (s30:List (List zm)) (s31:List zg):YW (s1,s2,s3,s4,s5,s6,s7,s8,s9,s10,s11,s12,s13,s14,s15,s16,s17,s18,s19,s20,s21,s22,s23,s24,s25,s26,s27,s28,s29,s30,s31,()) =
 bif decide (s2<s15) then
 (zP YV (s1,s2,0,s3,s4,s5,s6,s7,s8,s9,s10,s11,s12,s13,s14,s15,s16,s17,s18,s19,s20,s21,s22,s23,([]:List Int),s24,s25,s26,s27,s28,s29,s30,s31,())).bind fun st=>match st with
  | .again _=>none
  | .brk y1 =>
  bif decide (((y1.2.2.2.2.2.2.2.2.2.2.2.2.2.2.2.2.2.2.2.2.2.2.2.1.length:Int))=0) then
   (zC y1.2.2.2.2.2.2.2.2.2.2.2.2.1).bind fun y2 =>
   (zP Zv (y1.1,y1.2.1,y2.1.tmod 8,y1.2.2.1,y1.2.2.2.1,y1.2.2.2.2.1,y1.2.2.2.2.2.1,y1.2.2.2.2.2.2.1,y1.2.2.2.2.2.2.2.1,y1.2.2.2.2.2.2.2.2.1,y1.2.2.2.2.2.2.2.2.2.1,y1.2.2.2.2.2.2.2.2.2.2.1,y1.2.2.2.2.2.2.2.2.2.2.2.1,y2.2.1,y1.2.2.2.2.2.2.2.2.2.2.2.2.2.1,y1.2.2.2.2.2.2.2.2.2.2.2.2.2.2.1,y1.2.2.2.2.2.2.2.2.2.2.2.2.2.2.2.1,y1.2.2.2.2.2.2.2.2.2.2.2.2.2.2.2.2.1,y1.2.2.2.2.2.2.2.2.2.2.2.2.2.2.2.2.2.1,y1.2.2.2.2.2.2.2.2.2.2.2.2.2.2.2.2.2.2.1,y1.2.2.2.2.2.2.2.2.2.2.2.2.2.2.2.2.2.2.2.1,y1.2.2.2.2.2.2.2.2.2.2.2.2.2.2.2.2.2.2.2.2.1,y1.2.2.2.2.2.2.2.2.2.2.2.2.2.2.2.2.2.2.2.2.2.1,y1.2.2.2.2.2.2.2.2.2.2.2.2.2.2.2.2.2.2.2.2.2.2.1,([0]:List Int),([]:List zm),y1.2.2.2.2.2.2.2.2.2.2.2.2.2.2.2.2.2.2.2.2.2.2.2.2.1,y1.2.2.2.2.2.2.2.2.2.2.2.2.2.2.2.2.2.2.2.2.2.2.2.2.2.1,y1.2.2.2.2.2.2.2.2.2.2.2.2.2.2.2.2.2.2.2.2.2.2.2.2.2.2.1,y1.2.2.2.2.2.2.2.2.2.2.2.2.2.2.2.2.2.2.2.2.2.2.2.2.2.2.2.1,y1.2.2.2.2.2.2.2.2.2.2.2.2.2.2.2.2.2.2.2.2.2.2.2.2.2.2.2.2.1,y1.2.2.2.2.2.2.2.2.2.2.2.2.2.2.2.2.2.2.2.2.2.2.2.2.2.2.2.2.2.1,y1.2.2.2.2.2.2.2.2.2.2.2.2.2.2.2.2.2.2.2.2.2.2.2.2.2.2.2.2.2.2.1,y1.2.2.2.2.2.2.2.2.2.2.2.2.2.2.2.2.2.2.2.2.2.2.2.2.2.2.2.2.2.2.2.1,())).bind fun st=>match st with
    | .again _=>none
    | .brk y3 =>
    (yf (y3.2.2.2.2.2.2.2.2.2.2.2.2.2.2.2.2.2.2.2.2.2.2.2.2.2.2.2.2.2.2.1++(([y3.2.2.2.2.2.2.2.2.2.2.2.2.2.2.2.2.2.2.2.2.2.2.2.1]:List (List Int))))).bind fun l4 =>
    (yf (y3.2.2.2.2.2.2.2.2.2.2.2.2.2.2.2.2.2.2.2.2.2.2.2.2.2.2.2.2.2.2.2.1++(([y3.2.2.2.2.2.2.2.2.2.2.2.2.2.2.2.2.2.2.2.2.2.2.2.2.1]:List (List zm))))).bind fun l5 =>
    some (.again (y3.1,w64 (y3.2.1+1),y3.2.2.1,y3.2.2.2.1,y3.2.2.2.2.1,y3.2.2.2.2.2.1,y3.2.2.2.2.2.2.1,y3.2.2.2.2.2.2.2.1,y3.2.2.2.2.2.2.2.2.1,y3.2.2.2.2.2.2.2.2.2.1,y3.2.2.2.2.2.2.2.2.2.2.1,y3.2.2.2.2.2.2.2.2.2.2.2.1,y3.2.2.2.2.2.2.2.2.2.2.2.2.1,y3.2.2.2.2.2.2.2.2.2.2.2.2.2.1,y3.2.2.2.2.2.2.2.2.2.2.2.2.2.2.1,y3.2.2.2.2.2.2.2.2.2.2.2.2.2.2.2.1,y3.2.2.2.2.2.2.2.2.2.2.2.2.2.2.2.2.1,y3.2.2.2.2.2.2.2.2.2.2.2.2.2.2.2.2.2.1,y3.2.2.2.2.2.2.2.2.2.2.2.2.2.2.2.2.2.2.1,y3.2.2.2.2.2.2.2.2.2.2.2.2.2.2.2.2.2.2.2.1,y3.2.2.2.2.2.2.2.2.2.2.2.2.2.2.2.2.2.2.2.2.1,y3.2.2.2.2.2.2.2.2.2.2.2.2.2.2.2.2.2.2.2.2.2.1,y3.2.2.2.2.2.2.2.2.2.2.2.2.2.2.2.2.2.2.2.2.2.2.1,y3.2.2.2.2.2.2.2.2.2.2.2.2.2.2.2.2.2.2.2.2.2.2.2.2.2.1,y3.2.2.2.2.2.2.2.2.2.2.2.2.2.2.2.2.2.2.2.2.2.2.2.2.2.2.1,y3.2.2.2.2.2.2.2.2.2.2.2.2.2.2.2.2.2.2.2.2.2.2.2.2.2.2.2.1,y3.2.2.2.2.2.2.2.2.2.2.2.2.2.2.2.2.2.2.2.2.2.2.2.2.2.2.2.2.1,y3.2.2.2.2.2.2.2.2.2.2.2.2.2.2.2.2.2.2.2.2.2.2.2.2.2.2.2.2.2.1,l4,l5,y3.2.2.2.2.2.2.2.2.2.2.2.2.2.2.2.2.2.2.2.2.2.2.2.2.2.2.2.2.2.2.2.2.1,()))
    | .ret y3 =>
    some (.ret (()))
  else
   (zC y1.2.2.2.2.2.2.2.2.2.2.2.2.1).bind fun y6 =>
   (zP Zv (y1.1,y1.2.1,y6.1.tmod 8,y1.2.2.1,y1.2.2.2.1,y1.2.2.2.2.1,y1.2.2.2.2.2.1,y1.2.2.2.2.2.2.1,y1.2.2.2.2.2.2.2.1,y1.2.2.2.2.2.2.2.2.1,y1.2.2.2.2.2.2.2.2.2.1,y1.2.2.2.2.2.2.2.2.2.2.1,y1.2.2.2.2.2.2.2.2.2.2.2.1,y6.2.1,y1.2.2.2.2.2.2.2.2.2.2.2.2.2.1,y1.2.2.2.2.2.2.2.2.2.2.2.2.2.2.1,y1.2.2.2.2.2.2.2.2.2.2.2.2.2.2.2.1,y1.2.2.2.2.2.2.2.2.2.2.2.2.2.2.2.2.1,y1.2.2.2.2.2.2.2.2.2.2.2.2.2.2.2.2.2.1,y1.2.2.2.2.2.2.2.2.2.2.2.2.2.2.2.2.2.2.1,y1.2.2.2.2.2.2.2.2.2.2.2.2.2.2.2.2.2.2.2.1,y1.2.2.2.2.2.2.2.2.2.2.2.2.2.2.2.2.2.2.2.2.1,y1.2.2.2.2.2.2.2.2.2.2.2.2.2.2.2.2.2.2.2.2.2.1,y1.2.2.2.2.2.2.2.2.2.2.2.2.2.2.2.2.2.2.2.2.2.2.1,y1.2.2.2.2.2.2.2.2.2.2.2.2.2.2.2.2.2.2.2.2.2.2.2.1,([]:List zm),y1.2.2.2.2.2.2.2.2.2.2.2.2.2.2.2.2.2.2.2.2.2.2.2.2.1,y1.2.2.2.2.2.2.2.2.2.2.2.2.2.2.2.2.2.2.2.2.2.2.2.2.2.1,y1.2.2.2.2.2.2.2.2.2.2.2.2.2.2.2.2.2.2.2.2.2.2.2.2.2.2.1,y1.2.2.2.2.2.2.2.2.2.2.2.2.2.2.2.2.2.2.2.2.2.2.2.2.2.2.2.1,y1.2.2.2.2.2.2.2.2.2.2.2.2.2.2.2.2.2.2.2.2.2.2.2.2.2.2.2.2.1,y1.2.2.2.2.2.2.2.2.2.2.2.2.2.2.2.2.2.2.2.2.2.2.2.2.2.2.2.2.2.1,y1.2.2.2.2.2.2.2.2.2.2.2.2.2.2.2.2.2.2.2.2.2.2.2.2.2.2.2.2.2.2.1,y1.2.2.2.2.2.2.2.2.2.2.2.2.2.2.2.2.2.2.2.2.2.2.2.2.2.2.2.2.2.2.2.1,())).bind fun st=>match st with
    | .again _=>none
    | .brk y7 =>
    (yf (y7.2.2.2.2.2.2.2.2.2.2.2.2.2.2.2.2.2.2.2.2.2.2.2.2.2.2.2.2.2.2.1++(([y7.2.2.2.2.2.2.2.2.2.2.2.2.2.2.2.2.2.2.2.2.2.2.2.1]:List (List Int))))).bind fun l8 =>
    (yf (y7.2.2.2.2.2.2.2.2.2.2.2.2.2.2.2.2.2.2.2.2.2.2.2.2.2.2.2.2.2.2.2.1++(([y7.2.2.2.2.2.2.2.2.2.2.2.2.2.2.2.2.2.2.2.2.2.2.2.2.1]:List (List zm))))).bind fun l9 =>
    some (.again (y7.1,w64 (y7.2.1+1),y7.2.2.1,y7.2.2.2.1,y7.2.2.2.2.1,y7.2.2.2.2.2.1,y7.2.2.2.2.2.2.1,y7.2.2.2.2.2.2.2.1,y7.2.2.2.2.2.2.2.2.1,y7.2.2.2.2.2.2.2.2.2.1,y7.2.2.2.2.2.2.2.2.2.2.1,y7.2.2.2.2.2.2.2.2.2.2.2.1,y7.2.2.2.2.2.2.2.2.2.2.2.2.1,y7.2.2.2.2.2.2.2.2.2.2.2.2.2.1,y7.2.2.2.2.2.2.2.2.2.2.2.2.2.2.1,y7.2.2.2.2.2.2.2.2.2.2.2.2.2.2.2.1,y7.2.2.2.2.2.2.2.2.2.2.2.2.2.2.2.2.1,y7.2.2.2.2.2.2.2.2.2.2.2.2.2.2.2.2.2.1,y7.2.2.2.2.2.2.2.2.2.2.2.2.2.2.2.2.2.2.1,y7.2.2.2.2.2.2.2.2.2.2.2.2.2.2.2.2.2.2.2.1,y7.2.2.2.2.2.2.2.2.2.2.2.2.2.2.2.2.2.2.2.2.1,y7.2.2.2.2.2.2.2.2.2.2.2.2.2.2.2.2.2.2.2.2.2.1,y7.2.2.2.2.2.2.2.2.2.2.2.2.2.2.2.2.2.2.2.2.2.2.1,y7.2.2.2.2.2.2.2.2.2.2.2.2.2.2.2.2.2.2.2.2.2.2.2.2.2.1,y7.2.2.2.2.2.2.2.2.2.2.2.2.2.2.2.2.2.2.2.2.2.2.2.2.2.2.1,y7.2.2.2.2.2.2.2.2.2.2.2.2.2.2.2.2.2.2.2.2.2.2.2.2.2.2.2.1,y7.2.2.2.2.2.2.2.2.2.2.2.2.2.2.2.2.2.2.2.2.2.2.2.2.2.2.2.2.1,y7.2.2.2.2.2.2.2.2.2.2.2.2.2.2.2.2.2.2.2.2.2.2.2.2.2.2.2.2.2.1,l8,l9,y7.2.2.2.2.2.2.2.2.2.2.2.2.2.2.2.2.2.2.2.2.2.2.2.2.2.2.2.2.2.2.2.2.1,()))
    | .ret y7 =>
    some (.ret (()))
  | .ret y1 =>
  some (.ret (()))
 else
 some (.brk (s3,s4,s5,s6,s7,s8,s9,s10,s11,s12,s14,s15,s16,s17,s18,s19,s20,s21,s22,s23,s24,s25,s26,s27,s28,s29,s30,s31,())):=by kernel_rfl
theorem zkB (s1:Int) (s2:Int) (s3:Int) (s4:Int) (s5:Int) (s6:Int) (s7:Int) (s8:Int) (s9:Int) (s10:Int) (s11:Int) (s12:Int) (s13:BitVec 64) (s14:zG) (s15:Int) (s16:Int) (s17:Int) (s18:Int) (s19:Int) (s20:Int) (s21:Int) (s22:Int) (s23:Int) (s24:BitVec 64) (s25:List Int) (s26:List (List Int)) (s27:List (List Int)) (s28:List (List zm)) (s29:List zg) (s30:List (List Int)) (s31:List (List Int)) (s32:List (List zm)) (s33:List zg):YV (s1,s2,s3,s4,s5,s6,s7,s8,s9,s10,s11,s12,s13,s14,s15,s16,s17,s18,s19,s20,s21,s22,s23,s24,s25,s26,s27,s28,s29,s30,s31,s32,s33,()) =
 (zC s14).bind fun y1 =>
 bif decide (s3<(w64 (1+(y1.1.tmod 3)))) then
 (zC y1.2.1).bind fun y2 =>
 bif decide ((w64 (s1+1))=0) then
  none
 else
  (yf (s25++(([(y2.1.tmod (w64 (s1+1)))]:List Int)))).bind fun l3 =>
  some (.again (s1,s2,w64 (s3+1),s4,s5,s6,s7,s8,s9,s10,s11,s12,s13,y2.2.1,s15,s16,s17,s18,s19,s20,s21,s22,s23,s24,l3,s26,s27,s28,s29,s30,s31,s32,s33,()))
 else
 some (.brk (s1,s2,s4,s5,s6,s7,s8,s9,s10,s11,s12,s13,y1.2.1,s15,s16,s17,s18,s19,s20,s21,s22,s23,s24,s25,s26,s27,s28,s29,s30,s31,s32,s33,())):=by kernel_rfl
theorem zkn (s1:Int) (s2:Int) (s3:Int) (s4:Int) (s5:Int) (s6:Int) (s7:Int) (s8:Int) (s9:Int) (s10:Int) (s11:Int) (s12:Int) (s13:BitVec 64) (s14:zG) (s15:Int) (s16:Int) (s17:Int) (s18:Int) (s19:Int) (s20:Int) (s21:Int) (s22:Int) (s23:Int) (s24:BitVec 64) (s25:List Int) (s26:List zm) (s27:List (List Int)) (s28:List (List Int)) (s29:List (List zm)) (s30:List zg) (s31:List (List Int)) (s32:List (List Int)) (s33:List (List zm)) (s34:List zg):Zv (s1,s2,s3,s4,s5,s6,s7,s8,s9,s10,s11,s12,s13,s14,s15,s16,s17,s18,s19,s20,s21,s22,s23,s24,s25,s26,s27,s28,s29,s30,s31,s32,s33,s34,()) =
 bif decide (0<s3) then
 (XX ((s25.length:Int)) s23 s14).bind fun y1 =>
 (yf (s26++([y1.1]:List zm))).bind fun l2 =>
 some (.again (s1,s2,w64 (s3-1),s4,s5,s6,s7,s8,s9,s10,s11,s12,s13,y1.2.1,s15,s16,s17,s18,s19,s20,s21,s22,s23,s24,s25,l2,s27,s28,s29,s30,s31,s32,s33,s34,()))
 else
 some (.brk (s1,s2,s4,s5,s6,s7,s8,s9,s10,s11,s12,s13,s14,s15,s16,s17,s18,s19,s20,s21,s22,s23,s24,s25,s26,s27,s28,s29,s30,s31,s32,s33,s34,())):=by kernel_rfl
theorem znJ (a1:List (BitVec 8)):zbF a1 =
 (cut a1 0 (bif decide (90<((a1.length:Int))) then 90 else ((a1.length:Int)))).bind fun l1 =>
 (zC (zG.mk l1 0)).bind fun y2 =>
 (zC y2.2.1).bind fun y3 =>
 (zC y3.2.1).bind fun y4 =>
 (zC y4.2.1).bind fun y5 =>
 (zC y5.2.1).bind fun y6 =>
 (zC y6.2.1).bind fun y7 =>
 (zC y7.2.1).bind fun y8 =>
 (zC y8.2.1).bind fun y9 =>
 (zC y9.2.1).bind fun y10 =>
 (zC y10.2.1).bind fun y11 =>
 (zP Xu (w64 (1+(y10.1.tmod 6)),0,0,0,0,0,0,0,0,0,0,0#64,y11.2.1,w64 (1+(y2.1.tmod 3)),y3.1.tmod 3,w64 (1+(y4.1.tmod 3)),w64 (1+(y5.1.tmod 2)),w64 (1+(y6.1.tmod 3)),w64 ((w64 (1+(y10.1.tmod 6)))+(y11.1.tmod 4)),y7.1.tmod 4,y8.1.tmod 4,w64 (1+(y9.1.tmod 2)),0#64,([]:List (List Int)),([]:List (List Int)),([]:List (List zm)),([]:List zg),([]:List (List Int)),([]:List (List Int)),([]:List (List zm)),([]:List zg),())).bind fun st=>match st with
  | .again _=>none
  | .brk y12 =>
  (zC y12.2.2.2.2.2.2.2.2.2.2.2.1).bind fun y13 =>
  bif decide ((w64 (y12.1+1))=0) then
  none
  else
  (Z1 0#64 (y13.1.tmod (w64 (y12.1+1)))).bind fun y14 =>
  (zP YW (y12.1,0,y12.2.1,y12.2.2.1,y12.2.2.2.1,y12.2.2.2.2.1,y12.2.2.2.2.2.1,y12.2.2.2.2.2.2.1,y12.2.2.2.2.2.2.2.1,y12.2.2.2.2.2.2.2.2.1,y12.2.2.2.2.2.2.2.2.2.1,y12.2.2.2.2.2.2.2.2.2.2.1,y13.2.1,y12.2.2.2.2.2.2.2.2.2.2.2.2.1,y12.2.2.2.2.2.2.2.2.2.2.2.2.2.1,y12.2.2.2.2.2.2.2.2.2.2.2.2.2.2.1,y12.2.2.2.2.2.2.2.2.2.2.2.2.2.2.2.1,y12.2.2.2.2.2.2.2.2.2.2.2.2.2.2.2.2.1,y12.2.2.2.2.2.2.2.2.2.2.2.2.2.2.2.2.2.1,y12.2.2.2.2.2.2.2.2.2.2.2.2.2.2.2.2.2.2.1,y12.2.2.2.2.2.2.2.2.2.2.2.2.2.2.2.2.2.2.2.1,y12.2.2.2.2.2.2.2.2.2.2.2.2.2.2.2.2.2.2.2.2.1,y14.1,y12.2.2.2.2.2.2.2.2.2.2.2.2.2.2.2.2.2.2.2.2.2.2.1,y12.2.2.2.2.2.2.2.2.2.2.2.2.2.2.2.2.2.2.2.2.2.2.2.1,y12.2.2.2.2.2.2.2.2.2.2.2.2.2.2.2.2.2.2.2.2.2.2.2.2.1,y12.2.2.2.2.2.2.2.2.2.2.2.2.2.2.2.2.2.2.2.2.2.2.2.2.2.1,y12.2.2.2.2.2.2.2.2.2.2.2.2.2.2.2.2.2.2.2.2.2.2.2.2.2.2.1,y12.2.2.2.2.2.2.2.2.2.2.2.2.2.2.2.2.2.2.2.2.2.2.2.2.2.2.2.1,y12.2.2.2.2.2.2.2.2.2.2.2.2.2.2.2.2.2.2.2.2.2.2.2.2.2.2.2.2.1,y12.2.2.2.2.2.2.2.2.2.2.2.2.2.2.2.2.2.2.2.2.2.2.2.2.2.2.2.2.2.1,())).bind fun st=>match st with
   | .again _=>none
   | .brk y15 =>
   some (zb.mk y15.2.2.2.2.2.2.2.2.2.2.1 y15.2.2.2.2.2.2.2.2.2.2.2.1 y15.2.2.2.2.2.2.2.2.2.2.2.2.1 y15.2.2.2.2.2.2.2.2.2.2.2.2.2.1 y15.2.2.2.2.2.2.2.2.2.2.2.2.2.2.1 y15.2.2.2.2.2.2.2.2.2.2.2.2.2.2.2.1 y15.2.2.2.2.2.2.2.2.2.2.2.2.2.2.2.2.1 y15.2.2.2.2.2.2.2.2.2.2.2.2.2.2.2.2.2.1 (zo.mk y15.2.2.2.2.2.2.2.2.2.2.2.2.2.2.2.2.2.2.1 y15.2.2.2.2.2.2.2.2.2.2.2.2.2.2.2.2.2.2.2.2.2.2.2.2.1) y15.2.2.2.2.2.2.2.2.2.2.2.2.2.2.2.2.2.2.2.1 y15.2.2.2.2.2.2.2.2.2.2.2.2.2.2.2.2.2.2.2.2.2.2.2.2.2.1 y15.2.2.2.2.2.2.2.2.2.2.2.2.2.2.2.2.2.2.2.2.2.2.2.2.2.2.1 y15.2.2.2.2.2.2.2.2.2.2.2.2.2.2.2.2.2.2.2.2.2.2.2.2.2.2.2.1,())
   | .ret y15 =>
   none
  | .ret y12 =>
  none:=zt (by kernel_rfl)
theorem zkj (s1:List (BitVec 8)) (s2:Int) (s3:Int) (s4:zb) (s5:List zg):V1 (s1,s2,s3,s4,s5,()) =
 bif decide (s3<((s1.length:Int))) then
 bif decide (((s5.length:Int))<s2) then
  (idx s1 s3).bind fun x1 =>
  bif decide ((w64 ((w64 (1+s4.Workers))+s4.Mutators))=0) then
  none
  else
  bif decide (s4.Workers<(((x1.toNat:Int)).tmod (w64 ((w64 (1+s4.Workers))+s4.Mutators)))) then
   (zP vA (s1,s2,s3,0,s4,s5,zg.mk 2 (w64 ((((x1.toNat:Int)).tmod (w64 ((w64 (1+s4.Workers))+s4.Mutators)))-s4.Workers)),())).bind fun st=>match st with
    | .again _=>none
    | .brk y2 =>
    some (.again (y2.1,y2.2.1,w64 (y2.2.2.1+1),y2.2.2.2.1,y2.2.2.2.2.1,()))
    | .ret y2 =>
    some (.ret (()))
  else
   bif decide (0<(((x1.toNat:Int)).tmod (w64 ((w64 (1+s4.Workers))+s4.Mutators)))) then
   (zP vA (s1,s2,s3,0,s4,s5,zg.mk 1 (((x1.toNat:Int)).tmod (w64 ((w64 (1+s4.Workers))+s4.Mutators))),())).bind fun st=>match st with
    | .again _=>none
    | .brk y3 =>
    some (.again (y3.1,y3.2.1,w64 (y3.2.2.1+1),y3.2.2.2.1,y3.2.2.2.2.1,()))
    | .ret y3 =>
    some (.ret (()))
   else
   (zP vA (s1,s2,s3,0,s4,s5,zg.mk 0 0,())).bind fun st=>match st with
    | .again _=>none
    | .brk y4 =>
    some (.again (y4.1,y4.2.1,w64 (y4.2.2.1+1),y4.2.2.2.1,y4.2.2.2.2.1,()))
    | .ret y4 =>
    some (.ret (()))
 else
  some (.brk (s5,()))
 else
 some (.brk (s5,())):=by kernel_rfl
theorem ziV (s1:List (BitVec 8)) (s2:Int) (s3:Int) (s4:Int) (s5:zb) (s6:List zg) (s7:zg):vA (s1,s2,s3,s4,s5,s6,s7,()) =
 (idx s1 s3).bind fun x1 =>
 bif decide (s4<=(w64 (((x1.toNat:Int)).tdiv 64))) then
 bif decide (((s6.length:Int))<s2) then
  (yf (s6++([s7]:List zg))).bind fun l2 =>
  some (.again (s1,s2,s3,w64 (s4+1),s5,l2,s7,()))
 else
  some (.brk (s1,s2,s3,s5,s6,()))
 else
 some (.brk (s1,s2,s3,s5,s6,())):=by kernel_rfl
theorem znx (a1:zb) (a2:List (BitVec 8)) (a3:Int):W3 a1 a2 a3 =
 (zP V1 (a2,a3,0,a1,([]:List zg),())).bind fun st=>match st with
  | .again _=>none
  | .brk y1 =>
  some (y1.1,())
  | .ret y1 =>
  none:=zt (by kernel_rfl)
theorem Uf (s1:Bool) (s2:Int) (s3:Int) (s4:za) (s5:List zg):ul (s1,s2,s3,s4,s5,()) =
 bif decide (s3<s2) then
 (xx s5 s3).bind fun n1 =>
 (s5[n1]?).bind fun x2 =>
 (zcu s4 x2).bind fun y3 =>
 (U7 ((y3.1.H.Objs.length:Int))).bind fun y4 =>
 (U7 ((s4.H.Objs.length:Int))).bind fun y5 =>
 (Ve y3.1).bind fun y6 =>
 (Ve s4).bind fun y7 =>
 (zgg y6.1 (y7.1|||(y4.1&&& ~~~y5.1))).bind fun y8 =>
 bif !y8.1 then
  some (.ret (false,()))
 else
  (zbP y3.1).bind fun y9 =>
  (Ve y3.1).bind fun y10 =>
  (zgg y9.1 y10.1).bind fun y11 =>
  bif !y11.1 then
  some (.ret (false,()))
  else
  some (.again (s1,s2,w64 (s3+1),y3.1,s5,()))
 else
 some (.brk (s1,())):=by kernel_rfl
theorem zkI (a1:List (BitVec 8)) (a2:List (BitVec 8)):Zo a1 a2 =
 (V7).bind fun y1 =>
 bif !y1.1 then
 some (false,())
 else
 (zbF a1).bind fun y2 =>
 (zgc y2.1).bind fun y3 =>
 (W3 y2.1 a2 300).bind fun y4 =>
 (zP ul (y1.1,(y4.1.length:Int),0,y3.1,y4.1,())).bind fun st=>match st with
  | .again _=>none
  | .brk y5 =>
  some (y5.1,())
  | .ret y5 =>
  some (y5.1,()):=zt (by kernel_rfl)
end Go.Pe.G
namespace Go.Pe.G
open Go.Pe
theorem zGp:Go.Proofs.Tryz.prog.funcs[76]? =some Go.Proofs.Tryz.f76:=by kernel_rfl
theorem zE3:Go.Proofs.Tryz.f76.body.isSome=true:=by kernel_rfl
theorem zFd:uh Go.Proofs.Tryz.prog 76=true:=by kernel_rfl
theorem zGs:Go.Proofs.Tryz.prog.funcs[88]? =some Go.Proofs.Tryz.f88:=by kernel_rfl
theorem zFt:Go.Proofs.Tryz.f88.body.isSome=true:=by kernel_rfl
theorem zFf:uh Go.Proofs.Tryz.prog 88=true:=by kernel_rfl
theorem zGh:Go.Proofs.Tryz.prog.funcs[114]? =some Go.Proofs.Tryz.f114:=by kernel_rfl
theorem zES:Go.Proofs.Tryz.f114.body.isSome=true:=by kernel_rfl
theorem zEG:uh Go.Proofs.Tryz.prog 114=true:=by kernel_rfl
theorem zpg (ys:List Int) (s1:Int) (s2:Int) (s3:BitVec 64):zar ys (s1,s2,s3,()) =
 bif !(decide (s3=0#64)) then
 (qTZ s3).bind fun y1 =>
 (Yy ys s2 (w64 (y1.1+1))).bind fun _ =>
 some (.again (s1,s2+1,s3&&&(s3-1#64),()))
 else
 some (.brk (s1,s2,())):=by kernel_rfl
theorem zto (n:Int) (ys:List Int) (a1:BitVec 64):zm7 (za5 ys) Go.Proofs.Tryz.f114 zm9 n ((a1,()):(BitVec 64)×Unit) =
 (zP (zar ys) (n,0,a1,())).bind fun st=>match st with
  | .again _=>none
  | .brk y1 =>
  some y1.2.1
  | .ret y1 =>
  some y1.2.1:=by kernel_rfl
theorem X2 (ys:List (List Int)) (s1:Int) (s2:Int) (s3:Int) (s4:List Int) (s5:Int):ub ys (s1,s2,s3,s4,s5,()) =
 bif decide (s3<((s4.length:Int))) then
 (cut s4 s3 ((s4.length:Int))).bind fun l1 =>
 bif decide (s3=0)&&decide ((w64 (s3+(bif decide (((l1.length:Int))<s5) then ((l1.length:Int)) else s5)))=0)&&decide ((w64 (s3+(bif decide (((l1.length:Int))<s5) then ((l1.length:Int)) else s5)))=0) then
  (Yy ys s2 ([]:List Int)).bind fun _ =>
  some (.again (s1,s2+1,w64 (s3+s5),s4,s5,()))
 else
  bif decide (s3=0)&&decide ((w64 (s3+(bif decide (((l1.length:Int))<s5) then ((l1.length:Int)) else s5)))=((s4.length:Int)))&&decide ((w64 (s3+(bif decide (((l1.length:Int))<s5) then ((l1.length:Int)) else s5)))=((s4.length:Int))) then
  (Yy ys s2 s4).bind fun _ =>
  some (.again (s1,s2+1,w64 (s3+s5),s4,s5,()))
  else
  bif decide ((w64 (s3+(bif decide (((l1.length:Int))<s5) then ((l1.length:Int)) else s5)))=(w64 (s3+(bif decide (((l1.length:Int))<s5) then ((l1.length:Int)) else s5)))) then
   (cut s4 s3 (w64 (s3+(bif decide (((l1.length:Int))<s5) then ((l1.length:Int)) else s5)))).bind fun l2 =>
   (Yy ys s2 l2).bind fun _ =>
   some (.again (s1,s2+1,w64 (s3+s5),s4,s5,()))
  else
   none
 else
 some (.brk (s1,s2,())):=by kernel_rfl
theorem zeB (n:Int) (ys:List (List Int)) (a1:List Int) (a2:Int):zm7 (uv ys) Go.Proofs.Tryz.f76 V4 n ((a1,a2,()):(List Int)×Int×Unit) =
 (zP (ub ys) (n,0,0,a1,a2,())).bind fun st=>match st with
  | .again _=>none
  | .brk y1 =>
  some y1.2.1
  | .ret y1 =>
  some y1.2.1:=by kernel_rfl
theorem zhh (ys:List (List Int)) (s1:Int) (s2:Int) (s3:Int) (s4:Int) (s5:za):W2 ys (s1,s2,s3,s4,s5,()) =
 bif decide (s4<s3) then
 (u9 s5 (w64 (s4+1))).bind fun y1 =>
 (Yy ys s2 y1.1).bind fun _ =>
 some (.again (s1,s2+1,s3,w64 (s4+1),s5,()))
 else
 some (.brk (s1,s2,s5,())):=by kernel_rfl
theorem zgL (ys:List (List Int)) (s1:Int) (s2:Int) (s3:Int) (s4:Int) (s5:za):zas ys (s1,s2,s3,s4,s5,()) =
 bif decide (s4<s3) then
 (XL s5 (w64 (s4+1))).bind fun y1 =>
 (Yy ys s2 y1.1).bind fun _ =>
 some (.again (s1,s2+1,s3,w64 (s4+1),s5,()))
 else
 some (.brk (s1,s2,())):=by kernel_rfl
theorem ztL (n:Int) (ys:List (List Int)) (a1:Int) (a2:Int) (a3:Int) (a4:Int) (a5:Int) (a6:Int) (a7:Int) (a8:Int) (a9:Int) (a10:List (List Int)) (a11:BitVec 64) (a12:List (List Int)) (a13:List (List zm)) (a14:List zg) (a15:Int) (a16:List (List Int)) (a17:List (BitVec 64)) (a18:List (List Int)) (a19:BitVec 64) (a20:BitVec 64) (a21:Int) (a22:Int) (a23:Bool) (a24:Bool) (a25:Int) (a26:List Int) (a27:Int) (a28:Int) (a29:Int) (a30:List Int) (a31:List zh) (a32:List zc) (a33:Int) (a34:Int):zm7 (Yd ys) Go.Proofs.Tryz.f88 zbd n ((a1,a2,a3,a4,a5,a6,a7,a8,a9,a10,a11,a12,a13,a14,a15,a16,a17,a18,a19,a20,a21,a22,a23,a24,a25,a26,a27,a28,a29,a30,a31,a32,a33,a34,()):Int×Int×Int×Int×Int×Int×Int×Int×Int×(List (List Int))×(BitVec 64)×(List (List Int))×(List (List zm))×(List zg)×Int×(List (List Int))×(List (BitVec 64))×(List (List Int))×(BitVec 64)×(BitVec 64)×Int×Int×Bool×Bool×Int×(List Int)×Int×Int×Int×(List Int)×(List zh)×(List zc)×Int×Int×Unit) =
 (ZO (za.mk (zb.mk a1 a2 a3 a4 a5 a6 a7 a8 (zo.mk a9 a10) a11 a12 a13 a14) (zo.mk a15 a16) a17 a18 (zq.mk a19 a20) a21 a22 a23 a24 a25 a26 (zk.mk a27 a28 a29 a30) a31 a32 (zw.mk a33 a34))).bind fun y1 =>
 (Yy ys 0 y1.1).bind fun _ =>
 (zP (W2 ys) (n,0+1,(a31.length:Int),0,za.mk (zb.mk a1 a2 a3 a4 a5 a6 a7 a8 (zo.mk a9 a10) a11 a12 a13 a14) (zo.mk a15 a16) a17 a18 (zq.mk a19 a20) a21 a22 a23 a24 a25 a26 (zk.mk a27 a28 a29 a30) a31 a32 (zw.mk a33 a34),())).bind fun st=>match st with
  | .again _=>none
  | .brk y2 =>
  (zP (zas ys) (y2.1,y2.2.1,(y2.2.2.1.Ms.length:Int),0,y2.2.2.1,())).bind fun st=>match st with
   | .again _=>none
   | .brk y3 =>
   some y3.2.1
   | .ret y3 =>
   some y3.2.1
  | .ret y2 =>
  some y2.2.1:=by kernel_rfl
end Go.Pe.G
namespace Go.Pe.G
open Go.Pe
theorem zg9 {A B D:Type}(g:A->Option (yC A B D)) {o:yC Unit B D}:∀(k m:Nat) (x:A),xw g k x=some o->k<=m->xw g m x=some o
 | 0,m,x,h,_=>by cases h
 | k+1,0,x,h,hm=>by omega
 | k+1,m+1,x,h,hm=>by
  simp only [xw,zGW] at h ⊢
  obtain ⟨s,h1,h2⟩:=h
  refine ⟨s,h1,?_⟩
  cases s with
  | again y=>exact zg9 g k m y h2 (by omega)
  | brk b=>exact h2
  | ret c=>exact h2
theorem zgC {α:Type}(pre post:List α) (z:α):Yy (pre++z::post) (pre.length:Int) z=some ():=by
 unfold Yy
 rw [if_pos]
 refine ⟨by omega,?_⟩
 simp
theorem zh5 (n:Int) (ys:List Int):∀(f:Nat) (s:BitVec 64) (l pre:List Int),VV f s=some l->ys=pre++l->xw (zar ys) f (n,(pre.length:Int),s,())=some (.brk (n,(ys.length:Int),()))
 | 0,s,l,pre,h,_=>by cases h
 | f+1,s,l,pre,h,e=>by
  simp only [VV] at h
  simp only [xw,zpg]
  cases hz:decide (s=0#64) with
  | true =>
   simp only [hz,cond_true,Option.some.injEq] at h
   subst h
   simp only [zGO] at e
   subst e
   rfl
  | false =>
   simp only [hz,cond_false,zG0] at h
   obtain ⟨l',h1,rfl⟩:=h
   have hn:Yy ys (pre.length:Int) (w64 (tz s+1))=some ():=by rw [e];exact zgC pre l' _
   simp only [Bool.not_false,cond_true,zFb,zGL,hn]
   have:=zh5 n ys f (s&&&(s-1#64)) l' (pre++[w64 (tz s+1)]) h1 (by rw [e];simp)
   simpa using this
theorem zsk (G:Nat->Prop) (W0:World) (hG:zmy G W0):YG Go.Proofs.Tryz.prog G W0 114 zaW:=by
 obtain ⟨c,hc⟩:=zIw.1 zES
 refine zoG (Cg:=za5 []) rfl zpX (fun f s hs=>Oks.at (.cons _ _ _ _ zEQ (zBM hG) (.skip _ _ .nil)) f s hs) rfl zug (fun g it h=>by cases h) zEG zGh hc zaW (zHq (by kernel_rfl)) rfl ?_
 rintro n ⟨a,⟨⟩⟩ ys h
 have h:VV 66 a=some ys:=h
 have e:=zto n ys a
 have k:=zg9 _ 66 vQ _ (zh5 n ys 66 a ys [] h rfl) (by decide)
 refine Eq.trans e ?_
 have k':xw (zar ys) vQ (n,0,a,())=some (.brk (n,(ys.length:Int),())):=k
 rw [Wf,k']
 rfl
theorem ztM {a:Int}(h: -9223372036854775808<=a) (h2:a<9223372036854775808):w64 a=a:=by
 rw [zqE]
 omega
theorem zdk (n:Int) (ys:List (List Int)) (l:List Int) (sz:Nat) (h1:1<=sz) (h2:sz<1000000) (h3:l.length<1000000):∀(f p:Nat) (pre:List (List Int)),(l.drop p).length<=f->ys=pre++vr sz f (l.drop p)->p<2000000 ->
  xw (ub ys) (f+1) (n,(pre.length:Int),(p:Int),l,(sz:Int),())=some (.brk (n,(ys.length:Int),())):=by
 intro f
 induction f with
 | zero =>
  intro p pre hf e hp
  simp only [xw,X2]
  simp only [zH1] at hf
  have: ¬(p:Int)<(l.length:Int):=by omega
  simp only [this,decide_false,cond_false,zGL]
  simp only [vr,zGO] at e
  rw [e]
 | succ f ih =>
  intro p pre hf e hp
  rw [xw,X2]
  by_cases hlt:p<l.length
  ·have hlt':(p:Int)<(l.length:Int):=by omega
   have hcut:cut l (p:Int) (l.length:Int)=some (l.drop p):=by
    unfold cut
    have:(decide (0<=(p:Int))&&decide ((p:Int)<=(l.length:Int))&&decide ((l.length:Int)<=(l.length:Int)))=true:=by simp;omega
    simp only [this,cond_true]
    simp
   obtain ⟨x,r,hxr⟩:∃x r,l.drop p=x::r:=by
    cases hd:l.drop p with
    | nil=>have:=congrArg List.length hd;simp at this;omega
    | cons x r=>exact ⟨x,r,rfl⟩
   have hch:vr sz (f+1) (l.drop p)=(l.drop p).take sz::vr sz f (l.drop (p+sz)):=by
    rw [hxr];simp only [vr];rw [<-hxr,List.drop_drop]
   have hm:∃m:Nat,(bif decide (((l.drop p).length:Int)<(sz:Int)) then (((l.drop p).length:Int)) else (sz:Int))=(m:Int)/\m=min sz (l.length-p):=by
    simp only [zH1]
    by_cases hs:((l.length-p:Nat):Int)<(sz:Int)
    ·exact ⟨l.length-p,by simp only [hs,decide_true,cond_true],by omega⟩
    ·exact ⟨sz,by simp only [hs,decide_false,cond_false],by omega⟩
   obtain ⟨m,hm1,hm2⟩:=hm
   have hw:w64 ((p:Int)+(m:Int))=((p+m:Nat):Int):=by rw [ztM (by omega) (by omega)];omega
   have hw2:w64 ((p:Int)+(sz:Int))=((p+sz:Nat):Int):=by rw [ztM (by omega) (by omega)];omega
   have hne: ¬((p+m:Nat):Int)=0:=by omega
   simp only [hlt',decide_true,cond_true,hcut,zGL,hm1,hw,hw2,hne,decide_false,Bool.and_false,cond_false]
   have hn:Yy ys (pre.length:Int) ((l.drop p).take sz)=some ():=by rw [e,hch];exact zgC pre _ _
   have hcut2:cut l (p:Int) ((p+m:Nat):Int)=some ((l.drop p).take sz):=by
    unfold cut
    have:(decide (0<=(p:Int))&&decide ((p:Int)<=((p+m:Nat):Int))&&decide (((p+m:Nat):Int)<=(l.length:Int)))=true:=by simp;omega
    simp only [this,cond_true]
    refine congrArg some ?_
    simp only [zHs]
    rw [List.drop_take,Nat.add_sub_cancel_left,hm2]
    by_cases hs:sz<=l.length-p
    ·rw [Nat.min_eq_left hs]
    ·rw [Nat.min_eq_right (by omega),zIu (l:=l.drop p) (by simp),zIu (l:=l.drop p) (by simp;omega)]
   have hnext:=ih (p+sz) (pre++[(l.drop p).take sz]) (by simp only [zH1] at hf ⊢;omega) (by rw [e,hch];simp) (by omega)
   have hlen:((pre++[(l.drop p).take sz]).length:Int)=(pre.length:Int)+1:=by simp
   rw [hlen] at hnext
   cases hfull:(decide ((p:Int)=0)&&decide (((p+m:Nat):Int)=(l.length:Int))&&decide (((p+m:Nat):Int)=(l.length:Int))) with
   | true =>
    simp only [cond_true]
    have hl:l=(l.drop p).take sz:= ?_
    ·rw [<-hl] at hn
     rw [hn]
     exact hnext
    simp only [zGM,decide_eq_true_eq] at hfull
    obtain ⟨⟨hp0,hpl⟩,_⟩:=hfull
    have hp00:p=0:=by omega
    rw [hp00,List.drop_zero,zIu (by omega)]
   | false =>
    simp only [cond_false,hcut2,zGL,decide_true,cond_true]
    rw [hn]
    exact hnext
  ·have hnl: ¬(p:Int)<(l.length:Int):=by omega
   have hd:l.drop p=[]:=zIi (by omega)
   simp only [hnl,decide_false,cond_false,zGL]
   rw [hd] at e
   simp only [vr,zGO] at e
   rw [e]
theorem zd7 (n:Int) (ys:List (List Int)) (l:List Int) (sz:Int) (h:zka l sz=some ys):xw (ub ys) vQ (n,0,0,l,sz,())=some (.brk (n,(ys.length:Int),())):=by
 unfold zka at h
 cases hc:(decide (1<=sz)&&decide (sz<1000000)&&decide ((l.length:Int)<1000000)) with
 | false=>simp [hc] at h
 | true =>
  simp only [hc,cond_true] at h
  injection h with h
  simp only [zGM,decide_eq_true_eq] at hc
  obtain ⟨⟨c1,c2⟩,c3⟩:=hc
  have k:=zg9 _ (l.length+1) vQ _ (zdk n ys l sz.toNat (by omega) (by omega) (by omega) l.length 0 [] (by simp) (by simpa using h.symm) (by omega)) (by unfold vQ;omega)
  have hs:((sz.toNat:Nat):Int)=sz:=by omega
  rw [hs] at k
  exact k
theorem zdv (G:Nat->Prop) (W0:World) (hG:zmy G W0):YG Go.Proofs.Tryz.prog G W0 76 vq:=by
 obtain ⟨c,hc⟩:=zIw.1 zE3
 refine zoG (Cg:=uv []) rfl zpX (fun f s hs=>Oks.at .nil f s hs) rfl zug (fun g it h=>by cases h) zFd zGp hc vq (zHq (by kernel_rfl)) rfl (fun n x ys h=>?_)
 refine Eq.trans (zeB n ys x.1 x.2.1) ?_
 rw [Wf,zd7 n ys x.1 x.2.1 h]
 rfl
end Go.Pe.G
namespace Go.Pe.G
open Go.Pe Go.Proofs
theorem zAH (bk off cap:Nat) (l:List Int) (w:World) (hH:Go.Sort.Holds (Value.int .i64) w bk off l.toArray) (hb:bk<w.heap.size) (hlen:l.length<4294967296) :
  Calls Tryz.prog 147 #[.slice (some ⟨bk,off,none⟩) l.length cap] w fun e w'=>e= .returned (.tuple #[])/\∃n os,w'=Go.Sort.grow (Go.Sort.putRow (Value.int .i64) (Go.Sort.ahead w n) bk off (xT l).toArray) os:=by
 have hsz:l.toArray.size=l.length:=by simp
 have hlog:Go.Sort.bitsLen l.length<4611686018427387904:=by
  unfold Go.Sort.bitsLen
  split
  ·omega
  ·rename_i h0
   have:=(Nat.log2_lt h0 (k:=32)).2 (by omega)
   omega
 have hdep:=Go.Sort.pdqDepth_le_59 Go.Sort.ltInt l.toArray 0 l.toArray.size (Go.Sort.bitsLen l.toArray.size) true true (by rw [hsz];omega)
 have hs:Go.Sort.pdq Go.Sort.ltInt l.toArray 0 l.toArray.size (Go.Sort.bitsLen l.toArray.size) true true=(xT l).toArray:=Go.Proofs.Any.sort_int_eqD l
 have hP:Calls Tryz.prog 191 #[.slice (some ⟨bk,off,none⟩) l.length cap,.int .i64 0,.int .i64 (l.length:Int),.int .i64 ((Go.Sort.bitsLen l.length:Nat):Int)] w fun e w'=>e= .returned (.tuple #[])/\∃n os,w'=Go.Sort.grow (Go.Sort.putRow (Value.int .i64) (Go.Sort.ahead w n) bk off (xT l).toArray) os:=by
  have hk:=Go.calls_of_every_depth fun D=>Go.Proofs.Any.pdqWalkInInt Go.Proofs.laysPd D 65 bk off cap 0 l.toArray.size (Go.Sort.bitsLen l.toArray.size) l.toArray w (by omega) hH hb (zHN _) (zGQ _) (by rw [hsz];omega) (by rw [hsz];exact hlog) (Or.inl rfl)
  rw [hs,hsz] at hk
  exact hk
 have hL:Calls Tryz.prog 192 #[.int .u64 (l.length:Int)] w fun e w'=>e= .returned (.int .i64 ((Go.Sort.bitsLen l.length:Nat):Int))/\w'=w:=by
  have hk:=Go.calls_of_every_depth fun D=>Go.Proofs.AnyS.bits_LenIn Go.Proofs.laysLn D (l.length:Int) w (by omega) (by omega)
  rw [zHs,Go.Proofs.bitLen_eq _ (by omega)] at hk
  exact hk
 clear hH hdep hs hsz
 go_enter Tryz.func147,Tryz.ntmps147
 go_wp2_with (first
  | (go_at_call 192;refine hL.mono ?_;rintro e w' ⟨rfl,rfl⟩)
  | (go_at_call 191;refine hP.mono ?_;rintro e w' ⟨rfl,n,os,rfl⟩))
 go_end0
 exact ⟨rfl,n,os,rfl⟩
theorem zCN (a:Option Addr) (w:World):Calls Tryz.prog 147 #[.slice a 0 0] w fun e w'=>e= .returned (.tuple #[])/\w'=w:=by
 have hP:=Go.calls_of_every_depth fun D=>Go.Proofs.AnyS.pdqsort_int_none_in Go.Proofs.laysPd D a 0 w
 have hL:Calls Tryz.prog 192 #[.int .u64 0] w fun e w'=>e= .returned (.int .i64 0)/\w'=w:=Go.calls_of_every_depth fun D=>Go.Proofs.AnyS.bits_LenIn Go.Proofs.laysLn D 0 w (by omega) (by omega)
 go_enter Tryz.func147,Tryz.ntmps147
 go_wp2_with (first
  | (go_at_call 192;refine hL.mono ?_;rintro e w' ⟨rfl,rfl⟩)
  | (go_at_call 191;refine hP.mono ?_;rintro e w' ⟨rfl,rfl⟩))
 go_end0
 exact ⟨rfl,rfl⟩
noncomputable def zrU:zy E:=sp (cf [] [] [] [] [] []) Tryz.f146 ⟨[vL],[]⟩ ⟨[.own 0],[.row true (.int .i64)]⟩ [oL] [oL]
theorem zEw (a:List Int):zrU.F (a,())=bif a.isEmpty then zjr (some (([]:List Int),())) ((yf (([]:List Int)++a)).bind fun l=>some (l,())) else (yf (([]:List Int)++a)).bind fun l=>some (l,()):=zt (by kernel_rfl)
theorem zEZ {a:List Int}(h:a.length<4294967296):zrU.F (a,())=some (a,()):=by
 have hr:yf a=some a:=by rw [zsB,decide_eq_true h];rfl
 rw [zEw,zGV,hr]
 cases a with
 | nil=>exact zc5 _
 | cons x l=>rfl
theorem zAp {G:Nat->Prop}{W0:World}(hG:zmy G W0):Yt Tryz.prog G W0 146 zrU :=
 zvH (C:=cf [] [] [] [] [] []) zpX (ztJ .nil) rfl (zxV .nil) zug Tryz.func146 (by kernel_rfl) (by kernel_rfl) (by kernel_rfl)
theorem zEd {w w':World}{A A' U U':Nat->Prop}{μ:Nat->Loc}{id:Nat}{v:Value}(h:zU E w A U μ (.own id) v) (hU:U' id):zU E w' A' U' μ (.own id) v:=by
 cases h with
 | own _ b off len cap _ hμ=>exact .own id b off len cap hU hμ
 | own0 _ a a2 _ hμ=>exact .own0 id a a2 hU hμ
theorem zDt {A1:Nat->Prop}{μ1:Nat->Loc}{l:List Int}{w1:World}{v1:Value}(S:zM A1 μ1 [Blk.row (E:=E) true (.int .i64) l] w1) (h0:zU E w1 (Av A1 μ1 [Blk.row (E:=E) true (.int .i64) l]) (Us [Blk.row (E:=E) true (.int .i64) l]) μ1 (.own 0) v1) (hlen:l.length<4294967296) :
  Calls Tryz.prog 147 #[v1] w1 fun e w2=>e= .returned (.tuple #[])/\zM A1 μ1 [Blk.row (E:=E) true (.int .i64) (xT l)] w2/\Adv (Lv μ1 [Blk.row (E:=E) true (.int .i64) l]) w1 (Lv μ1 [Blk.row (E:=E) true (.int .i64) (xT l)]) w2:=by
 have hok:=S.ok 0
 cases h0 with
 | own0 _ a1 a2 hU hμ =>
  have hl:l=[]:=by
   rcases hok with ⟨_,_,_,_,_,e1,_⟩ | ⟨e,_⟩
   ·have e1:μ1 0=_:=e1
    rw [hμ] at e1;cases e1
   ·exact e
  subst hl
  have e0:xT []=[]:=by unfold xT;simp
  refine (zCN a1 w1).mono ?_
  rintro e w' ⟨rfl,rfl⟩
  rw [e0]
  exact ⟨rfl,S,Adv.refl _ _⟩
 | own _ bk off len cap hU hμ =>
  obtain ⟨hA,hb⟩:=S.out 0 bk off len cap rfl hμ
  obtain ⟨cc,vs,t,rfl,e2,h1,h2,h3,h4⟩:∃(cc:Array Value) (vs:Nat->Value) (t:TypeId),len=l.length/\w1.heap[bk]? =some (.cells cc t (0,0))/\l.length<=cap/\off+cap*1<=cc.size /\
    (∀i,i<l.length->∀j u,(vs i).cells[j]? =some u->cc[off+i*1+j]? =some u)/\∀i (h:i<l.length),z3 E w1 (Av A1 μ1 [Blk.row true (.int .i64) l]) (.int .i64) (vs i) l[i]:=by
   rcases hok with ⟨b',off',cap',cc,vs,e1,⟨t,f,e2,e3⟩,h1,h2,h3,h4⟩ | ⟨_,a,e⟩
   ·have e1:μ1 0=_:=e1
    rw [hμ] at e1
    injection e1 with q1 q2 q3 q4
    subst q1;subst q2;subst q4
    have e3:=e3 rfl
    subst e3
    exact ⟨cc,vs,t,q3,e2,h1,h2,h3,h4⟩
   ·have e:μ1 0=_:=e
    rw [hμ] at e;cases e
  have hcell:∀(j:Nat) (h:j<l.length),cc[off+j]? =some (.int .i64 l[j]):=fun j h=>by
   have r:=h4 j h
   have q:=h3 j h 0
   obtain ⟨z,hz⟩:∃z:Int,z=l[j]:=⟨_,rfl⟩
   rw [<-hz] at r ⊢
   generalize vs j=vj at r q
   cases r with
   | int k z =>
    have:=q _ rfl
    rw [zHF,zHr] at this
    exact this
  have hsz:l.toArray.size=l.length:=by simp
  have hH:Go.Sort.Holds (Value.int .i64) w1 bk off l.toArray:=fun j hj=>by
   have hj:j<l.length:=by rw [<-hsz];exact hj
   refine ⟨?_,?_⟩
   ·unfold World.cell?
    rw [e2]
    show cc[off+j]? =some (Value.int .i64 l.toArray[j]!)
    rw [hcell j hj,getElem!_pos l.toArray j (by rw [hsz];exact hj)]
    rfl
   ·unfold World.frozen?
    rw [e2]
    simp
  refine (zAH bk off cap l w1 hH hb hlen).mono ?_
  rintro e w' ⟨rfl,n,os,rfl⟩
  obtain ⟨hS,hAd⟩:=zs9 S hμ hb e2 h1 h2 hcell n os
  exact ⟨rfl,hS,hAd⟩
theorem zoM {G:Nat->Prop}{W0:World}(hG:zmy G W0):Yt Tryz.prog G W0 89 zqy:=by
 intro A0 μ w args x y wd S hr hy
 obtain ⟨l,⟨⟩⟩:=x
 have hy:zng l=some y:=hy
 unfold zng at hy
 cases hc:decide (l.length<4294967296) with
 | false=>rw [hc] at hy;cases hy
 | true =>
 rw [hc] at hy
 injection hy with hy
 subst hy
 have hlen:l.length<4294967296:=by simpa using hc
 have hcl:=zAp hG A0 μ w args (l,()) (l,()) wd S hr (zEZ hlen)
 obtain ⟨v,rfl⟩:∃v,args= #[v]:=by
  have hl:=hr.1
  have hl:1=args.toList.length:=hl
  match ha:args.toList,hl with
  | [v],_=>exact ⟨v,by rw [<-zIn (xs:=args),ha]⟩
 go_enter Tryz.func89,Tryz.ntmps89
 have hout:∀ {vs:List Value}{A1:Nat->Prop}{μ1:Nat->Loc}{w1:World},zyV A0 μ (yn id zrU.inn (HL.toP zrU.inn.holes (l,()))).2 w zrU (zrU.go.to (l,())) vs A1 μ1 w1->∃v1,vs=[v1]/\zU E w1 (Av A1 μ1 [Blk.row (E:=E) true (.int .i64) l]) (Us [Blk.row (E:=E) true (.int .i64) l]) μ1 (.own 0) v1/\zM A1 μ1 [Blk.row (E:=E) true (.int .i64) l] w1:=fun {vs A1 μ1 w1} oc=>by
  have hl:=oc.rep.1
  have hl:1=vs.length:=hl
  match vs,hl,oc with
  | [v1],_,oc=>exact ⟨v1,rfl,oc.rep.2 0 (.own 0) v1 rfl rfl,oc.sim⟩
 go_wp2_with (first | (go_at_call 146;refine hcl.mono ?_;rintro e w1 ⟨vs,A1,μ1,rfl,oc⟩;obtain ⟨v1,rfl,h1,hS1⟩:=hout oc;have hso:=zDt hS1 h1 hlen) | (go_at_call 147;refine hso.mono ?_;rintro e w2 ⟨rfl,hS2,hAd2⟩))
 go_ret
 exact ⟨[v1],A1,μ1,rfl,hS2,RL.cons (zEd h1 rfl) RL.nil,oc.adv.trans hAd2,oc.up,fun b hb=>zG5 (oc.low b hb) hAd2.size,fun j ws h=>by cases j<;>cases h⟩
end Go.Pe.G
namespace Go.Proofs
open Go.Shelf
def zuj:Go.Shelf.Ren:={f:=fun k=>if k=6 then 108 else if k=10 then 97 else k,g:=fun k=>k,t:=fun k=>if k=0 then 0 else if k=3 then 3 else if k=4 then 4 else if k=22 then 38 else if k=23 then 3 else if k=25 then 127 else k}
theorem zEf:Bears Tryz.prog (zuj.f 6) (SlBodyH.n6 zuj):=Exists.intro ("slices.IndexFunc[[]int,int]") ⟨by kernel_rfl,by kernel_rfl⟩
theorem zEq:Bears Tryz.prog (zuj.f 10) (SlBodyH.n10 zuj):=Exists.intro ("slices.DeleteFunc[[]int,int]") ⟨by kernel_rfl,by kernel_rfl⟩
theorem zFj:SlLaysH.n10 Tryz.prog zuj:=by
 constructor<;>first | exact zEf | exact zEq | kernel_rfl | (intro w;kernel_rfl)
def zl1:Go.Shelf.Ren:={f:=fun k=>if k=4 then 148 else k,g:=fun k=>k,t:=fun k=>if k=0 then 0 else if k=3 then 3 else if k=4 then 4 else if k=9 then 9 else if k=20 then 20 else if k=22 then 65 else if k=25 then 3 else k}
theorem zEE:Bears Tryz.prog (zl1.f 4) (Body8.n4 zl1):=Exists.intro ("slices.Grow[besom/bag.Bag,int]") ⟨by kernel_rfl,by kernel_rfl⟩
theorem zBZ:Lays8.n4 Tryz.prog zl1:=by
 constructor<;>first | exact zEE | kernel_rfl | (intro w;kernel_rfl)
end Go.Proofs
namespace Go.Pe.G
open Go.Pe Go.Proofs
theorem lv1 {μ:Nat->Loc}{l:List Int}{b:Nat}(h:Lv (E:=E) μ [.free,Blk.row true (.int .i64) l] b):∃off len cap,μ 1= .blk b off len cap:=by
 obtain ⟨id,off,len,cap,hl,hm⟩:=h
 match id with
 | 0=>cases hl
 | 1=>exact ⟨off,len,cap,hm⟩
 | id+2=>cases hl
theorem zGn {A0:Nat->Prop}{μ:Nat->Loc}{l:List Int}{w:World}{b off cap:Nat}{cc:Array Value}{t:TypeId}(h0:μ 1= .blk b off l.length cap) (hA: ¬A0 b) (e2:w.heap[b]? =some (.cells cc t (0,0))) (h1:l.length<=cap) (h2:off+cap<=cc.size)
  (hc:∀(i:Nat) (h:i<l.length),cc[off+i]? =some (.int .i64 l[i])):zM A0 μ [.free,Blk.row (E:=E) true (.int .i64) l] w:=by
 refine ⟨fun id=>?_,fun i j b o l c b' o' l' c' ne hi hj=>?_,fun id b' o l' c ho hm=>?_⟩
 ·match id with
  | 0=>exact trivial
  | 1 =>
   refine .inl ⟨b,off,cap,cc,fun i=>.int .i64 (l.getD i 0),h0,⟨t,(0,0),e2,fun _=>rfl⟩,h1,?_,fun i hi j u hu=>?_,fun i hi=>?_⟩
   ·show off+cap*1<=cc.size;omega
   ·have hi:i<l.length:=hi
    match j,hu with
    | 0,hu =>
     have hu:some (Value.int .i64 (l.getD i 0))=some u:=hu
     injection hu with hu
     subst hu
     show cc[off+i*1+0]? =_
     rw [zHF,zHr,hc i hi,zGP,zGN hi];rfl
    | j+1,hu=>cases hu
   ·have hi:i<l.length:=hi
    have e:l.getD i 0=l[i]:=by rw [zGP,zGN hi];rfl
    show z3 E _ _ (.int .i64) (.int .i64 (l.getD i 0)) l[i]
    rw [e]
    exact .int .i64 _
  | id+2=>exact trivial
 ·match i,j with
  | 0,_=>cases hi
  | 1,0=>cases hj
  | 1,1=>exact absurd rfl ne
  | 1,j+2=>cases hj
  | i+2,_=>cases hi
 ·match id with
  | 0=>cases ho
  | 1 =>
   have hm:μ 1=Loc.blk b' o l' c:=hm
   rw [h0] at hm
   injection hm with hm
   subst hm
   exact ⟨hA,(zHa.1 e2).1⟩
  | id+2=>cases ho
theorem zGf {A0:Nat->Prop}{μ:Nat->Loc}{w:World}{b cap:Nat}{cc:Array Value}{t:TypeId}(h0:μ 0= .blk b 0 0 cap) (hA: ¬A0 b) (e2:w.heap[b]? =some (.cells cc t (0,0))) (h2:cap<=cc.size):zM A0 μ [Blk.row (E:=E) true (.int .i64) []] w:=by
 refine ⟨fun id=>?_,fun i j b o l c b' o' l' c' ne hi hj=>?_,fun id b' o l' c ho hm=>?_⟩
 ·match id with
  | 0 =>
   refine .inl ⟨b,0,cap,cc,fun i=>.int .i64 0,h0,⟨t,(0,0),e2,fun _=>rfl⟩,zHN _,?_,fun i hi=>absurd hi (Nat.not_lt_zero _),fun i hi=>absurd hi (Nat.not_lt_zero _)⟩
   show 0+cap*1<=cc.size;omega
  | id+1=>exact trivial
 ·match i,j with
  | 0,0=>exact absurd rfl ne
  | 0,j+1=>cases hj
  | i+1,_=>cases hi
 ·match id with
  | 0 =>
   have hm:μ 0=Loc.blk b' o l' c:=hm
   rw [h0] at hm
   injection hm with hm
   subst hm
   exact ⟨hA,(zHa.1 e2).1⟩
  | id+1=>cases ho
theorem zF2 {A0:Nat->Prop}{μ:Nat->Loc}{w:World}{a:Option Addr}(h0:μ 0= .none a):zM A0 μ [Blk.row (E:=E) true (.int .i64) []] w:=by
 refine ⟨fun id=>?_,fun i j b o l c b' o' l' c' ne hi hj=>?_,fun id b' o l' c ho hm=>?_⟩
 ·match id with
  | 0=>exact .inr ⟨rfl,a,h0⟩
  | id+1=>exact trivial
 ·match i,j with
  | 0,0=>exact absurd rfl ne
  | 0,j+1=>cases hj
  | i+1,_=>cases hi
 ·match id with
  | 0 =>
   have hm:μ 0=Loc.blk b' o l' c:=hm
   rw [h0] at hm;cases hm
  | id+1=>cases ho
theorem zFG {A0:Nat->Prop}{μ:Nat->Loc}{l:List Int}{w:World}(S:zM A0 μ [Blk.row (E:=E) true (.int .i64) l] w) {bk off len cap:Nat}(hμ:μ 0= .blk bk off len cap) :
  ¬A0 bk/\bk<w.heap.size/\len=l.length/\∃(cc:Array Value) (t:TypeId),w.heap[bk]? =some (.cells cc t (0,0))/\l.length<=cap/\off+cap<=cc.size/\∀(j:Nat) (h:j<l.length),cc[off+j]? =some (.int .i64 l[j]):=by
 obtain ⟨hA,hb⟩:=S.out 0 bk off len cap rfl hμ
 refine ⟨hA,hb,?_⟩
 rcases S.ok 0 with ⟨b',off',cap',cc,vs,e1,⟨t,f,e2,e3⟩,h1,h2,h3,h4⟩ | ⟨_,a,e⟩
 ·have e1:μ 0=_:=e1
  rw [hμ] at e1
  injection e1 with q1 q2 q3 q4
  subst q1;subst q2;subst q4
  have e3:=e3 rfl
  subst e3
  have h2:off+cap*1<=cc.size:=h2
  refine ⟨q3,cc,t,e2,h1,by omega,fun j h=>?_⟩
  have r:=h4 j h
  have q:=h3 j h 0
  obtain ⟨z,hz⟩:∃z:Int,z=l[j]:=⟨_,rfl⟩
  have r:z3 E w _ (.int .i64) (vs j) l[j]:=r
  rw [<-hz] at r ⊢
  generalize vs j=vj at r q
  cases r with
  | int k z =>
   have:=q _ rfl
   have this:cc[off+j*1+0]? =_:=this
   rw [zHF,zHr] at this
   exact this
 ·have e:μ 0=_:=e
  rw [hμ] at e;cases e
theorem zCj (W:World) (x:Int):Calls Tryz.prog 98 #[.int .i64 x] W fun e w'=>e= .returned (.bool (decide (x=0)))/\w'=W:=by
 go_enter Tryz.func98,Tryz.ntmps98
 go_wp2
 go_ret
 exact ⟨rfl,rfl⟩
theorem zrB {G:Nat->Prop}{W0:World}(hG:zmy G W0):Yt Tryz.prog G W0 62 zw0:=by
 intro A0 μ w args x y wd S hr hy
 obtain ⟨l,⟨⟩⟩:=x
 have hy:zsW l=some y:=hy
 unfold zsW at hy
 cases hc:(decide (0<l.length)&&decide (l.length<4294967296)) with
 | false=>rw [hc] at hy;cases hy
 | true =>
 rw [hc] at hy
 injection hy with hy
 subst hy
 simp only [zGM,decide_eq_true_eq] at hc
 obtain ⟨hpos,hlen⟩:=hc
 obtain ⟨v,rfl,h0⟩:∃v,args= #[v]/\zU E w (Av A0 μ [Blk.row true (.int .i64) l]) (Us [Blk.row true (.int .i64) l]) μ (.own 0) v:=by
  have hl:=hr.1
  have hl:1=args.toList.length:=hl
  match ha:args.toList,hl with
  | [v],_=>exact ⟨v,by rw [<-zIn (xs:=args),ha],hr.2 0 (.own 0) v rfl (by rw [ha];rfl)⟩
 have S:zM A0 μ [Blk.row true (.int .i64) l] w:=S
 cases h0 with
 | own0 _ a1 a2 hU hμ =>
  exfalso
  rcases S.ok 0 with ⟨_,_,_,_,_,e1,_⟩ | ⟨e,_⟩
  ·have e1:μ 0=_:=e1
   rw [hμ] at e1;cases e1
  ·rw [e] at hpos;cases hpos
 | own _ bk off len cap hU hμ =>
  obtain ⟨hA,hb,rfl,cc,t,e2,h1,h2,hcell⟩:=zFG S hμ
  have hsz:l.toArray.size=l.length:=by simp
  have hH:Go.Sort.Holds (Value.int .i64) w bk off l.toArray:=fun j hj=>by
   have hj:j<l.length:=by rw [<-hsz];exact hj
   refine ⟨?_,?_⟩
   ·unfold World.cell?
    rw [e2]
    show cc[off+j]? =some (Value.int .i64 l.toArray[j]!)
    rw [hcell j hj,getElem!_pos l.toArray j (by rw [hsz];exact hj)]
    rfl
   ·unfold World.frozen?
    rw [e2]
    simp
  have fg:∀(W:World) (x:Int),FnGives Tryz.prog 98 #[] #[.int .i64 x] (.bool (decide (x=0))) W:=fun W x=>(zCj W x).mono (by rintro e w' ⟨rfl,rfl⟩;exact ⟨rfl,0,rfl⟩)
  have eg:∀args w,(callFunc 98 args).run Tryz.prog w= .ok (.enter 98 args) w:=enters_of Tryz.func98 (by kernel_rfl) rfl
  have hd:=AnyE.slices_DeleteFunc zFj (Value.int .i64) (fun _=>rfl) (fun x:Int=>decide (x=0)) 98 #[] eg 0 (fun w=>by kernel_rfl) bk off cap l.toArray w (fun W x _=>fg W x) (fun n os dk x _=>fg _ x) hH (by rw [hsz];omega) (by rw [hsz];exact h1)
  rw [hsz] at hd
  rw [show l.toArray.toList=l from rfl] at hd
  have hf:(l.filter fun x=> !decide (x=0)).length<=l.length:=zH5 _ _
  clear eg fg
  generalize hm:(l.filter fun x=> !decide (x=0))=m at hd hf ⊢
  have hd:Calls Tryz.prog 97 #[.slice (some ⟨bk,off,none⟩) l.length cap,.func (.func 98) #[] #[]] w fun e w'=>e= .returned (.slice (some ⟨bk,off,none⟩) m.length cap)/\∃q,w'=Go.Sort.putRow (Value.int .i64) (Go.Sort.ahead w q) bk off (m++List.replicate (l.length-m.length) 0).toArray:=hd
  go_enter Tryz.func62,Tryz.ntmps62
  go_wp2_with (go_at_call 97;refine hd.mono ?_;rintro e w' ⟨rfl,q,rfl⟩)
  go_ret
  have hheap:∀k,(Go.Sort.putRow (Value.int .i64) (Go.Sort.ahead w q) bk off (m++List.replicate (l.length-m.length) 0).toArray).heap[k]? =if bk=k then some (.cells (Go.Sort.putCells (Value.int .i64) off (m++List.replicate (l.length-m.length) 0).toArray cc) t (0,0)) else w.heap[k]? :=fun k=>by
   unfold Go.Sort.putRow Go.Sort.mapBlock Go.Sort.ahead
   dsimp only
   rw [Array.getElem?_modify]
   split
   ·rename_i h;subst h;rw [e2];rfl
   ·rfl
  have hput:∀(i:Nat) (h:i<m.length),(Go.Sort.putCells (Value.int .i64) off (m++List.replicate (l.length-m.length) 0).toArray cc)[off+i]? =some (.int .i64 m[i]):=fun i h=>by
   unfold Go.Sort.putCells
   rw [Array.getElem?_mapIdx,hcell i (by omega),zHG,if_pos ⟨by omega,by simp;omega⟩,show off+i-off=i by omega,getElem!_pos _ i (by simp;omega)]
   simp [zIy h]
  have hsize:(Go.Sort.putRow (Value.int .i64) (Go.Sort.ahead w q) bk off (m++List.replicate (l.length-m.length) 0).toArray).heap.size=w.heap.size:=by simp
  refine ⟨[.slice (some ⟨bk,off,none⟩) m.length cap],A0,fun id=>if id=1 then .blk bk off m.length cap else μ id,rfl,?_,RL.cons (.own 1 bk off m.length cap rfl rfl) RL.nil,⟨rfl,rfl,rfl,by rw [hsize];exact zGQ _,fun b hb2 hn=>?_,fun b _ h=>?_⟩,fun _ h=>h,fun b h=>by rw [hsize];exact wd.low b h,fun j ws h=>by
   cases j with
   | zero=>cases h
   | succ j=>cases h⟩
  ·show zM A0 _ [.free,Blk.row true (.int .i64) m] _
   have hmc:m.length<=cap:=zHP hf h1
   refine zGn (b:=bk) (off:=off) (cap:=cap) (t:=t) rfl hA (by rw [hheap,if_pos rfl]) hmc ?_ hput
   unfold Go.Sort.putCells
   rw [Array.size_mapIdx];exact h2
  ·rw [hheap,if_neg]
   rintro rfl
   exact hn ⟨0,off,l.length,cap,rfl,hμ⟩
  ·obtain ⟨o,n,c,e⟩:=lv1 h
   have e:Loc.blk bk off m.length cap= .blk b o n c:=e
   injection e with e
   subst e
   exact ⟨0,off,l.length,cap,rfl,hμ⟩
theorem zAT (a:Option Addr) (k:Nat) (w:World) (h0:0<k) (hk:k<4294967296):Calls Tryz.prog 148 #[.slice a 0 0,.int .i64 (k:Int)] w fun e w'=>∃(G:Nat) (cc:Array Value) (t:TypeId),G<=cc.size/\e= .returned (.slice (some ⟨w.heap.size,0,none⟩) 0 G)/\w'=w.drew.alloc (.cells cc t):=by
 obtain ⟨i0,hi⟩:=zIw.1 (show (Tryz.prog.info? (zl1.t 25)).isSome=true by kernel_rfl)
 have h2:(Tryz.prog.info? (zl1.t 25)).map TypeInfo.size=some 1:=by kernel_rfl
 have h3:(Tryz.prog.info? (zl1.t 25)).map TypeInfo.bytes=some 8:=by kernel_rfl
 have h4:(Tryz.prog.info? (zl1.t 25)).map TypeInfo.zero=some (some (.int .i64 0)):=by kernel_rfl
 rw [hi] at h2 h3 h4
 simp only [zHG,Option.some.injEq] at h2 h3 h4
 have hd:=Any8.slices_Grow_grow zBZ i0 (.int .i64 0) hi h4 (by rw [h2];decide) a 0 0 k [] w (zGQ _) (by omega) (by rw [h3];omega) (by omega) (by simp) (fun _=>rfl) (fun b _ j v h=>by cases h)
 refine hd.mono ?_
 rintro e w' ⟨rfl,rfl⟩
 refine ⟨_,_,_,?_,rfl,rfl⟩
 have hg:=grownCap_ge w (0+k) 0 (zl1.t 25)
 have z1:(Value.int IntKind.i64 0).cells.size=1:=rfl
 simp only [Array.size_append,Builtin.zeroCells,Array.size_map,Array.size_range,z1]
 simp
 omega
theorem zzv {G:Nat->Prop}{W0:World}(hG:zmy G W0):Yt Tryz.prog G W0 148 zAW:=by
 intro A0 μ w args x y wd S hr hy
 obtain ⟨n,⟨⟩⟩:=x
 have hy:zuh n=some y:=hy
 unfold zuh at hy
 cases hc:(decide (0<=n)&&decide (n<4294967296)) with
 | false=>rw [hc] at hy;cases hy
 | true =>
 rw [hc] at hy
 injection hy with hy
 subst hy
 simp only [zGM,decide_eq_true_eq] at hc
 obtain ⟨hn0,hn1⟩:=hc
 obtain ⟨k,hk0⟩:=Int.eq_ofNat_of_zero_le hn0
 have hk1:k<4294967296:=by
  have h: @Eq Int n (k:Int):=hk0
  have h2: @LT.lt Int _ n (4294967296:Int):=hn1
  omega
 subst hk0
 obtain ⟨a,rfl⟩:∃a,args= #[.slice a 0 0,.int .i64 (k:Int)]:=by
  have hl:=hr.1
  have hl:2=args.toList.length:=hl
  match ha:args.toList,hl with
  | [v,v1],_ =>
   have h0:=hr.2 0 .nils v rfl (by rw [ha];rfl)
   have h1:=hr.2 1 (.v (.int .i64) (k:Int)) v1 rfl (by rw [ha];rfl)
   have e1:v1= .int .i64 (k:Int):=by
    cases h1 with
    | v _ _ _ h=>cases h with
     | int k z=>rfl
   subst e1
   cases h0 with
   | nils a=>exact ⟨a,by rw [<-zIn (xs:=args),ha]⟩
 have S:zM A0 μ ([]:List (Blk E)) w:=S
 by_cases hk:k=0
 ·subst hk
  refine (Any8.slices_Grow_room zBZ a 0 0 0 w (zGQ _) (by omega) (by omega) (by omega)).mono ?_
  rintro e w' ⟨rfl,rfl⟩
  refine ⟨[.slice a 0 0],A0,fun _=>.none a,rfl,zF2 rfl,RL.cons (.own0 0 a a rfl rfl) RL.nil,⟨rfl,rfl,rfl,zGQ _,fun b _ _=>rfl,fun b _ h=>?_⟩,fun _ h=>h,wd.low,fun j ws h=>by cases h⟩
  obtain ⟨id,off,len,cap,_,hm⟩:=h
  cases hm
 ·refine (zAT a k w (by omega) hk1).mono ?_
  rintro e w' ⟨N,cc,t,hN,rfl,rfl⟩
  have hat:(w.drew.alloc (.cells cc t)).heap[w.heap.size]? =some (.cells cc t (0,0)):=by
   show (w.heap.push _)[w.heap.size]? =_
   simp
  have hold:∀b,b<w.heap.size->(w.drew.alloc (.cells cc t)).heap[b]? =w.heap[b]? :=fun b hb=>by
   show (w.heap.push _)[b]? =_
   rw [zIh,if_neg (by omega)]
  have hsz:(w.drew.alloc (.cells cc t)).heap.size=w.heap.size+1:=by simp
  refine ⟨[.slice (some ⟨w.heap.size,0,none⟩) 0 N],A0,fun _=>.blk w.heap.size 0 0 N,rfl,zGf rfl (fun h=>by have:=wd.low _ h;omega) hat hN,RL.cons (.own 0 w.heap.size 0 0 N rfl rfl) RL.nil,⟨rfl,rfl,rfl,by rw [hsz];omega,fun b hb _=>hold b hb,fun b hb h=>?_⟩,fun _ h=>h,fun b h=>by have:=wd.low b h;rw [hsz];omega,fun j ws h=>by cases h⟩
  obtain ⟨id,off,len,cap,_,hm⟩:=h
  injection hm with hm
  omega
theorem zwj (n:Int) (s:za) (ys:List (List Int)) (hs:s.Ws.length<1000000):∀(f i:Nat) (l pre:List (List Int)),i+f=s.Ws.length->zvb s f (i:Int)=some l->(∃post,ys=pre++l++post) ->
  xw (W2 ys) (f+1) (n,(pre.length:Int),(s.Ws.length:Int),(i:Int),s,())=some (.brk (n,((pre++l).length:Int),s,()))
 | 0,i,l,pre,hi,h,e=>by
  injection h with h
  subst h
  rw [xw,zhh,show decide ((i:Int)<(s.Ws.length:Int))=false by rw [decide_eq_false_iff_not];omega]
  simp
 | f+1,i,l,pre,hi,h,⟨post,e⟩=>by
  simp only [zvb,zGW] at h
  obtain ⟨a,h1,l',h2,h3⟩:=h
  injection h3 with h3
  subst h3
  have ei:w64 ((i:Int)+1)=((i+1:Nat):Int):=by rw [ztM (by omega) (by omega)];omega
  have hn:Yy ys (pre.length:Int) a.1=some ():=by rw [e,zGR];exact zgC pre (l'++post) _
  rw [xw,zhh,show decide ((i:Int)<(s.Ws.length:Int))=true by rw [decide_eq_true_eq];omega,ei,show ((i+1:Nat):Int)=(i:Int)+1 by omega,h1]
  simp only [cond_true,zGL,hn]
  have:=zwj n s ys hs f (i+1) l' (pre++[a.1]) (by omega) (by rw [show ((i+1:Nat):Int)=(i:Int)+1 by omega];exact h2) ⟨post,by rw [e];simp⟩
  simpa using this
theorem zwl (n:Int) (s:za) (ys:List (List Int)) (hs:s.Ms.length<1000000):∀(f i:Nat) (l pre:List (List Int)),i+f=s.Ms.length->zvj s f (i:Int)=some l->(∃post,ys=pre++l++post) ->
  xw (zas ys) (f+1) (n,(pre.length:Int),(s.Ms.length:Int),(i:Int),s,())=some (.brk (n,((pre++l).length:Int),()))
 | 0,i,l,pre,hi,h,e=>by
  injection h with h
  subst h
  rw [xw,zgL,show decide ((i:Int)<(s.Ms.length:Int))=false by rw [decide_eq_false_iff_not];omega]
  simp
 | f+1,i,l,pre,hi,h,⟨post,e⟩=>by
  simp only [zvj,zGW] at h
  obtain ⟨a,h1,l',h2,h3⟩:=h
  injection h3 with h3
  subst h3
  have ei:w64 ((i:Int)+1)=((i+1:Nat):Int):=by rw [ztM (by omega) (by omega)];omega
  have hn:Yy ys (pre.length:Int) a.1=some ():=by rw [e,zGR];exact zgC pre (l'++post) _
  rw [xw,zgL,show decide ((i:Int)<(s.Ms.length:Int))=true by rw [decide_eq_true_eq];omega,ei,show ((i+1:Nat):Int)=(i:Int)+1 by omega,h1]
  simp only [cond_true,zGL,hn]
  have:=zwl n s ys hs f (i+1) l' (pre++[a.1]) (by omega) (by rw [show ((i+1:Nat):Int)=(i:Int)+1 by omega];exact h2) ⟨post,by rw [e];simp⟩
  simpa using this
theorem zrX (n:Int) (x:HL E.T zbd.holes) (ys:List (List Int)) (h:za0.F x=some ys):zm7 (Yd ys) Tryz.f88 zbd n x=some (ys.length:Int):=by
 obtain ⟨a1,a2,a3,a4,a5,a6,a7,a8,a9,a10,a11,a12,a13,a14,a15,a16,a17,a18,a19,a20,a21,a22,a23,a24,a25,a26,a27,a28,a29,a30,a31,a32,a33,a34,⟨⟩⟩:=x
 refine Eq.trans (ztL n ys a1 a2 a3 a4 a5 a6 a7 a8 a9 a10 a11 a12 a13 a14 a15 a16 a17 a18 a19 a20 a21 a22 a23 a24 a25 a26 a27 a28 a29 a30 a31 a32 a33 a34) ?_
 have h:ztt (za.mk (zb.mk a1 a2 a3 a4 a5 a6 a7 a8 (zo.mk a9 a10) a11 a12 a13 a14) (zo.mk a15 a16) a17 a18 (zq.mk a19 a20) a21 a22 a23 a24 a25 a26 (zk.mk a27 a28 a29 a30) a31 a32 (zw.mk a33 a34))=some ys:=h
 show ((ZO (za.mk (zb.mk a1 a2 a3 a4 a5 a6 a7 a8 (zo.mk a9 a10) a11 a12 a13 a14) (zo.mk a15 a16) a17 a18 (zq.mk a19 a20) a21 a22 a23 a24 a25 a26 (zk.mk a27 a28 a29 a30) a31 a32 (zw.mk a33 a34))).bind fun y1=>(Yy ys 0 y1.1).bind fun _ =>
  (zP (W2 ys) (n,0+1,((za.mk (zb.mk a1 a2 a3 a4 a5 a6 a7 a8 (zo.mk a9 a10) a11 a12 a13 a14) (zo.mk a15 a16) a17 a18 (zq.mk a19 a20) a21 a22 a23 a24 a25 a26 (zk.mk a27 a28 a29 a30) a31 a32 (zw.mk a33 a34)).Ws.length:Int),0,za.mk (zb.mk a1 a2 a3 a4 a5 a6 a7 a8 (zo.mk a9 a10) a11 a12 a13 a14) (zo.mk a15 a16) a17 a18 (zq.mk a19 a20) a21 a22 a23 a24 a25 a26 (zk.mk a27 a28 a29 a30) a31 a32 (zw.mk a33 a34),())).bind _)=_
 generalize za.mk (zb.mk a1 a2 a3 a4 a5 a6 a7 a8 (zo.mk a9 a10) a11 a12 a13 a14) (zo.mk a15 a16) a17 a18 (zq.mk a19 a20) a21 a22 a23 a24 a25 a26 (zk.mk a27 a28 a29 a30) a31 a32 (zw.mk a33 a34)=s at h ⊢
 unfold ztt at h
 cases hc:(decide (s.Ws.length<1000000)&&decide (s.Ms.length<1000000)) with
 | false=>rw [hc] at h;cases h
 | true =>
 rw [hc,cond_true] at h
 simp only [zGM,decide_eq_true_eq] at hc
 simp only [zGW] at h
 obtain ⟨a,e1,b,e2,c,e3,e4⟩:=h
 injection e4 with e4
 have k2:=zg9 _ _ vQ _ (zwj n s ys hc.1 s.Ws.length 0 b [a.1] (by omega) e2 ⟨c,by rw [<-e4];simp⟩) (by unfold vQ;omega)
 have k7:=zg9 _ _ vQ _ (zwl n s ys hc.2 s.Ms.length 0 c (a.1::b) (by omega) e3 ⟨[],by rw [<-e4];simp⟩) (by unfold vQ;omega)
 have k2:xw (W2 ys) vQ (n,0+1,(s.Ws.length:Int),0,s,())=some (.brk (n,(((a.1::b).length:Nat):Int),s,())):=k2
 have k7:xw (zas ys) vQ (n,(((a.1::b).length:Nat):Int),(s.Ms.length:Int),0,s,())=some (.brk (n,(((a.1::b)++c).length:Int),())):=k7
 have hn:Yy ys 0 a.1=some ():=by rw [<-e4];exact zgC [] (b++c) _
 rw [e1,zGL,hn,zGL,Wf,k2,zGL]
 dsimp only
 rw [Wf,k7,zGL]
 dsimp only
 rw [<-e4];rfl
end Go.Pe.G
namespace Go.Pe.G
open Go.Pe
theorem k2 {G:Nat->Prop}{W0:World}{f:Nat}{s:zy E}{ss r} (hs:Yt Go.Proofs.Tryz.prog G W0 f s) (h:Oks Go.Proofs.Tryz.prog G W0 ((f,ss)::r)) (hc:uh Go.Proofs.Tryz.prog f=true:=by kernel_rfl):Oks Go.Proofs.Tryz.prog G W0 ((f,s::ss)::r):= .cons _ _ _ _ hc hs h
theorem k1 {G:Nat->Prop}{W0:World}{f:Nat}{s:zy E}{r} (hs:Yt Go.Proofs.Tryz.prog G W0 f s) (h:Oks Go.Proofs.Tryz.prog G W0 r) (hc:uh Go.Proofs.Tryz.prog f=true:=by kernel_rfl):Oks Go.Proofs.Tryz.prog G W0 ((f,[s])::r):= .cons _ _ _ _ hc hs (.skip _ _ h)
abbrev Sd (G:Nat->Prop) (W0:World):=Yt (E:=E) Go.Proofs.Tryz.prog G W0
theorem gs {G:Nat->Prop}{W0:World}{l:List (Nat×List (zy E))}{loops mv kept pk its} {f:FuncId}{fn:Func}{inn out:xE}{gi go:List Grp}{hi:ZD E gi=inn.holes} {ho:ZD E go=out.holes} (h:Oks Go.Proofs.Tryz.prog G W0 l) (h2:Its Go.Proofs.Tryz.prog G W0 its) (hf:Go.Proofs.Tryz.prog.funcs[f]? =some fn:=by kernel_rfl) (hb:fn.body.isSome=true:=by kernel_rfl)
  (hk:(cf l loops mv kept pk its).kept=zie inn.blks 0:=by kernel_rfl) (hn:Nat.ble inn.vals.length fn.ntmps=true:=by kernel_rfl):Yt Go.Proofs.Tryz.prog G W0 f (sp (cf l loops mv kept pk its) fn inn out gi go hi ho):=zvH (C:=cf l loops mv kept pk its) zpX (ztJ h) rfl (zxV h2) zug hf hb hk hn
variable {G:Nat->Prop}{W0:World}(hG:zmy G W0)
include hG
theorem zbz:Sd G W0 9 zb5:=gs .nil .nil
theorem zic:Sd G W0 10 zfZ:=gs .nil .nil
theorem zae:Sd G W0 70 UO:=gs .nil .nil
theorem zk9:Sd G W0 68 zbL:=gs (k1 (zae hG) .nil) .nil
theorem zmg:Sd G W0 106 zcG:=gs .nil .nil
theorem Xi:Sd G W0 108 wv:=gs (k1 (zmg hG) .nil) .nil
theorem Yz:Sd G W0 71 xZ:=gs (k1 (Xi hG) .nil) .nil
theorem znE:Sd G W0 105 zfP:=gs (k1 (Yz hG) .nil) .nil
theorem Xe:Sd G W0 154 ww:=gs (k1 (znE hG) .nil) .nil
theorem Yu:Sd G W0 107 xY:=gs (k1 (Xe hG) .nil) .nil
theorem zgJ:Sd G W0 69 zdU:=gs (k1 (Yu hG) .nil) .nil
theorem zoD:Sd G W0 72 zfM:=gs (k1 (zae hG) .nil) .nil
theorem XJ:Sd G W0 108 wJ:=gs (k1 (zoD hG) .nil) .nil
theorem Y6:Sd G W0 71 wi:=gs (k1 (XJ hG) .nil) .nil
theorem zn8:Sd G W0 156 zfF:=gs .nil .nil
theorem zpP:Sd G W0 111 zjT:=gs (k1 (zn8 hG) .nil) .nil
theorem zoW:Sd G W0 110 zhk:=gs (k1 (zpP hG) .nil) .nil
theorem Yg:Sd G W0 155 xK:=gs (k1 (zoW hG) .nil) .nil
theorem Z0:Sd G W0 109 xy:=gs (k1 (Yg hG) .nil) .nil
theorem zq9:Sd G W0 73 zmC:=gs (k1 (Z0 hG) .nil) .nil
theorem zgp:Sd G W0 47 zdn:=gs .nil .nil
theorem zn6:Sd G W0 113 zfp:=gs (k1 (zgp hG) .nil) .nil
theorem ZG:Sd G W0 157 xp:=gs (k1 (zn6 hG) .nil) .nil
theorem Zi:Sd G W0 112 xf:=gs (k1 (ZG hG) .nil) .nil
theorem zpm:Sd G W0 74 zj7:=gs (k1 (Zi hG) .nil) .nil
theorem zqh:Sd G W0 27 zjF:=gs (k1 (zbz hG) (k1 (zic hG) (k1 (zk9 hG) (k1 (zgJ hG) (k1 (zae hG) (k1 (Y6 hG) (k1 (zq9 hG) (k1 (zpm hG) .nil)))))))) .nil
theorem zlK:Sd G W0 67 zlV:=gs .nil .nil
theorem YT:Sd G W0 25 Ui:=gs (k1 (zlK hG) .nil) .nil
theorem zeR:Sd G W0 49 zkm:=gs (k1 (YT hG) .nil) .nil
theorem zpU:Sd G W0 28 zkw:=gs (k1 (zeR hG) .nil) .nil
theorem zjo:Sd G W0 75 zaL:=gs .nil .nil
theorem zrk:Sd G W0 29 zmd:=gs (k1 (zjo hG) .nil) .nil
theorem zpo:Sd G W0 30 zkp:=gs .nil .nil
theorem yL:Sd G W0 32 yR:=gs .nil .nil
theorem XS:Sd G W0 31 wL:=gs (k1 (yL hG) .nil) .nil
theorem zoX:Sd G W0 33 zhD:=gs .nil .nil
theorem zaa:Sd G W0 34 UT:=gs .nil .nil
theorem Z9:Sd G W0 35 Xd:=gs .nil .nil
theorem zq2:Sd G W0 36 zmi:=gs .nil .nil
theorem zeH:Sd G W0 37 WM:=gs .nil .nil
theorem zrV:Sd G W0 77 zow:=gs .nil .nil
theorem zui:YG Go.Proofs.Tryz.prog G W0 114 zaW:=zsk G W0 hG
theorem zjA:Sd G W0 38 ziS:=gs (k1 (zrV hG) .nil) (.cons _ _ _ (zui hG) (.nil))
theorem zrM:Sd G W0 149 znY:=gs .nil .nil
theorem zsj:Sd G W0 150 znV:=gs .nil .nil
theorem zsC:Sd G W0 151 zok:=gs .nil .nil
theorem zsp:Sd G W0 152 zob:=gs .nil .nil
theorem zbl:Sd G W0 153 Z4:=gs .nil .nil
theorem Yc:Sd G W0 96 Ut:=gs (k1 (zrM hG) (k1 (zsj hG) (k1 (zsC hG) (k1 (zsp hG) (k1 (zbl hG) .nil))))) .nil
theorem zeK:Sd G W0 78 zco:=gs (k1 (Yc hG) .nil) .nil
theorem zgy:Sd G W0 79 zdm:=gs .nil .nil
theorem zqU:Sd G W0 39 zmr:=gs (k1 (zeK hG) (k1 (zgy hG) .nil)) .nil
theorem Zm:Sd G W0 40 YI:=gs .nil .nil
theorem Z8:Sd G W0 42 Xb:=gs (k1 (Zm hG) .nil) .nil
theorem Zy:Sd G W0 41 YL:=gs (k1 (Z8 hG) .nil) .nil
theorem zeF:YG Go.Proofs.Tryz.prog G W0 76 vq:=zdv G W0 hG
theorem zib:Sd G W0 6 zf1:=gs (k1 (zqh hG) (k1 (zpU hG) (k1 (zrk hG) (k1 (zpo hG) (k1 (XS hG) (k1 (yL hG) (k1 (zoX hG) (k1 (zaa hG) (k1 (Z9 hG) (k1 (zq2 hG) (k1 (zeH hG) (k1 (zjA hG) (k1 (zqU hG) (k1 (Zm hG) (k1 (Zy hG) (k1 (Z8 hG) .nil)))))))))))))))) (.cons _ _ _ (zeF hG) (.nil))
theorem zby:Sd G W0 12 zbV:=gs (k1 (zeR hG) .nil) .nil
theorem zms:Sd G W0 85 zcB:=gs (k1 (YT hG) .nil) .nil
theorem znL:Sd G W0 87 zfV:=gs .nil .nil
theorem zea:Sd G W0 145 zgG:=gs (k1 (zlK hG) .nil) .nil
theorem zbA:Sd G W0 86 Ye:=gs (k1 (zbz hG) (k1 (zjA hG) (k1 (znL hG) (k1 (zea hG) .nil)))) .nil
theorem zqo:Sd G W0 48 zju:=gs (k1 (zms hG) (k1 (zbA hG) .nil)) .nil
theorem zh2:Sd G W0 11 zf0:=gs (k1 (zby hG) (k1 (zqo hG) .nil)) .nil
theorem zj0:Sd G W0 13 zaP:=gs .nil .nil
theorem zkL:Sd G W0 80 zbD:=gs .nil .nil
theorem zpb:Sd G W0 44 zhv:=gs (k1 (zkL hG) .nil) .nil
theorem znv:Sd G W0 43 zdQ:=gs (k1 (zpb hG) .nil) .nil
theorem YD:Sd G W0 91 XU:=gs .nil .nil
theorem zaY:Sd G W0 92 zaQ:=gs (k1 (Yc hG) .nil) .nil
theorem zeV:Sd G W0 193 Vs:=gs (k1 (YD hG) (k1 (zaY hG) .nil)) .nil
theorem zhy:Sd G W0 194 Un:=gs (k1 (zeK hG) (k1 (YD hG) .nil)) .nil
theorem zez:Sd G W0 195 WD:=gs (k1 (zgy hG) (k1 (YD hG) (k1 (Yc hG) .nil))) .nil
theorem zdf:Sd G W0 196 XF:=gs (k1 (YD hG) (k1 (zaY hG) .nil)) .nil
theorem YJ:Sd G W0 158 X4:=gs (k1 (zeV hG) (k1 (zhy hG) (k1 (zez hG) (k1 (zdf hG) .nil)))) .nil
theorem zhP:Sd G W0 116 Uv:=gs (k1 (YJ hG) .nil) .nil
theorem UN:Sd G W0 123 XD:=gs .nil .nil
theorem zoo:Sd G W0 197 zfv:=gs .nil .nil
theorem zop:Sd G W0 197 zfH:=gs .nil .nil
theorem zod:Sd G W0 197 zfL:=gs .nil .nil
theorem zou:Sd G W0 197 zfQ:=gs .nil .nil
theorem w9:Sd G W0 99 u7:=gs (k1 (Yc hG) .nil) .nil
theorem xl:Sd G W0 101 xn:=gs .nil .nil
theorem zbM:Sd G W0 218 Yi:=gs (k1 (w9 hG) (k1 (xl hG) .nil)) .nil
theorem vN:Sd G W0 100 vJ:=gs .nil .nil
theorem Y2:Sd G W0 103 ZP:=gs .nil .nil
theorem xQ:Sd G W0 238 xN:=gs .nil .nil
theorem zeI:Sd G W0 219 Wx:=gs (k1 (w9 hG) (k1 (vN hG) (k1 (Y2 hG) (k1 (xQ hG) .nil)))) .nil
theorem uK:Sd G W0 104 vZ:=gs (k1 (Y2 hG) .nil) .nil
theorem Ya:Sd G W0 239 Y8:=gs (k1 (Yc hG) .nil) .nil
theorem ziE:Sd G W0 220 zac:=gs (k1 (uK hG) (k1 (Ya hG) .nil)) .nil
theorem zcF:Sd G W0 221 Y1:=gs (k1 (xl hG) (k1 (xQ hG) (k1 (Ya hG) .nil))) .nil
theorem zgD:Sd G W0 222 VN:=gs (k1 (xl hG) (k1 (Ya hG) .nil)) .nil
theorem U9:Sd G W0 102 UV:=gs .nil .nil
theorem zdi:Sd G W0 223 XG:=gs (k1 (w9 hG) (k1 (vN hG) (k1 (U9 hG) .nil))) .nil
theorem zfT:Sd G W0 224 Vw:=gs (k1 (w9 hG) (k1 (uK hG) (k1 (xQ hG) .nil))) .nil
theorem UU:Sd G W0 240 Xv:=gs (k1 (Yc hG) (k1 (vN hG) .nil)) .nil
theorem zeC:Sd G W0 225 WA:=gs (k1 (UU hG) .nil) .nil
theorem zeD:Sd G W0 226 WK:=gs (k1 (xl hG) (k1 (xQ hG) (k1 (Ya hG) .nil))) .nil
theorem ze2:Sd G W0 227 Vh:=gs (k1 (xl hG) (k1 (xQ hG) (k1 (Ya hG) .nil))) .nil
theorem zfu:Sd G W0 228 Vl:=gs (k1 (w9 hG) (k1 (vN hG) .nil)) .nil
theorem zfd:Sd G W0 229 Vo:=gs (k1 (w9 hG) (k1 (xl hG) (k1 (U9 hG) .nil))) .nil
theorem zeE:Sd G W0 230 WF:=gs (k1 (w9 hG) (k1 (uK hG) .nil)) .nil
theorem zdd:Sd G W0 231 Xz:=gs (k1 (xQ hG) (k1 (UU hG) .nil)) .nil
theorem zhi:Sd G W0 159 zdA:=gs (k2 (zoo hG) (k2 (zop hG) (k2 (zod hG) (k2 (zou hG) (.skip _ _ (k1 (zbM hG) (k1 (zeI hG) (k1 (ziE hG) (k1 (zcF hG) (k1 (zgD hG) (k1 (zdi hG) (k1 (zfT hG) (k1 (zeC hG) (k1 (zeD hG) (k1 (ze2 hG) (k1 (zfu hG) (k1 (zfd hG) (k1 (zeE hG) (k1 (zdd hG) .nil))))))))))))))))))) .nil
theorem zc4:Sd G W0 161 zax:=gs (k1 (zaa hG) (k1 (Z9 hG) .nil)) .nil
theorem Wn:Sd G W0 198 WP:=gs .nil .nil
theorem zbt:Sd G W0 163 VG:=gs (k1 (Zy hG) (k1 (Wn hG) .nil)) .nil
theorem zhw:Sd G W0 160 UL:=gs (k1 (Zm hG) (k1 (zc4 hG) (k1 (zbt hG) .nil))) .nil
theorem ziZ:Sd G W0 117 zai:=gs (k1 (UN hG) (k1 (zhi hG) (k1 (zhw hG) .nil))) .nil
theorem zg4:Sd G W0 118 V5:=gs (k1 (zc4 hG) .nil) .nil
theorem vy:Sd G W0 162 wz:=gs .nil .nil
theorem zhz:Sd G W0 119 Uw:=gs (k1 (Z8 hG) (k1 (vy hG) (k1 (zbt hG) .nil))) .nil
theorem zcU:Sd G W0 122 zaq:=gs .nil .nil
theorem zbs:Sd G W0 199 VD:=gs .nil .nil
theorem zcy:Sd G W0 164 zek:=gs (k1 (zbs hG) .nil) .nil
theorem za2:Sd G W0 165 zaU:=gs .nil .nil
theorem zhH:Sd G W0 120 UG:=gs (k1 (zcU hG) (k1 (zcy hG) (k1 (za2 hG) .nil))) .nil
theorem zdg:Sd G W0 166 Xx:=gs .nil .nil
theorem zgx:Sd G W0 200 zdE:=gs (k1 (YT hG) (k1 (zea hG) .nil)) .nil
theorem uR:Sd G W0 201 v9:=gs (k1 (Zy hG) (k1 (Z8 hG) (k1 (Wn hG) .nil))) .nil
theorem zeQ:Sd G W0 167 Vp:=gs (k1 (zaa hG) (k1 (Z9 hG) (k1 (zgx hG) (k1 (uR hG) .nil)))) .nil
theorem zfG:Sd G W0 168 Vq:=gs .nil .nil
theorem ze8:Sd G W0 169 Vu:=gs (k1 (zhi hG) (k1 (uR hG) .nil)) .nil
theorem ze6:Sd G W0 170 Vy:=gs (k1 (uR hG) .nil) .nil
theorem zeW:Sd G W0 171 Vx:=gs (k1 (YJ hG) (k1 (uR hG) .nil)) .nil
theorem ze7:Sd G W0 172 Vv:=gs (k1 (Zm hG) (k1 (Zy hG) (k1 (vy hG) (k1 (Wn hG) .nil)))) .nil
theorem zdc:Sd G W0 173 Xp:=gs (k1 (YJ hG) .nil) .nil
theorem zh6:Sd G W0 121 zf8:=gs (k1 (zdg hG) (k1 (zeQ hG) (k1 (zfG hG) (k1 (ze8 hG) (k1 (ze6 hG) (k1 (zeW hG) (k1 (ze7 hG) (k1 (zdc hG) .nil)))))))) .nil
theorem zln:Sd G W0 174 zls:=gs (k1 (zea hG) .nil) .nil
theorem zbG:Sd G W0 124 zcb:=gs (k1 (YT hG) (k1 (zln hG) .nil)) .nil
theorem YB:Sd G W0 175 Zl:=gs .nil .nil
theorem znm:Sd G W0 177 zej:=gs .nil .nil
theorem WV:Sd G W0 176 vm:=gs (k1 (znm hG) .nil) .nil
theorem zeN:Sd G W0 125 zcs:=gs (k1 (YB hG) (k1 (WV hG) .nil)) .nil
theorem zhQ:Sd G W0 81 UA:=gs (k1 (zhP hG) (k1 (ziZ hG) (k1 (zg4 hG) (k1 (zhz hG) (k1 (zhH hG) (k1 (zh6 hG) (k1 (zcU hG) (k1 (UN hG) (k1 (zbG hG) (k1 (zeN hG) .nil)))))))))) .nil
theorem Wq:Sd G W0 82 wY:=gs .nil .nil
theorem zoY:Sd G W0 45 zhL:=gs (k1 (zhQ hG) (k1 (Wq hG) .nil)) .nil
theorem vE:Sd G W0 178 un:=gs .nil .nil
theorem uM:Sd G W0 182 vV:=gs .nil .nil
theorem Xc:Sd G W0 179 ZT:=gs (k1 (yL hG) (k1 (uM hG) .nil)) .nil
theorem zeS:Sd G W0 126 Vr:=gs (k1 (vE hG) (k1 (Xc hG) .nil)) .nil
theorem ze5:Sd G W0 127 Vd:=gs (k1 (za2 hG) .nil) .nil
theorem zhJ:Sd G W0 128 Ur:=gs (k1 (yL hG) .nil) .nil
theorem Vz:Sd G W0 180 Z6:=gs (k1 (zh6 hG) .nil) .nil
theorem zeP:Sd G W0 129 Vm:=gs (k1 (Vz hG) .nil) .nil
theorem zaN:Sd G W0 181 W9:=gs (k1 (zcy hG) (k1 (vE hG) .nil)) .nil
theorem zgT:Sd G W0 130 VL:=gs (k1 (vE hG) (k1 (Xc hG) (k1 (zaN hG) .nil))) .nil
theorem zhO:Sd G W0 131 UJ:=gs (k1 (vE hG) (k1 (zaN hG) (k1 (uM hG) .nil))) .nil
theorem zfN:Sd G W0 132 Vf:=gs (k1 (zln hG) .nil) .nil
theorem zdj:Sd G W0 133 Xs:=gs (k1 (yL hG) .nil) .nil
theorem zrJ:Sd G W0 183 zoy:=gs (k1 (yL hG) (k1 (vy hG) (k1 (zbs hG) .nil))) .nil
theorem zfb:Sd G W0 134 Vk:=gs (k1 (vE hG) (k1 (uM hG) (k1 (zrJ hG) .nil))) .nil
theorem zmJ:Sd G W0 203 zcN:=gs .nil .nil
theorem WI:Sd G W0 176 vd:=gs (k1 (zmJ hG) .nil) .nil
theorem VT:Sd G W0 206 Ym:=gs (k1 (YB hG) .nil) .nil
theorem zgV:Sd G W0 202 zdP:=gs (k1 (VT hG) .nil) .nil
theorem zof:Sd G W0 184 ze4:=gs (k1 (WI hG) (k1 (zgV hG) .nil)) .nil
theorem zdl:Sd G W0 204 Wg:=gs .nil .nil
theorem zpD:Sd G W0 185 zkl:=gs (k1 (zgJ hG) (k1 (zdl hG) .nil)) .nil
theorem zpY:Sd G W0 186 zjd:=gs (k1 (zbG hG) (k1 (zgx hG) .nil)) .nil
theorem ze0:Sd G W0 135 Vj:=gs (k1 (vE hG) (k1 (Xc hG) (k1 (uM hG) (k1 (zof hG) (k1 (zpD hG) (k1 (zpY hG) .nil)))))) .nil
theorem znh:Sd G W0 205 zdT:=gs .nil .nil
theorem WQ:Sd G W0 176 vv:=gs (k1 (znh hG) .nil) .nil
theorem zo6:Sd G W0 187 zht:=gs (k1 (YB hG) (k1 (WQ hG) .nil)) .nil
theorem zoA:Sd G W0 188 zfy:=gs (k1 (zgV hG) (k1 (VT hG) .nil)) .nil
theorem Uj:Sd G W0 189 YX:=gs (k1 (Zy hG) (k1 (Wn hG) .nil)) .nil
theorem zg5:Sd G W0 136 VQ:=gs (k1 (Zm hG) (k1 (zo6 hG) (k1 (zoA hG) (k1 (Uj hG) .nil)))) .nil
theorem zhM:Sd G W0 137 Uo:=gs (k1 (YJ hG) .nil) .nil
theorem zft:Sd G W0 138 Vn:=gs (k1 (Z8 hG) (k1 (vy hG) (k1 (Uj hG) .nil))) .nil
theorem zg7:Sd G W0 139 VU:=gs (k1 (YJ hG) .nil) .nil
theorem zfw:Sd G W0 140 Vi:=gs .nil .nil
theorem zb6:Sd G W0 190 UD:=gs .nil .nil
theorem zgW:Sd G W0 141 V2:=gs (k1 (zcy hG) (k1 (za2 hG) (k1 (zb6 hG) .nil))) .nil
theorem zhl:Sd G W0 142 UF:=gs (k1 (Vz hG) (k1 (zb6 hG) .nil)) .nil
theorem zey:Sd G W0 143 Wc:=gs (k1 (zbG hG) (k1 (zeN hG) .nil)) .nil
theorem zes:Sd G W0 144 Wh:=gs .nil .nil
theorem zgq:Sd G W0 83 V9:=gs (k1 (zeS hG) (k1 (ze5 hG) (k1 (zhJ hG) (k1 (zeP hG) (k1 (zgT hG) (k1 (zhO hG) (k1 (zfN hG) (k1 (zdj hG) (k1 (zfb hG) (k1 (ze0 hG) (k1 (zg5 hG) (k1 (zhM hG) (k1 (zft hG) (k1 (zg7 hG) (k1 (zfw hG) (k1 (zgW hG) (k1 (zhl hG) (k1 (zey hG) (k1 (zes hG) .nil))))))))))))))))))) .nil
theorem XM:Sd G W0 84 wH:=gs .nil .nil
theorem zoH:Sd G W0 46 zfo:=gs (k1 (zgq hG) (k1 (XM hG) .nil)) .nil
theorem zeO:Sd G W0 8 zcn:=gs (k1 (znv hG) (k1 (zoY hG) (k1 (zoH hG) (k1 (zgp hG) .nil)))) .nil
theorem zgR:Sd G W0 14 zdr:=gs (k1 (zeO hG) .nil) .nil
theorem zpS:Sd G W0 50 zja:=gs .nil .nil
theorem znp:Sd G W0 15 zdX:=gs (k1 (zgR hG) (k1 (zpS hG) .nil)) .nil
theorem zkS:Sd G W0 16 zbK:=gs .nil .nil
theorem zsH:Sd G W0 51 zoe:=gs .nil .nil
theorem zbY:Sd G W0 90 YM:=gs (k1 (zzv hG) .nil) .nil
theorem ztx:Sd G W0 52 zpI:=gs (k1 (zoM hG) (k1 (zbY hG) .nil)) .nil
theorem zpB:Sd G W0 53 zji:=gs (k1 (YD hG) (k1 (zaY hG) .nil)) .nil
theorem zcL:Sd G W0 54 zen:=gs (k1 (zoM hG) .nil) .nil
theorem zgr:Sd G W0 18 zdw:=gs (k1 (Zm hG) (k1 (Zy hG) (k1 (zpB hG) (k1 (zcL hG) .nil)))) .nil
theorem zo1:Sd G W0 61 zhY:=gs (k1 (Z9 hG) (k1 (Yc hG) .nil)) .nil
theorem zee:Sd G W0 93 zg1:=gs .nil .nil
theorem zg6:Sd G W0 63 zds:=gs (k1 (zee hG) .nil) .nil
theorem zpa:Sd G W0 64 zhE:=gs (k1 (w9 hG) (k1 (vN hG) (k1 (xl hG) (k1 (U9 hG) (k1 (Y2 hG) (k1 (uK hG) .nil)))))) .nil
theorem zeL:Sd G W0 21 zcv:=gs (k1 (yL hG) (k1 (Z9 hG) (k1 (zcL hG) (k1 (zo1 hG) (k1 (zrB hG) (k1 (zg6 hG) (k1 (zpa hG) .nil))))))) .nil
theorem zgM:Sd G W0 65 zex:=gs .nil .nil
theorem zdH:Sd G W0 22 zbn:=gs (k1 (yL hG) (k1 (zcL hG) (k1 (zrB hG) (k1 (zg6 hG) (k1 (zgM hG) .nil))))) .nil
theorem zuc:YG Go.Proofs.Tryz.prog G W0 88 za0:=by
 obtain ⟨c,hc⟩:=zIw.1 zFt
 exact zoG (Cg:=Yd []) rfl zpX (fun f s hs=>Oks.at (k1 (zgr hG) (k1 (zeL hG) (k1 (zdH hG) .nil))) f s hs) rfl zug (fun g it h=>by cases h) zFf zGs hc za0 (zHq (by kernel_rfl)) rfl zrX
theorem zh9:Sd G W0 17 zge:=gs (k1 (zsH hG) (k1 (ztx hG) .nil)) (.cons _ _ _ (zuc hG) (.nil))
theorem zcT:Sd G W0 55 zaz:=gs (k1 (zgM hG) .nil) .nil
theorem zre:Sd G W0 56 zl5:=gs (k1 (zee hG) .nil) .nil
theorem zon:Sd G W0 19 zfB:=gs (k1 (YT hG) (k1 (zeR hG) (k1 (zcT hG) (k1 (zre hG) .nil)))) .nil
theorem zol:Sd G W0 57 zfI:=gs .nil .nil
theorem uV:Sd G W0 94 yX:=gs (k1 (zol hG) .nil) .nil
theorem uy:Sd G W0 59 yP:=gs (k1 (uV hG) .nil) .nil
theorem znT:Sd G W0 58 zfn:=gs .nil .nil
theorem uE:Sd G W0 95 yT:=gs (k1 (znT hG) .nil) .nil
theorem uo:Sd G W0 60 yJ:=gs (k1 (uE hG) .nil) .nil
theorem zpF:Sd G W0 20 zkz:=gs (k1 (zh9 hG) (k1 (uy hG) (k1 (uo hG) .nil))) .nil
theorem zq3:Sd G W0 66 zmN:=gs (k1 (zee hG) .nil) .nil
theorem zqW:Sd G W0 23 zl3:=gs (k1 (zcT hG) (k1 (zq3 hG) .nil)) .nil
theorem zg8:Sd G W0 4 VR:=gs (k1 (zib hG) (k1 (zh2 hG) (k1 (zby hG) (k1 (zj0 hG) (k1 (zgR hG) (k1 (znp hG) (k1 (zkS hG) (k1 (zh9 hG) (k1 (zgr hG) (k1 (zon hG) (k1 (zpF hG) (k1 (zeL hG) (k1 (zdH hG) (k1 (zqW hG) .nil)))))))))))))) .nil
theorem X1:Sd G W0 24 Zd:=gs .nil .nil
theorem zdJ:Sd G W0 26 X5:=gs (k1 (X1 hG) .nil) .nil
theorem zla:Sd G W0 5 zbJ:=gs (k1 (X1 hG) (k1 (YT hG) (k1 (zdJ hG) .nil))) .nil
theorem zkv:Sd G W0 7 zaZ:=gs .nil .nil
theorem zgZ:Sd G W0 3 VS:=gs (k1 (zg8 hG) (k1 (zla hG) (k1 (zib hG) (k1 (zkv hG) (k1 (zeO hG) (k1 (zbz hG) (k1 (zic hG) (k1 (zh2 hG) (k1 (zby hG) .nil))))))))) .nil
end Go.Pe.G
