/- Own work of this seat: G4e, G4f, EQ, G2i, GH, GW, GX, G3. -/
import Derived.Test.YtbppdaabhmmfiaaGreatDoorHPGa
import Derived.Tactics
import Derived.Tactics2
import Derived.Shelf.SlicesE.DeleteFunc
import Derived.Shelf.Spec.SlicesGrow
set_option linter.unusedVariables false
set_option linter.unusedSectionVars false
set_option linter.unusedSimpArgs false
set_option linter.unnecessarySimpa false
set_option linter.deprecated false
set_option maxRecDepth 100000
open Array renaming getElem?_eq_some_iff → zHd, getElem?_push → zIl
open Bool renaming and_eq_true → zGP
open Int renaming toNat_natCast → zHv
open List renaming getElem?_eq_getElem → zGQ, append_nil → zGR, getD_eq_getElem?_getD → zGS, append_assoc → zGV, nil_append → zG0, length_drop → zH3, length_filter_le → zH7, drop_eq_nil_of_le → zIm, take_of_length_le → zIy, getElem_append_left → zIC
open Nat renaming le_refl → zGT, lt_of_lt_of_le → zHa, le_of_ble_eq_true → zHu, add_zero → zHw, mul_one → zHJ, le_trans → zHQ, zero_le → zHV
open Option renaming bind_some → zGO, bind_eq_some_iff → zGZ, map_eq_some_iff → zG4, map_some → zHH, isSome_iff_exists → zIA
namespace Go.Pe.G
open Go.Pe
theorem zng (s1:Int) (s2:List zh) (s3:Int) (s4:za) (s5:Int) (s6:Int) (s7:Int) (s8:Int) (s9:Int) (s10:Int) (s11:Int) (s12:Int) (s13:Int) (s14:BitVec 64) (s15:Int) (s16:zo) (s17:Int) (s18:Int) (s19:Bool) (s20:Bool) (s21:Int) (s22:Int) (s23:Int) (s24:Int) (s25:zy) (s26:List (List Int)) (s27:List (List Int)) (s28:List (List zk)) (s29:List zh) (s30:List (List Int)) (s31:List (BitVec 64)) (s32:List (List Int)) (s33:List Int) (s34:List Int) (s35:List zg) (s36:List zc):zaM (s1,s2,s3,s4,s5,s6,s7,s8,s9,s10,s11,s12,s13,s14,s15,s16,s17,s18,s19,s20,s21,s22,s23,s24,s25,s26,s27,s28,s29,s30,s31,s32,s33,s34,s35,s36,()) =
 bif decide (s3<s1) then
 bif !s4.Done then
  (u9 s4 s2).bind fun y1 =>
  some (.again (s1,s2,w64 (s3+1),y1.1,s5,s6,s7,s8,s9,s10,s11,s12,s13,s14,s15,s16,s17,s18,s19,s20,s21,s22,s23,s24,s25,s26,s27,s28,s29,s30,s31,s32,s33,s34,s35,s36,()))
 else
  some (.brk (s3,s4,s5,s6,s7,s8,s9,s10,s11,s12,s13,s14,s15,s16,s17,s18,s19,s20,s21,s22,s23,s24,s25,s26,s27,s28,s29,s30,s31,s32,s33,s34,s35,s36,()))
 else
 some (.brk (s3,s4,s5,s6,s7,s8,s9,s10,s11,s12,s13,s14,s15,s16,s17,s18,s19,s20,s21,s22,s23,s24,s25,s26,s27,s28,s29,s30,s31,s32,s33,s34,s35,s36,())):=by kernel_rfl
theorem zqe (a1:za) (a2:Int):zao a1 a2 =
 (zjw ((a1.Ws.length:Int)) ((a1.Ms.length:Int))).bind fun y1 =>
 (zR zaM (a2,y1.1,0,a1,0,0,0,0,0,0,0,0,0,0#64,0,zo.mk 0#64 0#64,0,0,false,false,0,0,0,0,zy.mk 0 0,([]:List (List Int)),([]:List (List Int)),([]:List (List zk)),([]:List zh),([]:List (List Int)),([]:List (BitVec 64)),([]:List (List Int)),([]:List Int),([]:List Int),([]:List zg),([]:List zc),())).bind fun st=>match st with
  | .again _=>none
  | .brk y2 =>
  some (y2.2.1,y2.1,())
  | .ret y2 =>
  none:=zw (by kernel_rfl)
theorem zlc (s1:List Int) (s2:List Int) (s3:Int):Uw (s1,s2,s3,()) =
 bif decide (s3<((s1.length:Int))) then
 (idx s1 s3).bind fun x1 =>
 (idx s2 s3).bind fun x2 =>
 bif !(decide (x1=x2)) then
  some (.ret (false,()))
 else
  some (.again (s1,s2,w64 (s3+1),()))
 else
 some (.brk (())):=by kernel_rfl
theorem zov (a1:List Int) (a2:List Int):Z0 a1 a2 =
 bif !(decide (((a1.length:Int))=((a2.length:Int)))) then
 some (false,())
 else
 (zR Uw (a1,a2,0,())).bind fun st=>match st with
  | .again _=>none
  | .brk y1 =>
  some (true,())
  | .ret y1 =>
  some (y1.1,()):=zw (by kernel_rfl)
theorem zxc (a1:za):ztV a1 =
 some (a1,()):=zw (by kernel_rfl)
theorem XP (s1:List (List Int)) (s2:Int) (s3:List (List Int)) (s4:Int) (s5:Int):xC (s1,s2,s3,s4,s5,()) =
 bif decide (s5<s4) then
 (idx s3 s5).bind fun x1 =>
 bif decide ((w64 (s2+((x1.length:Int))))<0) then
  none
 else
  some (.again (s1,w64 (s2+((x1.length:Int))),s3,s4,w64 (s5+1),()))
 else
 some (.brk (s1,s2,())):=by kernel_rfl
theorem Xs (s1:List (List Int)) (s2:Int) (s3:Int) (s4:List Int):xt (s1,s2,s3,s4,()) =
 bif decide (s3<s2) then
 (idx s1 s3).bind fun x1 =>
 (yh (s4++x1)).bind fun l2 =>
 some (.again (s1,s2,w64 (s3+1),l2,()))
 else
 some (.brk (s4,())):=by kernel_rfl
theorem zdS (a1:List (List Int)):YE a1 =
 (zR xC (a1,0,a1,(a1.length:Int),0,())).bind fun st=>match st with
  | .again _=>none
  | .brk y1 =>
  (zBu y1.2.1).bind fun y2 =>
  (zR xt (y1.1,(y1.1.length:Int),0,y2.1,())).bind fun st=>match st with
   | .again _=>none
   | .brk y3 =>
   some (y3.1,())
   | .ret y3 =>
   none
  | .ret y1 =>
  none:=zw (by kernel_rfl)
theorem zyF (a1:List Int) (a2:List Int):zpn a1 a2 =
 (YE (([a1,a2]:List (List Int)))).bind fun y1 =>
 (zqH y1.1).bind fun y2 =>
 some (y2.1,()):=zw (by kernel_rfl)
theorem zqF (s1:List (BitVec 64)) (s2:Int) (s3:Int) (s4:Int) (s5:List Int):zd2 (s1,s2,s3,s4,s5,()) =
 bif !(decide (s4=0)) then
 bif decide (((s5.length:Int))<(bif decide (1000<s3) then 1000 else s3)) then
  (yh (s5++([s4]:List Int))).bind fun l1 =>
  (VT s1 (w64 (s2+s4))).bind fun y2 =>
  some (.again (s1,s2,s3,y2.1.toInt,l1,()))
 else
  some (.brk (s5,()))
 else
 some (.brk (s5,())):=by kernel_rfl
theorem ztF (a1:List (BitVec 64)) (a2:Int) (a3:Int) (a4:Int):zkz a1 a2 a3 a4 =
 (VT a1 a2).bind fun y1 =>
 (YJ y1.1).bind fun y2 =>
 (zR zd2 (a1,a3,a4,y2.1,([]:List Int),())).bind fun st=>match st with
  | .again _=>none
  | .brk y3 =>
  some (y3.1,())
  | .ret y3 =>
  none:=zw (by kernel_rfl)
theorem zw8 (a1:List Int):yC a1 =
 (zqH a1).bind fun y1 =>
 some (y1.1,()):=zw (by kernel_rfl)
theorem zhb (s1:Int) (s2:Int) (s3:za) (s4:List Int) (s5:List Int):WW (s1,s2,s3,s4,s5,()) =
 bif decide (s2<s1) then
 (xx s5 s2).bind fun n1 =>
 (s5[n1]?).bind fun x2 =>
 bif decide (x2<((s3.Bins.length:Int))) then
  (idx s3.Bins x2).bind fun x3 =>
  (yh (s4++x3)).bind fun l4 =>
  some (.again (s1,w64 (s2+1),s3,l4,s5,()))
 else
  some (.again (s1,w64 (s2+1),s3,s4,s5,()))
 else
 some (.brk (s4,())):=by kernel_rfl
theorem zup (a1:za):ZX a1 =
 (YO a1.P).bind fun y1 =>
 (ZQ a1.P).bind fun y2 =>
 (zkz a1.M y1.1 y2.1 ((a1.Bins.length:Int))).bind fun y3 =>
 (zR WW ((y3.1.length:Int),0,a1,([]:List Int),y3.1,())).bind fun st=>match st with
  | .again _=>none
  | .brk y4 =>
  (yC y4.1).bind fun y5 =>
  some (y5.1,())
  | .ret y4 =>
  none:=zw (by kernel_rfl)
theorem zss (a1:za) (a2:Int) (a3:zd):zhC a1 a2 a3 =
 bif decide (a3.PC=3) then
 bif !(decide (a3.T=(a3.B-1#64))) then
  (yW a1.P a2).bind fun y1 =>
  bif decide ((BitVec.ofInt 64 a1.P.Cap)=0#64) then
  none
  else
  (Y6 a1.M (Z2.mk 1 (w64 ((w64 (y1.1+2))+(((a3.B-1#64)%(BitVec.ofInt 64 a1.P.Cap)).toInt))) 0#64 0#64)).bind fun y2 =>
  some (([y2.2.1.toInt]:List Int),())
 else
  bif decide (a3.PC=6) then
  some (([a3.X]:List Int),())
  else
  some (([]:List Int),())
 else
 bif decide (a3.PC=6) then
  some (([a3.X]:List Int),())
 else
  some (([]:List Int),()):=zw (by kernel_rfl)
theorem zuD (a1:zx):u7 a1 =
 (zlx a1 3 7 a1.Obj).bind fun y1 =>
 some (y1.1,()):=zw (by kernel_rfl)
theorem zee (s1:List (BitVec 64)) (s2:BitVec 64) (s3:BitVec 64) (s4:zd) (s5:List Int):yb (s1,s2,s3,s4,s5,()) =
 bif !(decide (s3=s2)) then
 (v9 s3 s4).bind fun y1 =>
 (vw s1 y1.1).bind fun y2 =>
 (yh (s5++([y2.1.toInt]:List Int))).bind fun l3 =>
 some (.again (s1,s2,s3+1#64,s4,l3,()))
 else
 some (.brk (s5,())):=by kernel_rfl
theorem zsa (a1:List (BitVec 64)) (a2:Int) (a3:Int) (a4:zd):xT a1 a2 a3 a4 =
 (u6 (zd.mk 0 0 a2 a3 0#64 0#64 0 0)).bind fun y1 =>
 (vw a1 y1.1).bind fun y2 =>
 (xN (zd.mk 0 0 a2 a3 0#64 0#64 0 0)).bind fun y3 =>
 (vw a1 y3.1).bind fun y4 =>
 bif decide (a4.Kind=2) then
 bif decide (a4.Out=0) then
  bif decide (a4.PC=2) then
  bif decide (a4.PC=2) then
   (xe (y4.1+1#64) y2.1).bind fun y5 =>
   bif !y5.1 then
   some (([]:List Int),())
   else
   (z6 (zd.mk 0 0 a2 a3 0#64 0#64 0 0)).bind fun y6 =>
   bif decide ((bif decide (64#64<y6.1) then 64#64 else y6.1)<((y4.1+1#64)-y2.1)) then
    some (([]:List Int),())
   else
    (zR yb (a1,y4.1+1#64,y2.1,zd.mk 0 0 a2 a3 0#64 0#64 0 0,([]:List Int),())).bind fun st=>match st with
     | .again _=>none
     | .brk y7 =>
     some (y7.1,())
     | .ret y7 =>
     none
  else
   bif decide (a4.PC=3) then
   bif decide (a4.T=(a4.B-1#64)) then
    (xe (y4.1+1#64) y2.1).bind fun y8 =>
    bif !y8.1 then
    some (([]:List Int),())
    else
    (z6 (zd.mk 0 0 a2 a3 0#64 0#64 0 0)).bind fun y9 =>
    bif decide ((bif decide (64#64<y9.1) then 64#64 else y9.1)<((y4.1+1#64)-y2.1)) then
     some (([]:List Int),())
    else
     (zR yb (a1,y4.1+1#64,y2.1,zd.mk 0 0 a2 a3 0#64 0#64 0 0,([]:List Int),())).bind fun st=>match st with
      | .again _=>none
      | .brk y10 =>
      some (y10.1,())
      | .ret y10 =>
      none
   else
    (xe y4.1 y2.1).bind fun y11 =>
    bif !y11.1 then
    some (([]:List Int),())
    else
    (z6 (zd.mk 0 0 a2 a3 0#64 0#64 0 0)).bind fun y12 =>
    bif decide ((bif decide (64#64<y12.1) then 64#64 else y12.1)<(y4.1-y2.1)) then
     some (([]:List Int),())
    else
     (zR yb (a1,y4.1,y2.1,zd.mk 0 0 a2 a3 0#64 0#64 0 0,([]:List Int),())).bind fun st=>match st with
      | .again _=>none
      | .brk y13 =>
      some (y13.1,())
      | .ret y13 =>
      none
   else
   (xe y4.1 y2.1).bind fun y14 =>
   bif !y14.1 then
    some (([]:List Int),())
   else
    (z6 (zd.mk 0 0 a2 a3 0#64 0#64 0 0)).bind fun y15 =>
    bif decide ((bif decide (64#64<y15.1) then 64#64 else y15.1)<(y4.1-y2.1)) then
    some (([]:List Int),())
    else
    (zR yb (a1,y4.1,y2.1,zd.mk 0 0 a2 a3 0#64 0#64 0 0,([]:List Int),())).bind fun st=>match st with
     | .again _=>none
     | .brk y16 =>
     some (y16.1,())
     | .ret y16 =>
     none
  else
  bif decide (a4.PC=4) then
   bif decide (a4.PC=4) then
   (xe (y4.1+1#64) y2.1).bind fun y17 =>
   bif !y17.1 then
    some (([]:List Int),())
   else
    (z6 (zd.mk 0 0 a2 a3 0#64 0#64 0 0)).bind fun y18 =>
    bif decide ((bif decide (64#64<y18.1) then 64#64 else y18.1)<((y4.1+1#64)-y2.1)) then
    some (([]:List Int),())
    else
    (zR yb (a1,y4.1+1#64,y2.1,zd.mk 0 0 a2 a3 0#64 0#64 0 0,([]:List Int),())).bind fun st=>match st with
     | .again _=>none
     | .brk y19 =>
     some (y19.1,())
     | .ret y19 =>
     none
   else
   bif decide (a4.PC=3) then
    bif decide (a4.T=(a4.B-1#64)) then
    (xe (y4.1+1#64) y2.1).bind fun y20 =>
    bif !y20.1 then
     some (([]:List Int),())
    else
     (z6 (zd.mk 0 0 a2 a3 0#64 0#64 0 0)).bind fun y21 =>
     bif decide ((bif decide (64#64<y21.1) then 64#64 else y21.1)<((y4.1+1#64)-y2.1)) then
     some (([]:List Int),())
     else
     (zR yb (a1,y4.1+1#64,y2.1,zd.mk 0 0 a2 a3 0#64 0#64 0 0,([]:List Int),())).bind fun st=>match st with
      | .again _=>none
      | .brk y22 =>
      some (y22.1,())
      | .ret y22 =>
      none
    else
    (xe y4.1 y2.1).bind fun y23 =>
    bif !y23.1 then
     some (([]:List Int),())
    else
     (z6 (zd.mk 0 0 a2 a3 0#64 0#64 0 0)).bind fun y24 =>
     bif decide ((bif decide (64#64<y24.1) then 64#64 else y24.1)<(y4.1-y2.1)) then
     some (([]:List Int),())
     else
     (zR yb (a1,y4.1,y2.1,zd.mk 0 0 a2 a3 0#64 0#64 0 0,([]:List Int),())).bind fun st=>match st with
      | .again _=>none
      | .brk y25 =>
      some (y25.1,())
      | .ret y25 =>
      none
   else
    (xe y4.1 y2.1).bind fun y26 =>
    bif !y26.1 then
    some (([]:List Int),())
    else
    (z6 (zd.mk 0 0 a2 a3 0#64 0#64 0 0)).bind fun y27 =>
    bif decide ((bif decide (64#64<y27.1) then 64#64 else y27.1)<(y4.1-y2.1)) then
     some (([]:List Int),())
    else
     (zR yb (a1,y4.1,y2.1,zd.mk 0 0 a2 a3 0#64 0#64 0 0,([]:List Int),())).bind fun st=>match st with
      | .again _=>none
      | .brk y28 =>
      some (y28.1,())
      | .ret y28 =>
      none
  else
   bif decide (a4.PC=5) then
   (xe (y4.1+1#64) y2.1).bind fun y29 =>
   bif !y29.1 then
    some (([]:List Int),())
   else
    (z6 (zd.mk 0 0 a2 a3 0#64 0#64 0 0)).bind fun y30 =>
    bif decide ((bif decide (64#64<y30.1) then 64#64 else y30.1)<((y4.1+1#64)-y2.1)) then
    some (([]:List Int),())
    else
    (zR yb (a1,y4.1+1#64,y2.1,zd.mk 0 0 a2 a3 0#64 0#64 0 0,([]:List Int),())).bind fun st=>match st with
     | .again _=>none
     | .brk y31 =>
     some (y31.1,())
     | .ret y31 =>
     none
   else
   bif decide (a4.PC=3) then
    bif decide (a4.T=(a4.B-1#64)) then
    (xe (y4.1+1#64) y2.1).bind fun y32 =>
    bif !y32.1 then
     some (([]:List Int),())
    else
     (z6 (zd.mk 0 0 a2 a3 0#64 0#64 0 0)).bind fun y33 =>
     bif decide ((bif decide (64#64<y33.1) then 64#64 else y33.1)<((y4.1+1#64)-y2.1)) then
     some (([]:List Int),())
     else
     (zR yb (a1,y4.1+1#64,y2.1,zd.mk 0 0 a2 a3 0#64 0#64 0 0,([]:List Int),())).bind fun st=>match st with
      | .again _=>none
      | .brk y34 =>
      some (y34.1,())
      | .ret y34 =>
      none
    else
    (xe y4.1 y2.1).bind fun y35 =>
    bif !y35.1 then
     some (([]:List Int),())
    else
     (z6 (zd.mk 0 0 a2 a3 0#64 0#64 0 0)).bind fun y36 =>
     bif decide ((bif decide (64#64<y36.1) then 64#64 else y36.1)<(y4.1-y2.1)) then
     some (([]:List Int),())
     else
     (zR yb (a1,y4.1,y2.1,zd.mk 0 0 a2 a3 0#64 0#64 0 0,([]:List Int),())).bind fun st=>match st with
      | .again _=>none
      | .brk y37 =>
      some (y37.1,())
      | .ret y37 =>
      none
   else
    (xe y4.1 y2.1).bind fun y38 =>
    bif !y38.1 then
    some (([]:List Int),())
    else
    (z6 (zd.mk 0 0 a2 a3 0#64 0#64 0 0)).bind fun y39 =>
    bif decide ((bif decide (64#64<y39.1) then 64#64 else y39.1)<(y4.1-y2.1)) then
     some (([]:List Int),())
    else
     (zR yb (a1,y4.1,y2.1,zd.mk 0 0 a2 a3 0#64 0#64 0 0,([]:List Int),())).bind fun st=>match st with
      | .again _=>none
      | .brk y40 =>
      some (y40.1,())
      | .ret y40 =>
      none
 else
  (xe y4.1 y2.1).bind fun y41 =>
  bif !y41.1 then
  some (([]:List Int),())
  else
  (z6 (zd.mk 0 0 a2 a3 0#64 0#64 0 0)).bind fun y42 =>
  bif decide ((bif decide (64#64<y42.1) then 64#64 else y42.1)<(y4.1-y2.1)) then
   some (([]:List Int),())
  else
   (zR yb (a1,y4.1,y2.1,zd.mk 0 0 a2 a3 0#64 0#64 0 0,([]:List Int),())).bind fun st=>match st with
    | .again _=>none
    | .brk y43 =>
    some (y43.1,())
    | .ret y43 =>
    none
 else
 (xe y4.1 y2.1).bind fun y44 =>
 bif !y44.1 then
  some (([]:List Int),())
 else
  (z6 (zd.mk 0 0 a2 a3 0#64 0#64 0 0)).bind fun y45 =>
  bif decide ((bif decide (64#64<y45.1) then 64#64 else y45.1)<(y4.1-y2.1)) then
  some (([]:List Int),())
  else
  (zR yb (a1,y4.1,y2.1,zd.mk 0 0 a2 a3 0#64 0#64 0 0,([]:List Int),())).bind fun st=>match st with
   | .again _=>none
   | .brk y46 =>
   some (y46.1,())
   | .ret y46 =>
   none:=zw (by kernel_rfl)
theorem zkE (a1:za) (a2:Int):Zi a1 a2 =
 bif decide (a2<1) then
 some (([]:List Int),())
 else
 bif decide (((a1.Ws.length:Int))<a2) then
  some (([]:List Int),())
 else
  (idx a1.Ws (w64 (a2-1))).bind fun x1 =>
  (yD x1.Batch).bind fun y2 =>
  bif decide (x1.PC=0) then
  (zhC a1 a2 x1.D).bind fun y3 =>
  (yh (y2.1++y3.1)).bind fun l4 =>
  (yW a1.P a2).bind fun y5 =>
  (xT a1.M y5.1 a1.P.Cap x1.D).bind fun y6 =>
  (yh (l4++y6.1)).bind fun l7 =>
  (yC l7).bind fun y8 =>
  some (y8.1,())
  else
  bif decide (x1.PC=3) then
   (idx a1.Bins x1.Bin).bind fun x9 =>
   (yh (y2.1++x9)).bind fun l10 =>
   (yW a1.P a2).bind fun y11 =>
   (xT a1.M y11.1 a1.P.Cap (zd.mk 0 0 0 0 0#64 0#64 0 0)).bind fun y12 =>
   (yh (l10++y12.1)).bind fun l13 =>
   (yC l13).bind fun y14 =>
   some (y14.1,())
  else
   bif decide (x1.PC=5) then
   bif decide (x1.PC=5) then
    (yh (y2.1++([x1.Obj]:List Int))).bind fun l15 =>
    (yW a1.P a2).bind fun y16 =>
    (xT a1.M y16.1 a1.P.Cap (zd.mk 0 0 0 0 0#64 0#64 0 0)).bind fun y17 =>
    (yh (l15++y17.1)).bind fun l18 =>
    (yC l18).bind fun y19 =>
    some (y19.1,())
   else
    bif decide (x1.PC=6) then
    (yh (y2.1++([x1.Obj]:List Int))).bind fun l20 =>
    (u7 x1.G).bind fun y21 =>
    (zem ([y21.1]:List Int)).bind fun y22 =>
    (yh (l20++y22.1)).bind fun l23 =>
    bif decide (x1.G.PC=3) then
     (yW a1.P a2).bind fun y24 =>
     (xT a1.M y24.1 a1.P.Cap x1.G.D).bind fun y25 =>
     (yh (l23++y25.1)).bind fun l26 =>
     (yC l26).bind fun y27 =>
     some (y27.1,())
    else
     (yW a1.P a2).bind fun y28 =>
     (xT a1.M y28.1 a1.P.Cap (zd.mk 0 0 0 0 0#64 0#64 0 0)).bind fun y29 =>
     (yh (l23++y29.1)).bind fun l30 =>
     (yC l30).bind fun y31 =>
     some (y31.1,())
    else
    (yW a1.P a2).bind fun y32 =>
    (xT a1.M y32.1 a1.P.Cap (zd.mk 0 0 0 0 0#64 0#64 0 0)).bind fun y33 =>
    (yh (y2.1++y33.1)).bind fun l34 =>
    (yC l34).bind fun y35 =>
    some (y35.1,())
   else
   bif decide (x1.PC=8) then
    (yh (y2.1++([x1.Obj]:List Int))).bind fun l36 =>
    (yW a1.P a2).bind fun y37 =>
    (xT a1.M y37.1 a1.P.Cap (zd.mk 0 0 0 0 0#64 0#64 0 0)).bind fun y38 =>
    (yh (l36++y38.1)).bind fun l39 =>
    (yC l39).bind fun y40 =>
    some (y40.1,())
   else
    bif decide (x1.PC=6) then
    (yh (y2.1++([x1.Obj]:List Int))).bind fun l41 =>
    (u7 x1.G).bind fun y42 =>
    (zem ([y42.1]:List Int)).bind fun y43 =>
    (yh (l41++y43.1)).bind fun l44 =>
    bif decide (x1.G.PC=3) then
     (yW a1.P a2).bind fun y45 =>
     (xT a1.M y45.1 a1.P.Cap x1.G.D).bind fun y46 =>
     (yh (l44++y46.1)).bind fun l47 =>
     (yC l47).bind fun y48 =>
     some (y48.1,())
    else
     (yW a1.P a2).bind fun y49 =>
     (xT a1.M y49.1 a1.P.Cap (zd.mk 0 0 0 0 0#64 0#64 0 0)).bind fun y50 =>
     (yh (l44++y50.1)).bind fun l51 =>
     (yC l51).bind fun y52 =>
     some (y52.1,())
    else
    (yW a1.P a2).bind fun y53 =>
    (xT a1.M y53.1 a1.P.Cap (zd.mk 0 0 0 0 0#64 0#64 0 0)).bind fun y54 =>
    (yh (y2.1++y54.1)).bind fun l55 =>
    (yC l55).bind fun y56 =>
    some (y56.1,()):=zw (by kernel_rfl)
theorem zq2 (a1:za) (a2:Int):XT a1 a2 =
 bif decide (a2<1) then
 some (([]:List Int),())
 else
 bif decide (((a1.Ms.length:Int))<a2) then
  some (([]:List Int),())
 else
  (idx a1.Ms (w64 (a2-1))).bind fun x1 =>
  (yD x1.Batch).bind fun y2 =>
  bif decide (x1.PC=33) then
  (idx a1.Bins x1.Bin).bind fun x3 =>
  (yh (y2.1++x3)).bind fun l4 =>
  bif decide (36<=x1.PC) then
   bif decide (x1.PC<=38) then
   (yh (l4++([x1.Obj]:List Int))).bind fun l5 =>
   (ut x1).bind fun y6 =>
   bif y6.1 then
    (u7 x1.G).bind fun y7 =>
    (zem ([y7.1]:List Int)).bind fun y8 =>
    (yh (l5++y8.1)).bind fun l9 =>
    (yC l9).bind fun y10 =>
    some (y10.1,())
   else
    (yC l5).bind fun y11 =>
    some (y11.1,())
   else
   (ut x1).bind fun y12 =>
   bif y12.1 then
    (u7 x1.G).bind fun y13 =>
    (zem ([y13.1]:List Int)).bind fun y14 =>
    (yh (l4++y14.1)).bind fun l15 =>
    (yC l15).bind fun y16 =>
    some (y16.1,())
   else
    (yC l4).bind fun y17 =>
    some (y17.1,())
  else
   (ut x1).bind fun y18 =>
   bif y18.1 then
   (u7 x1.G).bind fun y19 =>
   (zem ([y19.1]:List Int)).bind fun y20 =>
   (yh (l4++y20.1)).bind fun l21 =>
   (yC l21).bind fun y22 =>
   some (y22.1,())
   else
   (yC l4).bind fun y23 =>
   some (y23.1,())
  else
  bif decide (36<=x1.PC) then
   bif decide (x1.PC<=38) then
   (yh (y2.1++([x1.Obj]:List Int))).bind fun l24 =>
   (ut x1).bind fun y25 =>
   bif y25.1 then
    (u7 x1.G).bind fun y26 =>
    (zem ([y26.1]:List Int)).bind fun y27 =>
    (yh (l24++y27.1)).bind fun l28 =>
    (yC l28).bind fun y29 =>
    some (y29.1,())
   else
    (yC l24).bind fun y30 =>
    some (y30.1,())
   else
   (ut x1).bind fun y31 =>
   bif y31.1 then
    (u7 x1.G).bind fun y32 =>
    (zem ([y32.1]:List Int)).bind fun y33 =>
    (yh (y2.1++y33.1)).bind fun l34 =>
    (yC l34).bind fun y35 =>
    some (y35.1,())
   else
    (yC y2.1).bind fun y36 =>
    some (y36.1,())
  else
   (ut x1).bind fun y37 =>
   bif y37.1 then
   (u7 x1.G).bind fun y38 =>
   (zem ([y38.1]:List Int)).bind fun y39 =>
   (yh (y2.1++y39.1)).bind fun l40 =>
   (yC l40).bind fun y41 =>
   some (y41.1,())
   else
   (yC y2.1).bind fun y42 =>
   some (y42.1,()):=zw (by kernel_rfl)
theorem zrp (y:List Int) (s1:List Int):zbv y (s1,()) =
 (zpn s1 y).bind fun y1 =>
 some (y1.1,()):=by kernel_rfl
theorem zuW (a1:za):U8 a1 =
 (ztV a1).bind fun y1 =>
 (zqf y1.1.P.Workers y1.1.P.Mutators y1.1.P.Cap y1.1.P.Buf y1.1.P.Bin y1.1.P.Most y1.1.P.Price y1.1.P.Limit y1.1.P.H.Slots y1.1.P.H.Objs y1.1.P.Roots y1.1.P.Regs y1.1.P.Progs y1.1.P.Picks y1.1.H.Slots y1.1.H.Objs y1.1.M y1.1.Bins y1.1.T.Marks y1.1.T.Black y1.1.Work y1.1.Epoch y1.1.Flag y1.1.Done y1.1.Restarts y1.1.Acks y1.1.L.Scanned y1.1.L.Spent y1.1.L.Pool y1.1.L.Bal y1.1.Ws y1.1.Ms y1.1.D.PC y1.1.D.I).bind fun (ys2:List (List Int)) =>
 (Zf zbv ys2 (([]:List Int),())).bind fun (y3:(List Int)×Unit) =>
 some (y3.1,()):=zw (by kernel_rfl)
theorem zmE (s1:BitVec 64) (s2:List Int) (s3:Int):zal (s1,s2,s3,()) =
 bif decide (s3<64) then
 (zfZ s2 64 s3).bind fun n1 =>
 (s2[n1]?).bind fun x2 =>
 bif decide (0<x2) then
  (Z6 s1 (w64 (s3+1))).bind fun y3 =>
  some (.again (y3.1,s2,w64 (s3+1),()))
 else
  some (.again (s1,s2,w64 (s3+1),()))
 else
 some (.brk (s1,())):=by kernel_rfl
theorem zpc (a1:List Int):zcB a1 =
 bif decide (a1.length=64) then
 (zR zal (0#64,a1,0,())).bind fun st=>match st with
  | .again _=>none
  | .brk y1 =>
  some (y1.1,())
  | .ret y1 =>
  none
 else
 none:=zw (by kernel_rfl)
theorem zrf (a1:Int):znb a1 =
 some (true,()):=zw (by kernel_rfl)
theorem Xr (s1:BitVec 64) (s2:Int) (s3:Int) (s4:zr) (s5:List Int) (s6:List Int) (s7:List Int):ZH (s1,s2,s3,s4,s5,s6,s7,()) =
 bif decide (s3<s2) then
 (xx s7 s3).bind fun n1 =>
 (s7[n1]?).bind fun x2 =>
 (zfZ s6 64 (w64 (x2-1))).bind fun n3 =>
 some (.again (s1,s2,w64 (s3+1),s4,s5,s6.set n3 1,s7,()))
 else
 some (.brk (s1,s4,s5,s6,s7,())):=by kernel_rfl
theorem uM (s1:BitVec 64) (s2:zr) (s3:List Int) (s4:List Int) (s5:List Int):ZG (s1,s2,s3,s4,s5,()) =
 bif decide (0<((s5.length:Int))) then
 (xx s5 0).bind fun n1 =>
 (s5[n1]?).bind fun x2 =>
 (znb x2).bind fun y3 =>
 bif !y3.1 then
  (cut s5 1 ((s5.length:Int))).bind fun l4 =>
  some (.again (s1,s2,s3,s4,l4,()))
 else
  (idx s2.Objs (w64 (x2-1))).bind fun x5 =>
  (zR vl (s1,x2,x5,(x5.length:Int),0,s2,s3,s4,s5,())).bind fun st=>match st with
   | .again _=>none
   | .brk y6 =>
   (cut y6.2.2.2.2.1 1 ((y6.2.2.2.2.1.length:Int))).bind fun l7 =>
   some (.again (y6.1,y6.2.1,y6.2.2.1,y6.2.2.2.1,l7,()))
   | .ret y6 =>
   some (.ret (()))
 else
 some (.brk (s3,s4,())):=by kernel_rfl
theorem YX (s1:BitVec 64) (s2:Int) (s3:List Int) (s4:Int) (s5:Int) (s6:zr) (s7:List Int) (s8:List Int) (s9:List Int):vl (s1,s2,s3,s4,s5,s6,s7,s8,s9,()) =
 bif decide (s5<s4) then
 (idx s3 s5).bind fun x1 =>
 (zc4 s1 x1).bind fun y2 =>
 bif y2.1 then
  (zfZ s8 64 (w64 (x1-1))).bind fun n3 =>
  (s8[n3]?).bind fun x4 =>
  bif decide (x4=0) then
  (zfZ s8 64 (w64 (s2-1))).bind fun n5 =>
  (s8[n5]?).bind fun x6 =>
  (zfZ s8 64 (w64 (x1-1))).bind fun n7 =>
  (yh (s9++([x1]:List Int))).bind fun l8 =>
  some (.again (s1,s2,s3,s4,w64 (s5+1),s6,s7,s8.set n7 (w64 (x6+1)),l8,()))
  else
  some (.again (s1,s2,s3,s4,w64 (s5+1),s6,s7,s8,s9,()))
 else
  some (.again (s1,s2,s3,s4,w64 (s5+1),s6,s7,s8,s9,()))
 else
 some (.brk (s1,s6,s7,s8,s9,())):=by kernel_rfl
theorem zdh (a1:zr) (a2:BitVec 64):Yp a1 a2 =
 (zgq ((a1.Objs.length:Int))).bind fun y1 =>
 (zdt (a2&&&y1.1)).bind fun y2 =>
 (zR ZH (y1.1,(y2.1.length:Int),0,a1,List.replicate 64 ((0:Int)),List.replicate 64 ((0:Int)),y2.1,())).bind fun st=>match st with
  | .again _=>none
  | .brk y3 =>
  (zR ZG (y3.1,y3.2.1,y3.2.2.1,y3.2.2.2.1,y3.2.2.2.2.1,())).bind fun st=>match st with
   | .again _=>none
   | .brk y4 =>
   bif decide (y4.2.1.length=64) then
   bif decide (y4.1.length=64) then
    bif decide (y4.2.1.length=64) then
    some (y4.2.1,())
    else
    none
   else
    none
   else
   none
   | .ret y4 =>
   none
  | .ret y3 =>
  none:=zw (by kernel_rfl)
theorem zs9 (a1:zr) (a2:BitVec 64):XW a1 a2 =
 (Yp a1 a2).bind fun y1 =>
 (zcB y1.1).bind fun y2 =>
 some (y2.1,()):=zw (by kernel_rfl)
theorem zim (s1:BitVec 64) (s2:List zc) (s3:Int) (s4:Int):Ub (s1,s2,s3,s4,()) =
 bif decide (s4<s3) then
 (idx s2 s4).bind fun x1 =>
 (zkC x1.Regs).bind fun y2 =>
 some (.again (s1|||y2.1,s2,s3,w64 (s4+1),()))
 else
 some (.brk (s1,())):=by kernel_rfl
theorem zvm (a1:za):zgm a1 =
 (zR Ub (0#64,a1.Ms,(a1.Ms.length:Int),0,())).bind fun st=>match st with
  | .again _=>none
  | .brk y1 =>
  some (y1.1,())
  | .ret y1 =>
  none:=zw (by kernel_rfl)
theorem zu5 (a1:za):zf8 a1 =
 (zgm a1).bind fun y1 =>
 (XW a1.H (a1.P.Roots|||y1.1)).bind fun y2 =>
 some (y2.1,()):=zw (by kernel_rfl)
theorem zq7 (a1:zg):zfT a1 =
 bif !(decide (a1.Obj=0)) then
 some (true,())
 else
 some (decide (0<((a1.Batch.length:Int))),()):=zw (by kernel_rfl)
theorem uZ (s1:List zg) (s2:Int) (s3:Int):yQ (s1,s2,s3,()) =
 bif decide (s3<s2) then
 (idx s1 s3).bind fun x1 =>
 (zfT x1).bind fun y2 =>
 bif y2.1 then
  some (.ret (s3,()))
 else
  some (.again (s1,s2,w64 (s3+1),()))
 else
 some (.brk (())):=by kernel_rfl
theorem Zn (a1:List zg):wp a1 =
 (zR yQ (a1,(a1.length:Int),0,())).bind fun st=>match st with
  | .again _=>none
  | .brk y1 =>
  some (-1,())
  | .ret y1 =>
  some (y1.1,()):=zw (by kernel_rfl)
theorem u4 (a1:List zg):yR a1 =
 (wp a1).bind fun y1 =>
 some (decide (0<=y1.1),()):=zw (by kernel_rfl)
theorem zrj (a1:zc):zfj a1 =
 bif !(decide (a1.Obj=0)) then
 some (true,())
 else
 some (decide (0<(w64 (((a1.Batch.length:Int))+((a1.Buf.length:Int))))),()):=zw (by kernel_rfl)
end Go.Pe.G
namespace Go.Pe.G
open Go.Pe
theorem uH (s1:List zc) (s2:Int) (s3:Int):yK (s1,s2,s3,()) =
 bif decide (s3<s2) then
 (idx s1 s3).bind fun x1 =>
 (zfj x1).bind fun y2 =>
 bif y2.1 then
  some (.ret (s3,()))
 else
  some (.again (s1,s2,w64 (s3+1),()))
 else
 some (.brk (())):=by kernel_rfl
theorem Zc (a1:List zc):wb a1 =
 (zR yK (a1,(a1.length:Int),0,())).bind fun st=>match st with
  | .again _=>none
  | .brk y1 =>
  some (-1,())
  | .ret y1 =>
  some (y1.1,()):=zw (by kernel_rfl)
theorem uK (a1:List zc):yJ a1 =
 (wb a1).bind fun y1 =>
 some (decide (0<=y1.1),()):=zw (by kernel_rfl)
theorem zt5 (a1:za):zdp a1 =
 (U8 a1).bind fun y1 =>
 bif decide (((y1.1.length:Int))=0) then
 (yR a1.Ws).bind fun y2 =>
 bif !y2.1 then
  (yJ a1.Ms).bind fun y3 =>
  some (!y3.1,())
 else
  some (false,())
 else
 some (false,()):=zw (by kernel_rfl)
theorem zvY (a1:zx):zl6 a1 =
 (zlx a1 1 2 1).bind fun y1 =>
 some (y1.1,()):=zw (by kernel_rfl)
theorem zii (s1:Int) (s2:Int) (s3:Int) (s4:za) (s5:List zx):V4 (s1,s2,s3,s4,s5,()) =
 bif decide (s3<s2) then
 (xx s5 s3).bind fun n1 =>
 (s5[n1]?).bind fun x2 =>
 (zl6 x2).bind fun y3 =>
 some (.again (w64 (s1+y3.1),s2,w64 (s3+1),s4,s5,()))
 else
 some (.brk (s1,s4,())):=by kernel_rfl
theorem zil (s1:Int) (s2:List zg) (s3:Int) (s4:Int) (s5:za):VV (s1,s2,s3,s4,s5,()) =
 bif decide (s4<s3) then
 (idx s2 s4).bind fun x1 =>
 bif decide (x1.PC=9) then
  some (.again (w64 (s1+1),s2,s3,w64 (s4+1),s5,()))
 else
  some (.again (s1,s2,s3,w64 (s4+1),s5,()))
 else
 some (.brk (s1,s5,())):=by kernel_rfl
theorem zgF (s1:Int) (s2:List zc) (s3:Int) (s4:Int):W2 (s1,s2,s3,s4,()) =
 bif decide (s4<s3) then
 (idx s2 s4).bind fun x1 =>
 bif decide (x1.PC=39) then
  some (.again (w64 (s1+1),s2,s3,w64 (s4+1),()))
 else
  some (.again (s1,s2,s3,w64 (s4+1),()))
 else
 some (.brk (s1,())):=by kernel_rfl
theorem zvG (a1:za):zmr a1 =
 (zaB a1).bind fun y1 =>
 (zR V4 (0,(y1.1.length:Int),0,a1,y1.1,())).bind fun st=>match st with
  | .again _=>none
  | .brk y2 =>
  (zR VV (y2.1,y2.2.1.Ws,(y2.2.1.Ws.length:Int),0,y2.2.1,())).bind fun st=>match st with
   | .again _=>none
   | .brk y3 =>
   (zR W2 (y3.1,y3.2.1.Ms,(y3.2.1.Ms.length:Int),0,())).bind fun st=>match st with
    | .again _=>none
    | .brk y4 =>
    some (y4.1,())
    | .ret y4 =>
    none
   | .ret y3 =>
   none
  | .ret y2 =>
  none:=zw (by kernel_rfl)
theorem Uj (s1:List zh) (s2:Int) (s3:za) (s4:za):wX (s1,s2,s3,s4,()) =
 bif decide (s2<6) then
 (u9 s4 s1).bind fun y1 =>
 some (.again (s1,w64 (s2+1),s3,y1.1,()))
 else
 some (.brk (s1,s3,s4,())):=by kernel_rfl
theorem zj2:Uf =
 (zaT (([(([(zk.mk 1 1 0 0),(zk.mk 5 1 0 0),(zk.mk 2 1 0 0)]:List zk))]:List (List zk)))).bind fun y1 =>
 (zgh y1.1).bind fun y2 =>
 (zR wX (([(zh.mk 2 1)]:List zh),0,y2.1,y2.1,())).bind fun st=>match st with
  | .again _=>none
  | .brk y3 =>
  (u9 y3.2.2.1 y3.1).bind fun y4 =>
  (u9 y4.1 y3.1).bind fun y5 =>
  (zao y5.1 900).bind fun y6 =>
  (u9 y3.2.1 (([(zh.mk 1 1),(zh.mk 1 1),(zh.mk 1 1),(zh.mk 1 1),(zh.mk 1 1),(zh.mk 1 1),(zh.mk 1 1)]:List zh))).bind fun y7 =>
  (U8 y3.2.1).bind fun y8 =>
  (Z0 y8.1 ([1]:List Int)).bind fun y9 =>
  bif y9.1 then
  (ZX y3.2.1).bind fun y10 =>
  (Z0 y10.1 ([1]:List Int)).bind fun y11 =>
  bif y11.1 then
   (Yi y3.2.1).bind fun y12 =>
   bif decide (y12.1=0#64) then
   (zf8 y3.2.1).bind fun y13 =>
   bif decide (y13.1=3#64) then
    (zgm y3.2.1).bind fun y14 =>
    bif decide (y14.1=1#64) then
    (Yi y3.2.2.1).bind fun y15 =>
    bif decide (y15.1=2#64) then
     (Yi y4.1).bind fun y16 =>
     bif decide (y16.1=2#64) then
     (zf8 y5.1).bind fun y17 =>
     bif decide (y17.1=1#64) then
      (Yi y5.1).bind fun y18 =>
      bif decide (y18.1=2#64) then
      bif y6.1.Done then
       (zdp y6.1).bind fun y19 =>
       bif y19.1 then
       bif decide (y6.1.T.Marks=3#64) then
        (zdp y3.2.1).bind fun y20 =>
        bif !y20.1 then
        (ZX y7.1).bind fun y21 =>
        bif decide (((y21.1.length:Int))=0) then
         (Zi y7.1 1).bind fun y22 =>
         (Z0 y22.1 ([1]:List Int)).bind fun y23 =>
         bif y23.1 then
         (Zi y3.2.1 2).bind fun y24 =>
         bif decide (((y24.1.length:Int))=0) then
          (XT y3.2.1 1).bind fun y25 =>
          bif decide (((y25.1.length:Int))=0) then
          (zmr y3.2.1).bind fun y26 =>
          some (decide (y26.1=0),())
          else
          some (false,())
         else
          some (false,())
         else
         some (false,())
        else
         some (false,())
        else
        some (false,())
       else
        some (false,())
       else
       some (false,())
      else
       some (false,())
      else
      some (false,())
     else
      some (false,())
     else
     some (false,())
    else
     some (false,())
    else
    some (false,())
   else
    some (false,())
   else
   some (false,())
  else
   some (false,())
  else
  some (false,())
  | .ret y3 =>
  none:=zw (by kernel_rfl)
theorem zeF (a1:zG):zC a1 =
 bif decide (((a1.L.length:Int))<=a1.At) then
 some (0,a1,())
 else
 (idx a1.L (w64 ((w64 (a1.At+1))-1))).bind fun x1 =>
 some ((x1.toNat:Int),{a1 with At:=w64 (a1.At+1)},()):=zw (by kernel_rfl)
theorem zgG (a1:Int) (a2:Int) (a3:zG):We a1 a2 a3 =
 (zC a3).bind fun y1 =>
 (xx ([1,1,2,2,2,3,4,5]:List Int) (y1.1.tmod 8)).bind fun n2 =>
 (([1,1,2,2,2,3,4,5]:List Int)[n2]?).bind fun x3 =>
 (zC y1.2.1).bind fun y4 =>
 bif decide (a1=0) then
 none
 else
 bif decide (x3=1) then
  (zC y4.2.1).bind fun y5 =>
  bif decide (a1=0) then
  none
  else
  bif decide (x3<3) then
   (zC y5.2.1).bind fun y6 =>
   bif decide (a2=0) then
   none
   else
   some (zk.mk x3 (y4.1.tmod a1) (y5.1.tmod a1) (y6.1.tmod a2),y6.2.1,())
  else
   some (zk.mk x3 (y4.1.tmod a1) (y5.1.tmod a1) 0,y5.2.1,())
 else
  bif decide (x3=2) then
  (zC y4.2.1).bind fun y7 =>
  bif decide (a1=0) then
   none
  else
   bif decide (x3<3) then
   (zC y7.2.1).bind fun y8 =>
   bif decide (a2=0) then
    none
   else
    some (zk.mk x3 (y4.1.tmod a1) (y7.1.tmod a1) (y8.1.tmod a2),y8.2.1,())
   else
   some (zk.mk x3 (y4.1.tmod a1) (y7.1.tmod a1) 0,y7.2.1,())
  else
  bif decide (x3=4) then
   (zC y4.2.1).bind fun y9 =>
   bif decide (a1=0) then
   none
   else
   bif decide (x3<3) then
    (zC y9.2.1).bind fun y10 =>
    bif decide (a2=0) then
    none
    else
    some (zk.mk x3 (y4.1.tmod a1) (y9.1.tmod a1) (y10.1.tmod a2),y10.2.1,())
   else
    some (zk.mk x3 (y4.1.tmod a1) (y9.1.tmod a1) 0,y9.2.1,())
  else
   bif decide (x3<3) then
   (zC y4.2.1).bind fun y11 =>
   bif decide (a2=0) then
    none
   else
    some (zk.mk x3 (y4.1.tmod a1) 0 (y11.1.tmod a2),y11.2.1,())
   else
   some (zk.mk x3 (y4.1.tmod a1) 0 0,y4.2.1,()):=zw (by kernel_rfl)
theorem zkX (s1:Int) (s2:Int) (s3:Int) (s4:Int) (s5:Int) (s6:Int) (s7:Int) (s8:Int) (s9:Int) (s10:Int) (s11:Int) (s12:BitVec 64) (s13:zG) (s14:Int) (s15:Int) (s16:Int) (s17:Int) (s18:Int) (s19:Int) (s20:Int) (s21:Int) (s22:Int) (s23:BitVec 64) (s24:List (List Int)) (s25:List (List Int)) (s26:List (List zk)) (s27:List zh) (s28:List (List Int)) (s29:List (List Int)) (s30:List (List zk)) (s31:List zh):Xu (s1,s2,s3,s4,s5,s6,s7,s8,s9,s10,s11,s12,s13,s14,s15,s16,s17,s18,s19,s20,s21,s22,s23,s24,s25,s26,s27,s28,s29,s30,s31,()) =
 bif decide (s2<s1) then
 (zR YV (s1,s2,0,s3,s4,s5,s6,s7,s8,s9,s10,s11,s12,s13,s14,s15,s16,s17,s18,s19,s20,s21,s22,s23,([]:List Int),s24,s25,s26,s27,s28,s29,s30,s31,())).bind fun st=>match st with
  | .again _=>none
  | .brk y1 =>
  (yh (y1.2.2.2.2.2.2.2.2.2.2.2.2.2.2.2.2.2.2.2.2.2.2.2.2.2.2.2.2.1++(([y1.2.2.2.2.2.2.2.2.2.2.2.2.2.2.2.2.2.2.2.2.2.2.2.1]:List (List Int))))).bind fun l2 =>
  some (.again (y1.1,w64 (y1.2.1+1),y1.2.2.1,y1.2.2.2.1,y1.2.2.2.2.1,y1.2.2.2.2.2.1,y1.2.2.2.2.2.2.1,y1.2.2.2.2.2.2.2.1,y1.2.2.2.2.2.2.2.2.1,y1.2.2.2.2.2.2.2.2.2.1,y1.2.2.2.2.2.2.2.2.2.2.1,y1.2.2.2.2.2.2.2.2.2.2.2.1,y1.2.2.2.2.2.2.2.2.2.2.2.2.1,y1.2.2.2.2.2.2.2.2.2.2.2.2.2.1,y1.2.2.2.2.2.2.2.2.2.2.2.2.2.2.1,y1.2.2.2.2.2.2.2.2.2.2.2.2.2.2.2.1,y1.2.2.2.2.2.2.2.2.2.2.2.2.2.2.2.2.1,y1.2.2.2.2.2.2.2.2.2.2.2.2.2.2.2.2.2.1,y1.2.2.2.2.2.2.2.2.2.2.2.2.2.2.2.2.2.2.1,y1.2.2.2.2.2.2.2.2.2.2.2.2.2.2.2.2.2.2.2.1,y1.2.2.2.2.2.2.2.2.2.2.2.2.2.2.2.2.2.2.2.2.1,y1.2.2.2.2.2.2.2.2.2.2.2.2.2.2.2.2.2.2.2.2.2.1,y1.2.2.2.2.2.2.2.2.2.2.2.2.2.2.2.2.2.2.2.2.2.2.1,y1.2.2.2.2.2.2.2.2.2.2.2.2.2.2.2.2.2.2.2.2.2.2.2.2.1,y1.2.2.2.2.2.2.2.2.2.2.2.2.2.2.2.2.2.2.2.2.2.2.2.2.2.1,y1.2.2.2.2.2.2.2.2.2.2.2.2.2.2.2.2.2.2.2.2.2.2.2.2.2.2.1,y1.2.2.2.2.2.2.2.2.2.2.2.2.2.2.2.2.2.2.2.2.2.2.2.2.2.2.2.1,l2,y1.2.2.2.2.2.2.2.2.2.2.2.2.2.2.2.2.2.2.2.2.2.2.2.2.2.2.2.2.2.1,y1.2.2.2.2.2.2.2.2.2.2.2.2.2.2.2.2.2.2.2.2.2.2.2.2.2.2.2.2.2.2.1,y1.2.2.2.2.2.2.2.2.2.2.2.2.2.2.2.2.2.2.2.2.2.2.2.2.2.2.2.2.2.2.2.1,()))
  | .ret y1 =>
  some (.ret (()))
 else
 some (.brk (s1,s3,s4,s5,s6,s7,s8,s9,s10,s11,s12,s13,s14,s15,s16,s17,s18,s19,s20,s21,s22,s23,s24,s25,s26,s27,s28,s29,s30,s31,())):=by kernel_rfl
theorem zjp (s1:Int) (s2:Int) (s3:Int) (s4:Int) (s5:Int) (s6:Int) (s7:Int) (s8:Int) (s9:Int) (s10:Int) (s11:Int) (s12:Int) (s13:BitVec 64) (s14:zG) (s15:Int) (s16:Int) (s17:Int) (s18:Int) (s19:Int) (s20:Int) (s21:Int) (s22:Int) (s23:Int) (s24:BitVec 64) (s25:List Int) (s26:List (List Int)) (s27:List (List Int)) (s28:List (List zk)) (s29:List zh) (s30:List (List Int)) (s31:List (List Int)) (s32:List (List zk)) (s33:List zh):YV (s1,s2,s3,s4,s5,s6,s7,s8,s9,s10,s11,s12,s13,s14,s15,s16,s17,s18,s19,s20,s21,s22,s23,s24,s25,s26,s27,s28,s29,s30,s31,s32,s33,()) =
 bif decide (s3<s23) then
 (zC s14).bind fun y1 =>
 bif decide ((w64 (s1+1))=0) then
  none
 else
  (yh (s25++(([(y1.1.tmod (w64 (s1+1)))]:List Int)))).bind fun l2 =>
  some (.again (s1,s2,w64 (s3+1),s4,s5,s6,s7,s8,s9,s10,s11,s12,s13,y1.2.1,s15,s16,s17,s18,s19,s20,s21,s22,s23,s24,l2,s26,s27,s28,s29,s30,s31,s32,s33,()))
 else
 some (.brk (s1,s2,s4,s5,s6,s7,s8,s9,s10,s11,s12,s13,s14,s15,s16,s17,s18,s19,s20,s21,s22,s23,s24,s25,s26,s27,s28,s29,s30,s31,s32,s33,())):=by kernel_rfl
theorem zjs (s1:Int) (s2:Int) (s3:Int) (s4:Int) (s5:Int) (s6:Int) (s7:Int) (s8:Int) (s9:Int) (s10:Int) (s11:Int) (s12:BitVec 64) (s13:zG) (s14:Int) (s15:Int) (s16:Int) (s17:Int) (s18:Int) (s19:Int) (s20:Int) (s21:Int) (s22:Int) (s23:BitVec 64) (s24:List (List Int)) (s25:List (List Int)) (s26:List (List zk)) (s27:List zh) (s28:List (List Int)) (s29:List (List Int)) (s30:List (List zk)) (s31:List zh):YU (s1,s2,s3,s4,s5,s6,s7,s8,s9,s10,s11,s12,s13,s14,s15,s16,s17,s18,s19,s20,s21,s22,s23,s24,s25,s26,s27,s28,s29,s30,s31,()) =
 bif decide (s2<s15) then
 (zR YT (s1,s2,0,s3,s4,s5,s6,s7,s8,s9,s10,s11,s12,s13,s14,s15,s16,s17,s18,s19,s20,s21,s22,s23,([]:List Int),s24,s25,s26,s27,s28,s29,s30,s31,())).bind fun st=>match st with
  | .again _=>none
  | .brk y1 =>
  bif decide (((y1.2.2.2.2.2.2.2.2.2.2.2.2.2.2.2.2.2.2.2.2.2.2.2.1.length:Int))=0) then
   (zC y1.2.2.2.2.2.2.2.2.2.2.2.2.1).bind fun y2 =>
   (zR Zo (y1.1,y1.2.1,y2.1.tmod 8,y1.2.2.1,y1.2.2.2.1,y1.2.2.2.2.1,y1.2.2.2.2.2.1,y1.2.2.2.2.2.2.1,y1.2.2.2.2.2.2.2.1,y1.2.2.2.2.2.2.2.2.1,y1.2.2.2.2.2.2.2.2.2.1,y1.2.2.2.2.2.2.2.2.2.2.1,y1.2.2.2.2.2.2.2.2.2.2.2.1,y2.2.1,y1.2.2.2.2.2.2.2.2.2.2.2.2.2.1,y1.2.2.2.2.2.2.2.2.2.2.2.2.2.2.1,y1.2.2.2.2.2.2.2.2.2.2.2.2.2.2.2.1,y1.2.2.2.2.2.2.2.2.2.2.2.2.2.2.2.2.1,y1.2.2.2.2.2.2.2.2.2.2.2.2.2.2.2.2.2.1,y1.2.2.2.2.2.2.2.2.2.2.2.2.2.2.2.2.2.2.1,y1.2.2.2.2.2.2.2.2.2.2.2.2.2.2.2.2.2.2.2.1,y1.2.2.2.2.2.2.2.2.2.2.2.2.2.2.2.2.2.2.2.2.1,y1.2.2.2.2.2.2.2.2.2.2.2.2.2.2.2.2.2.2.2.2.2.1,y1.2.2.2.2.2.2.2.2.2.2.2.2.2.2.2.2.2.2.2.2.2.2.1,([0]:List Int),([]:List zk),y1.2.2.2.2.2.2.2.2.2.2.2.2.2.2.2.2.2.2.2.2.2.2.2.2.1,y1.2.2.2.2.2.2.2.2.2.2.2.2.2.2.2.2.2.2.2.2.2.2.2.2.2.1,y1.2.2.2.2.2.2.2.2.2.2.2.2.2.2.2.2.2.2.2.2.2.2.2.2.2.2.1,y1.2.2.2.2.2.2.2.2.2.2.2.2.2.2.2.2.2.2.2.2.2.2.2.2.2.2.2.1,y1.2.2.2.2.2.2.2.2.2.2.2.2.2.2.2.2.2.2.2.2.2.2.2.2.2.2.2.2.1,y1.2.2.2.2.2.2.2.2.2.2.2.2.2.2.2.2.2.2.2.2.2.2.2.2.2.2.2.2.2.1,y1.2.2.2.2.2.2.2.2.2.2.2.2.2.2.2.2.2.2.2.2.2.2.2.2.2.2.2.2.2.2.1,y1.2.2.2.2.2.2.2.2.2.2.2.2.2.2.2.2.2.2.2.2.2.2.2.2.2.2.2.2.2.2.2.1,())).bind fun st=>match st with
    | .again _=>none
    | .brk y3 =>
    (yh (y3.2.2.2.2.2.2.2.2.2.2.2.2.2.2.2.2.2.2.2.2.2.2.2.2.2.2.2.2.2.2.1++(([y3.2.2.2.2.2.2.2.2.2.2.2.2.2.2.2.2.2.2.2.2.2.2.2.1]:List (List Int))))).bind fun l4 =>
    (yh (y3.2.2.2.2.2.2.2.2.2.2.2.2.2.2.2.2.2.2.2.2.2.2.2.2.2.2.2.2.2.2.2.1++(([y3.2.2.2.2.2.2.2.2.2.2.2.2.2.2.2.2.2.2.2.2.2.2.2.2.1]:List (List zk))))).bind fun l5 =>
    some (.again (y3.1,w64 (y3.2.1+1),y3.2.2.1,y3.2.2.2.1,y3.2.2.2.2.1,y3.2.2.2.2.2.1,y3.2.2.2.2.2.2.1,y3.2.2.2.2.2.2.2.1,y3.2.2.2.2.2.2.2.2.1,y3.2.2.2.2.2.2.2.2.2.1,y3.2.2.2.2.2.2.2.2.2.2.1,y3.2.2.2.2.2.2.2.2.2.2.2.1,y3.2.2.2.2.2.2.2.2.2.2.2.2.1,y3.2.2.2.2.2.2.2.2.2.2.2.2.2.1,y3.2.2.2.2.2.2.2.2.2.2.2.2.2.2.1,y3.2.2.2.2.2.2.2.2.2.2.2.2.2.2.2.1,y3.2.2.2.2.2.2.2.2.2.2.2.2.2.2.2.2.1,y3.2.2.2.2.2.2.2.2.2.2.2.2.2.2.2.2.2.1,y3.2.2.2.2.2.2.2.2.2.2.2.2.2.2.2.2.2.2.1,y3.2.2.2.2.2.2.2.2.2.2.2.2.2.2.2.2.2.2.2.1,y3.2.2.2.2.2.2.2.2.2.2.2.2.2.2.2.2.2.2.2.2.1,y3.2.2.2.2.2.2.2.2.2.2.2.2.2.2.2.2.2.2.2.2.2.1,y3.2.2.2.2.2.2.2.2.2.2.2.2.2.2.2.2.2.2.2.2.2.2.1,y3.2.2.2.2.2.2.2.2.2.2.2.2.2.2.2.2.2.2.2.2.2.2.2.2.2.1,y3.2.2.2.2.2.2.2.2.2.2.2.2.2.2.2.2.2.2.2.2.2.2.2.2.2.2.1,y3.2.2.2.2.2.2.2.2.2.2.2.2.2.2.2.2.2.2.2.2.2.2.2.2.2.2.2.1,y3.2.2.2.2.2.2.2.2.2.2.2.2.2.2.2.2.2.2.2.2.2.2.2.2.2.2.2.2.1,y3.2.2.2.2.2.2.2.2.2.2.2.2.2.2.2.2.2.2.2.2.2.2.2.2.2.2.2.2.2.1,l4,l5,y3.2.2.2.2.2.2.2.2.2.2.2.2.2.2.2.2.2.2.2.2.2.2.2.2.2.2.2.2.2.2.2.2.1,()))
    | .ret y3 =>
    some (.ret (()))
  else
   (zC y1.2.2.2.2.2.2.2.2.2.2.2.2.1).bind fun y6 =>
   (zR Zo (y1.1,y1.2.1,y6.1.tmod 8,y1.2.2.1,y1.2.2.2.1,y1.2.2.2.2.1,y1.2.2.2.2.2.1,y1.2.2.2.2.2.2.1,y1.2.2.2.2.2.2.2.1,y1.2.2.2.2.2.2.2.2.1,y1.2.2.2.2.2.2.2.2.2.1,y1.2.2.2.2.2.2.2.2.2.2.1,y1.2.2.2.2.2.2.2.2.2.2.2.1,y6.2.1,y1.2.2.2.2.2.2.2.2.2.2.2.2.2.1,y1.2.2.2.2.2.2.2.2.2.2.2.2.2.2.1,y1.2.2.2.2.2.2.2.2.2.2.2.2.2.2.2.1,y1.2.2.2.2.2.2.2.2.2.2.2.2.2.2.2.2.1,y1.2.2.2.2.2.2.2.2.2.2.2.2.2.2.2.2.2.1,y1.2.2.2.2.2.2.2.2.2.2.2.2.2.2.2.2.2.2.1,y1.2.2.2.2.2.2.2.2.2.2.2.2.2.2.2.2.2.2.2.1,y1.2.2.2.2.2.2.2.2.2.2.2.2.2.2.2.2.2.2.2.2.1,y1.2.2.2.2.2.2.2.2.2.2.2.2.2.2.2.2.2.2.2.2.2.1,y1.2.2.2.2.2.2.2.2.2.2.2.2.2.2.2.2.2.2.2.2.2.2.1,y1.2.2.2.2.2.2.2.2.2.2.2.2.2.2.2.2.2.2.2.2.2.2.2.1,([]:List zk),y1.2.2.2.2.2.2.2.2.2.2.2.2.2.2.2.2.2.2.2.2.2.2.2.2.1,y1.2.2.2.2.2.2.2.2.2.2.2.2.2.2.2.2.2.2.2.2.2.2.2.2.2.1,y1.2.2.2.2.2.2.2.2.2.2.2.2.2.2.2.2.2.2.2.2.2.2.2.2.2.2.1,y1.2.2.2.2.2.2.2.2.2.2.2.2.2.2.2.2.2.2.2.2.2.2.2.2.2.2.2.1,y1.2.2.2.2.2.2.2.2.2.2.2.2.2.2.2.2.2.2.2.2.2.2.2.2.2.2.2.2.1,y1.2.2.2.2.2.2.2.2.2.2.2.2.2.2.2.2.2.2.2.2.2.2.2.2.2.2.2.2.2.1,y1.2.2.2.2.2.2.2.2.2.2.2.2.2.2.2.2.2.2.2.2.2.2.2.2.2.2.2.2.2.2.1,y1.2.2.2.2.2.2.2.2.2.2.2.2.2.2.2.2.2.2.2.2.2.2.2.2.2.2.2.2.2.2.2.1,())).bind fun st=>match st with
    | .again _=>none
    | .brk y7 =>
    (yh (y7.2.2.2.2.2.2.2.2.2.2.2.2.2.2.2.2.2.2.2.2.2.2.2.2.2.2.2.2.2.2.1++(([y7.2.2.2.2.2.2.2.2.2.2.2.2.2.2.2.2.2.2.2.2.2.2.2.1]:List (List Int))))).bind fun l8 =>
    (yh (y7.2.2.2.2.2.2.2.2.2.2.2.2.2.2.2.2.2.2.2.2.2.2.2.2.2.2.2.2.2.2.2.1++(([y7.2.2.2.2.2.2.2.2.2.2.2.2.2.2.2.2.2.2.2.2.2.2.2.2.1]:List (List zk))))).bind fun l9 =>
    some (.again (y7.1,w64 (y7.2.1+1),y7.2.2.1,y7.2.2.2.1,y7.2.2.2.2.1,y7.2.2.2.2.2.1,y7.2.2.2.2.2.2.1,y7.2.2.2.2.2.2.2.1,y7.2.2.2.2.2.2.2.2.1,y7.2.2.2.2.2.2.2.2.2.1,y7.2.2.2.2.2.2.2.2.2.2.1,y7.2.2.2.2.2.2.2.2.2.2.2.1,y7.2.2.2.2.2.2.2.2.2.2.2.2.1,y7.2.2.2.2.2.2.2.2.2.2.2.2.2.1,y7.2.2.2.2.2.2.2.2.2.2.2.2.2.2.1,y7.2.2.2.2.2.2.2.2.2.2.2.2.2.2.2.1,y7.2.2.2.2.2.2.2.2.2.2.2.2.2.2.2.2.1,y7.2.2.2.2.2.2.2.2.2.2.2.2.2.2.2.2.2.1,y7.2.2.2.2.2.2.2.2.2.2.2.2.2.2.2.2.2.2.1,y7.2.2.2.2.2.2.2.2.2.2.2.2.2.2.2.2.2.2.2.1,y7.2.2.2.2.2.2.2.2.2.2.2.2.2.2.2.2.2.2.2.2.1,y7.2.2.2.2.2.2.2.2.2.2.2.2.2.2.2.2.2.2.2.2.2.1,y7.2.2.2.2.2.2.2.2.2.2.2.2.2.2.2.2.2.2.2.2.2.2.1,y7.2.2.2.2.2.2.2.2.2.2.2.2.2.2.2.2.2.2.2.2.2.2.2.2.2.1,y7.2.2.2.2.2.2.2.2.2.2.2.2.2.2.2.2.2.2.2.2.2.2.2.2.2.2.1,y7.2.2.2.2.2.2.2.2.2.2.2.2.2.2.2.2.2.2.2.2.2.2.2.2.2.2.2.1,y7.2.2.2.2.2.2.2.2.2.2.2.2.2.2.2.2.2.2.2.2.2.2.2.2.2.2.2.2.1,y7.2.2.2.2.2.2.2.2.2.2.2.2.2.2.2.2.2.2.2.2.2.2.2.2.2.2.2.2.2.1,l8,l9,y7.2.2.2.2.2.2.2.2.2.2.2.2.2.2.2.2.2.2.2.2.2.2.2.2.2.2.2.2.2.2.2.2.1,()))
    | .ret y7 =>
    some (.ret (()))
  | .ret y1 =>
  some (.ret (()))
 else
 some (.brk (s3,s4,s5,s6,s7,s8,s9,s10,s11,s12,s14,s15,s16,s17,s18,s19,s20,s21,s22,s23,s24,s25,s26,s27,s28,s29,s30,s31,())):=by kernel_rfl
theorem zjU (s1:Int) (s2:Int) (s3:Int) (s4:Int) (s5:Int) (s6:Int) (s7:Int) (s8:Int) (s9:Int) (s10:Int) (s11:Int) (s12:Int) (s13:BitVec 64) (s14:zG) (s15:Int) (s16:Int) (s17:Int) (s18:Int) (s19:Int) (s20:Int) (s21:Int) (s22:Int) (s23:Int) (s24:BitVec 64) (s25:List Int) (s26:List (List Int)) (s27:List (List Int)) (s28:List (List zk)) (s29:List zh) (s30:List (List Int)) (s31:List (List Int)) (s32:List (List zk)) (s33:List zh):YT (s1,s2,s3,s4,s5,s6,s7,s8,s9,s10,s11,s12,s13,s14,s15,s16,s17,s18,s19,s20,s21,s22,s23,s24,s25,s26,s27,s28,s29,s30,s31,s32,s33,()) =
 (zC s14).bind fun y1 =>
 bif decide (s3<(w64 (1+(y1.1.tmod 3)))) then
 (zC y1.2.1).bind fun y2 =>
 bif decide ((w64 (s1+1))=0) then
  none
 else
  (yh (s25++(([(y2.1.tmod (w64 (s1+1)))]:List Int)))).bind fun l3 =>
  some (.again (s1,s2,w64 (s3+1),s4,s5,s6,s7,s8,s9,s10,s11,s12,s13,y2.2.1,s15,s16,s17,s18,s19,s20,s21,s22,s23,s24,l3,s26,s27,s28,s29,s30,s31,s32,s33,()))
 else
 some (.brk (s1,s2,s4,s5,s6,s7,s8,s9,s10,s11,s12,s13,y1.2.1,s15,s16,s17,s18,s19,s20,s21,s22,s23,s24,s25,s26,s27,s28,s29,s30,s31,s32,s33,())):=by kernel_rfl
theorem zjl (s1:Int) (s2:Int) (s3:Int) (s4:Int) (s5:Int) (s6:Int) (s7:Int) (s8:Int) (s9:Int) (s10:Int) (s11:Int) (s12:Int) (s13:BitVec 64) (s14:zG) (s15:Int) (s16:Int) (s17:Int) (s18:Int) (s19:Int) (s20:Int) (s21:Int) (s22:Int) (s23:Int) (s24:BitVec 64) (s25:List Int) (s26:List zk) (s27:List (List Int)) (s28:List (List Int)) (s29:List (List zk)) (s30:List zh) (s31:List (List Int)) (s32:List (List Int)) (s33:List (List zk)) (s34:List zh):Zo (s1,s2,s3,s4,s5,s6,s7,s8,s9,s10,s11,s12,s13,s14,s15,s16,s17,s18,s19,s20,s21,s22,s23,s24,s25,s26,s27,s28,s29,s30,s31,s32,s33,s34,()) =
 bif decide (0<s3) then
 (We ((s25.length:Int)) s23 s14).bind fun y1 =>
 (yh (s26++([y1.1]:List zk))).bind fun l2 =>
 some (.again (s1,s2,w64 (s3-1),s4,s5,s6,s7,s8,s9,s10,s11,s12,s13,y1.2.1,s15,s16,s17,s18,s19,s20,s21,s22,s23,s24,s25,l2,s27,s28,s29,s30,s31,s32,s33,s34,()))
 else
 some (.brk (s1,s2,s4,s5,s6,s7,s8,s9,s10,s11,s12,s13,s14,s15,s16,s17,s18,s19,s20,s21,s22,s23,s24,s25,s26,s27,s28,s29,s30,s31,s32,s33,s34,())):=by kernel_rfl
theorem zoa (a1:List (BitVec 8)):zbO a1 =
 (cut a1 0 (bif decide (90<((a1.length:Int))) then 90 else ((a1.length:Int)))).bind fun l1 =>
 (zC (zG.mk l1 0)).bind fun y2 =>
 (zC y2.2.1).bind fun y3 =>
 (zC y3.2.1).bind fun y4 =>
 (zC y4.2.1).bind fun y5 =>
 (zC y5.2.1).bind fun y6 =>
 (zC y6.2.1).bind fun y7 =>
 (zC y7.2.1).bind fun y8 =>
 (zC y8.2.1).bind fun y9 =>
 (zC y9.2.1).bind fun y10 =>
 (zC y10.2.1).bind fun y11 =>
 (zR Xu (w64 (1+(y10.1.tmod 6)),0,0,0,0,0,0,0,0,0,0,0#64,y11.2.1,w64 (1+(y2.1.tmod 3)),y3.1.tmod 3,w64 (1+(y4.1.tmod 3)),w64 (1+(y5.1.tmod 2)),w64 (1+(y6.1.tmod 3)),w64 ((w64 (1+(y10.1.tmod 6)))+(y11.1.tmod 4)),y7.1.tmod 4,y8.1.tmod 4,w64 (1+(y9.1.tmod 2)),0#64,([]:List (List Int)),([]:List (List Int)),([]:List (List zk)),([]:List zh),([]:List (List Int)),([]:List (List Int)),([]:List (List zk)),([]:List zh),())).bind fun st=>match st with
  | .again _=>none
  | .brk y12 =>
  (zC y12.2.2.2.2.2.2.2.2.2.2.2.1).bind fun y13 =>
  bif decide ((w64 (y12.1+1))=0) then
  none
  else
  (Z6 0#64 (y13.1.tmod (w64 (y12.1+1)))).bind fun y14 =>
  (zR YU (y12.1,0,y12.2.1,y12.2.2.1,y12.2.2.2.1,y12.2.2.2.2.1,y12.2.2.2.2.2.1,y12.2.2.2.2.2.2.1,y12.2.2.2.2.2.2.2.1,y12.2.2.2.2.2.2.2.2.1,y12.2.2.2.2.2.2.2.2.2.1,y12.2.2.2.2.2.2.2.2.2.2.1,y13.2.1,y12.2.2.2.2.2.2.2.2.2.2.2.2.1,y12.2.2.2.2.2.2.2.2.2.2.2.2.2.1,y12.2.2.2.2.2.2.2.2.2.2.2.2.2.2.1,y12.2.2.2.2.2.2.2.2.2.2.2.2.2.2.2.1,y12.2.2.2.2.2.2.2.2.2.2.2.2.2.2.2.2.1,y12.2.2.2.2.2.2.2.2.2.2.2.2.2.2.2.2.2.1,y12.2.2.2.2.2.2.2.2.2.2.2.2.2.2.2.2.2.2.1,y12.2.2.2.2.2.2.2.2.2.2.2.2.2.2.2.2.2.2.2.1,y12.2.2.2.2.2.2.2.2.2.2.2.2.2.2.2.2.2.2.2.2.1,y14.1,y12.2.2.2.2.2.2.2.2.2.2.2.2.2.2.2.2.2.2.2.2.2.2.1,y12.2.2.2.2.2.2.2.2.2.2.2.2.2.2.2.2.2.2.2.2.2.2.2.1,y12.2.2.2.2.2.2.2.2.2.2.2.2.2.2.2.2.2.2.2.2.2.2.2.2.1,y12.2.2.2.2.2.2.2.2.2.2.2.2.2.2.2.2.2.2.2.2.2.2.2.2.2.1,y12.2.2.2.2.2.2.2.2.2.2.2.2.2.2.2.2.2.2.2.2.2.2.2.2.2.2.1,y12.2.2.2.2.2.2.2.2.2.2.2.2.2.2.2.2.2.2.2.2.2.2.2.2.2.2.2.1,y12.2.2.2.2.2.2.2.2.2.2.2.2.2.2.2.2.2.2.2.2.2.2.2.2.2.2.2.2.1,y12.2.2.2.2.2.2.2.2.2.2.2.2.2.2.2.2.2.2.2.2.2.2.2.2.2.2.2.2.2.1,())).bind fun st=>match st with
   | .again _=>none
   | .brk y15 =>
   some (zb.mk y15.2.2.2.2.2.2.2.2.2.2.1 y15.2.2.2.2.2.2.2.2.2.2.2.1 y15.2.2.2.2.2.2.2.2.2.2.2.2.1 y15.2.2.2.2.2.2.2.2.2.2.2.2.2.1 y15.2.2.2.2.2.2.2.2.2.2.2.2.2.2.1 y15.2.2.2.2.2.2.2.2.2.2.2.2.2.2.2.1 y15.2.2.2.2.2.2.2.2.2.2.2.2.2.2.2.2.1 y15.2.2.2.2.2.2.2.2.2.2.2.2.2.2.2.2.2.1 (zr.mk y15.2.2.2.2.2.2.2.2.2.2.2.2.2.2.2.2.2.2.1 y15.2.2.2.2.2.2.2.2.2.2.2.2.2.2.2.2.2.2.2.2.2.2.2.2.1) y15.2.2.2.2.2.2.2.2.2.2.2.2.2.2.2.2.2.2.2.1 y15.2.2.2.2.2.2.2.2.2.2.2.2.2.2.2.2.2.2.2.2.2.2.2.2.2.1 y15.2.2.2.2.2.2.2.2.2.2.2.2.2.2.2.2.2.2.2.2.2.2.2.2.2.2.1 y15.2.2.2.2.2.2.2.2.2.2.2.2.2.2.2.2.2.2.2.2.2.2.2.2.2.2.2.1,())
   | .ret y15 =>
   none
  | .ret y12 =>
  none:=zw (by kernel_rfl)
theorem zvy (a1:zb):zmI a1 =
 (zes a1).bind fun y1 =>
 (XW a1.H y1.1).bind fun y2 =>
 some (y2.1,()):=zw (by kernel_rfl)
theorem zjT (s1:List (BitVec 8)) (s2:Int) (s3:Int) (s4:zb) (s5:List zh):VR (s1,s2,s3,s4,s5,()) =
 bif decide (s3<((s1.length:Int))) then
 bif decide (((s5.length:Int))<s2) then
  (idx s1 s3).bind fun x1 =>
  bif decide ((w64 ((w64 (1+s4.Workers))+s4.Mutators))=0) then
  none
  else
  bif decide (s4.Workers<(((x1.toNat:Int)).tmod (w64 ((w64 (1+s4.Workers))+s4.Mutators)))) then
   (zR vJ (s1,s2,s3,0,s4,s5,zh.mk 2 (w64 ((((x1.toNat:Int)).tmod (w64 ((w64 (1+s4.Workers))+s4.Mutators)))-s4.Workers)),())).bind fun st=>match st with
    | .again _=>none
    | .brk y2 =>
    some (.again (y2.1,y2.2.1,w64 (y2.2.2.1+1),y2.2.2.2.1,y2.2.2.2.2.1,()))
    | .ret y2 =>
    some (.ret (()))
  else
   bif decide (0<(((x1.toNat:Int)).tmod (w64 ((w64 (1+s4.Workers))+s4.Mutators)))) then
   (zR vJ (s1,s2,s3,0,s4,s5,zh.mk 1 (((x1.toNat:Int)).tmod (w64 ((w64 (1+s4.Workers))+s4.Mutators))),())).bind fun st=>match st with
    | .again _=>none
    | .brk y3 =>
    some (.again (y3.1,y3.2.1,w64 (y3.2.2.1+1),y3.2.2.2.1,y3.2.2.2.2.1,()))
    | .ret y3 =>
    some (.ret (()))
   else
   (zR vJ (s1,s2,s3,0,s4,s5,zh.mk 0 0,())).bind fun st=>match st with
    | .again _=>none
    | .brk y4 =>
    some (.again (y4.1,y4.2.1,w64 (y4.2.2.1+1),y4.2.2.2.1,y4.2.2.2.2.1,()))
    | .ret y4 =>
    some (.ret (()))
 else
  some (.brk (s5,()))
 else
 some (.brk (s5,())):=by kernel_rfl
theorem zit (s1:List (BitVec 8)) (s2:Int) (s3:Int) (s4:Int) (s5:zb) (s6:List zh) (s7:zh):vJ (s1,s2,s3,s4,s5,s6,s7,()) =
 (idx s1 s3).bind fun x1 =>
 bif decide (s4<=(w64 (((x1.toNat:Int)).tdiv 64))) then
 bif decide (((s6.length:Int))<s2) then
  (yh (s6++([s7]:List zh))).bind fun l2 =>
  some (.again (s1,s2,s3,w64 (s4+1),s5,l2,s7,()))
 else
  some (.brk (s1,s2,s3,s5,s6,()))
 else
 some (.brk (s1,s2,s3,s5,s6,())):=by kernel_rfl
theorem znq (a1:zb) (a2:List (BitVec 8)) (a3:Int):Vb a1 a2 a3 =
 (zR VR (a2,a3,0,a1,([]:List zh),())).bind fun st=>match st with
  | .again _=>none
  | .brk y1 =>
  some (y1.1,())
  | .ret y1 =>
  none:=zw (by kernel_rfl)
theorem ztU (a1:zo):zp9 a1 =
 some (a1.Marks&&& ~~~a1.Black,()):=zw (by kernel_rfl)
theorem WZ (s1:Bool) (s2:BitVec 64) (s3:Int) (s4:Int) (s5:za) (s6:List zh):vb (s1,s2,s3,s4,s5,s6,()) =
 bif decide (s4<s3) then
 (xx s6 s4).bind fun n1 =>
 (s6[n1]?).bind fun x2 =>
 (zcw s5 x2).bind fun y3 =>
 (zp9 y3.1.T).bind fun y4 =>
 (Yi y3.1).bind fun y5 =>
 (XW y3.1.H (y4.1|||y5.1)).bind fun y6 =>
 (zmx s2 (y3.1.T.Marks|||y6.1)).bind fun y7 =>
 bif !y7.1 then
  some (.ret (false,()))
 else
  some (.again (s1,s2,s3,w64 (s4+1),y3.1,s6,()))
 else
 some (.brk (s1,())):=by kernel_rfl
theorem zgL (a1:List (BitVec 8)) (a2:List (BitVec 8)):uo a1 a2 =
 (Uf).bind fun y1 =>
 bif !y1.1 then
 some (false,())
 else
 (zbO a1).bind fun y2 =>
 (zgh y2.1).bind fun y3 =>
 (zmI y2.1).bind fun y4 =>
 (Vb y2.1 a2 300).bind fun y5 =>
 (zR vb (y1.1,y4.1,(y5.1.length:Int),0,y3.1,y5.1,())).bind fun st=>match st with
  | .again _=>none
  | .brk y6 =>
  some (y6.1,())
  | .ret y6 =>
  some (y6.1,()):=zw (by kernel_rfl)
end Go.Pe.G
namespace Go.Pe.G
open Go.Pe
theorem zGJ:Go.Proofs.Tryz.prog.funcs[81]? =some Go.Proofs.Tryz.f81:=by kernel_rfl
theorem zFy:Go.Proofs.Tryz.f81.body.isSome=true:=by kernel_rfl
theorem zFL:Yo Go.Proofs.Tryz.prog 81=true:=by kernel_rfl
theorem zGH:Go.Proofs.Tryz.prog.funcs[92]? =some Go.Proofs.Tryz.f92:=by kernel_rfl
theorem zFt:Go.Proofs.Tryz.f92.body.isSome=true:=by kernel_rfl
theorem zFM:Yo Go.Proofs.Tryz.prog 92=true:=by kernel_rfl
theorem zGv:Go.Proofs.Tryz.prog.funcs[117]? =some Go.Proofs.Tryz.f117:=by kernel_rfl
theorem zEL:Go.Proofs.Tryz.f117.body.isSome=true:=by kernel_rfl
theorem zFb:Yo Go.Proofs.Tryz.prog 117=true:=by kernel_rfl
theorem zqs (ys:List Int) (s1:Int) (s2:Int) (s3:BitVec 64):zax ys (s1,s2,s3,()) =
 bif !(decide (s3=0#64)) then
 (qTZ s3).bind fun y1 =>
 (YC ys s2 (w64 (y1.1+1))).bind fun _ =>
 some (.again (s1,s2+1,s3&&&(s3-1#64),()))
 else
 some (.brk (s1,s2,())):=by kernel_rfl
theorem zs7 (n:Int) (ys:List Int) (a1:BitVec 64):zm1 (zbg ys) Go.Proofs.Tryz.f117 znx n ((a1,()):(BitVec 64)×Unit) =
 (zR (zax ys) (n,0,a1,())).bind fun st=>match st with
  | .again _=>none
  | .brk y1 =>
  some y1.2.1
  | .ret y1 =>
  some y1.2.1:=by kernel_rfl
theorem XU (ys:List (List Int)) (s1:Int) (s2:Int) (s3:Int) (s4:List Int) (s5:Int):ue ys (s1,s2,s3,s4,s5,()) =
 bif decide (s3<((s4.length:Int))) then
 (cut s4 s3 ((s4.length:Int))).bind fun l1 =>
 bif decide (s3=0)&&decide ((w64 (s3+(bif decide (((l1.length:Int))<s5) then ((l1.length:Int)) else s5)))=0)&&decide ((w64 (s3+(bif decide (((l1.length:Int))<s5) then ((l1.length:Int)) else s5)))=0) then
  (YC ys s2 ([]:List Int)).bind fun _ =>
  some (.again (s1,s2+1,w64 (s3+s5),s4,s5,()))
 else
  bif decide (s3=0)&&decide ((w64 (s3+(bif decide (((l1.length:Int))<s5) then ((l1.length:Int)) else s5)))=((s4.length:Int)))&&decide ((w64 (s3+(bif decide (((l1.length:Int))<s5) then ((l1.length:Int)) else s5)))=((s4.length:Int))) then
  (YC ys s2 s4).bind fun _ =>
  some (.again (s1,s2+1,w64 (s3+s5),s4,s5,()))
  else
  bif decide ((w64 (s3+(bif decide (((l1.length:Int))<s5) then ((l1.length:Int)) else s5)))=(w64 (s3+(bif decide (((l1.length:Int))<s5) then ((l1.length:Int)) else s5)))) then
   (cut s4 s3 (w64 (s3+(bif decide (((l1.length:Int))<s5) then ((l1.length:Int)) else s5)))).bind fun l2 =>
   (YC ys s2 l2).bind fun _ =>
   some (.again (s1,s2+1,w64 (s3+s5),s4,s5,()))
  else
   none
 else
 some (.brk (s1,s2,())):=by kernel_rfl
theorem zeC (n:Int) (ys:List (List Int)) (a1:List Int) (a2:Int):zm1 (uD ys) Go.Proofs.Tryz.f81 VM n ((a1,a2,()):(List Int)×Int×Unit) =
 (zR (ue ys) (n,0,0,a1,a2,())).bind fun st=>match st with
  | .again _=>none
  | .brk y1 =>
  some y1.2.1
  | .ret y1 =>
  some y1.2.1:=by kernel_rfl
theorem zhr (ys:List (List Int)) (s1:Int) (s2:Int) (s3:Int) (s4:Int) (s5:za):W3 ys (s1,s2,s3,s4,s5,()) =
 bif decide (s4<s3) then
 (Zi s5 (w64 (s4+1))).bind fun y1 =>
 (YC ys s2 y1.1).bind fun _ =>
 some (.again (s1,s2+1,s3,w64 (s4+1),s5,()))
 else
 some (.brk (s1,s2,s5,())):=by kernel_rfl
theorem zgA (ys:List (List Int)) (s1:Int) (s2:Int) (s3:Int) (s4:Int) (s5:za):zaE ys (s1,s2,s3,s4,s5,()) =
 bif decide (s4<s3) then
 (XT s5 (w64 (s4+1))).bind fun y1 =>
 (YC ys s2 y1.1).bind fun _ =>
 some (.again (s1,s2+1,s3,w64 (s4+1),s5,()))
 else
 some (.brk (s1,s2,())):=by kernel_rfl
theorem zuy (n:Int) (ys:List (List Int)) (a1:Int) (a2:Int) (a3:Int) (a4:Int) (a5:Int) (a6:Int) (a7:Int) (a8:Int) (a9:Int) (a10:List (List Int)) (a11:BitVec 64) (a12:List (List Int)) (a13:List (List zk)) (a14:List zh) (a15:Int) (a16:List (List Int)) (a17:List (BitVec 64)) (a18:List (List Int)) (a19:BitVec 64) (a20:BitVec 64) (a21:Int) (a22:Int) (a23:Bool) (a24:Bool) (a25:Int) (a26:List Int) (a27:Int) (a28:Int) (a29:Int) (a30:List Int) (a31:List zg) (a32:List zc) (a33:Int) (a34:Int):zm1 (Yn ys) Go.Proofs.Tryz.f92 zbq n ((a1,a2,a3,a4,a5,a6,a7,a8,a9,a10,a11,a12,a13,a14,a15,a16,a17,a18,a19,a20,a21,a22,a23,a24,a25,a26,a27,a28,a29,a30,a31,a32,a33,a34,()):Int×Int×Int×Int×Int×Int×Int×Int×Int×(List (List Int))×(BitVec 64)×(List (List Int))×(List (List zk))×(List zh)×Int×(List (List Int))×(List (BitVec 64))×(List (List Int))×(BitVec 64)×(BitVec 64)×Int×Int×Bool×Bool×Int×(List Int)×Int×Int×Int×(List Int)×(List zg)×(List zc)×Int×Int×Unit) =
 (ZX (za.mk (zb.mk a1 a2 a3 a4 a5 a6 a7 a8 (zr.mk a9 a10) a11 a12 a13 a14) (zr.mk a15 a16) a17 a18 (zo.mk a19 a20) a21 a22 a23 a24 a25 a26 (zn.mk a27 a28 a29 a30) a31 a32 (zy.mk a33 a34))).bind fun y1 =>
 (YC ys 0 y1.1).bind fun _ =>
 (zR (W3 ys) (n,0+1,(a31.length:Int),0,za.mk (zb.mk a1 a2 a3 a4 a5 a6 a7 a8 (zr.mk a9 a10) a11 a12 a13 a14) (zr.mk a15 a16) a17 a18 (zo.mk a19 a20) a21 a22 a23 a24 a25 a26 (zn.mk a27 a28 a29 a30) a31 a32 (zy.mk a33 a34),())).bind fun st=>match st with
  | .again _=>none
  | .brk y2 =>
  (zR (zaE ys) (y2.1,y2.2.1,(y2.2.2.1.Ms.length:Int),0,y2.2.2.1,())).bind fun st=>match st with
   | .again _=>none
   | .brk y3 =>
   some y3.2.1
   | .ret y3 =>
   some y3.2.1
  | .ret y2 =>
  some y2.2.1:=by kernel_rfl
end Go.Pe.G
namespace Go.Pe.G
open Go.Pe
theorem zgD {A B D:Type}(g:A->Option (yE A B D)) {o:yE Unit B D}:∀(k m:Nat) (x:A),xz g k x=some o->k<=m->xz g m x=some o
 | 0,m,x,h,_=>by cases h
 | k+1,0,x,h,hm=>by omega
 | k+1,m+1,x,h,hm=>by
  simp only [xz,zGZ] at h ⊢
  obtain ⟨s,h1,h2⟩:=h
  refine ⟨s,h1,?_⟩
  cases s with
  | again y=>exact zgD g k m y h2 (by omega)
  | brk b=>exact h2
  | ret c=>exact h2
theorem zg6 {α:Type}(pre post:List α) (z:α):YC (pre++z::post) (pre.length:Int) z=some ():=by
 unfold YC
 rw [if_pos]
 refine ⟨by omega,?_⟩
 simp
theorem zib (n:Int) (ys:List Int):∀(f:Nat) (s:BitVec 64) (l pre:List Int),VN f s=some l->ys=pre++l->xz (zax ys) f (n,(pre.length:Int),s,())=some (.brk (n,(ys.length:Int),()))
 | 0,s,l,pre,h,_=>by cases h
 | f+1,s,l,pre,h,e=>by
  simp only [VN] at h
  simp only [xz,zqs]
  cases hz:decide (s=0#64) with
  | true =>
   simp only [hz,cond_true,Option.some.injEq] at h
   subst h
   simp only [zGR] at e
   subst e
   rfl
  | false =>
   simp only [hz,cond_false,zG4] at h
   obtain ⟨l',h1,rfl⟩:=h
   have hn:YC ys (pre.length:Int) (w64 (tz s+1))=some ():=by rw [e];exact zg6 pre l' _
   simp only [Bool.not_false,cond_true,zFU,zGO,hn]
   have:=zib n ys f (s&&&(s-1#64)) l' (pre++[w64 (tz s+1)]) h1 (by rw [e];simp)
   simpa using this
theorem zsp (G:Nat->Prop) (W0:World) (hG:zqx G W0):YP Go.Proofs.Tryz.prog G W0 117 zaO:=by
 obtain ⟨c,hc⟩:=zIA.1 zEL
 refine zoB (Cg:=zbg []) rfl zp4 (fun f s hs=>Oks.at (.cons _ _ _ _ zFe (zB9 hG) (.skip _ _ .nil)) f s hs) rfl ztJ (fun g it h=>by cases h) zFb zGv hc zaO (zHu (by kernel_rfl)) rfl ?_
 rintro n ⟨a,⟨⟩⟩ ys h
 have h:VN 66 a=some ys:=h
 have e:=zs7 n ys a
 have k:=zgD _ 66 vQ _ (zib n ys 66 a ys [] h rfl) (by decide)
 refine Eq.trans e ?_
 have k':xz (zax ys) vQ (n,0,a,())=some (.brk (n,(ys.length:Int),())):=k
 rw [X4,k']
 rfl
theorem ztl {a:Int}(h: -9223372036854775808<=a) (h2:a<9223372036854775808):w64 a=a:=by
 rw [zqR]
 omega
theorem zde (n:Int) (ys:List (List Int)) (l:List Int) (sz:Nat) (h1:1<=sz) (h2:sz<1000000) (h3:l.length<1000000):∀(f p:Nat) (pre:List (List Int)),(l.drop p).length<=f->ys=pre++vz sz f (l.drop p)->p<2000000 ->
  xz (ue ys) (f+1) (n,(pre.length:Int),(p:Int),l,(sz:Int),())=some (.brk (n,(ys.length:Int),())):=by
 intro f
 induction f with
 | zero =>
  intro p pre hf e hp
  simp only [xz,XU]
  simp only [zH3] at hf
  have: ¬(p:Int)<(l.length:Int):=by omega
  simp only [this,decide_false,cond_false,zGO]
  simp only [vz,zGR] at e
  rw [e]
 | succ f ih =>
  intro p pre hf e hp
  rw [xz,XU]
  by_cases hlt:p<l.length
  ·have hlt':(p:Int)<(l.length:Int):=by omega
   have hcut:cut l (p:Int) (l.length:Int)=some (l.drop p):=by
    unfold cut
    have:(decide (0<=(p:Int))&&decide ((p:Int)<=(l.length:Int))&&decide ((l.length:Int)<=(l.length:Int)))=true:=by simp;omega
    simp only [this,cond_true]
    simp
   obtain ⟨x,r,hxr⟩:∃x r,l.drop p=x::r:=by
    cases hd:l.drop p with
    | nil=>have:=congrArg List.length hd;simp at this;omega
    | cons x r=>exact ⟨x,r,rfl⟩
   have hch:vz sz (f+1) (l.drop p)=(l.drop p).take sz::vz sz f (l.drop (p+sz)):=by
    rw [hxr];simp only [vz];rw [<-hxr,List.drop_drop]
   have hm:∃m:Nat,(bif decide (((l.drop p).length:Int)<(sz:Int)) then (((l.drop p).length:Int)) else (sz:Int))=(m:Int)/\m=min sz (l.length-p):=by
    simp only [zH3]
    by_cases hs:((l.length-p:Nat):Int)<(sz:Int)
    ·exact ⟨l.length-p,by simp only [hs,decide_true,cond_true],by omega⟩
    ·exact ⟨sz,by simp only [hs,decide_false,cond_false],by omega⟩
   obtain ⟨m,hm1,hm2⟩:=hm
   have hw:w64 ((p:Int)+(m:Int))=((p+m:Nat):Int):=by rw [ztl (by omega) (by omega)];omega
   have hw2:w64 ((p:Int)+(sz:Int))=((p+sz:Nat):Int):=by rw [ztl (by omega) (by omega)];omega
   have hne: ¬((p+m:Nat):Int)=0:=by omega
   simp only [hlt',decide_true,cond_true,hcut,zGO,hm1,hw,hw2,hne,decide_false,Bool.and_false,cond_false]
   have hn:YC ys (pre.length:Int) ((l.drop p).take sz)=some ():=by rw [e,hch];exact zg6 pre _ _
   have hcut2:cut l (p:Int) ((p+m:Nat):Int)=some ((l.drop p).take sz):=by
    unfold cut
    have:(decide (0<=(p:Int))&&decide ((p:Int)<=((p+m:Nat):Int))&&decide (((p+m:Nat):Int)<=(l.length:Int)))=true:=by simp;omega
    simp only [this,cond_true]
    refine congrArg some ?_
    simp only [zHv]
    rw [List.drop_take,Nat.add_sub_cancel_left,hm2]
    by_cases hs:sz<=l.length-p
    ·rw [Nat.min_eq_left hs]
    ·rw [Nat.min_eq_right (by omega),zIy (l:=l.drop p) (by simp),zIy (l:=l.drop p) (by simp;omega)]
   have hnext:=ih (p+sz) (pre++[(l.drop p).take sz]) (by simp only [zH3] at hf ⊢;omega) (by rw [e,hch];simp) (by omega)
   have hlen:((pre++[(l.drop p).take sz]).length:Int)=(pre.length:Int)+1:=by simp
   rw [hlen] at hnext
   cases hfull:(decide ((p:Int)=0)&&decide (((p+m:Nat):Int)=(l.length:Int))&&decide (((p+m:Nat):Int)=(l.length:Int))) with
   | true =>
    simp only [cond_true]
    have hl:l=(l.drop p).take sz:= ?_
    ·rw [<-hl] at hn
     rw [hn]
     exact hnext
    simp only [zGP,decide_eq_true_eq] at hfull
    obtain ⟨⟨hp0,hpl⟩,_⟩:=hfull
    have hp00:p=0:=by omega
    rw [hp00,List.drop_zero,zIy (by omega)]
   | false =>
    simp only [cond_false,hcut2,zGO,decide_true,cond_true]
    rw [hn]
    exact hnext
  ·have hnl: ¬(p:Int)<(l.length:Int):=by omega
   have hd:l.drop p=[]:=zIm (by omega)
   simp only [hnl,decide_false,cond_false,zGO]
   rw [hd] at e
   simp only [vz,zGR] at e
   rw [e]
theorem zdq (n:Int) (ys:List (List Int)) (l:List Int) (sz:Int) (h:zjR l sz=some ys):xz (ue ys) vQ (n,0,0,l,sz,())=some (.brk (n,(ys.length:Int),())):=by
 unfold zjR at h
 cases hc:(decide (1<=sz)&&decide (sz<1000000)&&decide ((l.length:Int)<1000000)) with
 | false=>simp [hc] at h
 | true =>
  simp only [hc,cond_true] at h
  injection h with h
  simp only [zGP,decide_eq_true_eq] at hc
  obtain ⟨⟨c1,c2⟩,c3⟩:=hc
  have k:=zgD _ (l.length+1) vQ _ (zde n ys l sz.toNat (by omega) (by omega) (by omega) l.length 0 [] (by simp) (by simpa using h.symm) (by omega)) (by unfold vQ;omega)
  have hs:((sz.toNat:Nat):Int)=sz:=by omega
  rw [hs] at k
  exact k
theorem zdQ (G:Nat->Prop) (W0:World) (hG:zqx G W0):YP Go.Proofs.Tryz.prog G W0 81 vA:=by
 obtain ⟨c,hc⟩:=zIA.1 zFy
 refine zoB (Cg:=uD []) rfl zp4 (fun f s hs=>Oks.at .nil f s hs) rfl ztJ (fun g it h=>by cases h) zFL zGJ hc vA (zHu (by kernel_rfl)) rfl (fun n x ys h=>?_)
 refine Eq.trans (zeC n ys x.1 x.2.1) ?_
 rw [X4,zdq n ys x.1 x.2.1 h]
 rfl
end Go.Pe.G
namespace Go.Pe.G
open Go.Pe Go.Proofs
theorem zA7 (bk off cap:Nat) (l:List Int) (w:World) (hH:Go.Sort.Holds (Value.int .i64) w bk off l.toArray) (hb:bk<w.heap.size) (hlen:l.length<4294967296) :
  Calls Tryz.prog 149 #[.slice (some ⟨bk,off,none⟩) l.length cap] w fun e w'=>e= .returned (.tuple #[])/\∃n os,w'=Go.Sort.grow (Go.Sort.putRow (Value.int .i64) (Go.Sort.ahead w n) bk off (wD l).toArray) os:=by
 have hsz:l.toArray.size=l.length:=by simp
 have hlog:Go.Sort.bitsLen l.length<4611686018427387904:=by
  unfold Go.Sort.bitsLen
  split
  ·omega
  ·rename_i h0
   have:=(Nat.log2_lt h0 (k:=32)).2 (by omega)
   omega
 have hdep:=Go.Sort.pdqDepth_le_59 Go.Sort.ltInt l.toArray 0 l.toArray.size (Go.Sort.bitsLen l.toArray.size) true true (by rw [hsz];omega)
 have hs:Go.Sort.pdq Go.Sort.ltInt l.toArray 0 l.toArray.size (Go.Sort.bitsLen l.toArray.size) true true=(wD l).toArray:=Go.Proofs.Any.sort_int_eqD l
 have hP:Calls Tryz.prog 193 #[.slice (some ⟨bk,off,none⟩) l.length cap,.int .i64 0,.int .i64 (l.length:Int),.int .i64 ((Go.Sort.bitsLen l.length:Nat):Int)] w fun e w'=>e= .returned (.tuple #[])/\∃n os,w'=Go.Sort.grow (Go.Sort.putRow (Value.int .i64) (Go.Sort.ahead w n) bk off (wD l).toArray) os:=by
  have hk:=Go.calls_of_every_depth fun D=>Go.Proofs.Any.pdqWalkInInt Go.Proofs.laysPd D 65 bk off cap 0 l.toArray.size (Go.Sort.bitsLen l.toArray.size) l.toArray w (by omega) hH hb (zHV _) (zGT _) (by rw [hsz];omega) (by rw [hsz];exact hlog) (Or.inl rfl)
  rw [hs,hsz] at hk
  exact hk
 have hL:Calls Tryz.prog 194 #[.int .u64 (l.length:Int)] w fun e w'=>e= .returned (.int .i64 ((Go.Sort.bitsLen l.length:Nat):Int))/\w'=w:=by
  have hk:=Go.calls_of_every_depth fun D=>Go.Proofs.AnyS.bits_LenIn Go.Proofs.laysLn D (l.length:Int) w (by omega) (by omega)
  rw [zHv,Go.Proofs.bitLen_eq _ (by omega)] at hk
  exact hk
 clear hH hdep hs hsz
 go_enter Tryz.func149,Tryz.ntmps149
 go_wp2_with (first
  | (go_at_call 194;refine hL.mono ?_;rintro e w' ⟨rfl,rfl⟩)
  | (go_at_call 193;refine hP.mono ?_;rintro e w' ⟨rfl,n,os,rfl⟩))
 go_end0
 exact ⟨rfl,n,os,rfl⟩
theorem zCu (a:Option Addr) (w:World):Calls Tryz.prog 149 #[.slice a 0 0] w fun e w'=>e= .returned (.tuple #[])/\w'=w:=by
 have hP:=Go.calls_of_every_depth fun D=>Go.Proofs.AnyS.pdqsort_int_none_in Go.Proofs.laysPd D a 0 w
 have hL:Calls Tryz.prog 194 #[.int .u64 0] w fun e w'=>e= .returned (.int .i64 0)/\w'=w:=Go.calls_of_every_depth fun D=>Go.Proofs.AnyS.bits_LenIn Go.Proofs.laysLn D 0 w (by omega) (by omega)
 go_enter Tryz.func149,Tryz.ntmps149
 go_wp2_with (first
  | (go_at_call 194;refine hL.mono ?_;rintro e w' ⟨rfl,rfl⟩)
  | (go_at_call 193;refine hP.mono ?_;rintro e w' ⟨rfl,rfl⟩))
 go_end0
 exact ⟨rfl,rfl⟩
noncomputable def zsL:zA E:=sp (cf [] [] [] [] [] []) Tryz.f148 ⟨[vL],[]⟩ ⟨[.own 0],[.row true (.int .i64)]⟩ [oL] [oL]
theorem zES (a:List Int):zsL.F (a,())=bif a.isEmpty then zjW (some (([]:List Int),())) ((yh (([]:List Int)++a)).bind fun l=>some (l,())) else (yh (([]:List Int)++a)).bind fun l=>some (l,()):=zw (by kernel_rfl)
theorem zEH {a:List Int}(h:a.length<4294967296):zsL.F (a,())=some (a,()):=by
 have hr:yh a=some a:=by rw [zsf,decide_eq_true h];rfl
 rw [zES,zG0,hr]
 cases a with
 | nil=>exact zcN _
 | cons x l=>rfl
theorem zBd {G:Nat->Prop}{W0:World}(hG:zqx G W0):XD Tryz.prog G W0 148 zsL :=
 zwA (C:=cf [] [] [] [] [] []) zp4 (zuv .nil) rfl (zxA .nil) ztJ Tryz.func148 (by kernel_rfl) (by kernel_rfl) (by kernel_rfl)
theorem zEP {w w':World}{A A' U U':Nat->Prop}{μ:Nat->Loc}{id:Nat}{v:Value}(h:zX E w A U μ (.own id) v) (hU:U' id):zX E w' A' U' μ (.own id) v:=by
 cases h with
 | own _ b off len cap _ hμ=>exact .own id b off len cap hU hμ
 | own0 _ a a2 _ hμ=>exact .own0 id a a2 hU hμ
theorem zDG {A1:Nat->Prop}{μ1:Nat->Loc}{l:List Int}{w1:World}{v1:Value}(S:zO A1 μ1 [Blk.row (E:=E) true (.int .i64) l] w1) (h0:zX E w1 (Av A1 μ1 [Blk.row (E:=E) true (.int .i64) l]) (Us [Blk.row (E:=E) true (.int .i64) l]) μ1 (.own 0) v1) (hlen:l.length<4294967296) :
  Calls Tryz.prog 149 #[v1] w1 fun e w2=>e= .returned (.tuple #[])/\zO A1 μ1 [Blk.row (E:=E) true (.int .i64) (wD l)] w2/\Adv (Lv μ1 [Blk.row (E:=E) true (.int .i64) l]) w1 (Lv μ1 [Blk.row (E:=E) true (.int .i64) (wD l)]) w2:=by
 have hok:=S.ok 0
 cases h0 with
 | own0 _ a1 a2 hU hμ =>
  have hl:l=[]:=by
   rcases hok with ⟨_,_,_,_,_,e1,_⟩ | ⟨e,_⟩
   ·have e1:μ1 0=_:=e1
    rw [hμ] at e1;cases e1
   ·exact e
  subst hl
  have e0:wD []=[]:=by unfold wD;simp
  refine (zCu a1 w1).mono ?_
  rintro e w' ⟨rfl,rfl⟩
  rw [e0]
  exact ⟨rfl,S,Adv.refl _ _⟩
 | own _ bk off len cap hU hμ =>
  obtain ⟨hA,hb⟩:=S.out 0 bk off len cap rfl hμ
  obtain ⟨cc,vs,t,rfl,e2,h1,h2,h3,h4⟩:∃(cc:Array Value) (vs:Nat->Value) (t:TypeId),len=l.length/\w1.heap[bk]? =some (.cells cc t (0,0))/\l.length<=cap/\off+cap*1<=cc.size /\
    (∀i,i<l.length->∀j u,(vs i).cells[j]? =some u->cc[off+i*1+j]? =some u)/\∀i (h:i<l.length),yc E w1 (Av A1 μ1 [Blk.row true (.int .i64) l]) (.int .i64) (vs i) l[i]:=by
   rcases hok with ⟨b',off',cap',cc,vs,e1,⟨t,f,e2,e3⟩,h1,h2,h3,h4⟩ | ⟨_,a,e⟩
   ·have e1:μ1 0=_:=e1
    rw [hμ] at e1
    injection e1 with q1 q2 q3 q4
    subst q1;subst q2;subst q4
    have e3:=e3 rfl
    subst e3
    exact ⟨cc,vs,t,q3,e2,h1,h2,h3,h4⟩
   ·have e:μ1 0=_:=e
    rw [hμ] at e;cases e
  have hcell:∀(j:Nat) (h:j<l.length),cc[off+j]? =some (.int .i64 l[j]):=fun j h=>by
   have r:=h4 j h
   have q:=h3 j h 0
   obtain ⟨z,hz⟩:∃z:Int,z=l[j]:=⟨_,rfl⟩
   rw [<-hz] at r ⊢
   generalize vs j=vj at r q
   cases r with
   | int k z =>
    have:=q _ rfl
    rw [zHJ,zHw] at this
    exact this
  have hsz:l.toArray.size=l.length:=by simp
  have hH:Go.Sort.Holds (Value.int .i64) w1 bk off l.toArray:=fun j hj=>by
   have hj:j<l.length:=by rw [<-hsz];exact hj
   refine ⟨?_,?_⟩
   ·unfold World.cell?
    rw [e2]
    show cc[off+j]? =some (Value.int .i64 l.toArray[j]!)
    rw [hcell j hj,getElem!_pos l.toArray j (by rw [hsz];exact hj)]
    rfl
   ·unfold World.frozen?
    rw [e2]
    simp
  refine (zA7 bk off cap l w1 hH hb hlen).mono ?_
  rintro e w' ⟨rfl,n,os,rfl⟩
  obtain ⟨hS,hAd⟩:=zBB S hμ hb e2 h1 h2 hcell n os
  exact ⟨rfl,hS,hAd⟩
theorem zoT {G:Nat->Prop}{W0:World}(hG:zqx G W0):XD Tryz.prog G W0 93 zqY:=by
 intro A0 μ w args x y wd S hr hy
 obtain ⟨l,⟨⟩⟩:=x
 have hy:znw l=some y:=hy
 unfold znw at hy
 cases hc:decide (l.length<4294967296) with
 | false=>rw [hc] at hy;cases hy
 | true =>
 rw [hc] at hy
 injection hy with hy
 subst hy
 have hlen:l.length<4294967296:=by simpa using hc
 have hcl:=zBd hG A0 μ w args (l,()) (l,()) wd S hr (zEH hlen)
 obtain ⟨v,rfl⟩:∃v,args= #[v]:=by
  have hl:=hr.1
  have hl:1=args.toList.length:=hl
  match ha:args.toList,hl with
  | [v],_=>exact ⟨v,by rw [<-Array.toArray_toList (xs:=args),ha]⟩
 go_enter Tryz.func93,Tryz.ntmps93
 have hout:∀ {vs:List Value}{A1:Nat->Prop}{μ1:Nat->Loc}{w1:World},zAC A0 μ (yp id zsL.inn (HL.toP zsL.inn.holes (l,()))).2 w zsL (zsL.go.to (l,())) vs A1 μ1 w1->∃v1,vs=[v1]/\zX E w1 (Av A1 μ1 [Blk.row (E:=E) true (.int .i64) l]) (Us [Blk.row (E:=E) true (.int .i64) l]) μ1 (.own 0) v1/\zO A1 μ1 [Blk.row (E:=E) true (.int .i64) l] w1:=fun {vs A1 μ1 w1} oc=>by
  have hl:=oc.rep.1
  have hl:1=vs.length:=hl
  match vs,hl,oc with
  | [v1],_,oc=>exact ⟨v1,rfl,oc.rep.2 0 (.own 0) v1 rfl rfl,oc.sim⟩
 go_wp2_with (first | (go_at_call 148;refine hcl.mono ?_;rintro e w1 ⟨vs,A1,μ1,rfl,oc⟩;obtain ⟨v1,rfl,h1,hS1⟩:=hout oc;have hso:=zDG hS1 h1 hlen) | (go_at_call 149;refine hso.mono ?_;rintro e w2 ⟨rfl,hS2,hAd2⟩))
 go_ret
 exact ⟨[v1],A1,μ1,rfl,hS2,RL.cons (zEP h1 rfl) RL.nil,oc.adv.trans hAd2,oc.up,fun b hb=>zHa (oc.low b hb) hAd2.size,fun j ws h=>by cases j<;>cases h⟩
end Go.Pe.G
namespace Go.Proofs
open Go.Shelf
def zua:Go.Shelf.Ren:={f:=fun k=>if k=6 then 111 else if k=10 then 100 else k,g:=fun k=>k,t:=fun k=>if k=0 then 0 else if k=3 then 3 else if k=4 then 4 else if k=22 then 38 else if k=23 then 3 else if k=25 then 109 else k}
theorem zFk:Bears Tryz.prog (zua.f 6) (SlBodyH.n6 zua):=Exists.intro ("slices.IndexFunc[[]int,int]") ⟨by kernel_rfl,by kernel_rfl⟩
theorem zEY:Bears Tryz.prog (zua.f 10) (SlBodyH.n10 zua):=Exists.intro ("slices.DeleteFunc[[]int,int]") ⟨by kernel_rfl,by kernel_rfl⟩
theorem zFI:SlLaysH.n10 Tryz.prog zua:=by
 constructor<;>first | exact zFk | exact zEY | kernel_rfl | (intro w;kernel_rfl)
def zlt:Go.Shelf.Ren:={f:=fun k=>if k=4 then 150 else k,g:=fun k=>k,t:=fun k=>if k=0 then 0 else if k=3 then 3 else if k=4 then 4 else if k=9 then 9 else if k=20 then 20 else if k=22 then 67 else if k=25 then 3 else k}
theorem zE3:Bears Tryz.prog (zlt.f 4) (Body8.n4 zlt):=Exists.intro ("slices.Grow[besom/bag.Bag,int]") ⟨by kernel_rfl,by kernel_rfl⟩
theorem zCx:Lays8.n4 Tryz.prog zlt:=by
 constructor<;>first | exact zE3 | kernel_rfl | (intro w;kernel_rfl)
end Go.Proofs
namespace Go.Pe.G
open Go.Pe Go.Proofs
theorem lv1 {μ:Nat->Loc}{l:List Int}{b:Nat}(h:Lv (E:=E) μ [.free,Blk.row true (.int .i64) l] b):∃off len cap,μ 1= .blk b off len cap:=by
 obtain ⟨id,off,len,cap,hl,hm⟩:=h
 match id with
 | 0=>cases hl
 | 1=>exact ⟨off,len,cap,hm⟩
 | id+2=>cases hl
theorem zGL {A0:Nat->Prop}{μ:Nat->Loc}{l:List Int}{w:World}{b off cap:Nat}{cc:Array Value}{t:TypeId}(h0:μ 1= .blk b off l.length cap) (hA: ¬A0 b) (e2:w.heap[b]? =some (.cells cc t (0,0))) (h1:l.length<=cap) (h2:off+cap<=cc.size)
  (hc:∀(i:Nat) (h:i<l.length),cc[off+i]? =some (.int .i64 l[i])):zO A0 μ [.free,Blk.row (E:=E) true (.int .i64) l] w:=by
 refine ⟨fun id=>?_,fun i j b o l c b' o' l' c' ne hi hj=>?_,fun id b' o l' c ho hm=>?_⟩
 ·match id with
  | 0=>exact trivial
  | 1 =>
   refine .inl ⟨b,off,cap,cc,fun i=>.int .i64 (l.getD i 0),h0,⟨t,(0,0),e2,fun _=>rfl⟩,h1,?_,fun i hi j u hu=>?_,fun i hi=>?_⟩
   ·show off+cap*1<=cc.size;omega
   ·have hi:i<l.length:=hi
    match j,hu with
    | 0,hu =>
     have hu:some (Value.int .i64 (l.getD i 0))=some u:=hu
     injection hu with hu
     subst hu
     show cc[off+i*1+0]? =_
     rw [zHJ,zHw,hc i hi,zGS,zGQ hi];rfl
    | j+1,hu=>cases hu
   ·have hi:i<l.length:=hi
    have e:l.getD i 0=l[i]:=by rw [zGS,zGQ hi];rfl
    show yc E _ _ (.int .i64) (.int .i64 (l.getD i 0)) l[i]
    rw [e]
    exact .int .i64 _
  | id+2=>exact trivial
 ·match i,j with
  | 0,_=>cases hi
  | 1,0=>cases hj
  | 1,1=>exact absurd rfl ne
  | 1,j+2=>cases hj
  | i+2,_=>cases hi
 ·match id with
  | 0=>cases ho
  | 1 =>
   have hm:μ 1=Loc.blk b' o l' c:=hm
   rw [h0] at hm
   injection hm with hm
   subst hm
   exact ⟨hA,(zHd.1 e2).1⟩
  | id+2=>cases ho
theorem zGs {A0:Nat->Prop}{μ:Nat->Loc}{w:World}{b cap:Nat}{cc:Array Value}{t:TypeId}(h0:μ 0= .blk b 0 0 cap) (hA: ¬A0 b) (e2:w.heap[b]? =some (.cells cc t (0,0))) (h2:cap<=cc.size):zO A0 μ [Blk.row (E:=E) true (.int .i64) []] w:=by
 refine ⟨fun id=>?_,fun i j b o l c b' o' l' c' ne hi hj=>?_,fun id b' o l' c ho hm=>?_⟩
 ·match id with
  | 0 =>
   refine .inl ⟨b,0,cap,cc,fun i=>.int .i64 0,h0,⟨t,(0,0),e2,fun _=>rfl⟩,zHV _,?_,fun i hi=>absurd hi (Nat.not_lt_zero _),fun i hi=>absurd hi (Nat.not_lt_zero _)⟩
   show 0+cap*1<=cc.size;omega
  | id+1=>exact trivial
 ·match i,j with
  | 0,0=>exact absurd rfl ne
  | 0,j+1=>cases hj
  | i+1,_=>cases hi
 ·match id with
  | 0 =>
   have hm:μ 0=Loc.blk b' o l' c:=hm
   rw [h0] at hm
   injection hm with hm
   subst hm
   exact ⟨hA,(zHd.1 e2).1⟩
  | id+1=>cases ho
theorem zGb {A0:Nat->Prop}{μ:Nat->Loc}{w:World}{a:Option Addr}(h0:μ 0= .none a):zO A0 μ [Blk.row (E:=E) true (.int .i64) []] w:=by
 refine ⟨fun id=>?_,fun i j b o l c b' o' l' c' ne hi hj=>?_,fun id b' o l' c ho hm=>?_⟩
 ·match id with
  | 0=>exact .inr ⟨rfl,a,h0⟩
  | id+1=>exact trivial
 ·match i,j with
  | 0,0=>exact absurd rfl ne
  | 0,j+1=>cases hj
  | i+1,_=>cases hi
 ·match id with
  | 0 =>
   have hm:μ 0=Loc.blk b' o l' c:=hm
   rw [h0] at hm;cases hm
  | id+1=>cases ho
theorem zFq {A0:Nat->Prop}{μ:Nat->Loc}{l:List Int}{w:World}(S:zO A0 μ [Blk.row (E:=E) true (.int .i64) l] w) {bk off len cap:Nat}(hμ:μ 0= .blk bk off len cap) :
  ¬A0 bk/\bk<w.heap.size/\len=l.length/\∃(cc:Array Value) (t:TypeId),w.heap[bk]? =some (.cells cc t (0,0))/\l.length<=cap/\off+cap<=cc.size/\∀(j:Nat) (h:j<l.length),cc[off+j]? =some (.int .i64 l[j]):=by
 obtain ⟨hA,hb⟩:=S.out 0 bk off len cap rfl hμ
 refine ⟨hA,hb,?_⟩
 rcases S.ok 0 with ⟨b',off',cap',cc,vs,e1,⟨t,f,e2,e3⟩,h1,h2,h3,h4⟩ | ⟨_,a,e⟩
 ·have e1:μ 0=_:=e1
  rw [hμ] at e1
  injection e1 with q1 q2 q3 q4
  subst q1;subst q2;subst q4
  have e3:=e3 rfl
  subst e3
  have h2:off+cap*1<=cc.size:=h2
  refine ⟨q3,cc,t,e2,h1,by omega,fun j h=>?_⟩
  have r:=h4 j h
  have q:=h3 j h 0
  obtain ⟨z,hz⟩:∃z:Int,z=l[j]:=⟨_,rfl⟩
  have r:yc E w _ (.int .i64) (vs j) l[j]:=r
  rw [<-hz] at r ⊢
  generalize vs j=vj at r q
  cases r with
  | int k z =>
   have:=q _ rfl
   have this:cc[off+j*1+0]? =_:=this
   rw [zHJ,zHw] at this
   exact this
 ·have e:μ 0=_:=e
  rw [hμ] at e;cases e
theorem zBP (W:World) (x:Int):Calls Tryz.prog 101 #[.int .i64 x] W fun e w'=>e= .returned (.bool (decide (x=0)))/\w'=W:=by
 go_enter Tryz.func101,Tryz.ntmps101
 go_wp2
 go_ret
 exact ⟨rfl,rfl⟩
theorem zrL {G:Nat->Prop}{W0:World}(hG:zqx G W0):XD Tryz.prog G W0 66 zxt:=by
 intro A0 μ w args x y wd S hr hy
 obtain ⟨l,⟨⟩⟩:=x
 have hy:zt7 l=some y:=hy
 unfold zt7 at hy
 cases hc:(decide (0<l.length)&&decide (l.length<4294967296)) with
 | false=>rw [hc] at hy;cases hy
 | true =>
 rw [hc] at hy
 injection hy with hy
 subst hy
 simp only [zGP,decide_eq_true_eq] at hc
 obtain ⟨hpos,hlen⟩:=hc
 obtain ⟨v,rfl,h0⟩:∃v,args= #[v]/\zX E w (Av A0 μ [Blk.row true (.int .i64) l]) (Us [Blk.row true (.int .i64) l]) μ (.own 0) v:=by
  have hl:=hr.1
  have hl:1=args.toList.length:=hl
  match ha:args.toList,hl with
  | [v],_=>exact ⟨v,by rw [<-Array.toArray_toList (xs:=args),ha],hr.2 0 (.own 0) v rfl (by rw [ha];rfl)⟩
 have S:zO A0 μ [Blk.row true (.int .i64) l] w:=S
 cases h0 with
 | own0 _ a1 a2 hU hμ =>
  exfalso
  rcases S.ok 0 with ⟨_,_,_,_,_,e1,_⟩ | ⟨e,_⟩
  ·have e1:μ 0=_:=e1
   rw [hμ] at e1;cases e1
  ·rw [e] at hpos;cases hpos
 | own _ bk off len cap hU hμ =>
  obtain ⟨hA,hb,rfl,cc,t,e2,h1,h2,hcell⟩:=zFq S hμ
  have hsz:l.toArray.size=l.length:=by simp
  have hH:Go.Sort.Holds (Value.int .i64) w bk off l.toArray:=fun j hj=>by
   have hj:j<l.length:=by rw [<-hsz];exact hj
   refine ⟨?_,?_⟩
   ·unfold World.cell?
    rw [e2]
    show cc[off+j]? =some (Value.int .i64 l.toArray[j]!)
    rw [hcell j hj,getElem!_pos l.toArray j (by rw [hsz];exact hj)]
    rfl
   ·unfold World.frozen?
    rw [e2]
    simp
  have fg:∀(W:World) (x:Int),FnGives Tryz.prog 101 #[] #[.int .i64 x] (.bool (decide (x=0))) W:=fun W x=>(zBP W x).mono (by rintro e w' ⟨rfl,rfl⟩;exact ⟨rfl,0,rfl⟩)
  have eg:∀args w,(callFunc 101 args).run Tryz.prog w= .ok (.enter 101 args) w:=enters_of Tryz.func101 (by kernel_rfl) rfl
  have hd:=AnyE.slices_DeleteFunc zFI (Value.int .i64) (fun _=>rfl) (fun x:Int=>decide (x=0)) 101 #[] eg 0 (fun w=>by kernel_rfl) bk off cap l.toArray w (fun W x _=>fg W x) (fun n os dk x _=>fg _ x) hH (by rw [hsz];omega) (by rw [hsz];exact h1)
  rw [hsz] at hd
  rw [show l.toArray.toList=l from rfl] at hd
  have hf:(l.filter fun x=> !decide (x=0)).length<=l.length:=zH7 _ _
  clear eg fg
  generalize hm:(l.filter fun x=> !decide (x=0))=m at hd hf ⊢
  have hd:Calls Tryz.prog 100 #[.slice (some ⟨bk,off,none⟩) l.length cap,.func (.func 101) #[] #[]] w fun e w'=>e= .returned (.slice (some ⟨bk,off,none⟩) m.length cap)/\∃q,w'=Go.Sort.putRow (Value.int .i64) (Go.Sort.ahead w q) bk off (m++List.replicate (l.length-m.length) 0).toArray:=hd
  go_enter Tryz.func66,Tryz.ntmps66
  go_wp2_with (go_at_call 100;refine hd.mono ?_;rintro e w' ⟨rfl,q,rfl⟩)
  go_ret
  have hheap:∀k,(Go.Sort.putRow (Value.int .i64) (Go.Sort.ahead w q) bk off (m++List.replicate (l.length-m.length) 0).toArray).heap[k]? =if bk=k then some (.cells (Go.Sort.putCells (Value.int .i64) off (m++List.replicate (l.length-m.length) 0).toArray cc) t (0,0)) else w.heap[k]? :=fun k=>by
   unfold Go.Sort.putRow Go.Sort.mapBlock Go.Sort.ahead
   dsimp only
   rw [Array.getElem?_modify]
   split
   ·rename_i h;subst h;rw [e2];rfl
   ·rfl
  have hput:∀(i:Nat) (h:i<m.length),(Go.Sort.putCells (Value.int .i64) off (m++List.replicate (l.length-m.length) 0).toArray cc)[off+i]? =some (.int .i64 m[i]):=fun i h=>by
   unfold Go.Sort.putCells
   rw [Array.getElem?_mapIdx,hcell i (by omega),zHH,if_pos ⟨by omega,by simp;omega⟩,show off+i-off=i by omega,getElem!_pos _ i (by simp;omega)]
   simp [zIC h]
  have hsize:(Go.Sort.putRow (Value.int .i64) (Go.Sort.ahead w q) bk off (m++List.replicate (l.length-m.length) 0).toArray).heap.size=w.heap.size:=by simp
  refine ⟨[.slice (some ⟨bk,off,none⟩) m.length cap],A0,fun id=>if id=1 then .blk bk off m.length cap else μ id,rfl,?_,RL.cons (.own 1 bk off m.length cap rfl rfl) RL.nil,⟨rfl,rfl,rfl,by rw [hsize];exact zGT _,fun b hb2 hn=>?_,fun b _ h=>?_⟩,fun _ h=>h,fun b h=>by rw [hsize];exact wd.low b h,fun j ws h=>by
   cases j with
   | zero=>cases h
   | succ j=>cases h⟩
  ·show zO A0 _ [.free,Blk.row true (.int .i64) m] _
   have hmc:m.length<=cap:=zHQ hf h1
   refine zGL (b:=bk) (off:=off) (cap:=cap) (t:=t) rfl hA (by rw [hheap,if_pos rfl]) hmc ?_ hput
   unfold Go.Sort.putCells
   rw [Array.size_mapIdx];exact h2
  ·rw [hheap,if_neg]
   rintro rfl
   exact hn ⟨0,off,l.length,cap,rfl,hμ⟩
  ·obtain ⟨o,n,c,e⟩:=lv1 h
   have e:Loc.blk bk off m.length cap= .blk b o n c:=e
   injection e with e
   subst e
   exact ⟨0,off,l.length,cap,rfl,hμ⟩
theorem zBc (a:Option Addr) (k:Nat) (w:World) (h0:0<k) (hk:k<4294967296):Calls Tryz.prog 150 #[.slice a 0 0,.int .i64 (k:Int)] w fun e w'=>∃(G:Nat) (cc:Array Value) (t:TypeId),G<=cc.size/\e= .returned (.slice (some ⟨w.heap.size,0,none⟩) 0 G)/\w'=w.drew.alloc (.cells cc t):=by
 obtain ⟨i0,hi⟩:=zIA.1 (show (Tryz.prog.info? (zlt.t 25)).isSome=true by kernel_rfl)
 have h2:(Tryz.prog.info? (zlt.t 25)).map TypeInfo.size=some 1:=by kernel_rfl
 have h3:(Tryz.prog.info? (zlt.t 25)).map TypeInfo.bytes=some 8:=by kernel_rfl
 have h4:(Tryz.prog.info? (zlt.t 25)).map TypeInfo.zero=some (some (.int .i64 0)):=by kernel_rfl
 rw [hi] at h2 h3 h4
 simp only [zHH,Option.some.injEq] at h2 h3 h4
 have hd:=Any8.slices_Grow_grow zCx i0 (.int .i64 0) hi h4 (by rw [h2];decide) a 0 0 k [] w (zGT _) (by omega) (by rw [h3];omega) (by omega) (by simp) (fun _=>rfl) (fun b _ j v h=>by cases h)
 refine hd.mono ?_
 rintro e w' ⟨rfl,rfl⟩
 refine ⟨_,_,_,?_,rfl,rfl⟩
 have hg:=grownCap_ge w (0+k) 0 (zlt.t 25)
 have z1:(Value.int IntKind.i64 0).cells.size=1:=rfl
 simp only [Array.size_append,Builtin.zeroCells,Array.size_map,Array.size_range,z1]
 simp
 omega
theorem zzs {G:Nat->Prop}{W0:World}(hG:zqx G W0):XD Tryz.prog G W0 150 zAS:=by
 intro A0 μ w args x y wd S hr hy
 obtain ⟨n,⟨⟩⟩:=x
 have hy:zt0 n=some y:=hy
 unfold zt0 at hy
 cases hc:(decide (0<=n)&&decide (n<4294967296)) with
 | false=>rw [hc] at hy;cases hy
 | true =>
 rw [hc] at hy
 injection hy with hy
 subst hy
 simp only [zGP,decide_eq_true_eq] at hc
 obtain ⟨hn0,hn1⟩:=hc
 obtain ⟨k,hk0⟩:=Int.eq_ofNat_of_zero_le hn0
 have hk1:k<4294967296:=by
  have h: @Eq Int n (k:Int):=hk0
  have h2: @LT.lt Int _ n (4294967296:Int):=hn1
  omega
 subst hk0
 obtain ⟨a,rfl⟩:∃a,args= #[.slice a 0 0,.int .i64 (k:Int)]:=by
  have hl:=hr.1
  have hl:2=args.toList.length:=hl
  match ha:args.toList,hl with
  | [v,v1],_ =>
   have h0:=hr.2 0 .nils v rfl (by rw [ha];rfl)
   have h1:=hr.2 1 (.v (.int .i64) (k:Int)) v1 rfl (by rw [ha];rfl)
   have e1:v1= .int .i64 (k:Int):=by
    cases h1 with
    | v _ _ _ h=>cases h with
     | int k z=>rfl
   subst e1
   cases h0 with
   | nils a=>exact ⟨a,by rw [<-Array.toArray_toList (xs:=args),ha]⟩
 have S:zO A0 μ ([]:List (Blk E)) w:=S
 by_cases hk:k=0
 ·subst hk
  refine (Any8.slices_Grow_room zCx a 0 0 0 w (zGT _) (by omega) (by omega) (by omega)).mono ?_
  rintro e w' ⟨rfl,rfl⟩
  refine ⟨[.slice a 0 0],A0,fun _=>.none a,rfl,zGb rfl,RL.cons (.own0 0 a a rfl rfl) RL.nil,⟨rfl,rfl,rfl,zGT _,fun b _ _=>rfl,fun b _ h=>?_⟩,fun _ h=>h,wd.low,fun j ws h=>by cases h⟩
  obtain ⟨id,off,len,cap,_,hm⟩:=h
  cases hm
 ·refine (zBc a k w (by omega) hk1).mono ?_
  rintro e w' ⟨N,cc,t,hN,rfl,rfl⟩
  have hat:(w.drew.alloc (.cells cc t)).heap[w.heap.size]? =some (.cells cc t (0,0)):=by
   show (w.heap.push _)[w.heap.size]? =_
   simp
  have hold:∀b,b<w.heap.size->(w.drew.alloc (.cells cc t)).heap[b]? =w.heap[b]? :=fun b hb=>by
   show (w.heap.push _)[b]? =_
   rw [zIl,if_neg (by omega)]
  have hsz:(w.drew.alloc (.cells cc t)).heap.size=w.heap.size+1:=by simp
  refine ⟨[.slice (some ⟨w.heap.size,0,none⟩) 0 N],A0,fun _=>.blk w.heap.size 0 0 N,rfl,zGs rfl (fun h=>by have:=wd.low _ h;omega) hat hN,RL.cons (.own 0 w.heap.size 0 0 N rfl rfl) RL.nil,⟨rfl,rfl,rfl,by rw [hsz];omega,fun b hb _=>hold b hb,fun b hb h=>?_⟩,fun _ h=>h,fun b h=>by have:=wd.low b h;rw [hsz];omega,fun j ws h=>by cases h⟩
  obtain ⟨id,off,len,cap,_,hm⟩:=h
  injection hm with hm
  omega
theorem zwt (n:Int) (s:za) (ys:List (List Int)) (hs:s.Ws.length<1000000):∀(f i:Nat) (l pre:List (List Int)),i+f=s.Ws.length->zvc s f (i:Int)=some l->(∃post,ys=pre++l++post) ->
  xz (W3 ys) (f+1) (n,(pre.length:Int),(s.Ws.length:Int),(i:Int),s,())=some (.brk (n,((pre++l).length:Int),s,()))
 | 0,i,l,pre,hi,h,e=>by
  injection h with h
  subst h
  rw [xz,zhr,show decide ((i:Int)<(s.Ws.length:Int))=false by rw [decide_eq_false_iff_not];omega]
  simp
 | f+1,i,l,pre,hi,h,⟨post,e⟩=>by
  simp only [zvc,zGZ] at h
  obtain ⟨a,h1,l',h2,h3⟩:=h
  injection h3 with h3
  subst h3
  have ei:w64 ((i:Int)+1)=((i+1:Nat):Int):=by rw [ztl (by omega) (by omega)];omega
  have hn:YC ys (pre.length:Int) a.1=some ():=by rw [e,zGV];exact zg6 pre (l'++post) _
  rw [xz,zhr,show decide ((i:Int)<(s.Ws.length:Int))=true by rw [decide_eq_true_eq];omega,ei,show ((i+1:Nat):Int)=(i:Int)+1 by omega,h1]
  simp only [cond_true,zGO,hn]
  have:=zwt n s ys hs f (i+1) l' (pre++[a.1]) (by omega) (by rw [show ((i+1:Nat):Int)=(i:Int)+1 by omega];exact h2) ⟨post,by rw [e];simp⟩
  simpa using this
theorem zwL (n:Int) (s:za) (ys:List (List Int)) (hs:s.Ms.length<1000000):∀(f i:Nat) (l pre:List (List Int)),i+f=s.Ms.length->zvK s f (i:Int)=some l->(∃post,ys=pre++l++post) ->
  xz (zaE ys) (f+1) (n,(pre.length:Int),(s.Ms.length:Int),(i:Int),s,())=some (.brk (n,((pre++l).length:Int),()))
 | 0,i,l,pre,hi,h,e=>by
  injection h with h
  subst h
  rw [xz,zgA,show decide ((i:Int)<(s.Ms.length:Int))=false by rw [decide_eq_false_iff_not];omega]
  simp
 | f+1,i,l,pre,hi,h,⟨post,e⟩=>by
  simp only [zvK,zGZ] at h
  obtain ⟨a,h1,l',h2,h3⟩:=h
  injection h3 with h3
  subst h3
  have ei:w64 ((i:Int)+1)=((i+1:Nat):Int):=by rw [ztl (by omega) (by omega)];omega
  have hn:YC ys (pre.length:Int) a.1=some ():=by rw [e,zGV];exact zg6 pre (l'++post) _
  rw [xz,zgA,show decide ((i:Int)<(s.Ms.length:Int))=true by rw [decide_eq_true_eq];omega,ei,show ((i+1:Nat):Int)=(i:Int)+1 by omega,h1]
  simp only [cond_true,zGO,hn]
  have:=zwL n s ys hs f (i+1) l' (pre++[a.1]) (by omega) (by rw [show ((i+1:Nat):Int)=(i:Int)+1 by omega];exact h2) ⟨post,by rw [e];simp⟩
  simpa using this
theorem zrS (n:Int) (x:HL E.T zbq.holes) (ys:List (List Int)) (h:za7.F x=some ys):zm1 (Yn ys) Tryz.f92 zbq n x=some (ys.length:Int):=by
 obtain ⟨a1,a2,a3,a4,a5,a6,a7,a8,a9,a10,a11,a12,a13,a14,a15,a16,a17,a18,a19,a20,a21,a22,a23,a24,a25,a26,a27,a28,a29,a30,a31,a32,a33,a34,⟨⟩⟩:=x
 refine Eq.trans (zuy n ys a1 a2 a3 a4 a5 a6 a7 a8 a9 a10 a11 a12 a13 a14 a15 a16 a17 a18 a19 a20 a21 a22 a23 a24 a25 a26 a27 a28 a29 a30 a31 a32 a33 a34) ?_
 have h:ztM (za.mk (zb.mk a1 a2 a3 a4 a5 a6 a7 a8 (zr.mk a9 a10) a11 a12 a13 a14) (zr.mk a15 a16) a17 a18 (zo.mk a19 a20) a21 a22 a23 a24 a25 a26 (zn.mk a27 a28 a29 a30) a31 a32 (zy.mk a33 a34))=some ys:=h
 show ((ZX (za.mk (zb.mk a1 a2 a3 a4 a5 a6 a7 a8 (zr.mk a9 a10) a11 a12 a13 a14) (zr.mk a15 a16) a17 a18 (zo.mk a19 a20) a21 a22 a23 a24 a25 a26 (zn.mk a27 a28 a29 a30) a31 a32 (zy.mk a33 a34))).bind fun y1=>(YC ys 0 y1.1).bind fun _ =>
  (zR (W3 ys) (n,0+1,((za.mk (zb.mk a1 a2 a3 a4 a5 a6 a7 a8 (zr.mk a9 a10) a11 a12 a13 a14) (zr.mk a15 a16) a17 a18 (zo.mk a19 a20) a21 a22 a23 a24 a25 a26 (zn.mk a27 a28 a29 a30) a31 a32 (zy.mk a33 a34)).Ws.length:Int),0,za.mk (zb.mk a1 a2 a3 a4 a5 a6 a7 a8 (zr.mk a9 a10) a11 a12 a13 a14) (zr.mk a15 a16) a17 a18 (zo.mk a19 a20) a21 a22 a23 a24 a25 a26 (zn.mk a27 a28 a29 a30) a31 a32 (zy.mk a33 a34),())).bind _)=_
 generalize za.mk (zb.mk a1 a2 a3 a4 a5 a6 a7 a8 (zr.mk a9 a10) a11 a12 a13 a14) (zr.mk a15 a16) a17 a18 (zo.mk a19 a20) a21 a22 a23 a24 a25 a26 (zn.mk a27 a28 a29 a30) a31 a32 (zy.mk a33 a34)=s at h ⊢
 unfold ztM at h
 cases hc:(decide (s.Ws.length<1000000)&&decide (s.Ms.length<1000000)) with
 | false=>rw [hc] at h;cases h
 | true =>
 rw [hc,cond_true] at h
 simp only [zGP,decide_eq_true_eq] at hc
 simp only [zGZ] at h
 obtain ⟨a,e1,b,e2,c,e3,e4⟩:=h
 injection e4 with e4
 have k2:=zgD _ _ vQ _ (zwt n s ys hc.1 s.Ws.length 0 b [a.1] (by omega) e2 ⟨c,by rw [<-e4];simp⟩) (by unfold vQ;omega)
 have k7:=zgD _ _ vQ _ (zwL n s ys hc.2 s.Ms.length 0 c (a.1::b) (by omega) e3 ⟨[],by rw [<-e4];simp⟩) (by unfold vQ;omega)
 have k2:xz (W3 ys) vQ (n,0+1,(s.Ws.length:Int),0,s,())=some (.brk (n,(((a.1::b).length:Nat):Int),s,())):=k2
 have k7:xz (zaE ys) vQ (n,(((a.1::b).length:Nat):Int),(s.Ms.length:Int),0,s,())=some (.brk (n,(((a.1::b)++c).length:Int),())):=k7
 have hn:YC ys 0 a.1=some ():=by rw [<-e4];exact zg6 [] (b++c) _
 rw [e1,zGO,hn,zGO,X4,k2,zGO]
 dsimp only
 rw [X4,k7,zGO]
 dsimp only
 rw [<-e4];rfl
end Go.Pe.G
namespace Go.Pe.G
open Go.Pe
theorem k2 {G:Nat->Prop}{W0:World}{f:Nat}{s:zA E}{ss r} (hs:XD Go.Proofs.Tryz.prog G W0 f s) (h:Oks Go.Proofs.Tryz.prog G W0 ((f,ss)::r)) (hc:Yo Go.Proofs.Tryz.prog f=true:=by kernel_rfl):Oks Go.Proofs.Tryz.prog G W0 ((f,s::ss)::r):= .cons _ _ _ _ hc hs h
theorem k1 {G:Nat->Prop}{W0:World}{f:Nat}{s:zA E}{r} (hs:XD Go.Proofs.Tryz.prog G W0 f s) (h:Oks Go.Proofs.Tryz.prog G W0 r) (hc:Yo Go.Proofs.Tryz.prog f=true:=by kernel_rfl):Oks Go.Proofs.Tryz.prog G W0 ((f,[s])::r):= .cons _ _ _ _ hc hs (.skip _ _ h)
abbrev Sd (G:Nat->Prop) (W0:World):=XD (E:=E) Go.Proofs.Tryz.prog G W0
theorem gs {G:Nat->Prop}{W0:World}{l:List (Nat×List (zA E))}{loops mv kept pk its} {f:FuncId}{fn:Func}{inn out:xH}{gi go:List Grp}{hi:ZE E gi=inn.holes} {ho:ZE E go=out.holes} (h:Oks Go.Proofs.Tryz.prog G W0 l) (h2:Its Go.Proofs.Tryz.prog G W0 its) (hf:Go.Proofs.Tryz.prog.funcs[f]? =some fn:=by kernel_rfl) (hb:fn.body.isSome=true:=by kernel_rfl)
  (hk:(cf l loops mv kept pk its).kept=ziF inn.blks 0:=by kernel_rfl) (hn:Nat.ble inn.vals.length fn.ntmps=true:=by kernel_rfl):XD Go.Proofs.Tryz.prog G W0 f (sp (cf l loops mv kept pk its) fn inn out gi go hi ho):=zwA (C:=cf l loops mv kept pk its) zp4 (zuv h) rfl (zxA h2) ztJ hf hb hk hn
variable {G:Nat->Prop}{W0:World}(hG:zqx G W0)
include hG
theorem zic:Sd G W0 10 zgc:=gs .nil .nil
theorem zaf:Sd G W0 74 UT:=gs .nil .nil
theorem zkW:Sd G W0 72 zbM:=gs (k1 (zaf hG) .nil) .nil
theorem zme:Sd G W0 109 zcI:=gs .nil .nil
theorem Xn:Sd G W0 111 wx:=gs (k1 (zme hG) .nil) .nil
theorem YI:Sd G W0 76 xV:=gs (k1 (Xn hG) .nil) .nil
theorem zot:Sd G W0 108 zfI:=gs (k1 (YI hG) .nil) .nil
theorem Xj:Sd G W0 156 wz:=gs (k1 (zot hG) .nil) .nil
theorem YM:Sd G W0 110 xX:=gs (k1 (Xj hG) .nil) .nil
theorem zhj:Sd G W0 73 zd6:=gs (k1 (YM hG) .nil) .nil
theorem zia:Sd G W0 75 zf1:=gs .nil .nil
theorem zoi:Sd G W0 77 zeV:=gs (k1 (zaf hG) .nil) .nil
theorem XR:Sd G W0 111 wM:=gs (k1 (zoi hG) .nil) .nil
theorem Xg:Sd G W0 76 wi:=gs (k1 (XR hG) .nil) .nil
theorem znP:Sd G W0 158 zfv:=gs .nil .nil
theorem zpm:Sd G W0 114 zjm:=gs (k1 (znP hG) .nil) .nil
theorem zo0:Sd G W0 113 zht:=gs (k1 (zpm hG) .nil) .nil
theorem Yh:Sd G W0 157 xJ:=gs (k1 (zo0 hG) .nil) .nil
theorem Z3:Sd G W0 112 xA:=gs (k1 (Yh hG) .nil) .nil
theorem zrn:Sd G W0 78 zl7:=gs (k1 (Z3 hG) .nil) .nil
theorem zgU:Sd G W0 49 zel:=gs .nil .nil
theorem znQ:Sd G W0 116 zfo:=gs (k1 (zgU hG) .nil) .nil
theorem ZJ:Sd G W0 159 xr:=gs (k1 (znQ hG) .nil) .nil
theorem Zk:Sd G W0 115 xh:=gs (k1 (ZJ hG) .nil) .nil
theorem zpj:Sd G W0 79 zj5:=gs (k1 (Zk hG) .nil) .nil
theorem zqn:Sd G W0 29 zjv:=gs (k1 (zic hG) (k1 (zkW hG) (k1 (zhj hG) (k1 (zaf hG) (k1 (zia hG) (k1 (Xg hG) (k1 (zrn hG) (k1 (zpj hG) .nil)))))))) .nil
theorem zlH:Sd G W0 71 zlU:=gs .nil .nil
theorem YS:Sd G W0 27 Um:=gs (k1 (zlH hG) .nil) .nil
theorem ze5:Sd G W0 55 zjg:=gs (k1 (YS hG) .nil) .nil
theorem zhp:Sd G W0 30 zdE:=gs (k1 (ze5 hG) .nil) .nil
theorem zjB:Sd G W0 80 za0:=gs .nil .nil
theorem zrw:Sd G W0 31 zmN:=gs (k1 (zjB hG) .nil) .nil
theorem zpB:Sd G W0 32 zkv:=gs .nil .nil
theorem yN:Sd G W0 34 yT:=gs .nil .nil
theorem X5:Sd G W0 33 wO:=gs (k1 (yN hG) .nil) .nil
theorem zo9:Sd G W0 35 zhM:=gs .nil .nil
theorem zac:Sd G W0 36 UX:=gs .nil .nil
theorem Ye:Sd G W0 37 Xh:=gs .nil .nil
theorem zq3:Sd G W0 38 zmf:=gs .nil .nil
theorem zeJ:Sd G W0 39 WR:=gs .nil .nil
theorem zr5:Sd G W0 82 zoE:=gs .nil .nil
theorem ztH:YP Go.Proofs.Tryz.prog G W0 117 zaO:=zsp G W0 hG
theorem zjS:Sd G W0 40 ziH:=gs (k1 (zr5 hG) .nil) (.cons _ _ _ (ztH hG) (.nil))
theorem zsh:Sd G W0 151 zn1:=gs .nil .nil
theorem zr7:Sd G W0 152 znR:=gs .nil .nil
theorem zr4:Sd G W0 153 zol:=gs .nil .nil
theorem zrZ:Sd G W0 154 znZ:=gs .nil .nil
theorem zbp:Sd G W0 155 Z8:=gs .nil .nil
theorem Yk:Sd G W0 99 UB:=gs (k1 (zsh hG) (k1 (zr7 hG) (k1 (zr4 hG) (k1 (zrZ hG) (k1 (zbp hG) .nil))))) .nil
theorem zeP:Sd G W0 83 zcu:=gs (k1 (Yk hG) .nil) .nil
theorem zgI:Sd G W0 84 zdw:=gs .nil .nil
theorem zrl:Sd G W0 41 zl9:=gs (k1 (zeP hG) (k1 (zgI hG) .nil)) .nil
theorem Zx:Sd G W0 42 YN:=gs .nil .nil
theorem Yf:Sd G W0 44 Xa:=gs (k1 (Zx hG) .nil) .nil
theorem Zu:Sd G W0 43 YG:=gs (k1 (Yf hG) .nil) .nil
theorem zeE:YP Go.Proofs.Tryz.prog G W0 81 vA:=zdQ G W0 hG
theorem zik:Sd G W0 6 zgf:=gs (k1 (zqn hG) (k1 (zhp hG) (k1 (zrw hG) (k1 (zpB hG) (k1 (X5 hG) (k1 (yN hG) (k1 (zo9 hG) (k1 (zac hG) (k1 (Ye hG) (k1 (zq3 hG) (k1 (zeJ hG) (k1 (zjS hG) (k1 (zrl hG) (k1 (Zx hG) (k1 (Zu hG) (k1 (Yf hG) .nil)))))))))))))))) (.cons _ _ _ (zeE hG) (.nil))
theorem zg2:Sd G W0 69 zek:=gs .nil .nil
theorem zcO:Sd G W0 53 zav:=gs (k1 (zg2 hG) .nil) .nil
theorem zev:Sd G W0 91 zg8:=gs .nil .nil
theorem zq1:Sd G W0 54 zmB:=gs (k1 (zev hG) .nil) .nil
theorem zdJ:Sd G W0 13 zbt:=gs (k1 (YS hG) (k1 (zcO hG) (k1 (zq1 hG) (k1 (ze5 hG) .nil)))) .nil
theorem zka:Sd G W0 14 zaH:=gs .nil .nil
theorem zkY:Sd G W0 85 zbP:=gs .nil .nil
theorem zpd:Sd G W0 46 zh4:=gs (k1 (zkY hG) .nil) .nil
theorem zm5:Sd G W0 45 zds:=gs (k1 (zpd hG) .nil) .nil
theorem YD:Sd G W0 95 Wk:=gs .nil .nil
theorem zaI:Sd G W0 96 za4:=gs (k1 (Yk hG) .nil) .nil
theorem zeY:Sd G W0 195 Vo:=gs (k1 (YD hG) (k1 (zaI hG) .nil)) .nil
theorem zhL:Sd G W0 196 UL:=gs (k1 (zeP hG) (k1 (YD hG) .nil)) .nil
theorem zeI:Sd G W0 197 WH:=gs (k1 (zgI hG) (k1 (YD hG) (k1 (Yk hG) .nil))) .nil
theorem zdj:Sd G W0 198 Xy:=gs (k1 (YD hG) (k1 (zaI hG) .nil)) .nil
theorem YL:Sd G W0 160 X1:=gs (k1 (zeY hG) (k1 (zhL hG) (k1 (zeI hG) (k1 (zdj hG) .nil)))) .nil
theorem zh1:Sd G W0 119 Ut:=gs (k1 (YL hG) .nil) .nil
theorem U3:Sd G W0 126 XH:=gs .nil .nil
theorem znL:Sd G W0 199 zfK:=gs .nil .nil
theorem zoe:Sd G W0 199 ze8:=gs .nil .nil
theorem znG:Sd G W0 199 zfC:=gs .nil .nil
theorem zn5:Sd G W0 199 zfb:=gs .nil .nil
theorem vc:Sd G W0 102 Ze:=gs (k1 (Yk hG) .nil) .nil
theorem xn:Sd G W0 104 xp:=gs .nil .nil
theorem zbR:Sd G W0 220 Yl:=gs (k1 (vc hG) (k1 (xn hG) .nil)) .nil
theorem vR:Sd G W0 103 vP:=gs .nil .nil
theorem Y7:Sd G W0 106 ZV:=gs .nil .nil
theorem xR:Sd G W0 240 xM:=gs .nil .nil
theorem zeB:Sd G W0 221 WP:=gs (k1 (vc hG) (k1 (vR hG) (k1 (Y7 hG) (k1 (xR hG) .nil)))) .nil
theorem uS:Sd G W0 107 ud:=gs (k1 (Y7 hG) .nil) .nil
theorem Yc:Sd G W0 241 Xf:=gs (k1 (Yk hG) .nil) .nil
theorem ziP:Sd G W0 222 zai:=gs (k1 (uS hG) (k1 (Yc hG) .nil)) .nil
theorem zcA:Sd G W0 223 Xd:=gs (k1 (xn hG) (k1 (xR hG) (k1 (Yc hG) .nil))) .nil
theorem zhc:Sd G W0 224 Ua:=gs (k1 (xn hG) (k1 (Yc hG) .nil)) .nil
theorem zaj:Sd G W0 105 UZ:=gs .nil .nil
theorem zdi:Sd G W0 225 XG:=gs (k1 (vc hG) (k1 (vR hG) (k1 (zaj hG) .nil))) .nil
theorem zfF:Sd G W0 226 Vt:=gs (k1 (vc hG) (k1 (uS hG) (k1 (xR hG) .nil))) .nil
theorem U2:Sd G W0 242 XB:=gs (k1 (Yk hG) (k1 (vR hG) .nil)) .nil
theorem zeK:Sd G W0 227 WI:=gs (k1 (U2 hG) .nil) .nil
theorem zeG:Sd G W0 228 WF:=gs (k1 (xn hG) (k1 (xR hG) (k1 (Yc hG) .nil))) .nil
theorem zfz:Sd G W0 229 Vx:=gs (k1 (xn hG) (k1 (xR hG) (k1 (Yc hG) .nil))) .nil
theorem zfe:Sd G W0 230 Vg:=gs (k1 (vc hG) (k1 (vR hG) .nil)) .nil
theorem ze0:Sd G W0 231 Vh:=gs (k1 (vc hG) (k1 (xn hG) (k1 (zaj hG) .nil))) .nil
theorem zeL:Sd G W0 232 WJ:=gs (k1 (vc hG) (k1 (uS hG) .nil)) .nil
theorem zdk:Sd G W0 233 XM:=gs (k1 (xR hG) (k1 (U2 hG) .nil)) .nil
theorem zgQ:Sd G W0 161 zdI:=gs (k2 (znL hG) (k2 (zoe hG) (k2 (znG hG) (k2 (zn5 hG) (.skip _ _ (k1 (zbR hG) (k1 (zeB hG) (k1 (ziP hG) (k1 (zcA hG) (k1 (zhc hG) (k1 (zdi hG) (k1 (zfF hG) (k1 (zeK hG) (k1 (zeG hG) (k1 (zfz hG) (k1 (zfe hG) (k1 (ze0 hG) (k1 (zeL hG) (k1 (zdk hG) .nil))))))))))))))))))) .nil
theorem zcU:Sd G W0 163 zay:=gs (k1 (zac hG) (k1 (Ye hG) .nil)) .nil
theorem Wr:Sd G W0 200 WU:=gs .nil .nil
theorem zbD:Sd G W0 165 VI:=gs (k1 (Zu hG) (k1 (Wr hG) .nil)) .nil
theorem zhA:Sd G W0 162 UQ:=gs (k1 (Zx hG) (k1 (zcU hG) (k1 (zbD hG) .nil))) .nil
theorem zis:Sd G W0 120 zah:=gs (k1 (U3 hG) (k1 (zgQ hG) (k1 (zhA hG) .nil))) .nil
theorem zg5:Sd G W0 121 V9:=gs (k1 (zcU hG) .nil) .nil
theorem vD:Sd G W0 164 wE:=gs .nil .nil
theorem zhY:Sd G W0 122 Ux:=gs (k1 (Yf hG) (k1 (vD hG) (k1 (zbD hG) .nil))) .nil
theorem zcZ:Sd G W0 125 zaz:=gs .nil .nil
theorem zbB:Sd G W0 201 VK:=gs .nil .nil
theorem zcH:Sd G W0 166 zet:=gs (k1 (zbB hG) .nil) .nil
theorem za8:Sd G W0 167 zaY:=gs .nil .nil
theorem zhI:Sd G W0 123 UH:=gs (k1 (zcZ hG) (k1 (zcH hG) (k1 (za8 hG) .nil))) .nil
theorem zdd:Sd G W0 168 XE:=gs .nil .nil
theorem zdB:Sd G W0 90 zgJ:=gs (k1 (zlH hG) .nil) .nil
theorem zg9:Sd G W0 202 zey:=gs (k1 (YS hG) (k1 (zdB hG) .nil)) .nil
theorem uQ:Sd G W0 203 vY:=gs (k1 (Zu hG) (k1 (Yf hG) (k1 (Wr hG) .nil))) .nil
theorem zfw:Sd G W0 169 Vp:=gs (k1 (zac hG) (k1 (Ye hG) (k1 (zg9 hG) (k1 (uQ hG) .nil)))) .nil
theorem zfH:Sd G W0 170 VA:=gs .nil .nil
theorem zfl:Sd G W0 171 Vr:=gs (k1 (zgQ hG) (k1 (uQ hG) .nil)) .nil
theorem zff:Sd G W0 172 Vs:=gs (k1 (uQ hG) .nil) .nil
theorem zfg:Sd G W0 173 Vm:=gs (k1 (YL hG) (k1 (uQ hG) .nil)) .nil
theorem zfq:Sd G W0 174 Vi:=gs (k1 (Zx hG) (k1 (Zu hG) (k1 (vD hG) (k1 (Wr hG) .nil)))) .nil
theorem zdc:Sd G W0 175 Xx:=gs (k1 (YL hG) .nil) .nil
theorem zh8:Sd G W0 124 zgi:=gs (k1 (zdd hG) (k1 (zfw hG) (k1 (zfH hG) (k1 (zfl hG) (k1 (zff hG) (k1 (zfg hG) (k1 (zfq hG) (k1 (zdc hG) .nil)))))))) .nil
theorem zln:Sd G W0 176 zlq:=gs (k1 (zdB hG) .nil) .nil
theorem zbN:Sd G W0 127 zca:=gs (k1 (YS hG) (k1 (zln hG) .nil)) .nil
theorem YH:Sd G W0 177 ZA:=gs .nil .nil
theorem znn:Sd G W0 179 zd7:=gs .nil .nil
theorem Vd:Sd G W0 178 vv:=gs (k1 (znn hG) .nil) .nil
theorem zeQ:Sd G W0 128 zcq:=gs (k1 (YH hG) (k1 (Vd hG) .nil)) .nil
theorem zhQ:Sd G W0 86 UK:=gs (k1 (zh1 hG) (k1 (zis hG) (k1 (zg5 hG) (k1 (zhY hG) (k1 (zhI hG) (k1 (zh8 hG) (k1 (zcZ hG) (k1 (U3 hG) (k1 (zbN hG) (k1 (zeQ hG) .nil)))))))))) .nil
theorem Wy:Sd G W0 87 w8:=gs .nil .nil
theorem zpb:Sd G W0 47 zhz:=gs (k1 (zhQ hG) (k1 (Wy hG) .nil)) .nil
theorem vF:Sd G W0 180 uq:=gs .nil .nil
theorem uT:Sd G W0 184 v8:=gs .nil .nil
theorem Xb:Sd G W0 181 ZM:=gs (k1 (yN hG) (k1 (uT hG) .nil)) .nil
theorem zfB:Sd G W0 129 Vn:=gs (k1 (vF hG) (k1 (Xb hG) .nil)) .nil
theorem zfp:Sd G W0 130 Vq:=gs (k1 (za8 hG) .nil) .nil
theorem zhP:Sd G W0 131 UG:=gs (k1 (yN hG) .nil) .nil
theorem VE:Sd G W0 182 Ya:=gs (k1 (zh8 hG) .nil) .nil
theorem zfr:Sd G W0 132 Vz:=gs (k1 (VE hG) .nil) .nil
theorem zaL:Sd G W0 183 W1:=gs (k1 (zcH hG) (k1 (vF hG) .nil)) .nil
theorem zho:Sd G W0 133 VZ:=gs (k1 (vF hG) (k1 (Xb hG) (k1 (zaL hG) .nil))) .nil
theorem zhD:Sd G W0 134 UA:=gs (k1 (vF hG) (k1 (zaL hG) (k1 (uT hG) .nil))) .nil
theorem zeW:Sd G W0 135 Vk:=gs (k1 (zln hG) .nil) .nil
theorem zdf:Sd G W0 136 XC:=gs (k1 (yN hG) .nil) .nil
theorem zr1:Sd G W0 185 zon:=gs (k1 (yN hG) (k1 (vD hG) (k1 (zbB hG) .nil))) .nil
theorem zfD:Sd G W0 137 Vw:=gs (k1 (vF hG) (k1 (uT hG) (k1 (zr1 hG) .nil))) .nil
theorem zmA:Sd G W0 205 zcF:=gs .nil .nil
theorem WM:Sd G W0 178 vm:=gs (k1 (zmA hG) .nil) .nil
theorem VW:Sd G W0 208 Yv:=gs (k1 (YH hG) .nil) .nil
theorem zgz:Sd G W0 204 zdG:=gs (k1 (VW hG) .nil) .nil
theorem zoH:Sd G W0 186 zfO:=gs (k1 (WM hG) (k1 (zgz hG) .nil)) .nil
theorem zef:Sd G W0 206 Wn:=gs .nil .nil
theorem zpG:Sd G W0 187 zjI:=gs (k1 (zhj hG) (k1 (zef hG) .nil)) .nil
theorem zpl:Sd G W0 188 zjD:=gs (k1 (zbN hG) (k1 (zg9 hG) .nil)) .nil
theorem ze4:Sd G W0 138 VC:=gs (k1 (vF hG) (k1 (Xb hG) (k1 (uT hG) (k1 (zoH hG) (k1 (zpG hG) (k1 (zpl hG) .nil)))))) .nil
theorem zni:Sd G W0 207 zd0:=gs .nil .nil
theorem W8:Sd G W0 178 vy:=gs (k1 (zni hG) .nil) .nil
theorem zo5:Sd G W0 189 zhs:=gs (k1 (YH hG) (k1 (W8 hG) .nil)) .nil
theorem znM:Sd G W0 190 zfa:=gs (k1 (zgz hG) (k1 (VW hG) .nil)) .nil
theorem Ui:Sd G W0 191 Y0:=gs (k1 (Zu hG) (k1 (Wr hG) .nil)) .nil
theorem zgC:Sd G W0 139 Uc:=gs (k1 (Zx hG) (k1 (zo5 hG) (k1 (znM hG) (k1 (Ui hG) .nil)))) .nil
theorem zh0:Sd G W0 140 UJ:=gs (k1 (YL hG) .nil) .nil
theorem ze6:Sd G W0 141 Vj:=gs (k1 (Yf hG) (k1 (vD hG) (k1 (Ui hG) .nil))) .nil
theorem zhk:Sd G W0 142 V6:=gs (k1 (YL hG) .nil) .nil
theorem zfP:Sd G W0 143 Vl:=gs .nil .nil
theorem zb2:Sd G W0 192 Uo:=gs .nil .nil
theorem zhd:Sd G W0 144 VX:=gs (k1 (zcH hG) (k1 (za8 hG) (k1 (zb2 hG) .nil))) .nil
theorem zhR:Sd G W0 145 UM:=gs (k1 (VE hG) (k1 (zb2 hG) .nil)) .nil
theorem zdD:Sd G W0 146 XV:=gs (k1 (zbN hG) (k1 (zeQ hG) .nil)) .nil
theorem zew:Sd G W0 147 X8:=gs .nil .nil
theorem zgW:Sd G W0 88 VO:=gs (k1 (zfB hG) (k1 (zfp hG) (k1 (zhP hG) (k1 (zfr hG) (k1 (zho hG) (k1 (zhD hG) (k1 (zeW hG) (k1 (zdf hG) (k1 (zfD hG) (k1 (ze4 hG) (k1 (zgC hG) (k1 (zh0 hG) (k1 (ze6 hG) (k1 (zhk hG) (k1 (zfP hG) (k1 (zhd hG) (k1 (zhR hG) (k1 (zdD hG) (k1 (zew hG) .nil))))))))))))))))))) .nil
theorem XS:Sd G W0 89 wL:=gs .nil .nil
theorem zn8:Sd G W0 48 zfA:=gs (k1 (zgW hG) (k1 (XS hG) .nil)) .nil
theorem zeN:Sd G W0 9 zcv:=gs (k1 (zm5 hG) (k1 (zpb hG) (k1 (zn8 hG) (k1 (zgU hG) .nil)))) .nil
theorem zhm:Sd G W0 15 zdA:=gs (k1 (zeN hG) .nil) .nil
theorem zpM:Sd G W0 56 zjK:=gs .nil .nil
theorem zmZ:Sd G W0 16 zd8:=gs (k1 (zhm hG) (k1 (zpM hG) .nil)) .nil
theorem zkM:Sd G W0 17 zbJ:=gs .nil .nil
theorem zrV:Sd G W0 57 znI:=gs .nil .nil
theorem zb8:Sd G W0 94 YB:=gs (k1 (zzs hG) .nil) .nil
theorem zs3:Sd G W0 58 zpU:=gs (k1 (zoT hG) (k1 (zb8 hG) .nil)) .nil
theorem zp2:Sd G W0 59 zjy:=gs (k1 (YD hG) (k1 (zaI hG) .nil)) .nil
theorem zcx:Sd G W0 60 zej:=gs (k1 (zoT hG) .nil) .nil
theorem zgR:Sd G W0 19 zdo:=gs (k1 (Zx hG) (k1 (Zu hG) (k1 (zp2 hG) (k1 (zcx hG) .nil)))) .nil
theorem zo1:Sd G W0 65 zhE:=gs (k1 (Ye hG) (k1 (Yk hG) .nil)) .nil
theorem zhe:Sd G W0 67 zdL:=gs (k1 (zev hG) .nil) .nil
theorem zo6:Sd G W0 68 zhO:=gs (k1 (vc hG) (k1 (vR hG) (k1 (xn hG) (k1 (zaj hG) (k1 (Y7 hG) (k1 (uS hG) .nil)))))) .nil
theorem zeM:Sd G W0 23 zcs:=gs (k1 (yN hG) (k1 (Ye hG) (k1 (zcx hG) (k1 (zo1 hG) (k1 (zrL hG) (k1 (zhe hG) (k1 (zo6 hG) .nil))))))) .nil
theorem zez:Sd G W0 24 zbk:=gs (k1 (yN hG) (k1 (zcx hG) (k1 (zrL hG) (k1 (zhe hG) (k1 (zg2 hG) .nil))))) .nil
theorem zuw:YP Go.Proofs.Tryz.prog G W0 92 za7:=by
 obtain ⟨c,hc⟩:=zIA.1 zFt
 exact zoB (Cg:=Yn []) rfl zp4 (fun f s hs=>Oks.at (k1 (zgR hG) (k1 (zeM hG) (k1 (zez hG) .nil))) f s hs) rfl ztJ (fun g it h=>by cases h) zFM zGH hc za7 (zHu (by kernel_rfl)) rfl zrS
theorem zif:Sd G W0 18 zgv:=gs (k1 (zrV hG) (k1 (zs3 hG) .nil)) (.cons _ _ _ (zuw hG) (.nil))
theorem zmk:Sd G W0 50 zcD:=gs (k1 (YS hG) .nil) .nil
theorem zoo:Sd G W0 52 ze7:=gs .nil .nil
theorem zbI:Sd G W0 51 Ym:=gs (k1 (zjS hG) (k1 (zoo hG) (k1 (zia hG) (k1 (zdB hG) .nil)))) .nil
theorem zaQ:Sd G W0 11 za5:=gs (k1 (zmk hG) (k1 (zbI hG) .nil)) .nil
theorem zh9:Sd G W0 21 zf5:=gs (k1 (ze5 hG) .nil) .nil
theorem zri:Sd G W0 20 zmF:=gs (k1 (zaQ hG) (k1 (zh9 hG) .nil)) .nil
theorem zoy:Sd G W0 61 zfi:=gs .nil .nil
theorem u0:Sd G W0 97 yY:=gs (k1 (zoy hG) .nil) .nil
theorem uB:Sd G W0 63 yP:=gs (k1 (u0 hG) .nil) .nil
theorem zoD:Sd G W0 62 ze2:=gs .nil .nil
theorem uF:Sd G W0 98 yV:=gs (k1 (zoD hG) .nil) .nil
theorem ul:Sd G W0 64 yL:=gs (k1 (uF hG) .nil) .nil
theorem zpi:Sd G W0 22 zkD:=gs (k1 (zif hG) (k1 (uB hG) (k1 (ul hG) .nil))) .nil
theorem zq4:Sd G W0 70 zmG:=gs (k1 (zev hG) .nil) .nil
theorem zrv:Sd G W0 25 zmo:=gs (k1 (zcO hG) (k1 (zq4 hG) .nil)) .nil
theorem zgM:Sd G W0 4 V8:=gs (k1 (zik hG) (k1 (zdJ hG) (k1 (zka hG) (k1 (zhm hG) (k1 (zmZ hG) (k1 (zkM hG) (k1 (zif hG) (k1 (zgR hG) (k1 (zri hG) (k1 (zh9 hG) (k1 (zpi hG) (k1 (zeM hG) (k1 (zez hG) (k1 (zrv hG) .nil)))))))))))))) .nil
theorem Wa:Sd G W0 26 Zg:=gs .nil .nil
theorem zeu:Sd G W0 28 Wc:=gs (k1 (Wa hG) .nil) .nil
theorem zkO:Sd G W0 5 zbT:=gs (k1 (Wa hG) (k1 (YS hG) (k1 (zeu hG) .nil))) .nil
theorem zrm:Sd G W0 7 zmh:=gs (k1 (zaQ hG) (k1 (zhp hG) .nil)) .nil
theorem zkk:Sd G W0 8 zaW:=gs .nil .nil
theorem zqA:Sd G W0 12 zkt:=gs .nil .nil
theorem zdu:Sd G W0 3 XY:=gs (k1 (zgM hG) (k1 (zkO hG) (k1 (zik hG) (k1 (zrm hG) (k1 (zkk hG) (k1 (zeN hG) (k1 (zic hG) (k1 (zaQ hG) (k1 (zqA hG) (k1 (zdJ hG) .nil)))))))))) .nil
end Go.Pe.G
