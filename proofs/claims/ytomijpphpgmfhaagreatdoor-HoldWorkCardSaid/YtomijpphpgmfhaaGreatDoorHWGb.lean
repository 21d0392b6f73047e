/- Own work of this seat: G4e, G4f, EQ, G2i, GH, GW, GX, G3. -/
import Derived.Test.YtomijpphpgmfhaaGreatDoorHWGa
import Derived.Tactics
import Derived.Tactics2
import Derived.Shelf.SlicesE.DeleteFunc
import Derived.Shelf.Spec.SlicesGrow
set_option linter.unusedVariables false
set_option linter.unusedSectionVars false
set_option linter.unusedSimpArgs false
set_option linter.unnecessarySimpa false
set_option linter.deprecated false
set_option maxRecDepth 100000
namespace Go.Pe.G
open Go.Pe
theorem znj (s1:Int) (s2:List zg) (s3:Int) (s4:za) (s5:Int) (s6:Int) (s7:Int) (s8:Int) (s9:Int) (s10:Int) (s11:Int) (s12:Int) (s13:Int) (s14:BitVec 64) (s15:Int) (s16:zo) (s17:Int) (s18:Int) (s19:Bool) (s20:Bool) (s21:Int) (s22:Int) (s23:Int) (s24:Int) (s25:zw) (s26:List (List Int)) (s27:List (List Int)) (s28:List (List zm)) (s29:List zg) (s30:List (List Int)) (s31:List (BitVec 64)) (s32:List (List Int)) (s33:List Int) (s34:List Int) (s35:List zh) (s36:List zc):zaI (s1,s2,s3,s4,s5,s6,s7,s8,s9,s10,s11,s12,s13,s14,s15,s16,s17,s18,s19,s20,s21,s22,s23,s24,s25,s26,s27,s28,s29,s30,s31,s32,s33,s34,s35,s36,()) =
 bif decide (s3<s1) then
 bif !s4.Done then
  (uX s4 s2).bind fun y1 =>
  some (.again (s1,s2,w64 (s3+1),y1.1,s5,s6,s7,s8,s9,s10,s11,s12,s13,s14,s15,s16,s17,s18,s19,s20,s21,s22,s23,s24,s25,s26,s27,s28,s29,s30,s31,s32,s33,s34,s35,s36,()))
 else
  some (.brk (s3,s4,s5,s6,s7,s8,s9,s10,s11,s12,s13,s14,s15,s16,s17,s18,s19,s20,s21,s22,s23,s24,s25,s26,s27,s28,s29,s30,s31,s32,s33,s34,s35,s36,()))
 else
 some (.brk (s3,s4,s5,s6,s7,s8,s9,s10,s11,s12,s13,s14,s15,s16,s17,s18,s19,s20,s21,s22,s23,s24,s25,s26,s27,s28,s29,s30,s31,s32,s33,s34,s35,s36,())):=by kernel_rfl
theorem zp9 (a1:za) (a2:Int):zat a1 a2 =
 (zj0 ((a1.Ws.length:Int)) ((a1.Ms.length:Int))).bind fun y1 =>
 (zO zaI (a2,y1.1,0,a1,0,0,0,0,0,0,0,0,0,0#64,0,zo.mk 0#64 0#64,0,0,false,false,0,0,0,0,zw.mk 0 0,([]:List (List Int)),([]:List (List Int)),([]:List (List zm)),([]:List zg),([]:List (List Int)),([]:List (BitVec 64)),([]:List (List Int)),([]:List Int),([]:List Int),([]:List zh),([]:List zc),())).bind fun st=>match st with
  | .again _=>none
  | .brk y2 =>
  some (y2.2.1,y2.1,())
  | .ret y2 =>
  none:=zr (by kernel_rfl)
theorem zkF (s1:List Int) (s2:List Int) (s3:Int):UB (s1,s2,s3,()) =
 bif decide (s3<((s1.length:Int))) then
 (idx s1 s3).bind fun x1 =>
 (idx s2 s3).bind fun x2 =>
 bif !(decide (x1=x2)) then
  some (.ret (false,()))
 else
  some (.again (s1,s2,w64 (s3+1),()))
 else
 some (.brk (())):=by kernel_rfl
theorem znT (a1:List Int) (a2:List Int):ZU a1 a2 =
 bif !(decide (((a1.length:Int))=((a2.length:Int)))) then
 some (false,())
 else
 (zO UB (a1,a2,0,())).bind fun st=>match st with
  | .again _=>none
  | .brk y1 =>
  some (true,())
  | .ret y1 =>
  some (y1.1,()):=zr (by kernel_rfl)
theorem zwA (a1:za):zsM a1 =
 some (a1,()):=zr (by kernel_rfl)
theorem XE (s1:List (List Int)) (s2:Int) (s3:List (List Int)) (s4:Int) (s5:Int):xz (s1,s2,s3,s4,s5,()) =
 bif decide (s5<s4) then
 (idx s3 s5).bind fun x1 =>
 bif decide ((w64 (s2+((x1.length:Int))))<0) then
  none
 else
  some (.again (s1,w64 (s2+((x1.length:Int))),s3,s4,w64 (s5+1),()))
 else
 some (.brk (s1,s2,())):=by kernel_rfl
theorem Xi (s1:List (List Int)) (s2:Int) (s3:Int) (s4:List Int):xq (s1,s2,s3,s4,()) =
 bif decide (s3<s2) then
 (idx s1 s3).bind fun x1 =>
 (yc (s4++x1)).bind fun l2 =>
 some (.again (s1,s2,w64 (s3+1),l2,()))
 else
 some (.brk (s4,())):=by kernel_rfl
theorem zd8 (a1:List (List Int)):Yx a1 =
 (zO xz (a1,0,a1,(a1.length:Int),0,())).bind fun st=>match st with
  | .again _=>none
  | .brk y1 =>
  (zAG y1.2.1).bind fun y2 =>
  (zO xq (y1.1,(y1.1.length:Int),0,y2.1,())).bind fun st=>match st with
   | .again _=>none
   | .brk y3 =>
   some (y3.1,())
   | .ret y3 =>
   none
  | .ret y1 =>
  none:=zr (by kernel_rfl)
theorem zyj (a1:List Int) (a2:List Int):zqi a1 a2 =
 (Yx (([a1,a2]:List (List Int)))).bind fun y1 =>
 (zqt y1.1).bind fun y2 =>
 some (y2.1,()):=zr (by kernel_rfl)
theorem zpC (s1:List (BitVec 64)) (s2:Int) (s3:Int) (s4:Int) (s5:List Int):zd4 (s1,s2,s3,s4,s5,()) =
 bif !(decide (s4=0)) then
 bif decide (((s5.length:Int))<(bif decide (1000<s3) then 1000 else s3)) then
  (yc (s5++([s4]:List Int))).bind fun l1 =>
  (V4 s1 (w64 (s2+s4))).bind fun y2 =>
  some (.again (s1,s2,s3,y2.1.toInt,l1,()))
 else
  some (.brk (s5,()))
 else
 some (.brk (s5,())):=by kernel_rfl
theorem ztc (a1:List (BitVec 64)) (a2:Int) (a3:Int) (a4:Int):zjH a1 a2 a3 a4 =
 (V4 a1 a2).bind fun y1 =>
 (YF y1.1).bind fun y2 =>
 (zO zd4 (a1,a3,a4,y2.1,([]:List Int),())).bind fun st=>match st with
  | .again _=>none
  | .brk y3 =>
  some (y3.1,())
  | .ret y3 =>
  none:=zr (by kernel_rfl)
theorem zwQ (a1:List Int):yz a1 =
 (zqt a1).bind fun y1 =>
 some (y1.1,()):=zr (by kernel_rfl)
theorem zgq (s1:Int) (s2:Int) (s3:za) (s4:List Int) (s5:List Int):WZ (s1,s2,s3,s4,s5,()) =
 bif decide (s2<s1) then
 (xt s5 s2).bind fun n1 =>
 (s5[n1]?).bind fun x2 =>
 bif decide (x2<((s3.Bins.length:Int))) then
  (idx s3.Bins x2).bind fun x3 =>
  (yc (s4++x3)).bind fun l4 =>
  some (.again (s1,w64 (s2+1),s3,l4,s5,()))
 else
  some (.again (s1,w64 (s2+1),s3,s4,s5,()))
 else
 some (.brk (s4,())):=by kernel_rfl
theorem zsF (a1:za):ZL a1 =
 (YA a1.P).bind fun y1 =>
 (ZO a1.P).bind fun y2 =>
 (zjH a1.M y1.1 y2.1 ((a1.Bins.length:Int))).bind fun y3 =>
 (zO WZ ((y3.1.length:Int),0,a1,([]:List Int),y3.1,())).bind fun st=>match st with
  | .again _=>none
  | .brk y4 =>
  (yz y4.1).bind fun y5 =>
  some (y5.1,())
  | .ret y4 =>
  none:=zr (by kernel_rfl)
theorem zrI (a1:za) (a2:Int) (a3:zd):zhj a1 a2 a3 =
 bif decide (a3.PC=3) then
 bif !(decide (a3.T=(a3.B-1#64))) then
  (yU a1.P a2).bind fun y1 =>
  bif decide ((BitVec.ofInt 64 a1.P.Cap)=0#64) then
  none
  else
  (YZ a1.M (Zt.mk 1 (w64 ((w64 (y1.1+2))+(((a3.B-1#64)%(BitVec.ofInt 64 a1.P.Cap)).toInt))) 0#64 0#64)).bind fun y2 =>
  some (([y2.2.1.toInt]:List Int),())
 else
  bif decide (a3.PC=6) then
  some (([a3.X]:List Int),())
  else
  some (([]:List Int),())
 else
 bif decide (a3.PC=6) then
  some (([a3.X]:List Int),())
 else
  some (([]:List Int),()):=zr (by kernel_rfl)
theorem zsV (a1:zu):uZ a1 =
 (zlA a1 3 7 a1.Obj).bind fun y1 =>
 some (y1.1,()):=zr (by kernel_rfl)
theorem zdT (s1:List (BitVec 64)) (s2:BitVec 64) (s3:BitVec 64) (s4:zd) (s5:List Int):z9 (s1,s2,s3,s4,s5,()) =
 bif !(decide (s3=s2)) then
 (v8 s3 s4).bind fun y1 =>
 (vl s1 y1.1).bind fun y2 =>
 (yc (s5++([y2.1.toInt]:List Int))).bind fun l3 =>
 some (.again (s1,s2,s3+1#64,s4,l3,()))
 else
 some (.brk (s5,())):=by kernel_rfl
theorem zsz (a1:List (BitVec 64)) (a2:Int) (a3:Int) (a4:zd):xS a1 a2 a3 a4 =
 (uV (zd.mk 0 0 a2 a3 0#64 0#64 0 0)).bind fun y1 =>
 (vl a1 y1.1).bind fun y2 =>
 (xL (zd.mk 0 0 a2 a3 0#64 0#64 0 0)).bind fun y3 =>
 (vl a1 y3.1).bind fun y4 =>
 bif decide (a4.Kind=2) then
 bif decide (a4.Out=0) then
  bif decide (a4.PC=2) then
  bif decide (a4.PC=2) then
   (yZ (y4.1+1#64) y2.1).bind fun y5 =>
   bif !y5.1 then
   some (([]:List Int),())
   else
   (z3 (zd.mk 0 0 a2 a3 0#64 0#64 0 0)).bind fun y6 =>
   bif decide ((bif decide (64#64<y6.1) then 64#64 else y6.1)<((y4.1+1#64)-y2.1)) then
    some (([]:List Int),())
   else
    (zO z9 (a1,y4.1+1#64,y2.1,zd.mk 0 0 a2 a3 0#64 0#64 0 0,([]:List Int),())).bind fun st=>match st with
     | .again _=>none
     | .brk y7 =>
     some (y7.1,())
     | .ret y7 =>
     none
  else
   bif decide (a4.PC=3) then
   bif decide (a4.T=(a4.B-1#64)) then
    (yZ (y4.1+1#64) y2.1).bind fun y8 =>
    bif !y8.1 then
    some (([]:List Int),())
    else
    (z3 (zd.mk 0 0 a2 a3 0#64 0#64 0 0)).bind fun y9 =>
    bif decide ((bif decide (64#64<y9.1) then 64#64 else y9.1)<((y4.1+1#64)-y2.1)) then
     some (([]:List Int),())
    else
     (zO z9 (a1,y4.1+1#64,y2.1,zd.mk 0 0 a2 a3 0#64 0#64 0 0,([]:List Int),())).bind fun st=>match st with
      | .again _=>none
      | .brk y10 =>
      some (y10.1,())
      | .ret y10 =>
      none
   else
    (yZ y4.1 y2.1).bind fun y11 =>
    bif !y11.1 then
    some (([]:List Int),())
    else
    (z3 (zd.mk 0 0 a2 a3 0#64 0#64 0 0)).bind fun y12 =>
    bif decide ((bif decide (64#64<y12.1) then 64#64 else y12.1)<(y4.1-y2.1)) then
     some (([]:List Int),())
    else
     (zO z9 (a1,y4.1,y2.1,zd.mk 0 0 a2 a3 0#64 0#64 0 0,([]:List Int),())).bind fun st=>match st with
      | .again _=>none
      | .brk y13 =>
      some (y13.1,())
      | .ret y13 =>
      none
   else
   (yZ y4.1 y2.1).bind fun y14 =>
   bif !y14.1 then
    some (([]:List Int),())
   else
    (z3 (zd.mk 0 0 a2 a3 0#64 0#64 0 0)).bind fun y15 =>
    bif decide ((bif decide (64#64<y15.1) then 64#64 else y15.1)<(y4.1-y2.1)) then
    some (([]:List Int),())
    else
    (zO z9 (a1,y4.1,y2.1,zd.mk 0 0 a2 a3 0#64 0#64 0 0,([]:List Int),())).bind fun st=>match st with
     | .again _=>none
     | .brk y16 =>
     some (y16.1,())
     | .ret y16 =>
     none
  else
  bif decide (a4.PC=4) then
   bif decide (a4.PC=4) then
   (yZ (y4.1+1#64) y2.1).bind fun y17 =>
   bif !y17.1 then
    some (([]:List Int),())
   else
    (z3 (zd.mk 0 0 a2 a3 0#64 0#64 0 0)).bind fun y18 =>
    bif decide ((bif decide (64#64<y18.1) then 64#64 else y18.1)<((y4.1+1#64)-y2.1)) then
    some (([]:List Int),())
    else
    (zO z9 (a1,y4.1+1#64,y2.1,zd.mk 0 0 a2 a3 0#64 0#64 0 0,([]:List Int),())).bind fun st=>match st with
     | .again _=>none
     | .brk y19 =>
     some (y19.1,())
     | .ret y19 =>
     none
   else
   bif decide (a4.PC=3) then
    bif decide (a4.T=(a4.B-1#64)) then
    (yZ (y4.1+1#64) y2.1).bind fun y20 =>
    bif !y20.1 then
     some (([]:List Int),())
    else
     (z3 (zd.mk 0 0 a2 a3 0#64 0#64 0 0)).bind fun y21 =>
     bif decide ((bif decide (64#64<y21.1) then 64#64 else y21.1)<((y4.1+1#64)-y2.1)) then
     some (([]:List Int),())
     else
     (zO z9 (a1,y4.1+1#64,y2.1,zd.mk 0 0 a2 a3 0#64 0#64 0 0,([]:List Int),())).bind fun st=>match st with
      | .again _=>none
      | .brk y22 =>
      some (y22.1,())
      | .ret y22 =>
      none
    else
    (yZ y4.1 y2.1).bind fun y23 =>
    bif !y23.1 then
     some (([]:List Int),())
    else
     (z3 (zd.mk 0 0 a2 a3 0#64 0#64 0 0)).bind fun y24 =>
     bif decide ((bif decide (64#64<y24.1) then 64#64 else y24.1)<(y4.1-y2.1)) then
     some (([]:List Int),())
     else
     (zO z9 (a1,y4.1,y2.1,zd.mk 0 0 a2 a3 0#64 0#64 0 0,([]:List Int),())).bind fun st=>match st with
      | .again _=>none
      | .brk y25 =>
      some (y25.1,())
      | .ret y25 =>
      none
   else
    (yZ y4.1 y2.1).bind fun y26 =>
    bif !y26.1 then
    some (([]:List Int),())
    else
    (z3 (zd.mk 0 0 a2 a3 0#64 0#64 0 0)).bind fun y27 =>
    bif decide ((bif decide (64#64<y27.1) then 64#64 else y27.1)<(y4.1-y2.1)) then
     some (([]:List Int),())
    else
     (zO z9 (a1,y4.1,y2.1,zd.mk 0 0 a2 a3 0#64 0#64 0 0,([]:List Int),())).bind fun st=>match st with
      | .again _=>none
      | .brk y28 =>
      some (y28.1,())
      | .ret y28 =>
      none
  else
   bif decide (a4.PC=5) then
   (yZ (y4.1+1#64) y2.1).bind fun y29 =>
   bif !y29.1 then
    some (([]:List Int),())
   else
    (z3 (zd.mk 0 0 a2 a3 0#64 0#64 0 0)).bind fun y30 =>
    bif decide ((bif decide (64#64<y30.1) then 64#64 else y30.1)<((y4.1+1#64)-y2.1)) then
    some (([]:List Int),())
    else
    (zO z9 (a1,y4.1+1#64,y2.1,zd.mk 0 0 a2 a3 0#64 0#64 0 0,([]:List Int),())).bind fun st=>match st with
     | .again _=>none
     | .brk y31 =>
     some (y31.1,())
     | .ret y31 =>
     none
   else
   bif decide (a4.PC=3) then
    bif decide (a4.T=(a4.B-1#64)) then
    (yZ (y4.1+1#64) y2.1).bind fun y32 =>
    bif !y32.1 then
     some (([]:List Int),())
    else
     (z3 (zd.mk 0 0 a2 a3 0#64 0#64 0 0)).bind fun y33 =>
     bif decide ((bif decide (64#64<y33.1) then 64#64 else y33.1)<((y4.1+1#64)-y2.1)) then
     some (([]:List Int),())
     else
     (zO z9 (a1,y4.1+1#64,y2.1,zd.mk 0 0 a2 a3 0#64 0#64 0 0,([]:List Int),())).bind fun st=>match st with
      | .again _=>none
      | .brk y34 =>
      some (y34.1,())
      | .ret y34 =>
      none
    else
    (yZ y4.1 y2.1).bind fun y35 =>
    bif !y35.1 then
     some (([]:List Int),())
    else
     (z3 (zd.mk 0 0 a2 a3 0#64 0#64 0 0)).bind fun y36 =>
     bif decide ((bif decide (64#64<y36.1) then 64#64 else y36.1)<(y4.1-y2.1)) then
     some (([]:List Int),())
     else
     (zO z9 (a1,y4.1,y2.1,zd.mk 0 0 a2 a3 0#64 0#64 0 0,([]:List Int),())).bind fun st=>match st with
      | .again _=>none
      | .brk y37 =>
      some (y37.1,())
      | .ret y37 =>
      none
   else
    (yZ y4.1 y2.1).bind fun y38 =>
    bif !y38.1 then
    some (([]:List Int),())
    else
    (z3 (zd.mk 0 0 a2 a3 0#64 0#64 0 0)).bind fun y39 =>
    bif decide ((bif decide (64#64<y39.1) then 64#64 else y39.1)<(y4.1-y2.1)) then
     some (([]:List Int),())
    else
     (zO z9 (a1,y4.1,y2.1,zd.mk 0 0 a2 a3 0#64 0#64 0 0,([]:List Int),())).bind fun st=>match st with
      | .again _=>none
      | .brk y40 =>
      some (y40.1,())
      | .ret y40 =>
      none
 else
  (yZ y4.1 y2.1).bind fun y41 =>
  bif !y41.1 then
  some (([]:List Int),())
  else
  (z3 (zd.mk 0 0 a2 a3 0#64 0#64 0 0)).bind fun y42 =>
  bif decide ((bif decide (64#64<y42.1) then 64#64 else y42.1)<(y4.1-y2.1)) then
   some (([]:List Int),())
  else
   (zO z9 (a1,y4.1,y2.1,zd.mk 0 0 a2 a3 0#64 0#64 0 0,([]:List Int),())).bind fun st=>match st with
    | .again _=>none
    | .brk y43 =>
    some (y43.1,())
    | .ret y43 =>
    none
 else
 (yZ y4.1 y2.1).bind fun y44 =>
 bif !y44.1 then
  some (([]:List Int),())
 else
  (z3 (zd.mk 0 0 a2 a3 0#64 0#64 0 0)).bind fun y45 =>
  bif decide ((bif decide (64#64<y45.1) then 64#64 else y45.1)<(y4.1-y2.1)) then
  some (([]:List Int),())
  else
  (zO z9 (a1,y4.1,y2.1,zd.mk 0 0 a2 a3 0#64 0#64 0 0,([]:List Int),())).bind fun st=>match st with
   | .again _=>none
   | .brk y46 =>
   some (y46.1,())
   | .ret y46 =>
   none:=zr (by kernel_rfl)
theorem zjf (a1:za) (a2:Int):Za a1 a2 =
 bif decide (a2<1) then
 some (([]:List Int),())
 else
 bif decide (((a1.Ws.length:Int))<a2) then
  some (([]:List Int),())
 else
  (idx a1.Ws (w64 (a2-1))).bind fun x1 =>
  (yB x1.Batch).bind fun y2 =>
  bif decide (x1.PC=0) then
  (zhj a1 a2 x1.D).bind fun y3 =>
  (yc (y2.1++y3.1)).bind fun l4 =>
  (yU a1.P a2).bind fun y5 =>
  (xS a1.M y5.1 a1.P.Cap x1.D).bind fun y6 =>
  (yc (l4++y6.1)).bind fun l7 =>
  (yz l7).bind fun y8 =>
  some (y8.1,())
  else
  bif decide (x1.PC=3) then
   (idx a1.Bins x1.Bin).bind fun x9 =>
   (yc (y2.1++x9)).bind fun l10 =>
   (yU a1.P a2).bind fun y11 =>
   (xS a1.M y11.1 a1.P.Cap (zd.mk 0 0 0 0 0#64 0#64 0 0)).bind fun y12 =>
   (yc (l10++y12.1)).bind fun l13 =>
   (yz l13).bind fun y14 =>
   some (y14.1,())
  else
   bif decide (x1.PC=5) then
   bif decide (x1.PC=5) then
    (yc (y2.1++([x1.Obj]:List Int))).bind fun l15 =>
    (yU a1.P a2).bind fun y16 =>
    (xS a1.M y16.1 a1.P.Cap (zd.mk 0 0 0 0 0#64 0#64 0 0)).bind fun y17 =>
    (yc (l15++y17.1)).bind fun l18 =>
    (yz l18).bind fun y19 =>
    some (y19.1,())
   else
    bif decide (x1.PC=6) then
    (yc (y2.1++([x1.Obj]:List Int))).bind fun l20 =>
    (uZ x1.G).bind fun y21 =>
    (zd3 ([y21.1]:List Int)).bind fun y22 =>
    (yc (l20++y22.1)).bind fun l23 =>
    bif decide (x1.G.PC=3) then
     (yU a1.P a2).bind fun y24 =>
     (xS a1.M y24.1 a1.P.Cap x1.G.D).bind fun y25 =>
     (yc (l23++y25.1)).bind fun l26 =>
     (yz l26).bind fun y27 =>
     some (y27.1,())
    else
     (yU a1.P a2).bind fun y28 =>
     (xS a1.M y28.1 a1.P.Cap (zd.mk 0 0 0 0 0#64 0#64 0 0)).bind fun y29 =>
     (yc (l23++y29.1)).bind fun l30 =>
     (yz l30).bind fun y31 =>
     some (y31.1,())
    else
    (yU a1.P a2).bind fun y32 =>
    (xS a1.M y32.1 a1.P.Cap (zd.mk 0 0 0 0 0#64 0#64 0 0)).bind fun y33 =>
    (yc (y2.1++y33.1)).bind fun l34 =>
    (yz l34).bind fun y35 =>
    some (y35.1,())
   else
   bif decide (x1.PC=8) then
    (yc (y2.1++([x1.Obj]:List Int))).bind fun l36 =>
    (yU a1.P a2).bind fun y37 =>
    (xS a1.M y37.1 a1.P.Cap (zd.mk 0 0 0 0 0#64 0#64 0 0)).bind fun y38 =>
    (yc (l36++y38.1)).bind fun l39 =>
    (yz l39).bind fun y40 =>
    some (y40.1,())
   else
    bif decide (x1.PC=6) then
    (yc (y2.1++([x1.Obj]:List Int))).bind fun l41 =>
    (uZ x1.G).bind fun y42 =>
    (zd3 ([y42.1]:List Int)).bind fun y43 =>
    (yc (l41++y43.1)).bind fun l44 =>
    bif decide (x1.G.PC=3) then
     (yU a1.P a2).bind fun y45 =>
     (xS a1.M y45.1 a1.P.Cap x1.G.D).bind fun y46 =>
     (yc (l44++y46.1)).bind fun l47 =>
     (yz l47).bind fun y48 =>
     some (y48.1,())
    else
     (yU a1.P a2).bind fun y49 =>
     (xS a1.M y49.1 a1.P.Cap (zd.mk 0 0 0 0 0#64 0#64 0 0)).bind fun y50 =>
     (yc (l44++y50.1)).bind fun l51 =>
     (yz l51).bind fun y52 =>
     some (y52.1,())
    else
    (yU a1.P a2).bind fun y53 =>
    (xS a1.M y53.1 a1.P.Cap (zd.mk 0 0 0 0 0#64 0#64 0 0)).bind fun y54 =>
    (yc (y2.1++y54.1)).bind fun l55 =>
    (yz l55).bind fun y56 =>
    some (y56.1,()):=zr (by kernel_rfl)
theorem zrc (a1:za) (a2:Int):XJ a1 a2 =
 bif decide (a2<1) then
 some (([]:List Int),())
 else
 bif decide (((a1.Ms.length:Int))<a2) then
  some (([]:List Int),())
 else
  (idx a1.Ms (w64 (a2-1))).bind fun x1 =>
  (yB x1.Batch).bind fun y2 =>
  bif decide (x1.PC=33) then
  (idx a1.Bins x1.Bin).bind fun x3 =>
  (yc (y2.1++x3)).bind fun l4 =>
  bif decide (36≤x1.PC) then
   bif decide (x1.PC≤38) then
   (yc (l4++([x1.Obj]:List Int))).bind fun l5 =>
   (ud x1).bind fun y6 =>
   bif y6.1 then
    (uZ x1.G).bind fun y7 =>
    (zd3 ([y7.1]:List Int)).bind fun y8 =>
    (yc (l5++y8.1)).bind fun l9 =>
    (yz l9).bind fun y10 =>
    some (y10.1,())
   else
    (yz l5).bind fun y11 =>
    some (y11.1,())
   else
   (ud x1).bind fun y12 =>
   bif y12.1 then
    (uZ x1.G).bind fun y13 =>
    (zd3 ([y13.1]:List Int)).bind fun y14 =>
    (yc (l4++y14.1)).bind fun l15 =>
    (yz l15).bind fun y16 =>
    some (y16.1,())
   else
    (yz l4).bind fun y17 =>
    some (y17.1,())
  else
   (ud x1).bind fun y18 =>
   bif y18.1 then
   (uZ x1.G).bind fun y19 =>
   (zd3 ([y19.1]:List Int)).bind fun y20 =>
   (yc (l4++y20.1)).bind fun l21 =>
   (yz l21).bind fun y22 =>
   some (y22.1,())
   else
   (yz l4).bind fun y23 =>
   some (y23.1,())
  else
  bif decide (36≤x1.PC) then
   bif decide (x1.PC≤38) then
   (yc (y2.1++([x1.Obj]:List Int))).bind fun l24 =>
   (ud x1).bind fun y25 =>
   bif y25.1 then
    (uZ x1.G).bind fun y26 =>
    (zd3 ([y26.1]:List Int)).bind fun y27 =>
    (yc (l24++y27.1)).bind fun l28 =>
    (yz l28).bind fun y29 =>
    some (y29.1,())
   else
    (yz l24).bind fun y30 =>
    some (y30.1,())
   else
   (ud x1).bind fun y31 =>
   bif y31.1 then
    (uZ x1.G).bind fun y32 =>
    (zd3 ([y32.1]:List Int)).bind fun y33 =>
    (yc (y2.1++y33.1)).bind fun l34 =>
    (yz l34).bind fun y35 =>
    some (y35.1,())
   else
    (yz y2.1).bind fun y36 =>
    some (y36.1,())
  else
   (ud x1).bind fun y37 =>
   bif y37.1 then
   (uZ x1.G).bind fun y38 =>
   (zd3 ([y38.1]:List Int)).bind fun y39 =>
   (yc (y2.1++y39.1)).bind fun l40 =>
   (yz l40).bind fun y41 =>
   some (y41.1,())
   else
   (yz y2.1).bind fun y42 =>
   some (y42.1,()):=zr (by kernel_rfl)
theorem zq9 (y:List Int) (s1:List Int):zbc y (s1,()) =
 (zqi s1 y).bind fun y1 =>
 some (y1.1,()):=by kernel_rfl
theorem zuO (a1:za):UU a1 =
 (zsM a1).bind fun y1 =>
 (zp1 y1.1.P.Workers y1.1.P.Mutators y1.1.P.Cap y1.1.P.Buf y1.1.P.Bin y1.1.P.Most y1.1.P.Price y1.1.P.Limit y1.1.P.H.Slots y1.1.P.H.Objs y1.1.P.Roots y1.1.P.Regs y1.1.P.Progs y1.1.P.Picks y1.1.H.Slots y1.1.H.Objs y1.1.M y1.1.Bins y1.1.T.Marks y1.1.T.Black y1.1.Work y1.1.Epoch y1.1.Flag y1.1.Done y1.1.Restarts y1.1.Acks y1.1.L.Scanned y1.1.L.Spent y1.1.L.Pool y1.1.L.Bal y1.1.Ws y1.1.Ms y1.1.D.PC y1.1.D.I).bind fun (ys2:List (List Int)) =>
 (Zb zbc ys2 (([]:List Int),())).bind fun (y3:(List Int)×Unit) =>
 some (y3.1,()):=zr (by kernel_rfl)
theorem zvr (a1:zu):zmm a1 =
 (zlA a1 0 1 a1.Obj).bind fun y1 =>
 some (y1.1,()):=zr (by kernel_rfl)
theorem zdG (s1:BitVec 64) (s2:Int) (s3:Int) (s4:za) (s5:List zu):Xk (s1,s2,s3,s4,s5,()) =
 bif decide (s3<s2) then
 (xt s5 s3).bind fun n1 =>
 (s5[n1]?).bind fun x2 =>
 (zmm x2).bind fun y3 =>
 (ZY s1 y3.1).bind fun y4 =>
 some (.again (y4.1,s2,w64 (s3+1),s4,s5,()))
 else
 some (.brk (s1,s4,())):=by kernel_rfl
theorem zdU (s1:BitVec 64) (s2:List zc) (s3:Int) (s4:Int):Xc (s1,s2,s3,s4,()) =
 bif decide (s4<s3) then
 (idx s2 s4).bind fun x1 =>
 (zki x1.Buf).bind fun y2 =>
 bif decide (x1.PC=21) then
  (ZY (s1|||y2.1) x1.Old).bind fun y3 =>
  some (.again (y3.1,s2,s3,w64 (s4+1),()))
 else
  bif decide (x1.PC=22) then
  (ZY (s1|||y2.1) x1.Old).bind fun y4 =>
  some (.again (y4.1,s2,s3,w64 (s4+1),()))
  else
  bif decide (x1.Ret=22) then
   bif decide (x1.PC=1) then
   (ZY (s1|||y2.1) x1.Old).bind fun y5 =>
   some (.again (y5.1,s2,s3,w64 (s4+1),()))
   else
   bif decide (x1.PC=3) then
    (ZY (s1|||y2.1) x1.Old).bind fun y6 =>
    some (.again (y6.1,s2,s3,w64 (s4+1),()))
   else
    some (.again (s1|||y2.1,s2,s3,w64 (s4+1),()))
  else
   some (.again (s1|||y2.1,s2,s3,w64 (s4+1),()))
 else
 some (.brk (s1,())):=by kernel_rfl
theorem zq4 (a1:za):XF a1 =
 (zai a1).bind fun y1 =>
 (zO Xk (0#64,(y1.1.length:Int),0,a1,y1.1,())).bind fun st=>match st with
  | .again _=>none
  | .brk y2 =>
  (zO Xc (y2.1,y2.2.1.Ms,(y2.2.1.Ms.length:Int),0,())).bind fun st=>match st with
   | .again _=>none
   | .brk y3 =>
   some (y3.1,())
   | .ret y3 =>
   none
  | .ret y2 =>
  none:=zr (by kernel_rfl)
theorem zhX (s1:BitVec 64) (s2:List zc) (s3:Int) (s4:Int):VP (s1,s2,s3,s4,()) =
 bif decide (s4<s3) then
 (idx s2 s4).bind fun x1 =>
 (zki x1.Regs).bind fun y2 =>
 some (.again (s1|||y2.1,s2,s3,w64 (s4+1),()))
 else
 some (.brk (s1,())):=by kernel_rfl
theorem zvu (a1:za):zf8 a1 =
 (zO VP (0#64,a1.Ms,(a1.Ms.length:Int),0,())).bind fun st=>match st with
  | .again _=>none
  | .brk y1 =>
  some (y1.1,())
  | .ret y1 =>
  none:=zr (by kernel_rfl)
theorem zl5 (s1:BitVec 64) (s2:List Int) (s3:Int):U3 (s1,s2,s3,()) =
 bif decide (s3<64) then
 (zeJ s2 64 s3).bind fun n1 =>
 (s2[n1]?).bind fun x2 =>
 bif decide (0<x2) then
  (ZY s1 (w64 (s3+1))).bind fun y3 =>
  some (.again (y3.1,s2,w64 (s3+1),()))
 else
  some (.again (s1,s2,w64 (s3+1),()))
 else
 some (.brk (s1,())):=by kernel_rfl
theorem zoW (a1:List Int):zcs a1 =
 bif decide (a1.length=64) then
 (zO U3 (0#64,a1,0,())).bind fun st=>match st with
  | .again _=>none
  | .brk y1 =>
  some (y1.1,())
  | .ret y1 =>
  none
 else
 none:=zr (by kernel_rfl)
theorem zqV (a1:Int):zmM a1 =
 some (true,()):=zr (by kernel_rfl)
theorem Xd (s1:BitVec 64) (s2:Int) (s3:Int) (s4:zt) (s5:List Int) (s6:List Int) (s7:List Int):ZA (s1,s2,s3,s4,s5,s6,s7,()) =
 bif decide (s3<s2) then
 (xt s7 s3).bind fun n1 =>
 (s7[n1]?).bind fun x2 =>
 (zeJ s6 64 (w64 (x2-1))).bind fun n3 =>
 some (.again (s1,s2,w64 (s3+1),s4,s5,s6.set n3 1,s7,()))
 else
 some (.brk (s1,s4,s5,s6,s7,())):=by kernel_rfl
theorem uF (s1:BitVec 64) (s2:zt) (s3:List Int) (s4:List Int) (s5:List Int):ZB (s1,s2,s3,s4,s5,()) =
 bif decide (0<((s5.length:Int))) then
 (xt s5 0).bind fun n1 =>
 (s5[n1]?).bind fun x2 =>
 (zmM x2).bind fun y3 =>
 bif !y3.1 then
  (cut s5 1 ((s5.length:Int))).bind fun l4 =>
  some (.again (s1,s2,s3,s4,l4,()))
 else
  (idx s2.Objs (w64 (x2-1))).bind fun x5 =>
  (zO vb (s1,x2,x5,(x5.length:Int),0,s2,s3,s4,s5,())).bind fun st=>match st with
   | .again _=>none
   | .brk y6 =>
   (cut y6.2.2.2.2.1 1 ((y6.2.2.2.2.1.length:Int))).bind fun l7 =>
   some (.again (y6.1,y6.2.1,y6.2.2.1,y6.2.2.2.1,l7,()))
   | .ret y6 =>
   some (.ret (()))
 else
 some (.brk (s3,s4,())):=by kernel_rfl
theorem YP (s1:BitVec 64) (s2:Int) (s3:List Int) (s4:Int) (s5:Int) (s6:zt) (s7:List Int) (s8:List Int) (s9:List Int):vb (s1,s2,s3,s4,s5,s6,s7,s8,s9,()) =
 bif decide (s5<s4) then
 (idx s3 s5).bind fun x1 =>
 (zcL s1 x1).bind fun y2 =>
 bif y2.1 then
  (zeJ s8 64 (w64 (x1-1))).bind fun n3 =>
  (s8[n3]?).bind fun x4 =>
  bif decide (x4=0) then
  (zeJ s8 64 (w64 (s2-1))).bind fun n5 =>
  (s8[n5]?).bind fun x6 =>
  (zeJ s8 64 (w64 (x1-1))).bind fun n7 =>
  (yc (s9++([x1]:List Int))).bind fun l8 =>
  some (.again (s1,s2,s3,s4,w64 (s5+1),s6,s7,s8.set n7 (w64 (x6+1)),l8,()))
  else
  some (.again (s1,s2,s3,s4,w64 (s5+1),s6,s7,s8,s9,()))
 else
  some (.again (s1,s2,s3,s4,w64 (s5+1),s6,s7,s8,s9,()))
 else
 some (.brk (s1,s6,s7,s8,s9,())):=by kernel_rfl
theorem zc6 (a1:zt) (a2:BitVec 64):Z9 a1 a2 =
 (zfH ((a1.Objs.length:Int))).bind fun y1 =>
 (zee (a2&&&y1.1)).bind fun y2 =>
 (zO ZA (y1.1,(y2.1.length:Int),0,a1,List.replicate 64 ((0:Int)),List.replicate 64 ((0:Int)),y2.1,())).bind fun st=>match st with
  | .again _=>none
  | .brk y3 =>
  (zO ZB (y3.1,y3.2.1,y3.2.2.1,y3.2.2.2.1,y3.2.2.2.2.1,())).bind fun st=>match st with
   | .again _=>none
   | .brk y4 =>
   bif decide (y4.2.1.length=64) then
   bif decide (y4.1.length=64) then
    bif decide (y4.2.1.length=64) then
    some (y4.2.1,())
    else
    none
   else
    none
   else
   none
   | .ret y4 =>
   none
  | .ret y3 =>
  none:=zr (by kernel_rfl)
theorem ztr (a1:zt) (a2:BitVec 64):zaL a1 a2 =
 (Z9 a1 a2).bind fun y1 =>
 (zcs y1.1).bind fun y2 =>
 some (y2.1,()):=zr (by kernel_rfl)
end Go.Pe.G
namespace Go.Pe.G
open Go.Pe
theorem zvk (a1:za):zf4 a1 =
 (zf8 a1).bind fun y1 =>
 (zaL a1.H (a1.P.Roots|||y1.1)).bind fun y2 =>
 some (y2.1,()):=zr (by kernel_rfl)
theorem zqK (a1:zh):zfd a1 =
 bif !(decide (a1.Obj=0)) then
 some (true,())
 else
 some (decide (0<((a1.Batch.length:Int))),()):=zr (by kernel_rfl)
theorem uS (s1:List zh) (s2:Int) (s3:Int):yO (s1,s2,s3,()) =
 bif decide (s3<s2) then
 (idx s1 s3).bind fun x1 =>
 (zfd x1).bind fun y2 =>
 bif y2.1 then
  some (.ret (s3,()))
 else
  some (.again (s1,s2,w64 (s3+1),()))
 else
 some (.brk (())):=by kernel_rfl
theorem Ze (a1:List zh):wq a1 =
 (zO yO (a1,(a1.length:Int),0,())).bind fun st=>match st with
  | .again _=>none
  | .brk y1 =>
  some (-1,())
  | .ret y1 =>
  some (y1.1,()):=zr (by kernel_rfl)
theorem uT (a1:List zh):yP a1 =
 (wq a1).bind fun y1 =>
 some (decide (0≤y1.1),()):=zr (by kernel_rfl)
theorem zrb (a1:zc):zfw a1 =
 bif !(decide (a1.Obj=0)) then
 some (true,())
 else
 some (decide (0<(w64 (((a1.Batch.length:Int))+((a1.Buf.length:Int))))),()):=zr (by kernel_rfl)
theorem uC (s1:List zc) (s2:Int) (s3:Int):yK (s1,s2,s3,()) =
 bif decide (s3<s2) then
 (idx s1 s3).bind fun x1 =>
 (zfw x1).bind fun y2 =>
 bif y2.1 then
  some (.ret (s3,()))
 else
  some (.again (s1,s2,w64 (s3+1),()))
 else
 some (.brk (())):=by kernel_rfl
theorem u5 (a1:List zc):wa a1 =
 (zO yK (a1,(a1.length:Int),0,())).bind fun st=>match st with
  | .again _=>none
  | .brk y1 =>
  some (-1,())
  | .ret y1 =>
  some (y1.1,()):=zr (by kernel_rfl)
theorem uz (a1:List zc):yG a1 =
 (wa a1).bind fun y1 =>
 some (decide (0≤y1.1),()):=zr (by kernel_rfl)
theorem zs5 (a1:za):zdb a1 =
 (UU a1).bind fun y1 =>
 bif decide (((y1.1.length:Int))=0) then
 (yP a1.Ws).bind fun y2 =>
 bif !y2.1 then
  (yG a1.Ms).bind fun y3 =>
  some (!y3.1,())
 else
  some (false,())
 else
 some (false,()):=zr (by kernel_rfl)
theorem Uc (s1:List zg) (s2:Int) (s3:za) (s4:za):wK (s1,s2,s3,s4,()) =
 bif decide (s2<6) then
 (uX s4 s1).bind fun y1 =>
 some (.again (s1,w64 (s2+1),s3,y1.1,()))
 else
 some (.brk (s1,s3,s4,())):=by kernel_rfl
theorem zjN:VO =
 (zay (([(([(zm.mk 1 1 0 0),(zm.mk 5 1 0 0),(zm.mk 2 1 0 0)]:List zm))]:List (List zm)))).bind fun y1 =>
 (zfM y1.1).bind fun y2 =>
 (zO wK (([(zg.mk 2 1)]:List zg),0,y2.1,y2.1,())).bind fun st=>match st with
  | .again _=>none
  | .brk y3 =>
  (uX y3.2.2.1 y3.1).bind fun y4 =>
  (uX y4.1 y3.1).bind fun y5 =>
  (zat y5.1 900).bind fun y6 =>
  (uX y3.2.1 (([(zg.mk 1 1),(zg.mk 1 1),(zg.mk 1 1),(zg.mk 1 1),(zg.mk 1 1),(zg.mk 1 1),(zg.mk 1 1)]:List zg))).bind fun y7 =>
  (UU y3.2.1).bind fun y8 =>
  (ZU y8.1 ([1]:List Int)).bind fun y9 =>
  bif y9.1 then
  (ZL y3.2.1).bind fun y10 =>
  (ZU y10.1 ([1]:List Int)).bind fun y11 =>
  bif y11.1 then
   (XF y3.2.1).bind fun y12 =>
   bif decide (y12.1=0#64) then
   (zf4 y3.2.1).bind fun y13 =>
   bif decide (y13.1=3#64) then
    (zf8 y3.2.1).bind fun y14 =>
    bif decide (y14.1=1#64) then
    (XF y3.2.2.1).bind fun y15 =>
    bif decide (y15.1=2#64) then
     (XF y4.1).bind fun y16 =>
     bif decide (y16.1=2#64) then
     (zf4 y5.1).bind fun y17 =>
     bif decide (y17.1=1#64) then
      (XF y5.1).bind fun y18 =>
      bif decide (y18.1=2#64) then
      bif y6.1.Done then
       (zdb y6.1).bind fun y19 =>
       bif y19.1 then
       bif decide (y6.1.T.Marks=3#64) then
        (zdb y3.2.1).bind fun y20 =>
        bif !y20.1 then
        (ZL y7.1).bind fun y21 =>
        bif decide (((y21.1.length:Int))=0) then
         (Za y7.1 1).bind fun y22 =>
         (ZU y22.1 ([1]:List Int)).bind fun y23 =>
         bif y23.1 then
         (Za y3.2.1 2).bind fun y24 =>
         bif decide (((y24.1.length:Int))=0) then
          (XJ y3.2.1 1).bind fun y25 =>
          bif decide (((y25.1.length:Int))=0) then
          (zf1 y3.2.1).bind fun y26 =>
          some (decide (y26.1=0),())
          else
          some (false,())
         else
          some (false,())
         else
         some (false,())
        else
         some (false,())
        else
        some (false,())
       else
        some (false,())
       else
       some (false,())
      else
       some (false,())
      else
      some (false,())
     else
      some (false,())
     else
     some (false,())
    else
     some (false,())
    else
    some (false,())
   else
    some (false,())
   else
   some (false,())
  else
   some (false,())
  else
  some (false,())
  | .ret y3 =>
  none:=zr (by kernel_rfl)
theorem zer (a1:zG):zC a1 =
 bif decide (((a1.L.length:Int))≤a1.At) then
 some (0,a1,())
 else
 (idx a1.L (w64 ((w64 (a1.At+1))-1))).bind fun x1 =>
 some ((x1.toNat:Int),{a1 with At:=w64 (a1.At+1)},()):=zr (by kernel_rfl)
theorem zgU (a1:Int) (a2:Int) (a3:zG):XM a1 a2 a3 =
 (zC a3).bind fun y1 =>
 (xt ([1,1,2,2,2,3,4,5]:List Int) (y1.1.tmod 8)).bind fun n2 =>
 (([1,1,2,2,2,3,4,5]:List Int)[n2]?).bind fun x3 =>
 (zC y1.2.1).bind fun y4 =>
 bif decide (a1=0) then
 none
 else
 bif decide (x3=1) then
  (zC y4.2.1).bind fun y5 =>
  bif decide (a1=0) then
  none
  else
  bif decide (x3<3) then
   (zC y5.2.1).bind fun y6 =>
   bif decide (a2=0) then
   none
   else
   some (zm.mk x3 (y4.1.tmod a1) (y5.1.tmod a1) (y6.1.tmod a2),y6.2.1,())
  else
   some (zm.mk x3 (y4.1.tmod a1) (y5.1.tmod a1) 0,y5.2.1,())
 else
  bif decide (x3=2) then
  (zC y4.2.1).bind fun y7 =>
  bif decide (a1=0) then
   none
  else
   bif decide (x3<3) then
   (zC y7.2.1).bind fun y8 =>
   bif decide (a2=0) then
    none
   else
    some (zm.mk x3 (y4.1.tmod a1) (y7.1.tmod a1) (y8.1.tmod a2),y8.2.1,())
   else
   some (zm.mk x3 (y4.1.tmod a1) (y7.1.tmod a1) 0,y7.2.1,())
  else
  bif decide (x3=4) then
   (zC y4.2.1).bind fun y9 =>
   bif decide (a1=0) then
   none
   else
   bif decide (x3<3) then
    (zC y9.2.1).bind fun y10 =>
    bif decide (a2=0) then
    none
    else
    some (zm.mk x3 (y4.1.tmod a1) (y9.1.tmod a1) (y10.1.tmod a2),y10.2.1,())
   else
    some (zm.mk x3 (y4.1.tmod a1) (y9.1.tmod a1) 0,y9.2.1,())
  else
   bif decide (x3<3) then
   (zC y4.2.1).bind fun y11 =>
   bif decide (a2=0) then
    none
   else
    some (zm.mk x3 (y4.1.tmod a1) 0 (y11.1.tmod a2),y11.2.1,())
   else
   some (zm.mk x3 (y4.1.tmod a1) 0 0,y4.2.1,()):=zr (by kernel_rfl)
theorem zkC (s1:Int) (s2:Int) (s3:Int) (s4:Int) (s5:Int) (s6:Int) (s7:Int) (s8:Int) (s9:Int) (s10:Int) (s11:Int) (s12:BitVec 64) (s13:zG) (s14:Int) (s15:Int) (s16:Int) (s17:Int) (s18:Int) (s19:Int) (s20:Int) (s21:Int) (s22:Int) (s23:BitVec 64) (s24:List (List Int)) (s25:List (List Int)) (s26:List (List zm)) (s27:List zg) (s28:List (List Int)) (s29:List (List Int)) (s30:List (List zm)) (s31:List zg):Xl (s1,s2,s3,s4,s5,s6,s7,s8,s9,s10,s11,s12,s13,s14,s15,s16,s17,s18,s19,s20,s21,s22,s23,s24,s25,s26,s27,s28,s29,s30,s31,()) =
 bif decide (s2<s1) then
 (zO YN (s1,s2,0,s3,s4,s5,s6,s7,s8,s9,s10,s11,s12,s13,s14,s15,s16,s17,s18,s19,s20,s21,s22,s23,([]:List Int),s24,s25,s26,s27,s28,s29,s30,s31,())).bind fun st=>match st with
  | .again _=>none
  | .brk y1 =>
  (yc (y1.2.2.2.2.2.2.2.2.2.2.2.2.2.2.2.2.2.2.2.2.2.2.2.2.2.2.2.2.1++(([y1.2.2.2.2.2.2.2.2.2.2.2.2.2.2.2.2.2.2.2.2.2.2.2.1]:List (List Int))))).bind fun l2 =>
  some (.again (y1.1,w64 (y1.2.1+1),y1.2.2.1,y1.2.2.2.1,y1.2.2.2.2.1,y1.2.2.2.2.2.1,y1.2.2.2.2.2.2.1,y1.2.2.2.2.2.2.2.1,y1.2.2.2.2.2.2.2.2.1,y1.2.2.2.2.2.2.2.2.2.1,y1.2.2.2.2.2.2.2.2.2.2.1,y1.2.2.2.2.2.2.2.2.2.2.2.1,y1.2.2.2.2.2.2.2.2.2.2.2.2.1,y1.2.2.2.2.2.2.2.2.2.2.2.2.2.1,y1.2.2.2.2.2.2.2.2.2.2.2.2.2.2.1,y1.2.2.2.2.2.2.2.2.2.2.2.2.2.2.2.1,y1.2.2.2.2.2.2.2.2.2.2.2.2.2.2.2.2.1,y1.2.2.2.2.2.2.2.2.2.2.2.2.2.2.2.2.2.1,y1.2.2.2.2.2.2.2.2.2.2.2.2.2.2.2.2.2.2.1,y1.2.2.2.2.2.2.2.2.2.2.2.2.2.2.2.2.2.2.2.1,y1.2.2.2.2.2.2.2.2.2.2.2.2.2.2.2.2.2.2.2.2.1,y1.2.2.2.2.2.2.2.2.2.2.2.2.2.2.2.2.2.2.2.2.2.1,y1.2.2.2.2.2.2.2.2.2.2.2.2.2.2.2.2.2.2.2.2.2.2.1,y1.2.2.2.2.2.2.2.2.2.2.2.2.2.2.2.2.2.2.2.2.2.2.2.2.1,y1.2.2.2.2.2.2.2.2.2.2.2.2.2.2.2.2.2.2.2.2.2.2.2.2.2.1,y1.2.2.2.2.2.2.2.2.2.2.2.2.2.2.2.2.2.2.2.2.2.2.2.2.2.2.1,y1.2.2.2.2.2.2.2.2.2.2.2.2.2.2.2.2.2.2.2.2.2.2.2.2.2.2.2.1,l2,y1.2.2.2.2.2.2.2.2.2.2.2.2.2.2.2.2.2.2.2.2.2.2.2.2.2.2.2.2.2.1,y1.2.2.2.2.2.2.2.2.2.2.2.2.2.2.2.2.2.2.2.2.2.2.2.2.2.2.2.2.2.2.1,y1.2.2.2.2.2.2.2.2.2.2.2.2.2.2.2.2.2.2.2.2.2.2.2.2.2.2.2.2.2.2.2.1,()))
  | .ret y1 =>
  some (.ret (()))
 else
 some (.brk (s1,s3,s4,s5,s6,s7,s8,s9,s10,s11,s12,s13,s14,s15,s16,s17,s18,s19,s20,s21,s22,s23,s24,s25,s26,s27,s28,s29,s30,s31,())):=by kernel_rfl
theorem zkc (s1:Int) (s2:Int) (s3:Int) (s4:Int) (s5:Int) (s6:Int) (s7:Int) (s8:Int) (s9:Int) (s10:Int) (s11:Int) (s12:Int) (s13:BitVec 64) (s14:zG) (s15:Int) (s16:Int) (s17:Int) (s18:Int) (s19:Int) (s20:Int) (s21:Int) (s22:Int) (s23:Int) (s24:BitVec 64) (s25:List Int) (s26:List (List Int)) (s27:List (List Int)) (s28:List (List zm)) (s29:List zg) (s30:List (List Int)) (s31:List (List Int)) (s32:List (List zm)) (s33:List zg):YN (s1,s2,s3,s4,s5,s6,s7,s8,s9,s10,s11,s12,s13,s14,s15,s16,s17,s18,s19,s20,s21,s22,s23,s24,s25,s26,s27,s28,s29,s30,s31,s32,s33,()) =
 bif decide (s3<s23) then
 (zC s14).bind fun y1 =>
 bif decide ((w64 (s1+1))=0) then
  none
 else
  (yc (s25++(([(y1.1.tmod (w64 (s1+1)))]:List Int)))).bind fun l2 =>
  some (.again (s1,s2,w64 (s3+1),s4,s5,s6,s7,s8,s9,s10,s11,s12,s13,y1.2.1,s15,s16,s17,s18,s19,s20,s21,s22,s23,s24,l2,s26,s27,s28,s29,s30,s31,s32,s33,()))
 else
 some (.brk (s1,s2,s4,s5,s6,s7,s8,s9,s10,s11,s12,s13,s14,s15,s16,s17,s18,s19,s20,s21,s22,s23,s24,s25,s26,s27,s28,s29,s30,s31,s32,s33,())):=by kernel_rfl
theorem zjz (s1:Int) (s2:Int) (s3:Int) (s4:Int) (s5:Int) (s6:Int) (s7:Int) (s8:Int) (s9:Int) (s10:Int) (s11:Int) (s12:BitVec 64) (s13:zG) (s14:Int) (s15:Int) (s16:Int) (s17:Int) (s18:Int) (s19:Int) (s20:Int) (s21:Int) (s22:Int) (s23:BitVec 64) (s24:List (List Int)) (s25:List (List Int)) (s26:List (List zm)) (s27:List zg) (s28:List (List Int)) (s29:List (List Int)) (s30:List (List zm)) (s31:List zg):YT (s1,s2,s3,s4,s5,s6,s7,s8,s9,s10,s11,s12,s13,s14,s15,s16,s17,s18,s19,s20,s21,s22,s23,s24,s25,s26,s27,s28,s29,s30,s31,()) =
 bif decide (s2<s15) then
 (zO YM (s1,s2,0,s3,s4,s5,s6,s7,s8,s9,s10,s11,s12,s13,s14,s15,s16,s17,s18,s19,s20,s21,s22,s23,([]:List Int),s24,s25,s26,s27,s28,s29,s30,s31,())).bind fun st=>match st with
  | .again _=>none
  | .brk y1 =>
  bif decide (((y1.2.2.2.2.2.2.2.2.2.2.2.2.2.2.2.2.2.2.2.2.2.2.2.1.length:Int))=0) then
   (zC y1.2.2.2.2.2.2.2.2.2.2.2.2.1).bind fun y2 =>
   (zO Zk (y1.1,y1.2.1,y2.1.tmod 8,y1.2.2.1,y1.2.2.2.1,y1.2.2.2.2.1,y1.2.2.2.2.2.1,y1.2.2.2.2.2.2.1,y1.2.2.2.2.2.2.2.1,y1.2.2.2.2.2.2.2.2.1,y1.2.2.2.2.2.2.2.2.2.1,y1.2.2.2.2.2.2.2.2.2.2.1,y1.2.2.2.2.2.2.2.2.2.2.2.1,y2.2.1,y1.2.2.2.2.2.2.2.2.2.2.2.2.2.1,y1.2.2.2.2.2.2.2.2.2.2.2.2.2.2.1,y1.2.2.2.2.2.2.2.2.2.2.2.2.2.2.2.1,y1.2.2.2.2.2.2.2.2.2.2.2.2.2.2.2.2.1,y1.2.2.2.2.2.2.2.2.2.2.2.2.2.2.2.2.2.1,y1.2.2.2.2.2.2.2.2.2.2.2.2.2.2.2.2.2.2.1,y1.2.2.2.2.2.2.2.2.2.2.2.2.2.2.2.2.2.2.2.1,y1.2.2.2.2.2.2.2.2.2.2.2.2.2.2.2.2.2.2.2.2.1,y1.2.2.2.2.2.2.2.2.2.2.2.2.2.2.2.2.2.2.2.2.2.1,y1.2.2.2.2.2.2.2.2.2.2.2.2.2.2.2.2.2.2.2.2.2.2.1,([0]:List Int),([]:List zm),y1.2.2.2.2.2.2.2.2.2.2.2.2.2.2.2.2.2.2.2.2.2.2.2.2.1,y1.2.2.2.2.2.2.2.2.2.2.2.2.2.2.2.2.2.2.2.2.2.2.2.2.2.1,y1.2.2.2.2.2.2.2.2.2.2.2.2.2.2.2.2.2.2.2.2.2.2.2.2.2.2.1,y1.2.2.2.2.2.2.2.2.2.2.2.2.2.2.2.2.2.2.2.2.2.2.2.2.2.2.2.1,y1.2.2.2.2.2.2.2.2.2.2.2.2.2.2.2.2.2.2.2.2.2.2.2.2.2.2.2.2.1,y1.2.2.2.2.2.2.2.2.2.2.2.2.2.2.2.2.2.2.2.2.2.2.2.2.2.2.2.2.2.1,y1.2.2.2.2.2.2.2.2.2.2.2.2.2.2.2.2.2.2.2.2.2.2.2.2.2.2.2.2.2.2.1,y1.2.2.2.2.2.2.2.2.2.2.2.2.2.2.2.2.2.2.2.2.2.2.2.2.2.2.2.2.2.2.2.1,())).bind fun st=>match st with
    | .again _=>none
    | .brk y3 =>
    (yc (y3.2.2.2.2.2.2.2.2.2.2.2.2.2.2.2.2.2.2.2.2.2.2.2.2.2.2.2.2.2.2.1++(([y3.2.2.2.2.2.2.2.2.2.2.2.2.2.2.2.2.2.2.2.2.2.2.2.1]:List (List Int))))).bind fun l4 =>
    (yc (y3.2.2.2.2.2.2.2.2.2.2.2.2.2.2.2.2.2.2.2.2.2.2.2.2.2.2.2.2.2.2.2.1++(([y3.2.2.2.2.2.2.2.2.2.2.2.2.2.2.2.2.2.2.2.2.2.2.2.2.1]:List (List zm))))).bind fun l5 =>
    some (.again (y3.1,w64 (y3.2.1+1),y3.2.2.1,y3.2.2.2.1,y3.2.2.2.2.1,y3.2.2.2.2.2.1,y3.2.2.2.2.2.2.1,y3.2.2.2.2.2.2.2.1,y3.2.2.2.2.2.2.2.2.1,y3.2.2.2.2.2.2.2.2.2.1,y3.2.2.2.2.2.2.2.2.2.2.1,y3.2.2.2.2.2.2.2.2.2.2.2.1,y3.2.2.2.2.2.2.2.2.2.2.2.2.1,y3.2.2.2.2.2.2.2.2.2.2.2.2.2.1,y3.2.2.2.2.2.2.2.2.2.2.2.2.2.2.1,y3.2.2.2.2.2.2.2.2.2.2.2.2.2.2.2.1,y3.2.2.2.2.2.2.2.2.2.2.2.2.2.2.2.2.1,y3.2.2.2.2.2.2.2.2.2.2.2.2.2.2.2.2.2.1,y3.2.2.2.2.2.2.2.2.2.2.2.2.2.2.2.2.2.2.1,y3.2.2.2.2.2.2.2.2.2.2.2.2.2.2.2.2.2.2.2.1,y3.2.2.2.2.2.2.2.2.2.2.2.2.2.2.2.2.2.2.2.2.1,y3.2.2.2.2.2.2.2.2.2.2.2.2.2.2.2.2.2.2.2.2.2.1,y3.2.2.2.2.2.2.2.2.2.2.2.2.2.2.2.2.2.2.2.2.2.2.1,y3.2.2.2.2.2.2.2.2.2.2.2.2.2.2.2.2.2.2.2.2.2.2.2.2.2.1,y3.2.2.2.2.2.2.2.2.2.2.2.2.2.2.2.2.2.2.2.2.2.2.2.2.2.2.1,y3.2.2.2.2.2.2.2.2.2.2.2.2.2.2.2.2.2.2.2.2.2.2.2.2.2.2.2.1,y3.2.2.2.2.2.2.2.2.2.2.2.2.2.2.2.2.2.2.2.2.2.2.2.2.2.2.2.2.1,y3.2.2.2.2.2.2.2.2.2.2.2.2.2.2.2.2.2.2.2.2.2.2.2.2.2.2.2.2.2.1,l4,l5,y3.2.2.2.2.2.2.2.2.2.2.2.2.2.2.2.2.2.2.2.2.2.2.2.2.2.2.2.2.2.2.2.2.1,()))
    | .ret y3 =>
    some (.ret (()))
  else
   (zC y1.2.2.2.2.2.2.2.2.2.2.2.2.1).bind fun y6 =>
   (zO Zk (y1.1,y1.2.1,y6.1.tmod 8,y1.2.2.1,y1.2.2.2.1,y1.2.2.2.2.1,y1.2.2.2.2.2.1,y1.2.2.2.2.2.2.1,y1.2.2.2.2.2.2.2.1,y1.2.2.2.2.2.2.2.2.1,y1.2.2.2.2.2.2.2.2.2.1,y1.2.2.2.2.2.2.2.2.2.2.1,y1.2.2.2.2.2.2.2.2.2.2.2.1,y6.2.1,y1.2.2.2.2.2.2.2.2.2.2.2.2.2.1,y1.2.2.2.2.2.2.2.2.2.2.2.2.2.2.1,y1.2.2.2.2.2.2.2.2.2.2.2.2.2.2.2.1,y1.2.2.2.2.2.2.2.2.2.2.2.2.2.2.2.2.1,y1.2.2.2.2.2.2.2.2.2.2.2.2.2.2.2.2.2.1,y1.2.2.2.2.2.2.2.2.2.2.2.2.2.2.2.2.2.2.1,y1.2.2.2.2.2.2.2.2.2.2.2.2.2.2.2.2.2.2.2.1,y1.2.2.2.2.2.2.2.2.2.2.2.2.2.2.2.2.2.2.2.2.1,y1.2.2.2.2.2.2.2.2.2.2.2.2.2.2.2.2.2.2.2.2.2.1,y1.2.2.2.2.2.2.2.2.2.2.2.2.2.2.2.2.2.2.2.2.2.2.1,y1.2.2.2.2.2.2.2.2.2.2.2.2.2.2.2.2.2.2.2.2.2.2.2.1,([]:List zm),y1.2.2.2.2.2.2.2.2.2.2.2.2.2.2.2.2.2.2.2.2.2.2.2.2.1,y1.2.2.2.2.2.2.2.2.2.2.2.2.2.2.2.2.2.2.2.2.2.2.2.2.2.1,y1.2.2.2.2.2.2.2.2.2.2.2.2.2.2.2.2.2.2.2.2.2.2.2.2.2.2.1,y1.2.2.2.2.2.2.2.2.2.2.2.2.2.2.2.2.2.2.2.2.2.2.2.2.2.2.2.1,y1.2.2.2.2.2.2.2.2.2.2.2.2.2.2.2.2.2.2.2.2.2.2.2.2.2.2.2.2.1,y1.2.2.2.2.2.2.2.2.2.2.2.2.2.2.2.2.2.2.2.2.2.2.2.2.2.2.2.2.2.1,y1.2.2.2.2.2.2.2.2.2.2.2.2.2.2.2.2.2.2.2.2.2.2.2.2.2.2.2.2.2.2.1,y1.2.2.2.2.2.2.2.2.2.2.2.2.2.2.2.2.2.2.2.2.2.2.2.2.2.2.2.2.2.2.2.1,())).bind fun st=>match st with
    | .again _=>none
    | .brk y7 =>
    (yc (y7.2.2.2.2.2.2.2.2.2.2.2.2.2.2.2.2.2.2.2.2.2.2.2.2.2.2.2.2.2.2.1++(([y7.2.2.2.2.2.2.2.2.2.2.2.2.2.2.2.2.2.2.2.2.2.2.2.1]:List (List Int))))).bind fun l8 =>
    (yc (y7.2.2.2.2.2.2.2.2.2.2.2.2.2.2.2.2.2.2.2.2.2.2.2.2.2.2.2.2.2.2.2.1++(([y7.2.2.2.2.2.2.2.2.2.2.2.2.2.2.2.2.2.2.2.2.2.2.2.2.1]:List (List zm))))).bind fun l9 =>
    some (.again (y7.1,w64 (y7.2.1+1),y7.2.2.1,y7.2.2.2.1,y7.2.2.2.2.1,y7.2.2.2.2.2.1,y7.2.2.2.2.2.2.1,y7.2.2.2.2.2.2.2.1,y7.2.2.2.2.2.2.2.2.1,y7.2.2.2.2.2.2.2.2.2.1,y7.2.2.2.2.2.2.2.2.2.2.1,y7.2.2.2.2.2.2.2.2.2.2.2.1,y7.2.2.2.2.2.2.2.2.2.2.2.2.1,y7.2.2.2.2.2.2.2.2.2.2.2.2.2.1,y7.2.2.2.2.2.2.2.2.2.2.2.2.2.2.1,y7.2.2.2.2.2.2.2.2.2.2.2.2.2.2.2.1,y7.2.2.2.2.2.2.2.2.2.2.2.2.2.2.2.2.1,y7.2.2.2.2.2.2.2.2.2.2.2.2.2.2.2.2.2.1,y7.2.2.2.2.2.2.2.2.2.2.2.2.2.2.2.2.2.2.1,y7.2.2.2.2.2.2.2.2.2.2.2.2.2.2.2.2.2.2.2.1,y7.2.2.2.2.2.2.2.2.2.2.2.2.2.2.2.2.2.2.2.2.1,y7.2.2.2.2.2.2.2.2.2.2.2.2.2.2.2.2.2.2.2.2.2.1,y7.2.2.2.2.2.2.2.2.2.2.2.2.2.2.2.2.2.2.2.2.2.2.1,y7.2.2.2.2.2.2.2.2.2.2.2.2.2.2.2.2.2.2.2.2.2.2.2.2.2.1,y7.2.2.2.2.2.2.2.2.2.2.2.2.2.2.2.2.2.2.2.2.2.2.2.2.2.2.1,y7.2.2.2.2.2.2.2.2.2.2.2.2.2.2.2.2.2.2.2.2.2.2.2.2.2.2.2.1,y7.2.2.2.2.2.2.2.2.2.2.2.2.2.2.2.2.2.2.2.2.2.2.2.2.2.2.2.2.1,y7.2.2.2.2.2.2.2.2.2.2.2.2.2.2.2.2.2.2.2.2.2.2.2.2.2.2.2.2.2.1,l8,l9,y7.2.2.2.2.2.2.2.2.2.2.2.2.2.2.2.2.2.2.2.2.2.2.2.2.2.2.2.2.2.2.2.2.1,()))
    | .ret y7 =>
    some (.ret (()))
  | .ret y1 =>
  some (.ret (()))
 else
 some (.brk (s3,s4,s5,s6,s7,s8,s9,s10,s11,s12,s14,s15,s16,s17,s18,s19,s20,s21,s22,s23,s24,s25,s26,s27,s28,s29,s30,s31,())):=by kernel_rfl
theorem zjg (s1:Int) (s2:Int) (s3:Int) (s4:Int) (s5:Int) (s6:Int) (s7:Int) (s8:Int) (s9:Int) (s10:Int) (s11:Int) (s12:Int) (s13:BitVec 64) (s14:zG) (s15:Int) (s16:Int) (s17:Int) (s18:Int) (s19:Int) (s20:Int) (s21:Int) (s22:Int) (s23:Int) (s24:BitVec 64) (s25:List Int) (s26:List (List Int)) (s27:List (List Int)) (s28:List (List zm)) (s29:List zg) (s30:List (List Int)) (s31:List (List Int)) (s32:List (List zm)) (s33:List zg):YM (s1,s2,s3,s4,s5,s6,s7,s8,s9,s10,s11,s12,s13,s14,s15,s16,s17,s18,s19,s20,s21,s22,s23,s24,s25,s26,s27,s28,s29,s30,s31,s32,s33,()) =
 (zC s14).bind fun y1 =>
 bif decide (s3<(w64 (1+(y1.1.tmod 3)))) then
 (zC y1.2.1).bind fun y2 =>
 bif decide ((w64 (s1+1))=0) then
  none
 else
  (yc (s25++(([(y2.1.tmod (w64 (s1+1)))]:List Int)))).bind fun l3 =>
  some (.again (s1,s2,w64 (s3+1),s4,s5,s6,s7,s8,s9,s10,s11,s12,s13,y2.2.1,s15,s16,s17,s18,s19,s20,s21,s22,s23,s24,l3,s26,s27,s28,s29,s30,s31,s32,s33,()))
 else
 some (.brk (s1,s2,s4,s5,s6,s7,s8,s9,s10,s11,s12,s13,y1.2.1,s15,s16,s17,s18,s19,s20,s21,s22,s23,s24,s25,s26,s27,s28,s29,s30,s31,s32,s33,())):=by kernel_rfl
theorem zjl (s1:Int) (s2:Int) (s3:Int) (s4:Int) (s5:Int) (s6:Int) (s7:Int) (s8:Int) (s9:Int) (s10:Int) (s11:Int) (s12:Int) (s13:BitVec 64) (s14:zG) (s15:Int) (s16:Int) (s17:Int) (s18:Int) (s19:Int) (s20:Int) (s21:Int) (s22:Int) (s23:Int) (s24:BitVec 64) (s25:List Int) (s26:List zm) (s27:List (List Int)) (s28:List (List Int)) (s29:List (List zm)) (s30:List zg) (s31:List (List Int)) (s32:List (List Int)) (s33:List (List zm)) (s34:List zg):Zk (s1,s2,s3,s4,s5,s6,s7,s8,s9,s10,s11,s12,s13,s14,s15,s16,s17,s18,s19,s20,s21,s22,s23,s24,s25,s26,s27,s28,s29,s30,s31,s32,s33,s34,()) =
 bif decide (0<s3) then
 (XM ((s25.length:Int)) s23 s14).bind fun y1 =>
 (yc (s26++([y1.1]:List zm))).bind fun l2 =>
 some (.again (s1,s2,w64 (s3-1),s4,s5,s6,s7,s8,s9,s10,s11,s12,s13,y1.2.1,s15,s16,s17,s18,s19,s20,s21,s22,s23,s24,s25,l2,s27,s28,s29,s30,s31,s32,s33,s34,()))
 else
 some (.brk (s1,s2,s4,s5,s6,s7,s8,s9,s10,s11,s12,s13,s14,s15,s16,s17,s18,s19,s20,s21,s22,s23,s24,s25,s26,s27,s28,s29,s30,s31,s32,s33,s34,())):=by kernel_rfl
theorem zn2 (a1:List (BitVec 8)):zbz a1 =
 (cut a1 0 (bif decide (90<((a1.length:Int))) then 90 else ((a1.length:Int)))).bind fun l1 =>
 (zC (zG.mk l1 0)).bind fun y2 =>
 (zC y2.2.1).bind fun y3 =>
 (zC y3.2.1).bind fun y4 =>
 (zC y4.2.1).bind fun y5 =>
 (zC y5.2.1).bind fun y6 =>
 (zC y6.2.1).bind fun y7 =>
 (zC y7.2.1).bind fun y8 =>
 (zC y8.2.1).bind fun y9 =>
 (zC y9.2.1).bind fun y10 =>
 (zC y10.2.1).bind fun y11 =>
 (zO Xl (w64 (1+(y10.1.tmod 6)),0,0,0,0,0,0,0,0,0,0,0#64,y11.2.1,w64 (1+(y2.1.tmod 3)),y3.1.tmod 3,w64 (1+(y4.1.tmod 3)),w64 (1+(y5.1.tmod 2)),w64 (1+(y6.1.tmod 3)),w64 ((w64 (1+(y10.1.tmod 6)))+(y11.1.tmod 4)),y7.1.tmod 4,y8.1.tmod 4,w64 (1+(y9.1.tmod 2)),0#64,([]:List (List Int)),([]:List (List Int)),([]:List (List zm)),([]:List zg),([]:List (List Int)),([]:List (List Int)),([]:List (List zm)),([]:List zg),())).bind fun st=>match st with
  | .again _=>none
  | .brk y12 =>
  (zC y12.2.2.2.2.2.2.2.2.2.2.2.1).bind fun y13 =>
  bif decide ((w64 (y12.1+1))=0) then
  none
  else
  (ZY 0#64 (y13.1.tmod (w64 (y12.1+1)))).bind fun y14 =>
  (zO YT (y12.1,0,y12.2.1,y12.2.2.1,y12.2.2.2.1,y12.2.2.2.2.1,y12.2.2.2.2.2.1,y12.2.2.2.2.2.2.1,y12.2.2.2.2.2.2.2.1,y12.2.2.2.2.2.2.2.2.1,y12.2.2.2.2.2.2.2.2.2.1,y12.2.2.2.2.2.2.2.2.2.2.1,y13.2.1,y12.2.2.2.2.2.2.2.2.2.2.2.2.1,y12.2.2.2.2.2.2.2.2.2.2.2.2.2.1,y12.2.2.2.2.2.2.2.2.2.2.2.2.2.2.1,y12.2.2.2.2.2.2.2.2.2.2.2.2.2.2.2.1,y12.2.2.2.2.2.2.2.2.2.2.2.2.2.2.2.2.1,y12.2.2.2.2.2.2.2.2.2.2.2.2.2.2.2.2.2.1,y12.2.2.2.2.2.2.2.2.2.2.2.2.2.2.2.2.2.2.1,y12.2.2.2.2.2.2.2.2.2.2.2.2.2.2.2.2.2.2.2.1,y12.2.2.2.2.2.2.2.2.2.2.2.2.2.2.2.2.2.2.2.2.1,y14.1,y12.2.2.2.2.2.2.2.2.2.2.2.2.2.2.2.2.2.2.2.2.2.2.1,y12.2.2.2.2.2.2.2.2.2.2.2.2.2.2.2.2.2.2.2.2.2.2.2.1,y12.2.2.2.2.2.2.2.2.2.2.2.2.2.2.2.2.2.2.2.2.2.2.2.2.1,y12.2.2.2.2.2.2.2.2.2.2.2.2.2.2.2.2.2.2.2.2.2.2.2.2.2.1,y12.2.2.2.2.2.2.2.2.2.2.2.2.2.2.2.2.2.2.2.2.2.2.2.2.2.2.1,y12.2.2.2.2.2.2.2.2.2.2.2.2.2.2.2.2.2.2.2.2.2.2.2.2.2.2.2.1,y12.2.2.2.2.2.2.2.2.2.2.2.2.2.2.2.2.2.2.2.2.2.2.2.2.2.2.2.2.1,y12.2.2.2.2.2.2.2.2.2.2.2.2.2.2.2.2.2.2.2.2.2.2.2.2.2.2.2.2.2.1,())).bind fun st=>match st with
   | .again _=>none
   | .brk y15 =>
   some (zb.mk y15.2.2.2.2.2.2.2.2.2.2.1 y15.2.2.2.2.2.2.2.2.2.2.2.1 y15.2.2.2.2.2.2.2.2.2.2.2.2.1 y15.2.2.2.2.2.2.2.2.2.2.2.2.2.1 y15.2.2.2.2.2.2.2.2.2.2.2.2.2.2.1 y15.2.2.2.2.2.2.2.2.2.2.2.2.2.2.2.1 y15.2.2.2.2.2.2.2.2.2.2.2.2.2.2.2.2.1 y15.2.2.2.2.2.2.2.2.2.2.2.2.2.2.2.2.2.1 (zt.mk y15.2.2.2.2.2.2.2.2.2.2.2.2.2.2.2.2.2.2.1 y15.2.2.2.2.2.2.2.2.2.2.2.2.2.2.2.2.2.2.2.2.2.2.2.2.1) y15.2.2.2.2.2.2.2.2.2.2.2.2.2.2.2.2.2.2.2.1 y15.2.2.2.2.2.2.2.2.2.2.2.2.2.2.2.2.2.2.2.2.2.2.2.2.2.1 y15.2.2.2.2.2.2.2.2.2.2.2.2.2.2.2.2.2.2.2.2.2.2.2.2.2.2.1 y15.2.2.2.2.2.2.2.2.2.2.2.2.2.2.2.2.2.2.2.2.2.2.2.2.2.2.2.1,())
   | .ret y15 =>
   none
  | .ret y12 =>
  none:=zr (by kernel_rfl)
theorem zi0 (s1:List (BitVec 8)) (s2:Int) (s3:Int) (s4:zb) (s5:List zg):V0 (s1,s2,s3,s4,s5,()) =
 bif decide (s3<((s1.length:Int))) then
 bif decide (((s5.length:Int))<s2) then
  (idx s1 s3).bind fun x1 =>
  bif decide ((w64 ((w64 (1+s4.Workers))+s4.Mutators))=0) then
  none
  else
  bif decide (s4.Workers<(((x1.toNat:Int)).tmod (w64 ((w64 (1+s4.Workers))+s4.Mutators)))) then
   (zO vD (s1,s2,s3,0,s4,s5,zg.mk 2 (w64 ((((x1.toNat:Int)).tmod (w64 ((w64 (1+s4.Workers))+s4.Mutators)))-s4.Workers)),())).bind fun st=>match st with
    | .again _=>none
    | .brk y2 =>
    some (.again (y2.1,y2.2.1,w64 (y2.2.2.1+1),y2.2.2.2.1,y2.2.2.2.2.1,()))
    | .ret y2 =>
    some (.ret (()))
  else
   bif decide (0<(((x1.toNat:Int)).tmod (w64 ((w64 (1+s4.Workers))+s4.Mutators)))) then
   (zO vD (s1,s2,s3,0,s4,s5,zg.mk 1 (((x1.toNat:Int)).tmod (w64 ((w64 (1+s4.Workers))+s4.Mutators))),())).bind fun st=>match st with
    | .again _=>none
    | .brk y3 =>
    some (.again (y3.1,y3.2.1,w64 (y3.2.2.1+1),y3.2.2.2.1,y3.2.2.2.2.1,()))
    | .ret y3 =>
    some (.ret (()))
   else
   (zO vD (s1,s2,s3,0,s4,s5,zg.mk 0 0,())).bind fun st=>match st with
    | .again _=>none
    | .brk y4 =>
    some (.again (y4.1,y4.2.1,w64 (y4.2.2.1+1),y4.2.2.2.1,y4.2.2.2.2.1,()))
    | .ret y4 =>
    some (.ret (()))
 else
  some (.brk (s5,()))
 else
 some (.brk (s5,())):=by kernel_rfl
theorem ziJ (s1:List (BitVec 8)) (s2:Int) (s3:Int) (s4:Int) (s5:zb) (s6:List zg) (s7:zg):vD (s1,s2,s3,s4,s5,s6,s7,()) =
 (idx s1 s3).bind fun x1 =>
 bif decide (s4≤(w64 (((x1.toNat:Int)).tdiv 64))) then
 bif decide (((s6.length:Int))<s2) then
  (yc (s6++([s7]:List zg))).bind fun l2 =>
  some (.again (s1,s2,s3,w64 (s4+1),s5,l2,s7,()))
 else
  some (.brk (s1,s2,s3,s5,s6,()))
 else
 some (.brk (s1,s2,s3,s5,s6,())):=by kernel_rfl
theorem zng (a1:zb) (a2:List (BitVec 8)) (a3:Int):WQ a1 a2 a3 =
 (zO V0 (a2,a3,0,a1,([]:List zg),())).bind fun st=>match st with
  | .again _=>none
  | .brk y1 =>
  some (y1.1,())
  | .ret y1 =>
  none:=zr (by kernel_rfl)
theorem ztw (a1:zo):zqm a1 =
 some (a1.Marks&&& ~~~a1.Black,()):=zr (by kernel_rfl)
theorem Ue (s1:Bool) (s2:Int) (s3:Int) (s4:zb) (s5:za) (s6:List zg):ub (s1,s2,s3,s4,s5,s6,()) =
 bif decide (s3<s2) then
 (xt s6 s3).bind fun n1 =>
 (s6[n1]?).bind fun x2 =>
 (zcl s5 x2).bind fun y3 =>
 (zf1 y3.1).bind fun y4 =>
 bif decide (y4.1<0) then
  some (.ret (false,()))
 else
  bif decide ((w64 (s4.Workers+s4.Mutators))<y4.1) then
  some (.ret (false,()))
  else
  (zqm y3.1.T).bind fun y5 =>
  (zf3 y5.1).bind fun y6 =>
  bif !(decide (y3.1.Work=(w64 (y6.1+y4.1)))) then
   some (.ret (false,()))
  else
   bif decide (y3.1.Work<0) then
   some (.ret (false,()))
   else
   some (.again (s1,s2,w64 (s3+1),s4,y3.1,s6,()))
 else
 some (.brk (s1,())):=by kernel_rfl
theorem zkm (a1:List (BitVec 8)) (a2:List (BitVec 8)):Zs a1 a2 =
 (VO).bind fun y1 =>
 bif !y1.1 then
 some (false,())
 else
 (zbz a1).bind fun y2 =>
 (zfM y2.1).bind fun y3 =>
 (WQ y2.1 a2 300).bind fun y4 =>
 (zO ub (y1.1,(y4.1.length:Int),0,y2.1,y3.1,y4.1,())).bind fun st=>match st with
  | .again _=>none
  | .brk y5 =>
  some (y5.1,())
  | .ret y5 =>
  some (y5.1,()):=zr (by kernel_rfl)
end Go.Pe.G
namespace Go.Pe.G
open Go.Pe
theorem zGl:Go.Proofs.Tryz.prog.funcs[77]? =some Go.Proofs.Tryz.f77:=by kernel_rfl
theorem zE5:Go.Proofs.Tryz.f77.body.isSome=true:=by kernel_rfl
theorem zEW:uc Go.Proofs.Tryz.prog 77=true:=by kernel_rfl
theorem zGd:Go.Proofs.Tryz.prog.funcs[87]? =some Go.Proofs.Tryz.f87:=by kernel_rfl
theorem zE4:Go.Proofs.Tryz.f87.body.isSome=true:=by kernel_rfl
theorem zFs:uc Go.Proofs.Tryz.prog 87=true:=by kernel_rfl
theorem zFI:Go.Proofs.Tryz.prog.funcs[115]? =some Go.Proofs.Tryz.f115:=by kernel_rfl
theorem zEe:Go.Proofs.Tryz.f115.body.isSome=true:=by kernel_rfl
theorem zEv:uc Go.Proofs.Tryz.prog 115=true:=by kernel_rfl
theorem zpR (ys:List Int) (s1:Int) (s2:Int) (s3:BitVec 64):zad ys (s1,s2,s3,()) =
 bif !(decide (s3=0#64)) then
 (qTZ s3).bind fun y1 =>
 (Yv ys s2 (w64 (y1.1+1))).bind fun _ =>
 some (.again (s1,s2+1,s3&&&(s3-1#64),()))
 else
 some (.brk (s1,s2,())):=by kernel_rfl
theorem zug (n:Int) (ys:List Int) (a1:BitVec 64):zmH (zbd ys) Go.Proofs.Tryz.f115 zmQ n ((a1,()):(BitVec 64)×Unit) =
 (zO (zad ys) (n,0,a1,())).bind fun st=>match st with
  | .again _=>none
  | .brk y1 =>
  some y1.2.1
  | .ret y1 =>
  some y1.2.1:=by kernel_rfl
theorem XK (ys:List (List Int)) (s1:Int) (s2:Int) (s3:Int) (s4:List Int) (s5:Int):ua ys (s1,s2,s3,s4,s5,()) =
 bif decide (s3<((s4.length:Int))) then
 (cut s4 s3 ((s4.length:Int))).bind fun l1 =>
 bif decide (s3=0)&&decide ((w64 (s3+(bif decide (((l1.length:Int))<s5) then ((l1.length:Int)) else s5)))=0)&&decide ((w64 (s3+(bif decide (((l1.length:Int))<s5) then ((l1.length:Int)) else s5)))=0) then
  (Yv ys s2 ([]:List Int)).bind fun _ =>
  some (.again (s1,s2+1,w64 (s3+s5),s4,s5,()))
 else
  bif decide (s3=0)&&decide ((w64 (s3+(bif decide (((l1.length:Int))<s5) then ((l1.length:Int)) else s5)))=((s4.length:Int)))&&decide ((w64 (s3+(bif decide (((l1.length:Int))<s5) then ((l1.length:Int)) else s5)))=((s4.length:Int))) then
  (Yv ys s2 s4).bind fun _ =>
  some (.again (s1,s2+1,w64 (s3+s5),s4,s5,()))
  else
  bif decide ((w64 (s3+(bif decide (((l1.length:Int))<s5) then ((l1.length:Int)) else s5)))=(w64 (s3+(bif decide (((l1.length:Int))<s5) then ((l1.length:Int)) else s5)))) then
   (cut s4 s3 (w64 (s3+(bif decide (((l1.length:Int))<s5) then ((l1.length:Int)) else s5)))).bind fun l2 =>
   (Yv ys s2 l2).bind fun _ =>
   some (.again (s1,s2+1,w64 (s3+s5),s4,s5,()))
  else
   none
 else
 some (.brk (s1,s2,())):=by kernel_rfl
theorem zet (n:Int) (ys:List (List Int)) (a1:List Int) (a2:Int):zmH (uv ys) Go.Proofs.Tryz.f77 VU n ((a1,a2,()):(List Int)×Int×Unit) =
 (zO (ua ys) (n,0,0,a1,a2,())).bind fun st=>match st with
  | .again _=>none
  | .brk y1 =>
  some y1.2.1
  | .ret y1 =>
  some y1.2.1:=by kernel_rfl
theorem zgD (ys:List (List Int)) (s1:Int) (s2:Int) (s3:Int) (s4:Int) (s5:za):W1 ys (s1,s2,s3,s4,s5,()) =
 bif decide (s4<s3) then
 (Za s5 (w64 (s4+1))).bind fun y1 =>
 (Yv ys s2 y1.1).bind fun _ =>
 some (.again (s1,s2+1,s3,w64 (s4+1),s5,()))
 else
 some (.brk (s1,s2,s5,())):=by kernel_rfl
theorem zgo (ys:List (List Int)) (s1:Int) (s2:Int) (s3:Int) (s4:Int) (s5:za):zar ys (s1,s2,s3,s4,s5,()) =
 bif decide (s4<s3) then
 (XJ s5 (w64 (s4+1))).bind fun y1 =>
 (Yv ys s2 y1.1).bind fun _ =>
 some (.again (s1,s2+1,s3,w64 (s4+1),s5,()))
 else
 some (.brk (s1,s2,())):=by kernel_rfl
theorem zup (n:Int) (ys:List (List Int)) (a1:Int) (a2:Int) (a3:Int) (a4:Int) (a5:Int) (a6:Int) (a7:Int) (a8:Int) (a9:Int) (a10:List (List Int)) (a11:BitVec 64) (a12:List (List Int)) (a13:List (List zm)) (a14:List zg) (a15:Int) (a16:List (List Int)) (a17:List (BitVec 64)) (a18:List (List Int)) (a19:BitVec 64) (a20:BitVec 64) (a21:Int) (a22:Int) (a23:Bool) (a24:Bool) (a25:Int) (a26:List Int) (a27:Int) (a28:Int) (a29:Int) (a30:List Int) (a31:List zh) (a32:List zc) (a33:Int) (a34:Int):zmH (Yc ys) Go.Proofs.Tryz.f87 za6 n ((a1,a2,a3,a4,a5,a6,a7,a8,a9,a10,a11,a12,a13,a14,a15,a16,a17,a18,a19,a20,a21,a22,a23,a24,a25,a26,a27,a28,a29,a30,a31,a32,a33,a34,()):Int×Int×Int×Int×Int×Int×Int×Int×Int×(List (List Int))×(BitVec 64)×(List (List Int))×(List (List zm))×(List zg)×Int×(List (List Int))×(List (BitVec 64))×(List (List Int))×(BitVec 64)×(BitVec 64)×Int×Int×Bool×Bool×Int×(List Int)×Int×Int×Int×(List Int)×(List zh)×(List zc)×Int×Int×Unit) =
 (ZL (za.mk (zb.mk a1 a2 a3 a4 a5 a6 a7 a8 (zt.mk a9 a10) a11 a12 a13 a14) (zt.mk a15 a16) a17 a18 (zo.mk a19 a20) a21 a22 a23 a24 a25 a26 (zk.mk a27 a28 a29 a30) a31 a32 (zw.mk a33 a34))).bind fun y1 =>
 (Yv ys 0 y1.1).bind fun _ =>
 (zO (W1 ys) (n,0+1,(a31.length:Int),0,za.mk (zb.mk a1 a2 a3 a4 a5 a6 a7 a8 (zt.mk a9 a10) a11 a12 a13 a14) (zt.mk a15 a16) a17 a18 (zo.mk a19 a20) a21 a22 a23 a24 a25 a26 (zk.mk a27 a28 a29 a30) a31 a32 (zw.mk a33 a34),())).bind fun st=>match st with
  | .again _=>none
  | .brk y2 =>
  (zO (zar ys) (y2.1,y2.2.1,(y2.2.2.1.Ms.length:Int),0,y2.2.2.1,())).bind fun st=>match st with
   | .again _=>none
   | .brk y3 =>
   some y3.2.1
   | .ret y3 =>
   some y3.2.1
  | .ret y2 =>
  some y2.2.1:=by kernel_rfl
end Go.Pe.G
namespace Go.Pe.G
open Go.Pe
theorem zgB {A B D:Type} (g:A→Option (yA A B D)) {o:yA Unit B D}: ∀(k m:Nat) (x:A),xr g k x=some o→k≤m→xr g m x=some o
 | 0,m,x,h,_=>by cases h
 | k+1,0,x,h,hm=>by omega
 | k+1,m+1,x,h,hm=>by
  simp only [xr,Option.bind_eq_some_iff] at h ⊢
  obtain ⟨s,h1,h2⟩:=h
  refine ⟨s,h1,?_⟩
  cases s with
  | again y=>exact zgB g k m y h2 (by omega)
  | brk b=>exact h2
  | ret c=>exact h2
theorem zgg {α:Type} (pre post:List α) (z:α):Yv (pre++z::post) (pre.length:Int) z=some ():=by
 unfold Yv
 rw [if_pos]
 refine ⟨by omega,?_⟩
 simp
theorem zh0 (n:Int) (ys:List Int): ∀(f:Nat) (s:BitVec 64) (l pre:List Int),VS f s=some l→ys=pre++l→xr (zad ys) f (n,(pre.length:Int),s,())=some (.brk (n,(ys.length:Int),()))
 | 0,s,l,pre,h,_=>by cases h
 | f+1,s,l,pre,h,e=>by
  simp only [VS] at h
  simp only [xr,zpR]
  cases hz:decide (s=0#64) with
  | true =>
   simp only [hz,cond_true,Option.some.injEq] at h
   subst h
   simp only [List.append_nil] at e
   subst e
   rfl
  | false =>
   simp only [hz,cond_false,Option.map_eq_some_iff] at h
   obtain ⟨l',h1,rfl⟩:=h
   have hn:Yv ys (pre.length:Int) (w64 (tz s+1))=some ():=by rw [e];exact zgg pre l' _
   simp only [Bool.not_false,cond_true,zE3,Option.bind_some,hn]
   have:=zh0 n ys f (s&&&(s-1#64)) l' (pre++[w64 (tz s+1)]) h1 (by rw [e];simp)
   simpa using this
theorem zrZ (G:Nat→Prop) (W0:World) (hG:zmh G W0):Yz Go.Proofs.Tryz.prog G W0 115 zaC:=by
 obtain ⟨c,hc⟩:=Option.isSome_iff_exists.1 zEe
 refine zoj (Cg:=zbd []) rfl zpA (fun f s hs=>Oks.at (.cons _ _ _ _ zD3 (zBF hG) (.skip _ _ .nil)) f s hs) rfl ztz (fun g it h=>by cases h) zEv zFI hc zaC (Nat.le_of_ble_eq_true (by kernel_rfl)) rfl ?_
 rintro n ⟨a,⟨⟩⟩ ys h
 have h:VS 66 a=some ys:=h
 have e:=zug n ys a
 have k:=zgB _ 66 vO _ (zh0 n ys 66 a ys [] h rfl) (by decide)
 refine Eq.trans e ?_
 have k':xr (zad ys) vO (n,0,a,())=some (.brk (n,(ys.length:Int),())):=k
 rw [XL,k']
 rfl
theorem ztY {a:Int} (h: -9223372036854775808≤a) (h2:a<9223372036854775808):w64 a=a:=by
 rw [zqB]
 omega
theorem zc7 (n:Int) (ys:List (List Int)) (l:List Int) (sz:Nat) (h1:1≤sz) (h2:sz<1000000) (h3:l.length<1000000): ∀(f p:Nat) (pre:List (List Int)),(l.drop p).length≤f→ys=pre++vq sz f (l.drop p)→p<2000000 →
  xr (ua ys) (f+1) (n,(pre.length:Int),(p:Int),l,(sz:Int),())=some (.brk (n,(ys.length:Int),())):=by
 intro f
 induction f with
 | zero =>
  intro p pre hf e hp
  simp only [xr,XK]
  simp only [List.length_drop] at hf
  have: ¬(p:Int)<(l.length:Int):=by omega
  simp only [this,decide_false,cond_false,Option.bind_some]
  simp only [vq,List.append_nil] at e
  rw [e]
 | succ f ih =>
  intro p pre hf e hp
  rw [xr,XK]
  by_cases hlt:p<l.length
  ·have hlt':(p:Int)<(l.length:Int):=by omega
   have hcut:cut l (p:Int) (l.length:Int)=some (l.drop p):=by
    unfold cut
    have:(decide (0≤(p:Int))&&decide ((p:Int)≤(l.length:Int))&&decide ((l.length:Int)≤(l.length:Int)))=true:=by simp;omega
    simp only [this,cond_true]
    simp
   obtain ⟨x,r,hxr⟩: ∃x r,l.drop p=x::r:=by
    cases hd:l.drop p with
    | nil=>have:=congrArg List.length hd;simp at this;omega
    | cons x r=>exact ⟨x,r,rfl⟩
   have hch:vq sz (f+1) (l.drop p)=(l.drop p).take sz::vq sz f (l.drop (p+sz)):=by
    rw [hxr];simp only [vq];rw [←hxr,List.drop_drop]
   have hm: ∃m:Nat,(bif decide (((l.drop p).length:Int)<(sz:Int)) then (((l.drop p).length:Int)) else (sz:Int))=(m:Int)∧m=min sz (l.length-p):=by
    simp only [List.length_drop]
    by_cases hs:((l.length-p:Nat):Int)<(sz:Int)
    ·exact ⟨l.length-p,by simp only [hs,decide_true,cond_true],by omega⟩
    ·exact ⟨sz,by simp only [hs,decide_false,cond_false],by omega⟩
   obtain ⟨m,hm1,hm2⟩:=hm
   have hw:w64 ((p:Int)+(m:Int))=((p+m:Nat):Int):=by rw [ztY (by omega) (by omega)];omega
   have hw2:w64 ((p:Int)+(sz:Int))=((p+sz:Nat):Int):=by rw [ztY (by omega) (by omega)];omega
   have hne: ¬((p+m:Nat):Int)=0:=by omega
   simp only [hlt',decide_true,cond_true,hcut,Option.bind_some,hm1,hw,hw2,hne,decide_false,Bool.and_false,cond_false]
   have hn:Yv ys (pre.length:Int) ((l.drop p).take sz)=some ():=by rw [e,hch];exact zgg pre _ _
   have hcut2:cut l (p:Int) ((p+m:Nat):Int)=some ((l.drop p).take sz):=by
    unfold cut
    have:(decide (0≤(p:Int))&&decide ((p:Int)≤((p+m:Nat):Int))&&decide (((p+m:Nat):Int)≤(l.length:Int)))=true:=by simp;omega
    simp only [this,cond_true]
    refine congrArg some ?_
    simp only [Int.toNat_natCast]
    rw [List.drop_take,Nat.add_sub_cancel_left,hm2]
    by_cases hs:sz≤l.length-p
    ·rw [Nat.min_eq_left hs]
    ·rw [Nat.min_eq_right (by omega),List.take_of_length_le (l:=l.drop p) (by simp),List.take_of_length_le (l:=l.drop p) (by simp;omega)]
   have hnext:=ih (p+sz) (pre++[(l.drop p).take sz]) (by simp only [List.length_drop] at hf ⊢;omega) (by rw [e,hch];simp) (by omega)
   have hlen:((pre++[(l.drop p).take sz]).length:Int)=(pre.length:Int)+1:=by simp
   rw [hlen] at hnext
   cases hfull:(decide ((p:Int)=0)&&decide (((p+m:Nat):Int)=(l.length:Int))&&decide (((p+m:Nat):Int)=(l.length:Int))) with
   | true =>
    simp only [cond_true]
    have hl:l=(l.drop p).take sz:= ?_
    ·rw [←hl] at hn
     rw [hn]
     exact hnext
    simp only [Bool.and_eq_true,decide_eq_true_eq] at hfull
    obtain ⟨⟨hp0,hpl⟩,_⟩:=hfull
    have hp00:p=0:=by omega
    rw [hp00,List.drop_zero,List.take_of_length_le (by omega)]
   | false =>
    simp only [cond_false,hcut2,Option.bind_some,decide_true,cond_true]
    rw [hn]
    exact hnext
  ·have hnl: ¬(p:Int)<(l.length:Int):=by omega
   have hd:l.drop p=[]:=List.drop_eq_nil_of_le (by omega)
   simp only [hnl,decide_false,cond_false,Option.bind_some]
   rw [hd] at e
   simp only [vq,List.append_nil] at e
   rw [e]
theorem zds (n:Int) (ys:List (List Int)) (l:List Int) (sz:Int) (h:zka l sz=some ys):xr (ua ys) vO (n,0,0,l,sz,())=some (.brk (n,(ys.length:Int),())):=by
 unfold zka at h
 cases hc:(decide (1≤sz)&&decide (sz<1000000)&&decide ((l.length:Int)<1000000)) with
 | false=>simp [hc] at h
 | true =>
  simp only [hc,cond_true] at h
  injection h with h
  simp only [Bool.and_eq_true,decide_eq_true_eq] at hc
  obtain ⟨⟨c1,c2⟩,c3⟩:=hc
  have k:=zgB _ (l.length+1) vO _ (zc7 n ys l sz.toNat (by omega) (by omega) (by omega) l.length 0 [] (by simp) (by simpa using h.symm) (by omega)) (by unfold vO;omega)
  have hs:((sz.toNat:Nat):Int)=sz:=by omega
  rw [hs] at k
  exact k
theorem zdH (G:Nat→Prop) (W0:World) (hG:zmh G W0):Yz Go.Proofs.Tryz.prog G W0 77 vm:=by
 obtain ⟨c,hc⟩:=Option.isSome_iff_exists.1 zE5
 refine zoj (Cg:=uv []) rfl zpA (fun f s hs=>Oks.at .nil f s hs) rfl ztz (fun g it h=>by cases h) zEW zGl hc vm (Nat.le_of_ble_eq_true (by kernel_rfl)) rfl (fun n x ys h=> ?_)
 refine Eq.trans (zet n ys x.1 x.2.1) ?_
 rw [XL,zds n ys x.1 x.2.1 h]
 rfl
end Go.Pe.G
namespace Go.Pe.G
open Go.Pe Go.Proofs
theorem zA9 (bk off cap:Nat) (l:List Int) (w:World) (hH:Go.Sort.Holds (Value.int .i64) w bk off l.toArray) (hb:bk<w.heap.size) (hlen:l.length<4294967296) :
  Calls Tryz.prog 147 #[.slice (some ⟨bk,off,none⟩) l.length cap] w fun e w'=>e= .returned (.tuple #[])∧∃n os,w'=Go.Sort.grow (Go.Sort.putRow (Value.int .i64) (Go.Sort.ahead w n) bk off (xT l).toArray) os:=by
 have hsz:l.toArray.size=l.length:=by simp
 have hlog:Go.Sort.bitsLen l.length<4611686018427387904:=by
  unfold Go.Sort.bitsLen
  split
  ·omega
  ·rename_i h0
   have:=(Nat.log2_lt h0 (k:=32)).2 (by omega)
   omega
 have hdep:=Go.Sort.pdqDepth_le_59 Go.Sort.ltInt l.toArray 0 l.toArray.size (Go.Sort.bitsLen l.toArray.size) true true (by rw [hsz];omega)
 have hs:Go.Sort.pdq Go.Sort.ltInt l.toArray 0 l.toArray.size (Go.Sort.bitsLen l.toArray.size) true true=(xT l).toArray:=Go.Proofs.Any.sort_int_eqD l
 have hP:Calls Tryz.prog 192 #[.slice (some ⟨bk,off,none⟩) l.length cap,.int .i64 0,.int .i64 (l.length:Int),.int .i64 ((Go.Sort.bitsLen l.length:Nat):Int)] w fun e w'=>e= .returned (.tuple #[])∧∃n os,w'=Go.Sort.grow (Go.Sort.putRow (Value.int .i64) (Go.Sort.ahead w n) bk off (xT l).toArray) os:=by
  have hk:=Go.calls_of_every_depth fun D=>Go.Proofs.Any.pdqWalkInInt Go.Proofs.laysPd D 65 bk off cap 0 l.toArray.size (Go.Sort.bitsLen l.toArray.size) l.toArray w (by omega) hH hb (Nat.zero_le _) (Nat.le_refl _) (by rw [hsz];omega) (by rw [hsz];exact hlog) (Or.inl rfl)
  rw [hs,hsz] at hk
  exact hk
 have hL:Calls Tryz.prog 193 #[.int .u64 (l.length:Int)] w fun e w'=>e= .returned (.int .i64 ((Go.Sort.bitsLen l.length:Nat):Int))∧w'=w:=by
  have hk:=Go.calls_of_every_depth fun D=>Go.Proofs.AnyS.bits_LenIn Go.Proofs.laysLn D (l.length:Int) w (by omega) (by omega)
  rw [Int.toNat_natCast,Go.Proofs.bitLen_eq _ (by omega)] at hk
  exact hk
 clear hH hdep hs hsz
 go_enter Tryz.func147,Tryz.ntmps147
 go_wp2_with (first
  | (go_at_call 193;refine hL.mono ?_;rintro e w' ⟨rfl,rfl⟩)
  | (go_at_call 192;refine hP.mono ?_;rintro e w' ⟨rfl,n,os,rfl⟩))
 go_end0
 exact ⟨rfl,n,os,rfl⟩
theorem zBK (a:Option Addr) (w:World):Calls Tryz.prog 147 #[.slice a 0 0] w fun e w'=>e= .returned (.tuple #[])∧w'=w:=by
 have hP:=Go.calls_of_every_depth fun D=>Go.Proofs.AnyS.pdqsort_int_none_in Go.Proofs.laysPd D a 0 w
 have hL:Calls Tryz.prog 193 #[.int .u64 0] w fun e w'=>e= .returned (.int .i64 0)∧w'=w:=Go.calls_of_every_depth fun D=>Go.Proofs.AnyS.bits_LenIn Go.Proofs.laysLn D 0 w (by omega) (by omega)
 go_enter Tryz.func147,Tryz.ntmps147
 go_wp2_with (first
  | (go_at_call 193;refine hL.mono ?_;rintro e w' ⟨rfl,rfl⟩)
  | (go_at_call 192;refine hP.mono ?_;rintro e w' ⟨rfl,rfl⟩))
 go_end0
 exact ⟨rfl,rfl⟩
noncomputable def zrK:zy E:=sp (cf [] [] [] [] [] []) Tryz.f146 ⟨[vL],[]⟩ ⟨[.own 0],[.row true (.int .i64)]⟩ [oL] [oL]
theorem zEf (a:List Int):zrK.F (a,())=bif a.isEmpty then zke (some (([]:List Int),())) ((yc (([]:List Int)++a)).bind fun l=>some (l,())) else (yc (([]:List Int)++a)).bind fun l=>some (l,()):=zr (by kernel_rfl)
theorem zEL {a:List Int} (h:a.length<4294967296):zrK.F (a,())=some (a,()):=by
 have hr:yc a=some a:=by rw [zrQ,decide_eq_true h];rfl
 rw [zEf,List.nil_append,hr]
 cases a with
 | nil=>exact zcV _
 | cons x l=>rfl
theorem zAH {G:Nat→Prop} {W0:World} (hG:zmh G W0):Yk Tryz.prog G W0 146 zrK :=
 zwr (C:=cf [] [] [] [] [] []) zpA (ztZ .nil) rfl (zxx .nil) ztz Tryz.func146 (by kernel_rfl) (by kernel_rfl) (by kernel_rfl)
theorem zEp {w w':World} {A A' U U':Nat→Prop} {μ:Nat→Loc} {id:Nat} {v:Value} (h:zU E w A U μ (.own id) v) (hU:U' id):zU E w' A' U' μ (.own id) v:=by
 cases h with
 | own _ b off len cap _ hμ=>exact .own id b off len cap hU hμ
 | own0 _ a a2 _ hμ=>exact .own0 id a a2 hU hμ
theorem zDt {A1:Nat→Prop} {μ1:Nat→Loc} {l:List Int} {w1:World} {v1:Value} (S:zM A1 μ1 [Blk.row (E:=E) true (.int .i64) l] w1) (h0:zU E w1 (Av A1 μ1 [Blk.row (E:=E) true (.int .i64) l]) (Us [Blk.row (E:=E) true (.int .i64) l]) μ1 (.own 0) v1) (hlen:l.length<4294967296) :
  Calls Tryz.prog 147 #[v1] w1 fun e w2=>e= .returned (.tuple #[])∧zM A1 μ1 [Blk.row (E:=E) true (.int .i64) (xT l)] w2∧Adv (Lv μ1 [Blk.row (E:=E) true (.int .i64) l]) w1 (Lv μ1 [Blk.row (E:=E) true (.int .i64) (xT l)]) w2:=by
 have hok:=S.ok 0
 cases h0 with
 | own0 _ a1 a2 hU hμ =>
  have hl:l=[]:=by
   rcases hok with ⟨_,_,_,_,_,e1,_⟩ | ⟨e,_⟩
   ·have e1:μ1 0=_:=e1
    rw [hμ] at e1;cases e1
   ·exact e
  subst hl
  have e0:xT []=[]:=by unfold xT;simp
  refine (zBK a1 w1).mono ?_
  rintro e w' ⟨rfl,rfl⟩
  rw [e0]
  exact ⟨rfl,S,Adv.refl _ _⟩
 | own _ bk off len cap hU hμ =>
  obtain ⟨hA,hb⟩:=S.out 0 bk off len cap rfl hμ
  obtain ⟨cc,vs,t,rfl,e2,h1,h2,h3,h4⟩: ∃(cc:Array Value) (vs:Nat→Value) (t:TypeId),len=l.length∧w1.heap[bk]? =some (.cells cc t (0,0))∧l.length≤cap∧off+cap*1≤cc.size ∧
    (∀i,i<l.length→∀j u,(vs i).cells[j]? =some u→cc[off+i*1+j]? =some u)∧∀i (h:i<l.length),zZ E w1 (Av A1 μ1 [Blk.row true (.int .i64) l]) (.int .i64) (vs i) l[i]:=by
   rcases hok with ⟨b',off',cap',cc,vs,e1,⟨t,f,e2,e3⟩,h1,h2,h3,h4⟩ | ⟨_,a,e⟩
   ·have e1:μ1 0=_:=e1
    rw [hμ] at e1
    injection e1 with q1 q2 q3 q4
    subst q1;subst q2;subst q4
    have e3:=e3 rfl
    subst e3
    exact ⟨cc,vs,t,q3,e2,h1,h2,h3,h4⟩
   ·have e:μ1 0=_:=e
    rw [hμ] at e;cases e
  have hcell: ∀(j:Nat) (h:j<l.length),cc[off+j]? =some (.int .i64 l[j]):=fun j h=>by
   have r:=h4 j h
   have q:=h3 j h 0
   obtain ⟨z,hz⟩: ∃z:Int,z=l[j]:=⟨_,rfl⟩
   rw [←hz] at r ⊢
   generalize vs j=vj at r q
   cases r with
   | int k z =>
    have:=q _ rfl
    rw [Nat.mul_one,Nat.add_zero] at this
    exact this
  have hsz:l.toArray.size=l.length:=by simp
  have hH:Go.Sort.Holds (Value.int .i64) w1 bk off l.toArray:=fun j hj=>by
   have hj:j<l.length:=by rw [←hsz];exact hj
   refine ⟨?_,?_⟩
   ·unfold World.cell?
    rw [e2]
    show cc[off+j]? =some (Value.int .i64 l.toArray[j]!)
    rw [hcell j hj,getElem!_pos l.toArray j (by rw [hsz];exact hj)]
    rfl
   ·unfold World.frozen?
    rw [e2]
    simp
  refine (zA9 bk off cap l w1 hH hb hlen).mono ?_
  rintro e w' ⟨rfl,n,os,rfl⟩
  obtain ⟨hS,hAd⟩:=zti S hμ hb e2 h1 h2 hcell n os
  exact ⟨rfl,hS,hAd⟩
theorem zoI {G:Nat→Prop} {W0:World} (hG:zmh G W0):Yk Tryz.prog G W0 88 zqG:=by
 intro A0 μ w args x y wd S hr hy
 obtain ⟨l,⟨⟩⟩:=x
 have hy:zmO l=some y:=hy
 unfold zmO at hy
 cases hc:decide (l.length<4294967296) with
 | false=>rw [hc] at hy;cases hy
 | true =>
 rw [hc] at hy
 injection hy with hy
 subst hy
 have hlen:l.length<4294967296:=by simpa using hc
 have hcl:=zAH hG A0 μ w args (l,()) (l,()) wd S hr (zEL hlen)
 obtain ⟨v,rfl⟩: ∃v,args= #[v]:=by
  have hl:=hr.1
  have hl:1=args.toList.length:=hl
  match ha:args.toList,hl with
  | [v],_=>exact ⟨v,by rw [←Array.toArray_toList (xs:=args),ha]⟩
 go_enter Tryz.func88,Tryz.ntmps88
 have hout: ∀ {vs:List Value} {A1:Nat→Prop} {μ1:Nat→Loc} {w1:World},zxy A0 μ (ym id zrK.inn (HL.toP zrK.inn.holes (l,()))).2 w zrK (zrK.go.to (l,())) vs A1 μ1 w1→∃v1,vs=[v1]∧zU E w1 (Av A1 μ1 [Blk.row (E:=E) true (.int .i64) l]) (Us [Blk.row (E:=E) true (.int .i64) l]) μ1 (.own 0) v1∧zM A1 μ1 [Blk.row (E:=E) true (.int .i64) l] w1:=fun {vs A1 μ1 w1} oc=>by
  have hl:=oc.rep.1
  have hl:1=vs.length:=hl
  match vs,hl,oc with
  | [v1],_,oc=>exact ⟨v1,rfl,oc.rep.2 0 (.own 0) v1 rfl rfl,oc.sim⟩
 go_wp2_with (first | (go_at_call 146;refine hcl.mono ?_;rintro e w1 ⟨vs,A1,μ1,rfl,oc⟩;obtain ⟨v1,rfl,h1,hS1⟩:=hout oc;have hso:=zDt hS1 h1 hlen) | (go_at_call 147;refine hso.mono ?_;rintro e w2 ⟨rfl,hS2,hAd2⟩))
 go_ret
 exact ⟨[v1],A1,μ1,rfl,hS2,RL.cons (zEp h1 rfl) RL.nil,oc.adv.trans hAd2,oc.up,fun b hb=>Nat.lt_of_lt_of_le (oc.low b hb) hAd2.size,fun j ws h=>by cases j<;>cases h⟩
end Go.Pe.G
namespace Go.Proofs
open Go.Shelf
def zt5:Go.Shelf.Ren:={f:=fun k=>if k=6 then 109 else if k=10 then 98 else k,g:=fun k=>k,t:=fun k=>if k=0 then 0 else if k=3 then 3 else if k=4 then 4 else if k=22 then 38 else if k=23 then 3 else if k=25 then 129 else k}
theorem zEo:Bears Tryz.prog (zt5.f 6) (SlBodyH.n6 zt5):=Exists.intro ("slices.IndexFunc[[]int,int]") ⟨by kernel_rfl,by kernel_rfl⟩
theorem zEK:Bears Tryz.prog (zt5.f 10) (SlBodyH.n10 zt5):=Exists.intro ("slices.DeleteFunc[[]int,int]") ⟨by kernel_rfl,by kernel_rfl⟩
theorem zE8:SlLaysH.n10 Tryz.prog zt5:=by
 constructor<;>first | exact zEo | exact zEK | kernel_rfl | (intro w;kernel_rfl)
def zlq:Go.Shelf.Ren:={f:=fun k=>if k=4 then 148 else k,g:=fun k=>k,t:=fun k=>if k=0 then 0 else if k=3 then 3 else if k=4 then 4 else if k=9 then 9 else if k=20 then 20 else if k=22 then 65 else if k=25 then 3 else k}
theorem zEC:Bears Tryz.prog (zlq.f 4) (Body8.n4 zlq):=Exists.intro ("slices.Grow[besom/bag.Bag,int]") ⟨by kernel_rfl,by kernel_rfl⟩
theorem zCy:Lays8.n4 Tryz.prog zlq:=by
 constructor<;>first | exact zEC | kernel_rfl | (intro w;kernel_rfl)
end Go.Proofs
namespace Go.Pe.G
open Go.Pe Go.Proofs
theorem lv1 {μ:Nat→Loc} {l:List Int} {b:Nat} (h:Lv (E:=E) μ [.free,Blk.row true (.int .i64) l] b): ∃off len cap,μ 1= .blk b off len cap:=by
 obtain ⟨id,off,len,cap,hl,hm⟩:=h
 match id with
 | 0=>cases hl
 | 1=>exact ⟨off,len,cap,hm⟩
 | id+2=>cases hl
theorem zGi {A0:Nat→Prop} {μ:Nat→Loc} {l:List Int} {w:World} {b off cap:Nat} {cc:Array Value} {t:TypeId} (h0:μ 1= .blk b off l.length cap) (hA: ¬A0 b) (e2:w.heap[b]? =some (.cells cc t (0,0))) (h1:l.length≤cap) (h2:off+cap≤cc.size)
  (hc: ∀(i:Nat) (h:i<l.length),cc[off+i]? =some (.int .i64 l[i])):zM A0 μ [.free,Blk.row (E:=E) true (.int .i64) l] w:=by
 refine ⟨fun id=> ?_,fun i j b o l c b' o' l' c' ne hi hj=> ?_,fun id b' o l' c ho hm=> ?_⟩
 ·match id with
  | 0=>exact trivial
  | 1 =>
   refine .inl ⟨b,off,cap,cc,fun i=> .int .i64 (l.getD i 0),h0,⟨t,(0,0),e2,fun _=>rfl⟩,h1,?_,fun i hi j u hu=> ?_,fun i hi=> ?_⟩
   ·show off+cap*1≤cc.size;omega
   ·have hi:i<l.length:=hi
    match j,hu with
    | 0,hu =>
     have hu:some (Value.int .i64 (l.getD i 0))=some u:=hu
     injection hu with hu
     subst hu
     show cc[off+i*1+0]? =_
     rw [Nat.mul_one,Nat.add_zero,hc i hi,List.getD_eq_getElem?_getD,List.getElem?_eq_getElem hi];rfl
    | j+1,hu=>cases hu
   ·have hi:i<l.length:=hi
    have e:l.getD i 0=l[i]:=by rw [List.getD_eq_getElem?_getD,List.getElem?_eq_getElem hi];rfl
    show zZ E _ _ (.int .i64) (.int .i64 (l.getD i 0)) l[i]
    rw [e]
    exact .int .i64 _
  | id+2=>exact trivial
 ·match i,j with
  | 0,_=>cases hi
  | 1,0=>cases hj
  | 1,1=>exact absurd rfl ne
  | 1,j+2=>cases hj
  | i+2,_=>cases hi
 ·match id with
  | 0=>cases ho
  | 1 =>
   have hm:μ 1=Loc.blk b' o l' c:=hm
   rw [h0] at hm
   injection hm with hm
   subst hm
   exact ⟨hA,(Array.getElem?_eq_some_iff.1 e2).1⟩
  | id+2=>cases ho
theorem zFY {A0:Nat→Prop} {μ:Nat→Loc} {w:World} {b cap:Nat} {cc:Array Value} {t:TypeId} (h0:μ 0= .blk b 0 0 cap) (hA: ¬A0 b) (e2:w.heap[b]? =some (.cells cc t (0,0))) (h2:cap≤cc.size):zM A0 μ [Blk.row (E:=E) true (.int .i64) []] w:=by
 refine ⟨fun id=> ?_,fun i j b o l c b' o' l' c' ne hi hj=> ?_,fun id b' o l' c ho hm=> ?_⟩
 ·match id with
  | 0 =>
   refine .inl ⟨b,0,cap,cc,fun i=> .int .i64 0,h0,⟨t,(0,0),e2,fun _=>rfl⟩,Nat.zero_le _,?_,fun i hi=>absurd hi (Nat.not_lt_zero _),fun i hi=>absurd hi (Nat.not_lt_zero _)⟩
   show 0+cap*1≤cc.size;omega
  | id+1=>exact trivial
 ·match i,j with
  | 0,0=>exact absurd rfl ne
  | 0,j+1=>cases hj
  | i+1,_=>cases hi
 ·match id with
  | 0 =>
   have hm:μ 0=Loc.blk b' o l' c:=hm
   rw [h0] at hm
   injection hm with hm
   subst hm
   exact ⟨hA,(Array.getElem?_eq_some_iff.1 e2).1⟩
  | id+1=>cases ho
theorem zFM {A0:Nat→Prop} {μ:Nat→Loc} {w:World} {a:Option Addr} (h0:μ 0= .none a):zM A0 μ [Blk.row (E:=E) true (.int .i64) []] w:=by
 refine ⟨fun id=> ?_,fun i j b o l c b' o' l' c' ne hi hj=> ?_,fun id b' o l' c ho hm=> ?_⟩
 ·match id with
  | 0=>exact .inr ⟨rfl,a,h0⟩
  | id+1=>exact trivial
 ·match i,j with
  | 0,0=>exact absurd rfl ne
  | 0,j+1=>cases hj
  | i+1,_=>cases hi
 ·match id with
  | 0 =>
   have hm:μ 0=Loc.blk b' o l' c:=hm
   rw [h0] at hm;cases hm
  | id+1=>cases ho
theorem zFv {A0:Nat→Prop} {μ:Nat→Loc} {l:List Int} {w:World} (S:zM A0 μ [Blk.row (E:=E) true (.int .i64) l] w) {bk off len cap:Nat} (hμ:μ 0= .blk bk off len cap) :
  ¬A0 bk∧bk<w.heap.size∧len=l.length∧∃(cc:Array Value) (t:TypeId),w.heap[bk]? =some (.cells cc t (0,0))∧l.length≤cap∧off+cap≤cc.size∧∀(j:Nat) (h:j<l.length),cc[off+j]? =some (.int .i64 l[j]):=by
 obtain ⟨hA,hb⟩:=S.out 0 bk off len cap rfl hμ
 refine ⟨hA,hb,?_⟩
 rcases S.ok 0 with ⟨b',off',cap',cc,vs,e1,⟨t,f,e2,e3⟩,h1,h2,h3,h4⟩ | ⟨_,a,e⟩
 ·have e1:μ 0=_:=e1
  rw [hμ] at e1
  injection e1 with q1 q2 q3 q4
  subst q1;subst q2;subst q4
  have e3:=e3 rfl
  subst e3
  have h2:off+cap*1≤cc.size:=h2
  refine ⟨q3,cc,t,e2,h1,by omega,fun j h=> ?_⟩
  have r:=h4 j h
  have q:=h3 j h 0
  obtain ⟨z,hz⟩: ∃z:Int,z=l[j]:=⟨_,rfl⟩
  have r:zZ E w _ (.int .i64) (vs j) l[j]:=r
  rw [←hz] at r ⊢
  generalize vs j=vj at r q
  cases r with
  | int k z =>
   have:=q _ rfl
   have this:cc[off+j*1+0]? =_:=this
   rw [Nat.mul_one,Nat.add_zero] at this
   exact this
 ·have e:μ 0=_:=e
  rw [hμ] at e;cases e
theorem zBl (W:World) (x:Int):Calls Tryz.prog 99 #[.int .i64 x] W fun e w'=>e= .returned (.bool (decide (x=0)))∧w'=W:=by
 go_enter Tryz.func99,Tryz.ntmps99
 go_wp2
 go_ret
 exact ⟨rfl,rfl⟩
theorem zrk {G:Nat→Prop} {W0:World} (hG:zmh G W0):Yk Tryz.prog G W0 63 zw7:=by
 intro A0 μ w args x y wd S hr hy
 obtain ⟨l,⟨⟩⟩:=x
 have hy:zt3 l=some y:=hy
 unfold zt3 at hy
 cases hc:(decide (0<l.length)&&decide (l.length<4294967296)) with
 | false=>rw [hc] at hy;cases hy
 | true =>
 rw [hc] at hy
 injection hy with hy
 subst hy
 simp only [Bool.and_eq_true,decide_eq_true_eq] at hc
 obtain ⟨hpos,hlen⟩:=hc
 obtain ⟨v,rfl,h0⟩: ∃v,args= #[v]∧zU E w (Av A0 μ [Blk.row true (.int .i64) l]) (Us [Blk.row true (.int .i64) l]) μ (.own 0) v:=by
  have hl:=hr.1
  have hl:1=args.toList.length:=hl
  match ha:args.toList,hl with
  | [v],_=>exact ⟨v,by rw [←Array.toArray_toList (xs:=args),ha],hr.2 0 (.own 0) v rfl (by rw [ha];rfl)⟩
 have S:zM A0 μ [Blk.row true (.int .i64) l] w:=S
 cases h0 with
 | own0 _ a1 a2 hU hμ =>
  exfalso
  rcases S.ok 0 with ⟨_,_,_,_,_,e1,_⟩ | ⟨e,_⟩
  ·have e1:μ 0=_:=e1
   rw [hμ] at e1;cases e1
  ·rw [e] at hpos;cases hpos
 | own _ bk off len cap hU hμ =>
  obtain ⟨hA,hb,rfl,cc,t,e2,h1,h2,hcell⟩:=zFv S hμ
  have hsz:l.toArray.size=l.length:=by simp
  have hH:Go.Sort.Holds (Value.int .i64) w bk off l.toArray:=fun j hj=>by
   have hj:j<l.length:=by rw [←hsz];exact hj
   refine ⟨?_,?_⟩
   ·unfold World.cell?
    rw [e2]
    show cc[off+j]? =some (Value.int .i64 l.toArray[j]!)
    rw [hcell j hj,getElem!_pos l.toArray j (by rw [hsz];exact hj)]
    rfl
   ·unfold World.frozen?
    rw [e2]
    simp
  have fg: ∀(W:World) (x:Int),FnGives Tryz.prog 99 #[] #[.int .i64 x] (.bool (decide (x=0))) W:=fun W x=>(zBl W x).mono (by rintro e w' ⟨rfl,rfl⟩;exact ⟨rfl,0,rfl⟩)
  have eg: ∀args w,(callFunc 99 args).run Tryz.prog w= .ok (.enter 99 args) w:=enters_of Tryz.func99 (by kernel_rfl) rfl
  have hd:=AnyE.slices_DeleteFunc zE8 (Value.int .i64) (fun _=>rfl) (fun x:Int=>decide (x=0)) 99 #[] eg 0 (fun w=>by kernel_rfl) bk off cap l.toArray w (fun W x _=>fg W x) (fun n os dk x _=>fg _ x) hH (by rw [hsz];omega) (by rw [hsz];exact h1)
  rw [hsz] at hd
  rw [show l.toArray.toList=l from rfl] at hd
  have hf:(l.filter fun x=> !decide (x=0)).length≤l.length:=List.length_filter_le _ _
  clear eg fg
  generalize hm:(l.filter fun x=> !decide (x=0))=m at hd hf ⊢
  have hd:Calls Tryz.prog 98 #[.slice (some ⟨bk,off,none⟩) l.length cap,.func (.func 99) #[] #[]] w fun e w'=>e= .returned (.slice (some ⟨bk,off,none⟩) m.length cap)∧∃q,w'=Go.Sort.putRow (Value.int .i64) (Go.Sort.ahead w q) bk off (m++List.replicate (l.length-m.length) 0).toArray:=hd
  go_enter Tryz.func63,Tryz.ntmps63
  go_wp2_with (go_at_call 98;refine hd.mono ?_;rintro e w' ⟨rfl,q,rfl⟩)
  go_ret
  have hheap: ∀k,(Go.Sort.putRow (Value.int .i64) (Go.Sort.ahead w q) bk off (m++List.replicate (l.length-m.length) 0).toArray).heap[k]? =if bk=k then some (.cells (Go.Sort.putCells (Value.int .i64) off (m++List.replicate (l.length-m.length) 0).toArray cc) t (0,0)) else w.heap[k]? :=fun k=>by
   unfold Go.Sort.putRow Go.Sort.mapBlock Go.Sort.ahead
   dsimp only
   rw [Array.getElem?_modify]
   split
   ·rename_i h;subst h;rw [e2];rfl
   ·rfl
  have hput: ∀(i:Nat) (h:i<m.length),(Go.Sort.putCells (Value.int .i64) off (m++List.replicate (l.length-m.length) 0).toArray cc)[off+i]? =some (.int .i64 m[i]):=fun i h=>by
   unfold Go.Sort.putCells
   rw [Array.getElem?_mapIdx,hcell i (by omega),Option.map_some,if_pos ⟨by omega,by simp;omega⟩,show off+i-off=i by omega,getElem!_pos _ i (by simp;omega)]
   simp [List.getElem_append_left h]
  have hsize:(Go.Sort.putRow (Value.int .i64) (Go.Sort.ahead w q) bk off (m++List.replicate (l.length-m.length) 0).toArray).heap.size=w.heap.size:=by simp
  refine ⟨[.slice (some ⟨bk,off,none⟩) m.length cap],A0,fun id=>if id=1 then .blk bk off m.length cap else μ id,rfl,?_,RL.cons (.own 1 bk off m.length cap rfl rfl) RL.nil,⟨rfl,rfl,rfl,by rw [hsize];exact Nat.le_refl _,fun b hb2 hn=> ?_,fun b _ h=> ?_⟩,fun _ h=>h,fun b h=>by rw [hsize];exact wd.low b h,fun j ws h=>by
   cases j with
   | zero=>cases h
   | succ j=>cases h⟩
  ·show zM A0 _ [.free,Blk.row true (.int .i64) m] _
   have hmc:m.length≤cap:=Nat.le_trans hf h1
   refine zGi (b:=bk) (off:=off) (cap:=cap) (t:=t) rfl hA (by rw [hheap,if_pos rfl]) hmc ?_ hput
   unfold Go.Sort.putCells
   rw [Array.size_mapIdx];exact h2
  ·rw [hheap,if_neg]
   rintro rfl
   exact hn ⟨0,off,l.length,cap,rfl,hμ⟩
  ·obtain ⟨o,n,c,e⟩:=lv1 h
   have e:Loc.blk bk off m.length cap= .blk b o n c:=e
   injection e with e
   subst e
   exact ⟨0,off,l.length,cap,rfl,hμ⟩
theorem zA8 (a:Option Addr) (k:Nat) (w:World) (h0:0<k) (hk:k<4294967296):Calls Tryz.prog 148 #[.slice a 0 0,.int .i64 (k:Int)] w fun e w'=>∃(G:Nat) (cc:Array Value) (t:TypeId),G≤cc.size∧e= .returned (.slice (some ⟨w.heap.size,0,none⟩) 0 G)∧w'=w.drew.alloc (.cells cc t):=by
 obtain ⟨i0,hi⟩:=Option.isSome_iff_exists.1 (show (Tryz.prog.info? (zlq.t 25)).isSome=true by kernel_rfl)
 have h2:(Tryz.prog.info? (zlq.t 25)).map TypeInfo.size=some 1:=by kernel_rfl
 have h3:(Tryz.prog.info? (zlq.t 25)).map TypeInfo.bytes=some 8:=by kernel_rfl
 have h4:(Tryz.prog.info? (zlq.t 25)).map TypeInfo.zero=some (some (.int .i64 0)):=by kernel_rfl
 rw [hi] at h2 h3 h4
 simp only [Option.map_some,Option.some.injEq] at h2 h3 h4
 have hd:=Any8.slices_Grow_grow zCy i0 (.int .i64 0) hi h4 (by rw [h2];decide) a 0 0 k [] w (Nat.le_refl _) (by omega) (by rw [h3];omega) (by omega) (by simp) (fun _=>rfl) (fun b _ j v h=>by cases h)
 refine hd.mono ?_
 rintro e w' ⟨rfl,rfl⟩
 refine ⟨_,_,_,?_,rfl,rfl⟩
 have hg:=grownCap_ge w (0+k) 0 (zlq.t 25)
 have z1:(Value.int IntKind.i64 0).cells.size=1:=rfl
 simp only [Array.size_append,Builtin.zeroCells,Array.size_map,Array.size_range,z1]
 simp
 omega
theorem zy9 {G:Nat→Prop} {W0:World} (hG:zmh G W0):Yk Tryz.prog G W0 148 zA4:=by
 intro A0 μ w args x y wd S hr hy
 obtain ⟨n,⟨⟩⟩:=x
 have hy:zsJ n=some y:=hy
 unfold zsJ at hy
 cases hc:(decide (0≤n)&&decide (n<4294967296)) with
 | false=>rw [hc] at hy;cases hy
 | true =>
 rw [hc] at hy
 injection hy with hy
 subst hy
 simp only [Bool.and_eq_true,decide_eq_true_eq] at hc
 obtain ⟨hn0,hn1⟩:=hc
 obtain ⟨k,hk0⟩:=Int.eq_ofNat_of_zero_le hn0
 have hk1:k<4294967296:=by
  have h: @Eq Int n (k:Int):=hk0
  have h2: @LT.lt Int _ n (4294967296:Int):=hn1
  omega
 subst hk0
 obtain ⟨a,rfl⟩: ∃a,args= #[.slice a 0 0,.int .i64 (k:Int)]:=by
  have hl:=hr.1
  have hl:2=args.toList.length:=hl
  match ha:args.toList,hl with
  | [v,v1],_ =>
   have h0:=hr.2 0 .nils v rfl (by rw [ha];rfl)
   have h1:=hr.2 1 (.v (.int .i64) (k:Int)) v1 rfl (by rw [ha];rfl)
   have e1:v1= .int .i64 (k:Int):=by
    cases h1 with
    | v _ _ _ h=>cases h with
     | int k z=>rfl
   subst e1
   cases h0 with
   | nils a=>exact ⟨a,by rw [←Array.toArray_toList (xs:=args),ha]⟩
 have S:zM A0 μ ([]:List (Blk E)) w:=S
 by_cases hk:k=0
 ·subst hk
  refine (Any8.slices_Grow_room zCy a 0 0 0 w (Nat.le_refl _) (by omega) (by omega) (by omega)).mono ?_
  rintro e w' ⟨rfl,rfl⟩
  refine ⟨[.slice a 0 0],A0,fun _=> .none a,rfl,zFM rfl,RL.cons (.own0 0 a a rfl rfl) RL.nil,⟨rfl,rfl,rfl,Nat.le_refl _,fun b _ _=>rfl,fun b _ h=> ?_⟩,fun _ h=>h,wd.low,fun j ws h=>by cases h⟩
  obtain ⟨id,off,len,cap,_,hm⟩:=h
  cases hm
 ·refine (zA8 a k w (by omega) hk1).mono ?_
  rintro e w' ⟨N,cc,t,hN,rfl,rfl⟩
  have hat:(w.drew.alloc (.cells cc t)).heap[w.heap.size]? =some (.cells cc t (0,0)):=by
   show (w.heap.push _)[w.heap.size]? =_
   simp
  have hold: ∀b,b<w.heap.size→(w.drew.alloc (.cells cc t)).heap[b]? =w.heap[b]? :=fun b hb=>by
   show (w.heap.push _)[b]? =_
   rw [Array.getElem?_push,if_neg (by omega)]
  have hsz:(w.drew.alloc (.cells cc t)).heap.size=w.heap.size+1:=by simp
  refine ⟨[.slice (some ⟨w.heap.size,0,none⟩) 0 N],A0,fun _=> .blk w.heap.size 0 0 N,rfl,zFY rfl (fun h=>by have:=wd.low _ h;omega) hat hN,RL.cons (.own 0 w.heap.size 0 0 N rfl rfl) RL.nil,⟨rfl,rfl,rfl,by rw [hsz];omega,fun b hb _=>hold b hb,fun b hb h=> ?_⟩,fun _ h=>h,fun b h=>by have:=wd.low b h;rw [hsz];omega,fun j ws h=>by cases h⟩
  obtain ⟨id,off,len,cap,_,hm⟩:=h
  injection hm with hm
  omega
theorem zv3 (n:Int) (s:za) (ys:List (List Int)) (hs:s.Ws.length<1000000): ∀(f i:Nat) (l pre:List (List Int)),i+f=s.Ws.length→zvB s f (i:Int)=some l→(∃post,ys=pre++l++post) →
  xr (W1 ys) (f+1) (n,(pre.length:Int),(s.Ws.length:Int),(i:Int),s,())=some (.brk (n,((pre++l).length:Int),s,()))
 | 0,i,l,pre,hi,h,e=>by
  injection h with h
  subst h
  rw [xr,zgD,show decide ((i:Int)<(s.Ws.length:Int))=false by rw [decide_eq_false_iff_not];omega]
  simp
 | f+1,i,l,pre,hi,h,⟨post,e⟩=>by
  simp only [zvB,Option.bind_eq_some_iff] at h
  obtain ⟨a,h1,l',h2,h3⟩:=h
  injection h3 with h3
  subst h3
  have ei:w64 ((i:Int)+1)=((i+1:Nat):Int):=by rw [ztY (by omega) (by omega)];omega
  have hn:Yv ys (pre.length:Int) a.1=some ():=by rw [e,List.append_assoc];exact zgg pre (l'++post) _
  rw [xr,zgD,show decide ((i:Int)<(s.Ws.length:Int))=true by rw [decide_eq_true_eq];omega,ei,show ((i+1:Nat):Int)=(i:Int)+1 by omega,h1]
  simp only [cond_true,Option.bind_some,hn]
  have:=zv3 n s ys hs f (i+1) l' (pre++[a.1]) (by omega) (by rw [show ((i+1:Nat):Int)=(i:Int)+1 by omega];exact h2) ⟨post,by rw [e];simp⟩
  simpa using this
theorem zv5 (n:Int) (s:za) (ys:List (List Int)) (hs:s.Ms.length<1000000): ∀(f i:Nat) (l pre:List (List Int)),i+f=s.Ms.length→zuJ s f (i:Int)=some l→(∃post,ys=pre++l++post) →
  xr (zar ys) (f+1) (n,(pre.length:Int),(s.Ms.length:Int),(i:Int),s,())=some (.brk (n,((pre++l).length:Int),()))
 | 0,i,l,pre,hi,h,e=>by
  injection h with h
  subst h
  rw [xr,zgo,show decide ((i:Int)<(s.Ms.length:Int))=false by rw [decide_eq_false_iff_not];omega]
  simp
 | f+1,i,l,pre,hi,h,⟨post,e⟩=>by
  simp only [zuJ,Option.bind_eq_some_iff] at h
  obtain ⟨a,h1,l',h2,h3⟩:=h
  injection h3 with h3
  subst h3
  have ei:w64 ((i:Int)+1)=((i+1:Nat):Int):=by rw [ztY (by omega) (by omega)];omega
  have hn:Yv ys (pre.length:Int) a.1=some ():=by rw [e,List.append_assoc];exact zgg pre (l'++post) _
  rw [xr,zgo,show decide ((i:Int)<(s.Ms.length:Int))=true by rw [decide_eq_true_eq];omega,ei,show ((i+1:Nat):Int)=(i:Int)+1 by omega,h1]
  simp only [cond_true,Option.bind_some,hn]
  have:=zv5 n s ys hs f (i+1) l' (pre++[a.1]) (by omega) (by rw [show ((i+1:Nat):Int)=(i:Int)+1 by omega];exact h2) ⟨post,by rw [e];simp⟩
  simpa using this
theorem zsv (n:Int) (x:HL E.T za6.holes) (ys:List (List Int)) (h:zaG.F x=some ys):zmH (Yc ys) Tryz.f87 za6 n x=some (ys.length:Int):=by
 obtain ⟨a1,a2,a3,a4,a5,a6,a7,a8,a9,a10,a11,a12,a13,a14,a15,a16,a17,a18,a19,a20,a21,a22,a23,a24,a25,a26,a27,a28,a29,a30,a31,a32,a33,a34,⟨⟩⟩:=x
 refine Eq.trans (zup n ys a1 a2 a3 a4 a5 a6 a7 a8 a9 a10 a11 a12 a13 a14 a15 a16 a17 a18 a19 a20 a21 a22 a23 a24 a25 a26 a27 a28 a29 a30 a31 a32 a33 a34) ?_
 have h:zs8 (za.mk (zb.mk a1 a2 a3 a4 a5 a6 a7 a8 (zt.mk a9 a10) a11 a12 a13 a14) (zt.mk a15 a16) a17 a18 (zo.mk a19 a20) a21 a22 a23 a24 a25 a26 (zk.mk a27 a28 a29 a30) a31 a32 (zw.mk a33 a34))=some ys:=h
 show ((ZL (za.mk (zb.mk a1 a2 a3 a4 a5 a6 a7 a8 (zt.mk a9 a10) a11 a12 a13 a14) (zt.mk a15 a16) a17 a18 (zo.mk a19 a20) a21 a22 a23 a24 a25 a26 (zk.mk a27 a28 a29 a30) a31 a32 (zw.mk a33 a34))).bind fun y1=>(Yv ys 0 y1.1).bind fun _ =>
  (zO (W1 ys) (n,0+1,((za.mk (zb.mk a1 a2 a3 a4 a5 a6 a7 a8 (zt.mk a9 a10) a11 a12 a13 a14) (zt.mk a15 a16) a17 a18 (zo.mk a19 a20) a21 a22 a23 a24 a25 a26 (zk.mk a27 a28 a29 a30) a31 a32 (zw.mk a33 a34)).Ws.length:Int),0,za.mk (zb.mk a1 a2 a3 a4 a5 a6 a7 a8 (zt.mk a9 a10) a11 a12 a13 a14) (zt.mk a15 a16) a17 a18 (zo.mk a19 a20) a21 a22 a23 a24 a25 a26 (zk.mk a27 a28 a29 a30) a31 a32 (zw.mk a33 a34),())).bind _)=_
 generalize za.mk (zb.mk a1 a2 a3 a4 a5 a6 a7 a8 (zt.mk a9 a10) a11 a12 a13 a14) (zt.mk a15 a16) a17 a18 (zo.mk a19 a20) a21 a22 a23 a24 a25 a26 (zk.mk a27 a28 a29 a30) a31 a32 (zw.mk a33 a34)=s at h ⊢
 unfold zs8 at h
 cases hc:(decide (s.Ws.length<1000000)&&decide (s.Ms.length<1000000)) with
 | false=>rw [hc] at h;cases h
 | true =>
 rw [hc,cond_true] at h
 simp only [Bool.and_eq_true,decide_eq_true_eq] at hc
 simp only [Option.bind_eq_some_iff] at h
 obtain ⟨a,e1,b,e2,c,e3,e4⟩:=h
 injection e4 with e4
 have k2:=zgB _ _ vO _ (zv3 n s ys hc.1 s.Ws.length 0 b [a.1] (by omega) e2 ⟨c,by rw [←e4];simp⟩) (by unfold vO;omega)
 have k7:=zgB _ _ vO _ (zv5 n s ys hc.2 s.Ms.length 0 c (a.1::b) (by omega) e3 ⟨[],by rw [←e4];simp⟩) (by unfold vO;omega)
 have k2:xr (W1 ys) vO (n,0+1,(s.Ws.length:Int),0,s,())=some (.brk (n,(((a.1::b).length:Nat):Int),s,())):=k2
 have k7:xr (zar ys) vO (n,(((a.1::b).length:Nat):Int),(s.Ms.length:Int),0,s,())=some (.brk (n,(((a.1::b)++c).length:Int),())):=k7
 have hn:Yv ys 0 a.1=some ():=by rw [←e4];exact zgg [] (b++c) _
 rw [e1,Option.bind_some,hn,Option.bind_some,XL,k2,Option.bind_some]
 dsimp only
 rw [XL,k7,Option.bind_some]
 dsimp only
 rw [←e4];rfl
end Go.Pe.G
namespace Go.Pe.G
open Go.Pe
theorem k2 {G:Nat→Prop} {W0:World} {f:Nat} {s:zy E} {ss r} (hs:Yk Go.Proofs.Tryz.prog G W0 f s) (h:Oks Go.Proofs.Tryz.prog G W0 ((f,ss)::r)) (hc:uc Go.Proofs.Tryz.prog f=true:=by kernel_rfl):Oks Go.Proofs.Tryz.prog G W0 ((f,s::ss)::r):= .cons _ _ _ _ hc hs h
theorem k1 {G:Nat→Prop} {W0:World} {f:Nat} {s:zy E} {r} (hs:Yk Go.Proofs.Tryz.prog G W0 f s) (h:Oks Go.Proofs.Tryz.prog G W0 r) (hc:uc Go.Proofs.Tryz.prog f=true:=by kernel_rfl):Oks Go.Proofs.Tryz.prog G W0 ((f,[s])::r):= .cons _ _ _ _ hc hs (.skip _ _ h)
abbrev Sd (G:Nat→Prop) (W0:World):=Yk (E:=E) Go.Proofs.Tryz.prog G W0
theorem gs {G:Nat→Prop} {W0:World} {l:List (Nat×List (zy E))} {loops mv kept pk its} {f:FuncId} {fn:Func} {inn out:xG} {gi go:List Grp} {hi:Zx E gi=inn.holes} {ho:Zx E go=out.holes} (h:Oks Go.Proofs.Tryz.prog G W0 l) (h2:Its Go.Proofs.Tryz.prog G W0 its) (hf:Go.Proofs.Tryz.prog.funcs[f]? =some fn:=by kernel_rfl) (hb:fn.body.isSome=true:=by kernel_rfl)
  (hk:(cf l loops mv kept pk its).kept=ziI inn.blks 0:=by kernel_rfl) (hn:Nat.ble inn.vals.length fn.ntmps=true:=by kernel_rfl):Yk Go.Proofs.Tryz.prog G W0 f (sp (cf l loops mv kept pk its) fn inn out gi go hi ho):=zwr (C:=cf l loops mv kept pk its) zpA (ztZ h) rfl (zxx h2) ztz hf hb hk hn
variable {G:Nat→Prop} {W0:World} (hG:zmh G W0)
include hG
theorem zkb:Sd G W0 49 zaO:=gs .nil .nil
theorem zhP:Sd G W0 10 zf7:=gs (k1 (zkb hG) .nil) .nil
theorem zac:Sd G W0 70 UR:=gs .nil .nil
theorem zkM:Sd G W0 68 zby:=gs (k1 (zac hG) .nil) .nil
theorem zl3:Sd G W0 107 zcp:=gs .nil .nil
theorem Xe:Sd G W0 109 ww:=gs (k1 (zl3 hG) .nil) .nil
theorem Yy:Sd G W0 73 xY:=gs (k1 (Xe hG) .nil) .nil
theorem zn3:Sd G W0 106 zeT:=gs (k1 (Yy hG) .nil) .nil
theorem Xg:Sd G W0 155 wv:=gs (k1 (zn3 hG) .nil) .nil
theorem YI:Sd G W0 108 xW:=gs (k1 (Xg hG) .nil) .nil
theorem zgi:Sd G W0 69 zd7:=gs (k1 (YI hG) .nil) .nil
theorem zqT:Sd G W0 71 zl1:=gs .nil .nil
theorem zhU:Sd G W0 72 zgc:=gs .nil .nil
theorem znM:Sd G W0 74 zfg:=gs (k1 (zac hG) .nil) .nil
theorem XI:Sd G W0 109 wH:=gs (k1 (znM hG) .nil) .nil
theorem Y3:Sd G W0 73 wo:=gs (k1 (XI hG) .nil) .nil
theorem znD:Sd G W0 157 zfk:=gs .nil .nil
theorem zpa:Sd G W0 112 zjI:=gs (k1 (znD hG) .nil) .nil
theorem zoQ:Sd G W0 111 zhN:=gs (k1 (zpa hG) .nil) .nil
theorem Yd:Sd G W0 156 xI:=gs (k1 (zoQ hG) .nil) .nil
theorem ZV:Sd G W0 110 xw:=gs (k1 (Yd hG) .nil) .nil
theorem zqW:Sd G W0 75 zmy:=gs (k1 (ZV hG) .nil) .nil
theorem zgy:Sd G W0 46 zdI:=gs .nil .nil
theorem znW:Sd G W0 114 ze7:=gs (k1 (zgy hG) .nil) .nil
theorem ZD:Sd G W0 158 xn:=gs (k1 (znW hG) .nil) .nil
theorem Zd:Sd G W0 113 xe:=gs (k1 (ZD hG) .nil) .nil
theorem zqk:Sd G W0 76 zko:=gs (k1 (Zd hG) .nil) .nil
theorem zpw:Sd G W0 27 zjp:=gs (k1 (zkM hG) (k1 (zgi hG) (k1 (zac hG) (k1 (zqT hG) (k1 (zhU hG) (k1 (Y3 hG) (k1 (zqW hG) (k1 (zqk hG) .nil)))))))) .nil
theorem zll:Sd G W0 67 zlx:=gs .nil .nil
theorem YQ:Sd G W0 25 Ua:=gs (k1 (zll hG) .nil) .nil
theorem zfr:Sd G W0 56 zju:=gs (k1 (YQ hG) .nil) .nil
theorem zpr:Sd G W0 28 zkq:=gs (k1 (zfr hG) .nil) .nil
theorem zpb:Sd G W0 29 zje:=gs .nil .nil
theorem yL:Sd G W0 31 yR:=gs .nil .nil
theorem XN:Sd G W0 30 wS:=gs (k1 (yL hG) .nil) .nil
theorem zoR:Sd G W0 32 zhG:=gs .nil .nil
theorem U5:Sd G W0 33 UN:=gs .nil .nil
theorem Z3:Sd G W0 34 YV:=gs .nil .nil
theorem zqS:Sd G W0 35 zlT:=gs .nil .nil
theorem zew:Sd G W0 36 WF:=gs .nil .nil
theorem zrR:Sd G W0 78 znE:=gs .nil .nil
theorem zs4:Yz Go.Proofs.Tryz.prog G W0 115 zaC:=zrZ G W0 hG
theorem zi7:Sd G W0 37 zic:=gs (k1 (zrR hG) .nil) (.cons _ _ _ (zs4 hG) (.nil))
theorem zrx:Sd G W0 150 zom:=gs .nil .nil
theorem zsd:Sd G W0 151 zok:=gs .nil .nil
theorem zsi:Sd G W0 152 znA:=gs .nil .nil
theorem zrG:Sd G W0 153 zod:=gs .nil .nil
theorem zbe:Sd G W0 154 Z0:=gs .nil .nil
theorem Yg:Sd G W0 97 Uu:=gs (k1 (zrx hG) (k1 (zsd hG) (k1 (zsi hG) (k1 (zrG hG) (k1 (zbe hG) .nil))))) .nil
theorem zez:Sd G W0 79 zce:=gs (k1 (Yg hG) .nil) .nil
theorem zgj:Sd G W0 80 zdK:=gs .nil .nil
theorem zqQ:Sd G W0 38 zmj:=gs (k1 (zez hG) (k1 (zgj hG) .nil)) .nil
theorem Zj:Sd G W0 39 Yw:=gs .nil .nil
theorem Z7:Sd G W0 41 Y0:=gs (k1 (Zj hG) .nil) .nil
theorem Zl:Sd G W0 40 YD:=gs (k1 (Z7 hG) .nil) .nil
theorem zeu:Yz Go.Proofs.Tryz.prog G W0 77 vm:=zdH G W0 hG
theorem zhO:Sd G W0 6 zf0:=gs (k1 (zhP hG) (k1 (zpw hG) (k1 (zpr hG) (k1 (zpb hG) (k1 (XN hG) (k1 (yL hG) (k1 (zoR hG) (k1 (U5 hG) (k1 (Z3 hG) (k1 (zqS hG) (k1 (zew hG) (k1 (zi7 hG) (k1 (zqQ hG) (k1 (Zj hG) (k1 (Zl hG) (k1 (Z7 hG) .nil)))))))))))))))) (.cons _ _ _ (zeu hG) (.nil))
theorem zgW:Sd G W0 66 zda:=gs .nil .nil
theorem zcU:Sd G W0 47 zau:=gs (k1 (zgW hG) .nil) .nil
theorem zdt:Sd G W0 86 zgH:=gs .nil .nil
theorem zqU:Sd G W0 48 zlZ:=gs (k1 (zdt hG) .nil) .nil
theorem zhT:Sd G W0 9 zfO:=gs (k1 (zcU hG) (k1 (zqU hG) .nil)) .nil
theorem zks:Sd G W0 12 zaW:=gs .nil .nil
theorem zkv:Sd G W0 81 zbu:=gs .nil .nil
theorem zoO:Sd G W0 43 zhJ:=gs (k1 (zkv hG) .nil) .nil
theorem zmN:Sd G W0 42 zdY:=gs (k1 (zoO hG) .nil) .nil
theorem YB:Sd G W0 90 XQ:=gs .nil .nil
theorem zaN:Sd G W0 91 zaV:=gs (k1 (Yg hG) .nil) .nil
theorem zeF:Sd G W0 194 Vt:=gs (k1 (YB hG) (k1 (zaN hG) .nil)) .nil
theorem zhu:Sd G W0 195 Uy:=gs (k1 (zez hG) (k1 (YB hG) .nil)) .nil
theorem zen:Sd G W0 196 Wv:=gs (k1 (zgj hG) (k1 (YB hG) (k1 (Yg hG) .nil))) .nil
theorem zc1:Sd G W0 197 XA:=gs (k1 (YB hG) (k1 (zaN hG) .nil)) .nil
theorem YJ:Sd G W0 159 XP:=gs (k1 (zeF hG) (k1 (zhu hG) (k1 (zen hG) (k1 (zc1 hG) .nil)))) .nil
theorem zhA:Sd G W0 117 Uw:=gs (k1 (YJ hG) .nil) .nil
theorem UL:Sd G W0 124 Xx:=gs .nil .nil
theorem znR:Sd G W0 198 zeU:=gs .nil .nil
theorem znr:Sd G W0 198 zeZ:=gs .nil .nil
theorem znt:Sd G W0 198 zfF:=gs .nil .nil
theorem znO:Sd G W0 198 zfE:=gs .nil .nil
theorem wZ:Sd G W0 100 u4:=gs (k1 (Yg hG) .nil) .nil
theorem xk:Sd G W0 102 xm:=gs .nil .nil
theorem zbE:Sd G W0 219 Ya:=gs (k1 (wZ hG) (k1 (xk hG) .nil)) .nil
theorem vN:Sd G W0 101 vH:=gs .nil .nil
theorem YX:Sd G W0 104 ZQ:=gs .nil .nil
theorem xQ:Sd G W0 239 xN:=gs .nil .nil
theorem zeq:Sd G W0 220 WH:=gs (k1 (wZ hG) (k1 (vN hG) (k1 (YX hG) (k1 (xQ hG) .nil)))) .nil
theorem uQ:Sd G W0 105 vY:=gs (k1 (YX hG) .nil) .nil
theorem Z6:Sd G W0 240 YY:=gs (k1 (Yg hG) .nil) .nil
theorem ziH:Sd G W0 221 U7:=gs (k1 (uQ hG) (k1 (Z6 hG) .nil)) .nil
theorem zcw:Sd G W0 222 Y8:=gs (k1 (xk hG) (k1 (xQ hG) (k1 (Z6 hG) .nil))) .nil
theorem zgT:Sd G W0 223 VK:=gs (k1 (xk hG) (k1 (Z6 hG) .nil)) .nil
theorem U6:Sd G W0 103 UM:=gs .nil .nil
theorem zc8:Sd G W0 224 XB:=gs (k1 (wZ hG) (k1 (vN hG) (k1 (U6 hG) .nil))) .nil
theorem zeN:Sd G W0 225 Ve:=gs (k1 (wZ hG) (k1 (uQ hG) (k1 (xQ hG) .nil))) .nil
theorem UQ:Sd G W0 241 Xp:=gs (k1 (Yg hG) (k1 (vN hG) .nil)) .nil
theorem zep:Sd G W0 226 WC:=gs (k1 (UQ hG) .nil) .nil
theorem zem:Sd G W0 227 Wy:=gs (k1 (xk hG) (k1 (xQ hG) (k1 (Z6 hG) .nil))) .nil
theorem ze5:Sd G W0 228 Vi:=gs (k1 (xk hG) (k1 (xQ hG) (k1 (Z6 hG) .nil))) .nil
theorem zfA:Sd G W0 229 Vq:=gs (k1 (wZ hG) (k1 (vN hG) .nil)) .nil
theorem zeD:Sd G W0 230 Vh:=gs (k1 (wZ hG) (k1 (xk hG) (k1 (U6 hG) .nil))) .nil
theorem zeo:Sd G W0 231 Wx:=gs (k1 (wZ hG) (k1 (uQ hG) .nil)) .nil
theorem zc9:Sd G W0 232 Xw:=gs (k1 (xQ hG) (k1 (UQ hG) .nil)) .nil
theorem zgw:Sd G W0 160 zec:=gs (k2 (znR hG) (k2 (znr hG) (k2 (znt hG) (k2 (znO hG) (.skip _ _ (k1 (zbE hG) (k1 (zeq hG) (k1 (ziH hG) (k1 (zcw hG) (k1 (zgT hG) (k1 (zc8 hG) (k1 (zeN hG) (k1 (zep hG) (k1 (zem hG) (k1 (ze5 hG) (k1 (zfA hG) (k1 (zeD hG) (k1 (zeo hG) (k1 (zc9 hG) .nil))))))))))))))))))) .nil
theorem zcK:Sd G W0 162 zam:=gs (k1 (U5 hG) (k1 (Z3 hG) .nil)) .nil
theorem Wj:Sd G W0 199 WL:=gs .nil .nil
theorem zbo:Sd G W0 164 Vy:=gs (k1 (Zl hG) (k1 (Wj hG) .nil)) .nil
theorem zhi:Sd G W0 161 UC:=gs (k1 (Zj hG) (k1 (zcK hG) (k1 (zbo hG) .nil))) .nil
theorem zib:Sd G W0 118 zaa:=gs (k1 (UL hG) (k1 (zgw hG) (k1 (zhi hG) .nil))) .nil
theorem zgk:Sd G W0 119 VF:=gs (k1 (zcK hG) .nil) .nil
theorem vw:Sd G W0 163 wB:=gs .nil .nil
theorem zhz:Sd G W0 120 Uv:=gs (k1 (Z7 hG) (k1 (vw hG) (k1 (zbo hG) .nil))) .nil
theorem zcS:Sd G W0 123 zaq:=gs .nil .nil
theorem zbm:Sd G W0 200 VC:=gs .nil .nil
theorem zcu:Sd G W0 165 zd9:=gs (k1 (zbm hG) .nil) .nil
theorem zax:Sd G W0 166 zaB:=gs .nil .nil
theorem zht:Sd G W0 121 Ui:=gs (k1 (zcS hG) (k1 (zcu hG) (k1 (zax hG) .nil))) .nil
theorem zc4:Sd G W0 167 Xq:=gs .nil .nil
theorem zdM:Sd G W0 149 zgQ:=gs (k1 (zll hG) .nil) .nil
theorem zgr:Sd G W0 201 zdw:=gs (k1 (YQ hG) (k1 (zdM hG) .nil)) .nil
theorem uO:Sd G W0 202 vR:=gs (k1 (Zl hG) (k1 (Z7 hG) (k1 (Wj hG) .nil))) .nil
theorem zeH:Sd G W0 168 Vb:=gs (k1 (U5 hG) (k1 (Z3 hG) (k1 (zgr hG) (k1 (uO hG) .nil)))) .nil
theorem zeW:Sd G W0 169 Vp:=gs .nil .nil
theorem ze1:Sd G W0 170 Vm:=gs (k1 (zgw hG) (k1 (uO hG) .nil)) .nil
theorem zfu:Sd G W0 171 W6:=gs (k1 (uO hG) .nil) .nil
theorem zft:Sd G W0 172 Vf:=gs (k1 (YJ hG) (k1 (uO hG) .nil)) .nil
theorem zfj:Sd G W0 173 Vc:=gs (k1 (Zj hG) (k1 (Zl hG) (k1 (vw hG) (k1 (Wj hG) .nil)))) .nil
theorem zc3:Sd G W0 174 Xu:=gs (k1 (YJ hG) .nil) .nil
theorem zhV:Sd G W0 122 zfJ:=gs (k1 (zc4 hG) (k1 (zeH hG) (k1 (zeW hG) (k1 (ze1 hG) (k1 (zfu hG) (k1 (zft hG) (k1 (zfj hG) (k1 (zc3 hG) .nil)))))))) .nil
theorem zlf:Sd G W0 175 zla:=gs (k1 (zdM hG) .nil) .nil
theorem zbw:Sd G W0 125 zb7:=gs (k1 (YQ hG) (k1 (zlf hG) .nil)) .nil
theorem YH:Sd G W0 176 Zn:=gs .nil .nil
theorem zni:Sd G W0 178 zed:=gs .nil .nil
theorem WR:Sd G W0 177 vo:=gs (k1 (zni hG) .nil) .nil
theorem zeB:Sd G W0 126 zcd:=gs (k1 (YH hG) (k1 (WR hG) .nil)) .nil
theorem zhw:Sd G W0 82 Un:=gs (k1 (zhA hG) (k1 (zib hG) (k1 (zgk hG) (k1 (zhz hG) (k1 (zht hG) (k1 (zhV hG) (k1 (zcS hG) (k1 (UL hG) (k1 (zbw hG) (k1 (zeB hG) .nil)))))))))) .nil
theorem Wm:Sd G W0 83 wX:=gs .nil .nil
theorem zoM:Sd G W0 44 zhL:=gs (k1 (zhw hG) (k1 (Wm hG) .nil)) .nil
theorem vC:Sd G W0 179 ug:=gs .nil .nil
theorem uJ:Sd G W0 183 vS:=gs .nil .nil
theorem Y4:Sd G W0 180 ZI:=gs (k1 (yL hG) (k1 (uJ hG) .nil)) .nil
theorem ze0:Sd G W0 127 Vj:=gs (k1 (vC hG) (k1 (Y4 hG) .nil)) .nil
theorem zfq:Sd G W0 128 Vl:=gs (k1 (zax hG) .nil) .nil
theorem zhv:Sd G W0 129 Uh:=gs (k1 (yL hG) .nil) .nil
theorem Vv:Sd G W0 181 Z1:=gs (k1 (zhV hG) .nil) .nil
theorem zfy:Sd G W0 130 Vr:=gs (k1 (Vv hG) .nil) .nil
theorem zaH:Sd G W0 182 WM:=gs (k1 (zcu hG) (k1 (vC hG) .nil)) .nil
theorem zgS:Sd G W0 131 VV:=gs (k1 (vC hG) (k1 (Y4 hG) (k1 (zaH hG) .nil))) .nil
theorem zhy:Sd G W0 132 Uz:=gs (k1 (vC hG) (k1 (zaH hG) (k1 (uJ hG) .nil))) .nil
theorem zeL:Sd G W0 133 Vk:=gs (k1 (zlf hG) .nil) .nil
theorem zc5:Sd G W0 134 Xr:=gs (k1 (yL hG) .nil) .nil
theorem zsn:Sd G W0 184 znJ:=gs (k1 (yL hG) (k1 (vw hG) (k1 (zbm hG) .nil))) .nil
theorem zfh:Sd G W0 135 Va:=gs (k1 (vC hG) (k1 (uJ hG) (k1 (zsn hG) .nil))) .nil
theorem zlP:Sd G W0 204 zcm:=gs .nil .nil
theorem Wt:Sd G W0 177 vf:=gs (k1 (zlP hG) .nil) .nil
theorem VJ:Sd G W0 207 Ym:=gs (k1 (YH hG) .nil) .nil
theorem zg1:Sd G W0 203 zdP:=gs (k1 (VJ hG) .nil) .nil
theorem zn7:Sd G W0 185 zfC:=gs (k1 (Wt hG) (k1 (zg1 hG) .nil)) .nil
theorem zeg:Sd G W0 205 XY:=gs .nil .nil
theorem zpN:Sd G W0 186 zjO:=gs (k1 (zgi hG) (k1 (zeg hG) .nil)) .nil
theorem zqb:Sd G W0 187 zjq:=gs (k1 (zbw hG) (k1 (zgr hG) .nil)) .nil
theorem zfG:Sd G W0 136 W8:=gs (k1 (vC hG) (k1 (Y4 hG) (k1 (uJ hG) (k1 (zn7 hG) (k1 (zpN hG) (k1 (zqb hG) .nil)))))) .nil
theorem zna:Sd G W0 206 zdV:=gs .nil .nil
theorem WS:Sd G W0 177 vr:=gs (k1 (zna hG) .nil) .nil
theorem zoS:Sd G W0 188 zhD:=gs (k1 (YH hG) (k1 (WS hG) .nil)) .nil
theorem znZ:Sd G W0 189 zeS:=gs (k1 (zg1 hG) (k1 (VJ hG) .nil)) .nil
theorem Ud:Sd G W0 190 YO:=gs (k1 (Zl hG) (k1 (Wj hG) .nil)) .nil
theorem zgC:Sd G W0 137 VT:=gs (k1 (Zj hG) (k1 (zoS hG) (k1 (znZ hG) (k1 (Ud hG) .nil)))) .nil
theorem zhg:Sd G W0 138 Uj:=gs (k1 (YJ hG) .nil) .nil
theorem zeE:Sd G W0 139 Vg:=gs (k1 (Z7 hG) (k1 (vw hG) (k1 (Ud hG) .nil))) .nil
theorem zgh:Sd G W0 140 V2:=gs (k1 (YJ hG) .nil) .nil
theorem zeG:Sd G W0 141 Vd:=gs .nil .nil
theorem zca:Sd G W0 191 Uf:=gs .nil .nil
theorem zg0:Sd G W0 142 V1:=gs (k1 (zcu hG) (k1 (zax hG) (k1 (zca hG) .nil))) .nil
theorem zhB:Sd G W0 143 Uq:=gs (k1 (Vv hG) (k1 (zca hG) .nil)) .nil
theorem zdA:Sd G W0 144 X3:=gs (k1 (zbw hG) (k1 (zeB hG) .nil)) .nil
theorem zel:Sd G W0 145 XS:=gs .nil .nil
theorem zg4:Sd G W0 84 VH:=gs (k1 (ze0 hG) (k1 (zfq hG) (k1 (zhv hG) (k1 (zfy hG) (k1 (zgS hG) (k1 (zhy hG) (k1 (zeL hG) (k1 (zc5 hG) (k1 (zfh hG) (k1 (zfG hG) (k1 (zgC hG) (k1 (zhg hG) (k1 (zeE hG) (k1 (zgh hG) (k1 (zeG hG) (k1 (zg0 hG) (k1 (zhB hG) (k1 (zdA hG) (k1 (zel hG) .nil))))))))))))))))))) .nil
theorem XH:Sd G W0 85 wI:=gs .nil .nil
theorem znF:Sd G W0 45 ze8:=gs (k1 (zg4 hG) (k1 (XH hG) .nil)) .nil
theorem zeA:Sd G W0 8 zcc:=gs (k1 (zmN hG) (k1 (zoM hG) (k1 (znF hG) (k1 (zgy hG) .nil)))) .nil
theorem zgR:Sd G W0 13 zdR:=gs (k1 (zeA hG) .nil) .nil
theorem zpS:Sd G W0 50 zi5:=gs .nil .nil
theorem znh:Sd G W0 14 zdj:=gs (k1 (zgR hG) (k1 (zpS hG) .nil)) .nil
theorem zkR:Sd G W0 15 zbC:=gs .nil .nil
theorem zrC:Sd G W0 51 znx:=gs .nil .nil
theorem zb0:Sd G W0 89 Yu:=gs (k1 (zy9 hG) .nil) .nil
theorem zun:Sd G W0 52 zpD:=gs (k1 (zoI hG) (k1 (zb0 hG) .nil)) .nil
theorem zp0:Sd G W0 53 zjv:=gs (k1 (YB hG) (k1 (zaN hG) .nil)) .nil
theorem zcq:Sd G W0 54 zd6:=gs (k1 (zoI hG) .nil) .nil
theorem zgG:Sd G W0 17 zdu:=gs (k1 (Zj hG) (k1 (Zl hG) (k1 (zp0 hG) (k1 (zcq hG) .nil)))) .nil
theorem zoL:Sd G W0 62 zhe:=gs (k1 (Z3 hG) (k1 (Yg hG) .nil)) .nil
theorem zg7:Sd G W0 64 zdX:=gs (k1 (zdt hG) .nil) .nil
theorem zoP:Sd G W0 65 zhn:=gs (k1 (wZ hG) (k1 (vN hG) (k1 (xk hG) (k1 (U6 hG) (k1 (YX hG) (k1 (uQ hG) .nil)))))) .nil
theorem zex:Sd G W0 22 zcf:=gs (k1 (yL hG) (k1 (Z3 hG) (k1 (zcq hG) (k1 (zoL hG) (k1 (zrk hG) (k1 (zg7 hG) (k1 (zoP hG) .nil))))))) .nil
theorem zej:Sd G W0 23 zbg:=gs (k1 (yL hG) (k1 (zcq hG) (k1 (zrk hG) (k1 (zg7 hG) (k1 (zgW hG) .nil))))) .nil
theorem zuc:Yz Go.Proofs.Tryz.prog G W0 87 zaG:=by
 obtain ⟨c,hc⟩:=Option.isSome_iff_exists.1 zE4
 exact zoj (Cg:=Yc []) rfl zpA (fun f s hs=>Oks.at (k1 (zgG hG) (k1 (zex hG) (k1 (zej hG) .nil))) f s hs) rfl ztz (fun g it h=>by cases h) zFs zGd hc zaG (Nat.le_of_ble_eq_true (by kernel_rfl)) rfl zsv
theorem zh2:Sd G W0 16 zfW:=gs (k1 (zrC hG) (k1 (zun hG) .nil)) (.cons _ _ _ (zuc hG) (.nil))
theorem zqI:Sd G W0 55 zlK:=gs (k1 (zdt hG) .nil) .nil
theorem znY:Sd G W0 18 zeI:=gs (k1 (YQ hG) (k1 (zcU hG) (k1 (zqI hG) (k1 (zfr hG) .nil)))) .nil
theorem zhZ:Sd G W0 20 zfS:=gs (k1 (zfr hG) .nil) .nil
theorem zmx:Sd G W0 92 zcn:=gs (k1 (YQ hG) .nil) .nil
theorem znK:Sd G W0 94 zfz:=gs .nil .nil
theorem zbs:Sd G W0 93 Ye:=gs (k1 (zi7 hG) (k1 (zhU hG) (k1 (znK hG) (k1 (zdM hG) .nil)))) .nil
theorem zpI:Sd G W0 57 zjF:=gs (k1 (zmx hG) (k1 (zbs hG) .nil)) .nil
theorem zq5:Sd G W0 19 zmg:=gs (k1 (zhZ hG) (k1 (zpI hG) .nil)) .nil
theorem znB:Sd G W0 58 zfe:=gs .nil .nil
theorem uU:Sd G W0 95 yW:=gs (k1 (znB hG) .nil) .nil
theorem uw:Sd G W0 60 yN:=gs (k1 (uU hG) .nil) .nil
theorem zoh:Sd G W0 59 zfB:=gs .nil .nil
theorem uB:Sd G W0 96 yS:=gs (k1 (zoh hG) .nil) .nil
theorem uf:Sd G W0 61 yJ:=gs (k1 (uB hG) .nil) .nil
theorem zoZ:Sd G W0 21 zj5:=gs (k1 (zh2 hG) (k1 (uw hG) (k1 (uf hG) .nil))) .nil
theorem zgX:Sd G W0 4 V7:=gs (k1 (zhO hG) (k1 (zhT hG) (k1 (zks hG) (k1 (zgR hG) (k1 (znh hG) (k1 (zkR hG) (k1 (zh2 hG) (k1 (zgG hG) (k1 (znY hG) (k1 (zq5 hG) (k1 (zhZ hG) (k1 (zoZ hG) (k1 (zex hG) (k1 (zej hG) .nil)))))))))))))) .nil
theorem Wb:Sd G W0 24 u7:=gs .nil .nil
theorem zdi:Sd G W0 26 X7:=gs (k1 (Wb hG) .nil) .nil
theorem zkO:Sd G W0 5 zbB:=gs (k1 (Wb hG) (k1 (YQ hG) (k1 (zdi hG) .nil))) .nil
theorem zja:Sd G W0 7 zaJ:=gs .nil .nil
theorem zpO:Sd G W0 11 zjy:=gs .nil .nil
theorem zgO:Sd G W0 3 VI:=gs (k1 (zgX hG) (k1 (zkO hG) (k1 (zhO hG) (k1 (zja hG) (k1 (zeA hG) (k1 (zhT hG) (k1 (zhP hG) (k1 (zpO hG) .nil)))))))) .nil
end Go.Pe.G
