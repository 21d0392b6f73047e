/- Own work of this seat: G4e, G4f, G4g, EQ, G2i, GH, GW, GX, G3. -/
import Derived.Test.YtehnegeacckkaaaGreatDoorHXGa
import Derived.Tactics
import Derived.Tactics2
import Derived.Shelf.SlicesE.DeleteFunc
import Derived.Shelf.Spec.SlicesGrow
set_option linter.unusedVariables false
set_option linter.unusedSectionVars false
set_option linter.unusedSimpArgs false
set_option linter.unnecessarySimpa false
set_option linter.deprecated false
set_option maxRecDepth 100000
open Array renaming getElem?_eq_some_iff → zHb, getElem?_push → zIj, toArray_toList → zIp
open Bool renaming and_eq_true → zGO
open Int renaming toNat_natCast → zHw
open List renaming getElem?_eq_getElem → zGP, append_nil → zGQ, append_assoc → zGR, getD_eq_getElem?_getD → zGS, nil_append → zGY, length_drop → zH4, length_filter_le → zH8, drop_eq_nil_of_le → zIk, take_of_length_le → zIw, getElem_append_left → zIA
open Nat renaming le_refl → zGT, lt_of_lt_of_le → zG6, le_of_ble_eq_true → zHs, add_zero → zHt, mul_one → zHG, zero_le → zHO, le_trans → zHT
open Option renaming bind_some → zGN, bind_eq_some_iff → zGZ, map_eq_some_iff → zG2, map_some → zHH, isSome_iff_exists → zIy
namespace Go.Pe.G
open Go.Pe
theorem zwS (a1:zt) (a2:Int) (a3:Int) (a4:Int):zoP a1 a2 a3 a4 =
 (VE a1 a2 a3).bind fun y1 =>
 bif !y1.1 then
 some (a1,false,())
 else
 bif decide (a4<0) then
  some (a1,false,())
 else
  bif decide (((a1.Objs.length:Int))<a4) then
  some (a1,false,())
  else
  (wz a1.Objs).bind fun y2 =>
  (xw y2.1 (w64 (a2-1))).bind fun n3 =>
  (y2.1[n3]?).bind fun x4 =>
  (yB x4).bind fun y5 =>
  (xw y2.1 (w64 (a2-1))).bind fun n6 =>
  (xw y2.1 (w64 (a2-1))).bind fun n7 =>
  bif decide (n7=n6) then
   (xw y5.1 a3).bind fun n8 =>
   some ({a1 with Objs:=y2.1.set n6 (y5.1.set n8 a4)},true,())
  else
   none:=zr (by kernel_rfl)
theorem ziD (a1:zq):zb1 a1 =
 (ve a1).bind fun y1 =>
 (idx a1.Mutator.Regs y1.1.A).bind fun x2 =>
 (idx a1.Mutator.Regs y1.1.R).bind fun x3 =>
 (zoP a1.s.H x2 y1.1.S x3).bind fun y4 =>
 (Zr ({a1 with s:={a1.s with H:=y4.1}})).bind fun y5 =>
 some (y5.1,()):=zr (by kernel_rfl)
theorem zpf (a1:Int) (a2:Int):Uv a1 a2 =
 some (w64 (a1-a2),()):=zr (by kernel_rfl)
theorem VC (a1:zk) (a2:Int) (a3:Int):ZM a1 a2 a3 =
 bif decide (((a1.Bal.length:Int))=((a1.Bal.length:Int))) then
 (Wm ((a1.Bal.length:Int))).bind fun n1 =>
 bif decide (a1.Bal.length=((List.replicate n1 ((0:Int))).length)) then
  bif a1.Bal.isEmpty then
  (xw (List.replicate n1 ((0:Int))) (w64 (a2-1))).bind fun n2 =>
  ((List.replicate n1 ((0:Int)))[n2]?).bind fun x3 =>
  (Uv x3 a3).bind fun y4 =>
  (xw (List.replicate n1 ((0:Int))) (w64 (a2-1))).bind fun n5 =>
  some ({a1 with Bal:=(List.replicate n1 ((0:Int))).set n5 y4.1},())
  else
  (xw a1.Bal (w64 (a2-1))).bind fun n6 =>
  (a1.Bal[n6]?).bind fun x7 =>
  (Uv x7 a3).bind fun y8 =>
  (xw a1.Bal (w64 (a2-1))).bind fun n9 =>
  some ({a1 with Bal:=a1.Bal.set n9 y8.1},())
 else
  none
 else
 none:=zr (by kernel_rfl)
theorem ziK (a1:zk) (a2:Int) (a3:Int) (a4:Int):Yt a1 a2 a3 a4 =
 (Zi a1 a2).bind fun y1 =>
 bif y1.1 then
 bif decide (0<=(bif decide (a4<a3) then a4 else a3)) then
  some (decide ((bif decide (a3<a4) then a4 else a3)<=1000000),())
 else
  some (false,())
 else
 some (false,()):=zr (by kernel_rfl)
theorem zt7 (a1:zk) (a2:Int) (a3:Int) (a4:Int):zd3 a1 a2 a3 a4 =
 (Yt a1 a2 a3 a4).bind fun y1 =>
 bif y1.1 then
 (idx a1.Bal (w64 (a2-1))).bind fun x2 =>
 some (decide ((w64 (0-a4))<=(w64 (x2-a3))),())
 else
 some (false,()):=zr (by kernel_rfl)
theorem zry (a1:zk) (a2:Int) (a3:Int) (a4:Int):zft a1 a2 a3 a4 =
 (zd3 a1 a2 a3 a4).bind fun y1 =>
 bif !y1.1 then
 some (a1,false,())
 else
 (ZM ({a1 with Spent:=w64 (a1.Spent+a3)}) a2 a3).bind fun y2 =>
 some (y2.1,true,()):=zr (by kernel_rfl)
theorem zgQ (a1:List (List Int)):X4 a1 =
 bif decide (0=0)&&decide (((a1.length:Int))=0)&&decide (((a1.length:Int))=0) then
 none
 else
 bif decide (0=0)&&decide (((a1.length:Int))=((a1.length:Int)))&&decide (((a1.length:Int))=((a1.length:Int))) then
  some (a1,())
 else
  bif decide (((a1.length:Int))=((a1.length:Int))) then
  (cut a1 0 ((a1.length:Int))).bind fun l1 =>
  none
  else
  none:=zr (by kernel_rfl)
theorem ztt (a1:zt) (a2:Int):zkG a1 a2 =
 (zaU a1).bind fun y1 =>
 bif !y1.1 then
 some (a1,0,1,())
 else
 bif decide ((bif decide (64<a2) then 64 else a2)<=((a1.Objs.length:Int))) then
  some (a1,0,4,())
 else
  (X4 a1.Objs).bind fun y2 =>
  bif decide (a1.Slots=a1.Slots) then
  (Wm a1.Slots).bind fun n3 =>
  (yc (y2.1++(([(List.replicate n3 ((0:Int)))]:List (List Int))))).bind fun l4 =>
  some ({a1 with Objs:=l4},(l4.length:Int),0,())
  else
  none:=zr (by kernel_rfl)
theorem zuf (a1:zp) (a2:Int):zjs a1 a2 =
 (zdK a1 a2).bind fun y1 =>
 bif !y1.2.1 then
 some (a1,false,())
 else
 (zaa y1.1 a2).bind fun y2 =>
 some (y2.1,y2.2.1,()):=zr (by kernel_rfl)
theorem ziX (a1:zq):zb0 a1 =
 (zft a1.s.L a1.m a1.s.P.Price a1.s.P.Limit).bind fun y1 =>
 bif !y1.2.1 then
 some ({a1 with Mutator:={a1.Mutator with PC:=31}},())
 else
 (zkG a1.s.H a1.s.P.Most).bind fun y2 =>
 bif !(decide (y2.2.2.1=0)) then
  (Zr a1).bind fun y3 =>
  some (y3.1,())
 else
  (zjs a1.s.T y2.2.1).bind fun y4 =>
  (ve ({a1 with s:={a1.s with H:=y2.1,T:=y4.1,L:=y1.1}})).bind fun y5 =>
  (uu y5.1.R y2.2.1 ({a1 with s:={a1.s with H:=y2.1,T:=y4.1,L:=y1.1}})).bind fun y6 =>
  some (y6.1,()):=zr (by kernel_rfl)
theorem zqk (a1:Int) (a2:Int):zax a1 a2 =
 some (w64 (a1+a2),()):=zr (by kernel_rfl)
theorem VS (a1:zk) (a2:Int) (a3:Int):ZX a1 a2 a3 =
 bif decide (((a1.Bal.length:Int))=((a1.Bal.length:Int))) then
 (Wm ((a1.Bal.length:Int))).bind fun n1 =>
 bif decide (a1.Bal.length=((List.replicate n1 ((0:Int))).length)) then
  bif a1.Bal.isEmpty then
  (xw (List.replicate n1 ((0:Int))) (w64 (a2-1))).bind fun n2 =>
  ((List.replicate n1 ((0:Int)))[n2]?).bind fun x3 =>
  (zax x3 a3).bind fun y4 =>
  (xw (List.replicate n1 ((0:Int))) (w64 (a2-1))).bind fun n5 =>
  some ({a1 with Bal:=(List.replicate n1 ((0:Int))).set n5 y4.1},())
  else
  (xw a1.Bal (w64 (a2-1))).bind fun n6 =>
  (a1.Bal[n6]?).bind fun x7 =>
  (zax x7 a3).bind fun y8 =>
  (xw a1.Bal (w64 (a2-1))).bind fun n9 =>
  some ({a1 with Bal:=a1.Bal.set n9 y8.1},())
 else
  none
 else
 none:=zr (by kernel_rfl)
theorem zsF (a1:zk) (a2:Int) (a3:Int):zhp a1 a2 a3 =
 (Zi a1 a2).bind fun y1 =>
 bif !y1.1 then
 some (a1,0,())
 else
 bif decide ((bif decide (a1.Pool<a3) then a1.Pool else a3)<=0) then
  some (a1,0,())
 else
  (ZX ({a1 with Pool:=w64 (a1.Pool-(bif decide (a1.Pool<a3) then a1.Pool else a3))}) a2 (bif decide (a1.Pool<a3) then a1.Pool else a3)).bind fun y2 =>
  some (y2.1,bif decide (a1.Pool<a3) then a1.Pool else a3,()):=zr (by kernel_rfl)
theorem zrz (a1:zk) (a2:Int) (a3:Int) (a4:Int):zfC a1 a2 a3 a4 =
 (Yt a1 a2 a3 a4).bind fun y1 =>
 bif !y1.1 then
 some (-1,())
 else
 (zd3 a1 a2 a3 a4).bind fun y2 =>
 bif y2.1 then
  some (0,())
 else
  (idx a1.Bal (w64 (a2-1))).bind fun x3 =>
  some (w64 ((w64 (a3-a4))-x3),()):=zr (by kernel_rfl)
theorem zkb (a1:Int) (a2:Int) (a3:Int) (a4:zq):YV a1 a2 a3 a4 =
 (ZO a4.s.P).bind fun y1 =>
 (U1 a1 a2 y1.1 a4.Mutator.Bin).bind fun y2 =>
 some ({a4 with Mutator:={a4.Mutator with PC:=a3,C:=y2.1}},()):=zr (by kernel_rfl)
theorem zkc (a1:zq):zda a1 =
 (zfC a1.s.L a1.m a1.s.P.Price a1.s.P.Limit).bind fun y1 =>
 (zhp a1.s.L a1.m y1.1).bind fun y2 =>
 bif decide (y2.2.1=0) then
 (YN a1.s.P).bind fun y3 =>
 (YV 2 y3.1 32 (zq.mk {a1.Mutator with PC:=0} {a1.s with L:=y2.1} a1.m)).bind fun y4 =>
 some (y4.1,())
 else
 some (zq.mk {a1.Mutator with PC:=0} {a1.s with L:=y2.1} a1.m,()):=zr (by kernel_rfl)
theorem zk1 (a1:zq):zdF a1 =
 (Wg a1.s.M a1.Mutator.C).bind fun y1 =>
 bif decide (y1.2.1.Out=1) then
 some (zq.mk {a1.Mutator with PC:=33,Bin:=y1.2.1.X,C:=y1.2.1} {a1.s with M:=y1.1} a1.m,())
 else
 bif decide (y1.2.1.Out=2) then
  some (zq.mk {a1.Mutator with PC:=0,C:=y1.2.1} {a1.s with M:=y1.1} a1.m,())
 else
  some (zq.mk {a1.Mutator with C:=y1.2.1} {a1.s with M:=y1.1} a1.m,()):=zr (by kernel_rfl)
theorem zi8 (a1:zq):zcj a1 =
 (idx a1.s.Bins a1.Mutator.Bin).bind fun x1 =>
 (wz a1.s.Bins).bind fun y2 =>
 (xw y2.1 a1.Mutator.Bin).bind fun n3 =>
 (Y8 a1.s.P).bind fun y4 =>
 (YV 1 y4.1 34 (zq.mk {a1.Mutator with Batch:=x1} {a1.s with Bins:=y2.1.set n3 ([]:List Int)} a1.m)).bind fun y5 =>
 some (y5.1,()):=zr (by kernel_rfl)
theorem zkx (a1:zq):zde a1 =
 (Wg a1.s.M a1.Mutator.C).bind fun y1 =>
 bif decide (y1.2.1.Out=1) then
 some (zq.mk {a1.Mutator with PC:=35,Bin:=0,C:=y1.2.1} {a1.s with M:=y1.1} a1.m,())
 else
 some (zq.mk {a1.Mutator with C:=y1.2.1} {a1.s with M:=y1.1} a1.m,()):=zr (by kernel_rfl)
theorem ziF (a1:zq):zce a1 =
 bif decide (0<((a1.Mutator.Batch.length:Int))) then
 (idx a1.Mutator.Batch 0).bind fun x1 =>
 (cut a1.Mutator.Batch 1 ((a1.Mutator.Batch.length:Int))).bind fun l2 =>
 some ({a1 with Mutator:={a1.Mutator with PC:=36,Obj:=x1,Slot:=0,Batch:=l2}},())
 else
 some ({a1 with Mutator:={a1.Mutator with PC:=0}},()):=zr (by kernel_rfl)
theorem zo8 (a1:zq):UI a1 =
 bif decide (a1.Mutator.Slot=a1.s.H.Slots) then
 some (38,())
 else
 some (36,()):=zr (by kernel_rfl)
theorem zjg (a1:zq):zc4 a1 =
 (zez a1.s.H a1.Mutator.Obj a1.Mutator.Slot).bind fun y1 =>
 (UI ({a1 with Mutator:={a1.Mutator with Slot:=w64 (a1.Mutator.Slot+1)}})).bind fun y2 =>
 bif !(decide (y1.1=0)) then
 (za1 3 y1.1 a1.m).bind fun y3 =>
 some ({a1 with Mutator:={a1.Mutator with PC:=37,Slot:=w64 (a1.Mutator.Slot+1),G:=y3.1}},())
 else
 some ({a1 with Mutator:={a1.Mutator with PC:=y2.1,Slot:=w64 (a1.Mutator.Slot+1)}},()):=zr (by kernel_rfl)
theorem zkM (a1:zq):zdD a1 =
 (UI a1).bind fun y1 =>
 (Z4 y1.1 a1).bind fun y2 =>
 some (y2.1,()):=zr (by kernel_rfl)
theorem zgR (a1:zq):za5 a1 =
 (zaa a1.s.T a1.Mutator.Obj).bind fun y1 =>
 (UU a1.s.L a1.m).bind fun y2 =>
 some (zq.mk {a1.Mutator with PC:=39} {a1.s with T:=y1.1,L:=y2.1} a1.m,()):=zr (by kernel_rfl)
theorem zgU (a1:zq):zaV a1 =
 some (zq.mk {a1.Mutator with PC:=35,Obj:=0} {a1.s with Work:=w64 (a1.s.Work-1)} a1.m,()):=zr (by kernel_rfl)
theorem zjB (a1:zq):Ud a1 =
 bif decide (a1.Mutator.PC=0) then
 (Vw a1).bind fun y1 =>
 some (y1.1,())
 else
 bif decide (a1.Mutator.PC=1) then
  (zcn a1).bind fun y2 =>
  some (y2.1,())
 else
  bif decide (a1.Mutator.PC=2) then
  (zee a1).bind fun y3 =>
  some (zq.mk y3.1 (za.mk y3.2.1 y3.2.2.1 y3.2.2.2.1 y3.2.2.2.2.1 y3.2.2.2.2.2.1 y3.2.2.2.2.2.2.1 y3.2.2.2.2.2.2.2.1 y3.2.2.2.2.2.2.2.2.1 y3.2.2.2.2.2.2.2.2.2.1 y3.2.2.2.2.2.2.2.2.2.2.1 y3.2.2.2.2.2.2.2.2.2.2.2.2.2.2.2.2.1 y3.2.2.2.2.2.2.2.2.2.2.2.1 y3.2.2.2.2.2.2.2.2.2.2.2.2.1 y3.2.2.2.2.2.2.2.2.2.2.2.2.2.1 y3.2.2.2.2.2.2.2.2.2.2.2.2.2.2.1) y3.2.2.2.2.2.2.2.2.2.2.2.2.2.2.2.1,())
  else
  bif decide (a1.Mutator.PC=3) then
   (zcg a1).bind fun y4 =>
   some (y4.1,())
  else
   bif decide (a1.Mutator.PC=10) then
   (zc5 a1).bind fun y5 =>
   some (y5.1,())
   else
   bif decide (a1.Mutator.PC=20) then
    (zdP a1).bind fun y6 =>
    some (y6.1,())
   else
    bif decide (a1.Mutator.PC=21) then
    (zb3 a1).bind fun y7 =>
    some (y7.1,())
    else
    bif decide (a1.Mutator.PC=22) then
     (zau a1).bind fun y8 =>
     some (y8.1,())
    else
     bif decide (a1.Mutator.PC=23) then
     (zb1 a1).bind fun y9 =>
     some (y9.1,())
     else
     bif decide (a1.Mutator.PC=30) then
      (zb0 a1).bind fun y10 =>
      some (y10.1,())
     else
      bif decide (a1.Mutator.PC=31) then
      (zda a1).bind fun y11 =>
      some (y11.1,())
      else
      bif decide (a1.Mutator.PC=32) then
       (zdF a1).bind fun y12 =>
       some (y12.1,())
      else
       bif decide (a1.Mutator.PC=33) then
       (zcj a1).bind fun y13 =>
       some (y13.1,())
       else
       bif decide (a1.Mutator.PC=34) then
        (zde a1).bind fun y14 =>
        some (y14.1,())
       else
        bif decide (a1.Mutator.PC=35) then
        (zce a1).bind fun y15 =>
        some (y15.1,())
        else
        bif decide (a1.Mutator.PC=36) then
         (zc4 a1).bind fun y16 =>
         some (y16.1,())
        else
         bif decide (a1.Mutator.PC=37) then
         (zdD a1).bind fun y17 =>
         some (y17.1,())
         else
         bif decide (a1.Mutator.PC=38) then
          (za5 a1).bind fun y18 =>
          some (y18.1,())
         else
          bif decide (a1.Mutator.PC=39) then
          (zaV a1).bind fun y19 =>
          some (y19.1,())
          else
          some (a1,()):=zr (by kernel_rfl)
theorem WE (a1:List zc):wG a1 =
 bif a1.isEmpty then
 zjF (
  some (([]:List zc),())) (
  (yc (([]:List zc)++a1)).bind fun l1 =>
  some (l1,()))
 else
 (yc (([]:List zc)++a1)).bind fun l2 =>
 some (l2,()):=zr (by kernel_rfl)
theorem zrs (a1:za) (a2:Int):zeV a1 a2 =
 bif a1.Done then
 some (a1,())
 else
 bif decide (a2<1) then
  some (a1,())
 else
  bif decide (((a1.Ms.length:Int))<a2) then
  some (a1,())
  else
  (idx a1.Ms (w64 (a2-1))).bind fun x1 =>
  (Ud (zq.mk x1 a1 a2)).bind fun y2 =>
  (wG y2.1.s.Ms).bind fun y3 =>
  (xw y3.1 (w64 (a2-1))).bind fun n4 =>
  some ({y2.1.s with Ms:=y3.1.set n4 y2.1.Mutator},()):=zr (by kernel_rfl)
theorem zsM (a1:za) (a2:zg):zhB a1 a2 =
 (zjX a2).bind fun y1 =>
 bif !y1.1 then
 some (a1,())
 else
 bif decide (a2.Kind=0) then
  (zlU a1 a2.N).bind fun y2 =>
  some (y2.1,())
 else
  bif decide (a2.Kind=1) then
  (zhK a1 a2.N).bind fun y3 =>
  some (y3.1,())
  else
  bif decide (a2.Kind=2) then
   (zeV a1 a2.N).bind fun y4 =>
   some (y4.1,())
  else
   none:=zr (by kernel_rfl)
theorem zpu (s1:List zg) (s2:List zg) (s3:Int) (s4:Int) (s5:za) (s6:Int) (s7:Int) (s8:Int) (s9:Int) (s10:Int) (s11:Int) (s12:Int) (s13:Int) (s14:Int) (s15:BitVec 64) (s16:Int) (s17:zp) (s18:Int) (s19:Int) (s20:Bool) (s21:Bool) (s22:Int) (s23:Int) (s24:Int) (s25:Int) (s26:zw) (s27:List (List Int)) (s28:List (List Int)) (s29:List (List zm)) (s30:List zg) (s31:List (List Int)) (s32:List (BitVec 64)) (s33:List (List Int)) (s34:List Int) (s35:List Int) (s36:List zh) (s37:List zc):zdQ (s1,s2,s3,s4,s5,s6,s7,s8,s9,s10,s11,s12,s13,s14,s15,s16,s17,s18,s19,s20,s21,s22,s23,s24,s25,s26,s27,s28,s29,s30,s31,s32,s33,s34,s35,s36,s37,()) =
 bif decide (s4<s3) then
 (idx s2 s4).bind fun x1 =>
 bif s5.Done then
  some (.ret (s4,s5,()))
 else
  (zhB s5 x1).bind fun y2 =>
  some (.again (s1,s2,s3,w64 (s4+1),y2.1,s6,s7,s8,s9,s10,s11,s12,s13,s14,s15,s16,s17,s18,s19,s20,s21,s22,s23,s24,s25,s26,s27,s28,s29,s30,s31,s32,s33,s34,s35,s36,s37,()))
 else
 some (.brk (s1,s5,s6,s7,s8,s9,s10,s11,s12,s13,s14,s15,s16,s17,s18,s19,s20,s21,s22,s23,s24,s25,s26,s27,s28,s29,s30,s31,s32,s33,s34,s35,s36,s37,())):=by kernel_rfl
theorem zub (a1:za) (a2:List zg):ul a1 a2 =
 (zO zdQ (a2,a2,(a2.length:Int),0,a1,0,0,0,0,0,0,0,0,0,0#64,0,zp.mk 0#64 0#64,0,0,false,false,0,0,0,0,zw.mk 0 0,([]:List (List Int)),([]:List (List Int)),([]:List (List zm)),([]:List zg),([]:List (List Int)),([]:List (BitVec 64)),([]:List (List Int)),([]:List Int),([]:List Int),([]:List zh),([]:List zc),())).bind fun st=>match st with
  | .again _=>none
  | .brk y1 =>
  some (y1.2.1,(y1.1.length:Int),())
  | .ret y1 =>
  some (y1.2.1,y1.1,()):=zr (by kernel_rfl)
theorem zpW (s1:Int) (s2:Int) (s3:Int) (s4:List zg):zdO (s1,s2,s3,s4,()) =
 bif decide (s3<s2) then
 (yc (s4++(([(zg.mk 1 (w64 (s3+1)))]:List zg)))).bind fun l1 =>
 some (.again (s1,s2,w64 (s3+1),l1,()))
 else
 some (.brk (s1,s4,())):=by kernel_rfl
theorem zpz (s1:Int) (s2:Int) (s3:List zg):zdG (s1,s2,s3,()) =
 bif decide (s2<s1) then
 (yc (s3++(([(zg.mk 2 (w64 (s2+1)))]:List zg)))).bind fun l1 =>
 some (.again (s1,w64 (s2+1),l1,()))
 else
 some (.brk (s3,())):=by kernel_rfl
theorem zur (a1:Int) (a2:Int):zj5 a1 a2 =
 (zO zdO (a2,bif decide ((bif decide (16<a1) then 16 else a1)<0) then 0 else (bif decide (16<a1) then 16 else a1),0,([(zg.mk 0 0)]:List zg),())).bind fun st=>match st with
  | .again _=>none
  | .brk y1 =>
  (zO zdG (bif decide ((bif decide (16<y1.1) then 16 else y1.1)<0) then 0 else (bif decide (16<y1.1) then 16 else y1.1),0,y1.2.1,())).bind fun st=>match st with
   | .again _=>none
   | .brk y2 =>
   some (y2.1,())
   | .ret y2 =>
   none
  | .ret y1 =>
  none:=zr (by kernel_rfl)
theorem znB (s1:Int) (s2:List zg) (s3:Int) (s4:za) (s5:Int) (s6:Int) (s7:Int) (s8:Int) (s9:Int) (s10:Int) (s11:Int) (s12:Int) (s13:Int) (s14:BitVec 64) (s15:Int) (s16:zp) (s17:Int) (s18:Int) (s19:Bool) (s20:Bool) (s21:Int) (s22:Int) (s23:Int) (s24:Int) (s25:zw) (s26:List (List Int)) (s27:List (List Int)) (s28:List (List zm)) (s29:List zg) (s30:List (List Int)) (s31:List (BitVec 64)) (s32:List (List Int)) (s33:List Int) (s34:List Int) (s35:List zh) (s36:List zc):za6 (s1,s2,s3,s4,s5,s6,s7,s8,s9,s10,s11,s12,s13,s14,s15,s16,s17,s18,s19,s20,s21,s22,s23,s24,s25,s26,s27,s28,s29,s30,s31,s32,s33,s34,s35,s36,()) =
 bif decide (s3<s1) then
 bif !s4.Done then
  (ul s4 s2).bind fun y1 =>
  some (.again (s1,s2,w64 (s3+1),y1.1,s5,s6,s7,s8,s9,s10,s11,s12,s13,s14,s15,s16,s17,s18,s19,s20,s21,s22,s23,s24,s25,s26,s27,s28,s29,s30,s31,s32,s33,s34,s35,s36,()))
 else
  some (.brk (s3,s4,s5,s6,s7,s8,s9,s10,s11,s12,s13,s14,s15,s16,s17,s18,s19,s20,s21,s22,s23,s24,s25,s26,s27,s28,s29,s30,s31,s32,s33,s34,s35,s36,()))
 else
 some (.brk (s3,s4,s5,s6,s7,s8,s9,s10,s11,s12,s13,s14,s15,s16,s17,s18,s19,s20,s21,s22,s23,s24,s25,s26,s27,s28,s29,s30,s31,s32,s33,s34,s35,s36,())):=by kernel_rfl
theorem zpB (a1:za) (a2:Int):zaH a1 a2 =
 (zj5 ((a1.Ws.length:Int)) ((a1.Ms.length:Int))).bind fun y1 =>
 (zO za6 (a2,y1.1,0,a1,0,0,0,0,0,0,0,0,0,0#64,0,zp.mk 0#64 0#64,0,0,false,false,0,0,0,0,zw.mk 0 0,([]:List (List Int)),([]:List (List Int)),([]:List (List zm)),([]:List zg),([]:List (List Int)),([]:List (BitVec 64)),([]:List (List Int)),([]:List Int),([]:List Int),([]:List zh),([]:List zc),())).bind fun st=>match st with
  | .again _=>none
  | .brk y2 =>
  some (y2.2.1,y2.1,())
  | .ret y2 =>
  none:=zr (by kernel_rfl)
theorem zkN (s1:List Int) (s2:List Int) (s3:Int):UL (s1,s2,s3,()) =
 bif decide (s3<((s1.length:Int))) then
 (idx s1 s3).bind fun x1 =>
 (idx s2 s3).bind fun x2 =>
 bif !(decide (x1=x2)) then
  some (.ret (false,()))
 else
  some (.again (s1,s2,w64 (s3+1),()))
 else
 some (.brk (())):=by kernel_rfl
theorem znM (a1:List Int) (a2:List Int):ZS a1 a2 =
 bif !(decide (((a1.length:Int))=((a2.length:Int)))) then
 some (false,())
 else
 (zO UL (a1,a2,0,())).bind fun st=>match st with
  | .again _=>none
  | .brk y1 =>
  some (true,())
  | .ret y1 =>
  some (y1.1,()):=zr (by kernel_rfl)
theorem zdc (s1:List zh) (s2:Int) (s3:Int) (s4:za) (s5:List zu):Yy (s1,s2,s3,s4,s5,()) =
 bif decide (s3<s2) then
 (idx s1 s3).bind fun x1 =>
 bif decide (x1.PC=6) then
  (yc (s5++([x1.G]:List zu))).bind fun l2 =>
  some (.again (s1,s2,w64 (s3+1),s4,l2,()))
 else
  some (.again (s1,s2,w64 (s3+1),s4,s5,()))
 else
 some (.brk (s4,s5,())):=by kernel_rfl
theorem zcY (s1:List zc) (s2:Int) (s3:Int) (s4:List zu):YB (s1,s2,s3,s4,()) =
 bif decide (s3<s2) then
 (idx s1 s3).bind fun x1 =>
 (uj x1).bind fun y2 =>
 bif y2.1 then
  (yc (s4++([x1.G]:List zu))).bind fun l3 =>
  some (.again (s1,s2,w64 (s3+1),l3,()))
 else
  some (.again (s1,s2,w64 (s3+1),s4,()))
 else
 some (.brk (s4,())):=by kernel_rfl
theorem zpw (a1:za):zas a1 =
 (zO Yy (a1.Ws,(a1.Ws.length:Int),0,a1,([]:List zu),())).bind fun st=>match st with
  | .again _=>none
  | .brk y1 =>
  (zO YB (y1.1.Ms,(y1.1.Ms.length:Int),0,y1.2.1,())).bind fun st=>match st with
   | .again _=>none
   | .brk y2 =>
   some (y2.1,())
   | .ret y2 =>
   none
  | .ret y1 =>
  none:=zr (by kernel_rfl)
theorem zu8 (a1:zu):zmz a1 =
 (zlG a1 0 1 a1.Obj).bind fun y1 =>
 some (y1.1,()):=zr (by kernel_rfl)
theorem zdC (s1:BitVec 64) (s2:Int) (s3:Int) (s4:za) (s5:List zu):Xq (s1,s2,s3,s4,s5,()) =
 bif decide (s3<s2) then
 (xw s5 s3).bind fun n1 =>
 (s5[n1]?).bind fun x2 =>
 (zmz x2).bind fun y3 =>
 (ZY s1 y3.1).bind fun y4 =>
 some (.again (y4.1,s2,w64 (s3+1),s4,s5,()))
 else
 some (.brk (s1,s4,())):=by kernel_rfl
theorem zdX (s1:BitVec 64) (s2:List zc) (s3:Int) (s4:Int):Xl (s1,s2,s3,s4,()) =
 bif decide (s4<s3) then
 (idx s2 s4).bind fun x1 =>
 (zjC x1.Buf).bind fun y2 =>
 bif decide (x1.PC=21) then
  (ZY (s1|||y2.1) x1.Old).bind fun y3 =>
  some (.again (y3.1,s2,s3,w64 (s4+1),()))
 else
  bif decide (x1.PC=22) then
  (ZY (s1|||y2.1) x1.Old).bind fun y4 =>
  some (.again (y4.1,s2,s3,w64 (s4+1),()))
  else
  bif decide (x1.Ret=22) then
   bif decide (x1.PC=1) then
   (ZY (s1|||y2.1) x1.Old).bind fun y5 =>
   some (.again (y5.1,s2,s3,w64 (s4+1),()))
   else
   bif decide (x1.PC=3) then
    (ZY (s1|||y2.1) x1.Old).bind fun y6 =>
    some (.again (y6.1,s2,s3,w64 (s4+1),()))
   else
    some (.again (s1|||y2.1,s2,s3,w64 (s4+1),()))
  else
   some (.again (s1|||y2.1,s2,s3,w64 (s4+1),()))
 else
 some (.brk (s1,())):=by kernel_rfl
theorem zq4 (a1:za):XO a1 =
 (zas a1).bind fun y1 =>
 (zO Xq (0#64,(y1.1.length:Int),0,a1,y1.1,())).bind fun st=>match st with
  | .again _=>none
  | .brk y2 =>
  (zO Xl (y2.1,y2.2.1.Ms,(y2.2.1.Ms.length:Int),0,())).bind fun st=>match st with
   | .again _=>none
   | .brk y3 =>
   some (y3.1,())
   | .ret y3 =>
   none
  | .ret y2 =>
  none:=zr (by kernel_rfl)
theorem zh6 (s1:BitVec 64) (s2:List zc) (s3:Int) (s4:Int):VK (s1,s2,s3,s4,()) =
 bif decide (s4<s3) then
 (idx s2 s4).bind fun x1 =>
 (zjC x1.Regs).bind fun y2 =>
 some (.again (s1|||y2.1,s2,s3,w64 (s4+1),()))
 else
 some (.brk (s1,())):=by kernel_rfl
theorem zuO (a1:za):zf3 a1 =
 (zO VK (0#64,a1.Ms,(a1.Ms.length:Int),0,())).bind fun st=>match st with
  | .again _=>none
  | .brk y1 =>
  some (y1.1,())
  | .ret y1 =>
  none:=zr (by kernel_rfl)
theorem zmH (s1:BitVec 64) (s2:List Int) (s3:Int):zad (s1,s2,s3,()) =
 bif decide (s3<64) then
 (zfe s2 64 s3).bind fun n1 =>
 (s2[n1]?).bind fun x2 =>
 bif decide (0<x2) then
  (ZY s1 (w64 (s3+1))).bind fun y3 =>
  some (.again (y3.1,s2,w64 (s3+1),()))
 else
  some (.again (s1,s2,w64 (s3+1),()))
 else
 some (.brk (s1,())):=by kernel_rfl
theorem zo7 (a1:List Int):zcR a1 =
 bif decide (a1.length=64) then
 (zO zad (0#64,a1,0,())).bind fun st=>match st with
  | .again _=>none
  | .brk y1 =>
  some (y1.1,())
  | .ret y1 =>
  none
 else
 none:=zr (by kernel_rfl)
theorem zrh (a1:Int):znA a1 =
 some (true,()):=zr (by kernel_rfl)
theorem Xh (s1:BitVec 64) (s2:Int) (s3:Int) (s4:zt) (s5:List Int) (s6:List Int) (s7:List Int):ZA (s1,s2,s3,s4,s5,s6,s7,()) =
 bif decide (s3<s2) then
 (xw s7 s3).bind fun n1 =>
 (s7[n1]?).bind fun x2 =>
 (zfe s6 64 (w64 (x2-1))).bind fun n3 =>
 some (.again (s1,s2,w64 (s3+1),s4,s5,s6.set n3 1,s7,()))
 else
 some (.brk (s1,s4,s5,s6,s7,())):=by kernel_rfl
theorem uH (s1:BitVec 64) (s2:zt) (s3:List Int) (s4:List Int) (s5:List Int):ZB (s1,s2,s3,s4,s5,()) =
 bif decide (0<((s5.length:Int))) then
 (xw s5 0).bind fun n1 =>
 (s5[n1]?).bind fun x2 =>
 (znA x2).bind fun y3 =>
 bif !y3.1 then
  (cut s5 1 ((s5.length:Int))).bind fun l4 =>
  some (.again (s1,s2,s3,s4,l4,()))
 else
  (idx s2.Objs (w64 (x2-1))).bind fun x5 =>
  (zO vh (s1,x2,x5,(x5.length:Int),0,s2,s3,s4,s5,())).bind fun st=>match st with
   | .again _=>none
   | .brk y6 =>
   (cut y6.2.2.2.2.1 1 ((y6.2.2.2.2.1.length:Int))).bind fun l7 =>
   some (.again (y6.1,y6.2.1,y6.2.2.1,y6.2.2.2.1,l7,()))
   | .ret y6 =>
   some (.ret (()))
 else
 some (.brk (s3,s4,())):=by kernel_rfl
theorem YP (s1:BitVec 64) (s2:Int) (s3:List Int) (s4:Int) (s5:Int) (s6:zt) (s7:List Int) (s8:List Int) (s9:List Int):vh (s1,s2,s3,s4,s5,s6,s7,s8,s9,()) =
 bif decide (s5<s4) then
 (idx s3 s5).bind fun x1 =>
 (zc6 s1 x1).bind fun y2 =>
 bif y2.1 then
  (zfe s8 64 (w64 (x1-1))).bind fun n3 =>
  (s8[n3]?).bind fun x4 =>
  bif decide (x4=0) then
  (zfe s8 64 (w64 (s2-1))).bind fun n5 =>
  (s8[n5]?).bind fun x6 =>
  (zfe s8 64 (w64 (x1-1))).bind fun n7 =>
  (yc (s9++([x1]:List Int))).bind fun l8 =>
  some (.again (s1,s2,s3,s4,w64 (s5+1),s6,s7,s8.set n7 (w64 (x6+1)),l8,()))
  else
  some (.again (s1,s2,s3,s4,w64 (s5+1),s6,s7,s8,s9,()))
 else
  some (.again (s1,s2,s3,s4,w64 (s5+1),s6,s7,s8,s9,()))
 else
 some (.brk (s1,s6,s7,s8,s9,())):=by kernel_rfl
theorem zdr (a1:zt) (a2:BitVec 64):Ye a1 a2 =
 (zgc ((a1.Objs.length:Int))).bind fun y1 =>
 (zd9 (a2&&&y1.1)).bind fun y2 =>
 (zO ZA (y1.1,(y2.1.length:Int),0,a1,List.replicate 64 ((0:Int)),List.replicate 64 ((0:Int)),y2.1,())).bind fun st=>match st with
  | .again _=>none
  | .brk y3 =>
  (zO ZB (y3.1,y3.2.1,y3.2.2.1,y3.2.2.2.1,y3.2.2.2.2.1,())).bind fun st=>match st with
   | .again _=>none
   | .brk y4 =>
   bif decide (y4.2.1.length=64) then
   bif decide (y4.1.length=64) then
    bif decide (y4.2.1.length=64) then
    some (y4.2.1,())
    else
    none
   else
    none
   else
   none
   | .ret y4 =>
   none
  | .ret y3 =>
  none:=zr (by kernel_rfl)
theorem ztk (a1:zt) (a2:BitVec 64):zaX a1 a2 =
 (Ye a1 a2).bind fun y1 =>
 (zcR y1.1).bind fun y2 =>
 some (y2.1,()):=zr (by kernel_rfl)
theorem zvf (a1:za):zf7 a1 =
 (zf3 a1).bind fun y1 =>
 (zaX a1.H (a1.P.Roots|||y1.1)).bind fun y2 =>
 some (y2.1,()):=zr (by kernel_rfl)
theorem zrt (a1:zh):zfG a1 =
 bif !(decide (a1.Obj=0)) then
 some (true,())
 else
 some (decide (0<((a1.Batch.length:Int))),()):=zr (by kernel_rfl)
end Go.Pe.G
namespace Go.Pe.G
open Go.Pe
theorem uU (s1:List zh) (s2:Int) (s3:Int):yN (s1,s2,s3,()) =
 bif decide (s3<s2) then
 (idx s1 s3).bind fun x1 =>
 (zfG x1).bind fun y2 =>
 bif y2.1 then
  some (.ret (s3,()))
 else
  some (.again (s1,s2,w64 (s3+1),()))
 else
 some (.brk (())):=by kernel_rfl
theorem Zh (a1:List zh):wp a1 =
 (zO yN (a1,(a1.length:Int),0,())).bind fun st=>match st with
  | .again _=>none
  | .brk y1 =>
  some (-1,())
  | .ret y1 =>
  some (y1.1,()):=zr (by kernel_rfl)
theorem uT (a1:List zh):yO a1 =
 (wp a1).bind fun y1 =>
 some (decide (0<=y1.1),()):=zr (by kernel_rfl)
theorem zrw (a1:zc):zfM a1 =
 bif !(decide (a1.Obj=0)) then
 some (true,())
 else
 some (decide (0<(w64 (((a1.Batch.length:Int))+((a1.Buf.length:Int))))),()):=zr (by kernel_rfl)
theorem uB (s1:List zc) (s2:Int) (s3:Int):yH (s1,s2,s3,()) =
 bif decide (s3<s2) then
 (idx s1 s3).bind fun x1 =>
 (zfM x1).bind fun y2 =>
 bif y2.1 then
  some (.ret (s3,()))
 else
  some (.again (s1,s2,w64 (s3+1),()))
 else
 some (.brk (())):=by kernel_rfl
theorem u4 (a1:List zc):wa a1 =
 (zO yH (a1,(a1.length:Int),0,())).bind fun st=>match st with
  | .again _=>none
  | .brk y1 =>
  some (-1,())
  | .ret y1 =>
  some (y1.1,()):=zr (by kernel_rfl)
theorem uF (a1:List zc):yI a1 =
 (wa a1).bind fun y1 =>
 some (decide (0<=y1.1),()):=zr (by kernel_rfl)
theorem zuh (a1:za):zdE a1 =
 (Va a1).bind fun y1 =>
 bif decide (((y1.1.length:Int))=0) then
 (yO a1.Ws).bind fun y2 =>
 bif !y2.1 then
  (yI a1.Ms).bind fun y3 =>
  some (!y3.1,())
 else
  some (false,())
 else
 some (false,()):=zr (by kernel_rfl)
theorem zuV (a1:zu):zmh a1 =
 (zlG a1 1 2 1).bind fun y1 =>
 some (y1.1,()):=zr (by kernel_rfl)
theorem zib (s1:Int) (s2:Int) (s3:Int) (s4:za) (s5:List zu):V3 (s1,s2,s3,s4,s5,()) =
 bif decide (s3<s2) then
 (xw s5 s3).bind fun n1 =>
 (s5[n1]?).bind fun x2 =>
 (zmh x2).bind fun y3 =>
 some (.again (w64 (s1+y3.1),s2,w64 (s3+1),s4,s5,()))
 else
 some (.brk (s1,s4,())):=by kernel_rfl
theorem zh8 (s1:Int) (s2:List zh) (s3:Int) (s4:Int) (s5:za):V6 (s1,s2,s3,s4,s5,()) =
 bif decide (s4<s3) then
 (idx s2 s4).bind fun x1 =>
 bif decide (x1.PC=9) then
  some (.again (w64 (s1+1),s2,s3,w64 (s4+1),s5,()))
 else
  some (.again (s1,s2,s3,w64 (s4+1),s5,()))
 else
 some (.brk (s1,s5,())):=by kernel_rfl
theorem zgP (s1:Int) (s2:List zc) (s3:Int) (s4:Int):WR (s1,s2,s3,s4,()) =
 bif decide (s4<s3) then
 (idx s2 s4).bind fun x1 =>
 bif decide (x1.PC=39) then
  some (.again (w64 (s1+1),s2,s3,w64 (s4+1),()))
 else
  some (.again (s1,s2,s3,w64 (s4+1),()))
 else
 some (.brk (s1,())):=by kernel_rfl
theorem zvX (a1:za):zmS a1 =
 (zas a1).bind fun y1 =>
 (zO V3 (0,(y1.1.length:Int),0,a1,y1.1,())).bind fun st=>match st with
  | .again _=>none
  | .brk y2 =>
  (zO V6 (y2.1,y2.2.1.Ws,(y2.2.1.Ws.length:Int),0,y2.2.1,())).bind fun st=>match st with
   | .again _=>none
   | .brk y3 =>
   (zO WR (y3.1,y3.2.1.Ms,(y3.2.1.Ms.length:Int),0,())).bind fun st=>match st with
    | .again _=>none
    | .brk y4 =>
    some (y4.1,())
    | .ret y4 =>
    none
   | .ret y3 =>
   none
  | .ret y2 =>
  none:=zr (by kernel_rfl)
theorem Ug (s1:List zg) (s2:Int) (s3:za) (s4:za):wV (s1,s2,s3,s4,()) =
 bif decide (s2<6) then
 (ul s4 s1).bind fun y1 =>
 some (.again (s1,w64 (s2+1),s3,y1.1,()))
 else
 some (.brk (s1,s3,s4,())):=by kernel_rfl
theorem zkB:V8 =
 (zaQ (([(([(zm.mk 1 1 0 0),(zm.mk 5 1 0 0),(zm.mk 2 1 0 0)]:List zm))]:List (List zm)))).bind fun y1 =>
 (zgj y1.1).bind fun y2 =>
 (zO wV (([(zg.mk 2 1)]:List zg),0,y2.1,y2.1,())).bind fun st=>match st with
  | .again _=>none
  | .brk y3 =>
  (ul y3.2.2.1 y3.1).bind fun y4 =>
  (ul y4.1 y3.1).bind fun y5 =>
  (zaH y5.1 900).bind fun y6 =>
  (ul y3.2.1 (([(zg.mk 1 1),(zg.mk 1 1),(zg.mk 1 1),(zg.mk 1 1),(zg.mk 1 1),(zg.mk 1 1),(zg.mk 1 1)]:List zg))).bind fun y7 =>
  (Va y3.2.1).bind fun y8 =>
  (ZS y8.1 ([1]:List Int)).bind fun y9 =>
  bif y9.1 then
  (uZ y3.2.1).bind fun y10 =>
  (ZS y10.1 ([1]:List Int)).bind fun y11 =>
  bif y11.1 then
   (XO y3.2.1).bind fun y12 =>
   bif decide (y12.1=0#64) then
   (zf7 y3.2.1).bind fun y13 =>
   bif decide (y13.1=3#64) then
    (zf3 y3.2.1).bind fun y14 =>
    bif decide (y14.1=1#64) then
    (XO y3.2.2.1).bind fun y15 =>
    bif decide (y15.1=2#64) then
     (XO y4.1).bind fun y16 =>
     bif decide (y16.1=2#64) then
     (zf7 y5.1).bind fun y17 =>
     bif decide (y17.1=1#64) then
      (XO y5.1).bind fun y18 =>
      bif decide (y18.1=2#64) then
      bif y6.1.Done then
       (zdE y6.1).bind fun y19 =>
       bif y19.1 then
       bif decide (y6.1.T.Marks=3#64) then
        (zdE y3.2.1).bind fun y20 =>
        bif !y20.1 then
        (uZ y7.1).bind fun y21 =>
        bif decide (((y21.1.length:Int))=0) then
         (wK y7.1 1).bind fun y22 =>
         (ZS y22.1 ([1]:List Int)).bind fun y23 =>
         bif y23.1 then
         (wK y3.2.1 2).bind fun y24 =>
         bif decide (((y24.1.length:Int))=0) then
          (Zm y3.2.1 1).bind fun y25 =>
          bif decide (((y25.1.length:Int))=0) then
          (zmS y3.2.1).bind fun y26 =>
          some (decide (y26.1=0),())
          else
          some (false,())
         else
          some (false,())
         else
         some (false,())
        else
         some (false,())
        else
        some (false,())
       else
        some (false,())
       else
       some (false,())
      else
       some (false,())
      else
      some (false,())
     else
      some (false,())
     else
     some (false,())
    else
     some (false,())
    else
    some (false,())
   else
    some (false,())
   else
   some (false,())
  else
   some (false,())
  else
  some (false,())
  | .ret y3 =>
  none:=zr (by kernel_rfl)
theorem zeJ (a1:zG):zC a1 =
 bif decide (((a1.L.length:Int))<=a1.At) then
 some (0,a1,())
 else
 (idx a1.L (w64 ((w64 (a1.At+1))-1))).bind fun x1 =>
 some ((x1.toNat:Int),{a1 with At:=w64 (a1.At+1)},()):=zr (by kernel_rfl)
theorem zgI (a1:Int) (a2:Int) (a3:zG):Wh a1 a2 a3 =
 (zC a3).bind fun y1 =>
 (xw ([1,1,2,2,2,3,4,5]:List Int) (y1.1.tmod 8)).bind fun n2 =>
 (([1,1,2,2,2,3,4,5]:List Int)[n2]?).bind fun x3 =>
 (zC y1.2.1).bind fun y4 =>
 bif decide (a1=0) then
 none
 else
 bif decide (x3=1) then
  (zC y4.2.1).bind fun y5 =>
  bif decide (a1=0) then
  none
  else
  bif decide (x3<3) then
   (zC y5.2.1).bind fun y6 =>
   bif decide (a2=0) then
   none
   else
   some (zm.mk x3 (y4.1.tmod a1) (y5.1.tmod a1) (y6.1.tmod a2),y6.2.1,())
  else
   some (zm.mk x3 (y4.1.tmod a1) (y5.1.tmod a1) 0,y5.2.1,())
 else
  bif decide (x3=2) then
  (zC y4.2.1).bind fun y7 =>
  bif decide (a1=0) then
   none
  else
   bif decide (x3<3) then
   (zC y7.2.1).bind fun y8 =>
   bif decide (a2=0) then
    none
   else
    some (zm.mk x3 (y4.1.tmod a1) (y7.1.tmod a1) (y8.1.tmod a2),y8.2.1,())
   else
   some (zm.mk x3 (y4.1.tmod a1) (y7.1.tmod a1) 0,y7.2.1,())
  else
  bif decide (x3=4) then
   (zC y4.2.1).bind fun y9 =>
   bif decide (a1=0) then
   none
   else
   bif decide (x3<3) then
    (zC y9.2.1).bind fun y10 =>
    bif decide (a2=0) then
    none
    else
    some (zm.mk x3 (y4.1.tmod a1) (y9.1.tmod a1) (y10.1.tmod a2),y10.2.1,())
   else
    some (zm.mk x3 (y4.1.tmod a1) (y9.1.tmod a1) 0,y9.2.1,())
  else
   bif decide (x3<3) then
   (zC y4.2.1).bind fun y11 =>
   bif decide (a2=0) then
    none
   else
    some (zm.mk x3 (y4.1.tmod a1) 0 (y11.1.tmod a2),y11.2.1,())
   else
   some (zm.mk x3 (y4.1.tmod a1) 0 0,y4.2.1,()):=zr (by kernel_rfl)
theorem zkZ (s1:Int) (s2:Int) (s3:Int) (s4:Int) (s5:Int) (s6:Int) (s7:Int) (s8:Int) (s9:Int) (s10:Int) (s11:Int) (s12:BitVec 64) (s13:zG) (s14:Int) (s15:Int) (s16:Int) (s17:Int) (s18:Int) (s19:Int) (s20:Int) (s21:Int) (s22:Int) (s23:BitVec 64) (s24:List (List Int)) (s25:List (List Int)) (s26:List (List zm)) (s27:List zg) (s28:List (List Int)) (s29:List (List Int)) (s30:List (List zm)) (s31:List zg):Xx (s1,s2,s3,s4,s5,s6,s7,s8,s9,s10,s11,s12,s13,s14,s15,s16,s17,s18,s19,s20,s21,s22,s23,s24,s25,s26,s27,s28,s29,s30,s31,()) =
 bif decide (s2<s1) then
 (zO YX (s1,s2,0,s3,s4,s5,s6,s7,s8,s9,s10,s11,s12,s13,s14,s15,s16,s17,s18,s19,s20,s21,s22,s23,([]:List Int),s24,s25,s26,s27,s28,s29,s30,s31,())).bind fun st=>match st with
  | .again _=>none
  | .brk y1 =>
  (yc (y1.2.2.2.2.2.2.2.2.2.2.2.2.2.2.2.2.2.2.2.2.2.2.2.2.2.2.2.2.1++(([y1.2.2.2.2.2.2.2.2.2.2.2.2.2.2.2.2.2.2.2.2.2.2.2.1]:List (List Int))))).bind fun l2 =>
  some (.again (y1.1,w64 (y1.2.1+1),y1.2.2.1,y1.2.2.2.1,y1.2.2.2.2.1,y1.2.2.2.2.2.1,y1.2.2.2.2.2.2.1,y1.2.2.2.2.2.2.2.1,y1.2.2.2.2.2.2.2.2.1,y1.2.2.2.2.2.2.2.2.2.1,y1.2.2.2.2.2.2.2.2.2.2.1,y1.2.2.2.2.2.2.2.2.2.2.2.1,y1.2.2.2.2.2.2.2.2.2.2.2.2.1,y1.2.2.2.2.2.2.2.2.2.2.2.2.2.1,y1.2.2.2.2.2.2.2.2.2.2.2.2.2.2.1,y1.2.2.2.2.2.2.2.2.2.2.2.2.2.2.2.1,y1.2.2.2.2.2.2.2.2.2.2.2.2.2.2.2.2.1,y1.2.2.2.2.2.2.2.2.2.2.2.2.2.2.2.2.2.1,y1.2.2.2.2.2.2.2.2.2.2.2.2.2.2.2.2.2.2.1,y1.2.2.2.2.2.2.2.2.2.2.2.2.2.2.2.2.2.2.2.1,y1.2.2.2.2.2.2.2.2.2.2.2.2.2.2.2.2.2.2.2.2.1,y1.2.2.2.2.2.2.2.2.2.2.2.2.2.2.2.2.2.2.2.2.2.1,y1.2.2.2.2.2.2.2.2.2.2.2.2.2.2.2.2.2.2.2.2.2.2.1,y1.2.2.2.2.2.2.2.2.2.2.2.2.2.2.2.2.2.2.2.2.2.2.2.2.1,y1.2.2.2.2.2.2.2.2.2.2.2.2.2.2.2.2.2.2.2.2.2.2.2.2.2.1,y1.2.2.2.2.2.2.2.2.2.2.2.2.2.2.2.2.2.2.2.2.2.2.2.2.2.2.1,y1.2.2.2.2.2.2.2.2.2.2.2.2.2.2.2.2.2.2.2.2.2.2.2.2.2.2.2.1,l2,y1.2.2.2.2.2.2.2.2.2.2.2.2.2.2.2.2.2.2.2.2.2.2.2.2.2.2.2.2.2.1,y1.2.2.2.2.2.2.2.2.2.2.2.2.2.2.2.2.2.2.2.2.2.2.2.2.2.2.2.2.2.2.1,y1.2.2.2.2.2.2.2.2.2.2.2.2.2.2.2.2.2.2.2.2.2.2.2.2.2.2.2.2.2.2.2.1,()))
  | .ret y1 =>
  some (.ret (()))
 else
 some (.brk (s1,s3,s4,s5,s6,s7,s8,s9,s10,s11,s12,s13,s14,s15,s16,s17,s18,s19,s20,s21,s22,s23,s24,s25,s26,s27,s28,s29,s30,s31,())):=by kernel_rfl
theorem zjz (s1:Int) (s2:Int) (s3:Int) (s4:Int) (s5:Int) (s6:Int) (s7:Int) (s8:Int) (s9:Int) (s10:Int) (s11:Int) (s12:Int) (s13:BitVec 64) (s14:zG) (s15:Int) (s16:Int) (s17:Int) (s18:Int) (s19:Int) (s20:Int) (s21:Int) (s22:Int) (s23:Int) (s24:BitVec 64) (s25:List Int) (s26:List (List Int)) (s27:List (List Int)) (s28:List (List zm)) (s29:List zg) (s30:List (List Int)) (s31:List (List Int)) (s32:List (List zm)) (s33:List zg):YX (s1,s2,s3,s4,s5,s6,s7,s8,s9,s10,s11,s12,s13,s14,s15,s16,s17,s18,s19,s20,s21,s22,s23,s24,s25,s26,s27,s28,s29,s30,s31,s32,s33,()) =
 bif decide (s3<s23) then
 (zC s14).bind fun y1 =>
 bif decide ((w64 (s1+1))=0) then
  none
 else
  (yc (s25++(([(y1.1.tmod (w64 (s1+1)))]:List Int)))).bind fun l2 =>
  some (.again (s1,s2,w64 (s3+1),s4,s5,s6,s7,s8,s9,s10,s11,s12,s13,y1.2.1,s15,s16,s17,s18,s19,s20,s21,s22,s23,s24,l2,s26,s27,s28,s29,s30,s31,s32,s33,()))
 else
 some (.brk (s1,s2,s4,s5,s6,s7,s8,s9,s10,s11,s12,s13,s14,s15,s16,s17,s18,s19,s20,s21,s22,s23,s24,s25,s26,s27,s28,s29,s30,s31,s32,s33,())):=by kernel_rfl
theorem zj1 (s1:Int) (s2:Int) (s3:Int) (s4:Int) (s5:Int) (s6:Int) (s7:Int) (s8:Int) (s9:Int) (s10:Int) (s11:Int) (s12:BitVec 64) (s13:zG) (s14:Int) (s15:Int) (s16:Int) (s17:Int) (s18:Int) (s19:Int) (s20:Int) (s21:Int) (s22:Int) (s23:BitVec 64) (s24:List (List Int)) (s25:List (List Int)) (s26:List (List zm)) (s27:List zg) (s28:List (List Int)) (s29:List (List Int)) (s30:List (List zm)) (s31:List zg):YQ (s1,s2,s3,s4,s5,s6,s7,s8,s9,s10,s11,s12,s13,s14,s15,s16,s17,s18,s19,s20,s21,s22,s23,s24,s25,s26,s27,s28,s29,s30,s31,()) =
 bif decide (s2<s15) then
 (zO YT (s1,s2,0,s3,s4,s5,s6,s7,s8,s9,s10,s11,s12,s13,s14,s15,s16,s17,s18,s19,s20,s21,s22,s23,([]:List Int),s24,s25,s26,s27,s28,s29,s30,s31,())).bind fun st=>match st with
  | .again _=>none
  | .brk y1 =>
  bif decide (((y1.2.2.2.2.2.2.2.2.2.2.2.2.2.2.2.2.2.2.2.2.2.2.2.1.length:Int))=0) then
   (zC y1.2.2.2.2.2.2.2.2.2.2.2.2.1).bind fun y2 =>
   (zO Zn (y1.1,y1.2.1,y2.1.tmod 8,y1.2.2.1,y1.2.2.2.1,y1.2.2.2.2.1,y1.2.2.2.2.2.1,y1.2.2.2.2.2.2.1,y1.2.2.2.2.2.2.2.1,y1.2.2.2.2.2.2.2.2.1,y1.2.2.2.2.2.2.2.2.2.1,y1.2.2.2.2.2.2.2.2.2.2.1,y1.2.2.2.2.2.2.2.2.2.2.2.1,y2.2.1,y1.2.2.2.2.2.2.2.2.2.2.2.2.2.1,y1.2.2.2.2.2.2.2.2.2.2.2.2.2.2.1,y1.2.2.2.2.2.2.2.2.2.2.2.2.2.2.2.1,y1.2.2.2.2.2.2.2.2.2.2.2.2.2.2.2.2.1,y1.2.2.2.2.2.2.2.2.2.2.2.2.2.2.2.2.2.1,y1.2.2.2.2.2.2.2.2.2.2.2.2.2.2.2.2.2.2.1,y1.2.2.2.2.2.2.2.2.2.2.2.2.2.2.2.2.2.2.2.1,y1.2.2.2.2.2.2.2.2.2.2.2.2.2.2.2.2.2.2.2.2.1,y1.2.2.2.2.2.2.2.2.2.2.2.2.2.2.2.2.2.2.2.2.2.1,y1.2.2.2.2.2.2.2.2.2.2.2.2.2.2.2.2.2.2.2.2.2.2.1,([0]:List Int),([]:List zm),y1.2.2.2.2.2.2.2.2.2.2.2.2.2.2.2.2.2.2.2.2.2.2.2.2.1,y1.2.2.2.2.2.2.2.2.2.2.2.2.2.2.2.2.2.2.2.2.2.2.2.2.2.1,y1.2.2.2.2.2.2.2.2.2.2.2.2.2.2.2.2.2.2.2.2.2.2.2.2.2.2.1,y1.2.2.2.2.2.2.2.2.2.2.2.2.2.2.2.2.2.2.2.2.2.2.2.2.2.2.2.1,y1.2.2.2.2.2.2.2.2.2.2.2.2.2.2.2.2.2.2.2.2.2.2.2.2.2.2.2.2.1,y1.2.2.2.2.2.2.2.2.2.2.2.2.2.2.2.2.2.2.2.2.2.2.2.2.2.2.2.2.2.1,y1.2.2.2.2.2.2.2.2.2.2.2.2.2.2.2.2.2.2.2.2.2.2.2.2.2.2.2.2.2.2.1,y1.2.2.2.2.2.2.2.2.2.2.2.2.2.2.2.2.2.2.2.2.2.2.2.2.2.2.2.2.2.2.2.1,())).bind fun st=>match st with
    | .again _=>none
    | .brk y3 =>
    (yc (y3.2.2.2.2.2.2.2.2.2.2.2.2.2.2.2.2.2.2.2.2.2.2.2.2.2.2.2.2.2.2.1++(([y3.2.2.2.2.2.2.2.2.2.2.2.2.2.2.2.2.2.2.2.2.2.2.2.1]:List (List Int))))).bind fun l4 =>
    (yc (y3.2.2.2.2.2.2.2.2.2.2.2.2.2.2.2.2.2.2.2.2.2.2.2.2.2.2.2.2.2.2.2.1++(([y3.2.2.2.2.2.2.2.2.2.2.2.2.2.2.2.2.2.2.2.2.2.2.2.2.1]:List (List zm))))).bind fun l5 =>
    some (.again (y3.1,w64 (y3.2.1+1),y3.2.2.1,y3.2.2.2.1,y3.2.2.2.2.1,y3.2.2.2.2.2.1,y3.2.2.2.2.2.2.1,y3.2.2.2.2.2.2.2.1,y3.2.2.2.2.2.2.2.2.1,y3.2.2.2.2.2.2.2.2.2.1,y3.2.2.2.2.2.2.2.2.2.2.1,y3.2.2.2.2.2.2.2.2.2.2.2.1,y3.2.2.2.2.2.2.2.2.2.2.2.2.1,y3.2.2.2.2.2.2.2.2.2.2.2.2.2.1,y3.2.2.2.2.2.2.2.2.2.2.2.2.2.2.1,y3.2.2.2.2.2.2.2.2.2.2.2.2.2.2.2.1,y3.2.2.2.2.2.2.2.2.2.2.2.2.2.2.2.2.1,y3.2.2.2.2.2.2.2.2.2.2.2.2.2.2.2.2.2.1,y3.2.2.2.2.2.2.2.2.2.2.2.2.2.2.2.2.2.2.1,y3.2.2.2.2.2.2.2.2.2.2.2.2.2.2.2.2.2.2.2.1,y3.2.2.2.2.2.2.2.2.2.2.2.2.2.2.2.2.2.2.2.2.1,y3.2.2.2.2.2.2.2.2.2.2.2.2.2.2.2.2.2.2.2.2.2.1,y3.2.2.2.2.2.2.2.2.2.2.2.2.2.2.2.2.2.2.2.2.2.2.1,y3.2.2.2.2.2.2.2.2.2.2.2.2.2.2.2.2.2.2.2.2.2.2.2.2.2.1,y3.2.2.2.2.2.2.2.2.2.2.2.2.2.2.2.2.2.2.2.2.2.2.2.2.2.2.1,y3.2.2.2.2.2.2.2.2.2.2.2.2.2.2.2.2.2.2.2.2.2.2.2.2.2.2.2.1,y3.2.2.2.2.2.2.2.2.2.2.2.2.2.2.2.2.2.2.2.2.2.2.2.2.2.2.2.2.1,y3.2.2.2.2.2.2.2.2.2.2.2.2.2.2.2.2.2.2.2.2.2.2.2.2.2.2.2.2.2.1,l4,l5,y3.2.2.2.2.2.2.2.2.2.2.2.2.2.2.2.2.2.2.2.2.2.2.2.2.2.2.2.2.2.2.2.2.1,()))
    | .ret y3 =>
    some (.ret (()))
  else
   (zC y1.2.2.2.2.2.2.2.2.2.2.2.2.1).bind fun y6 =>
   (zO Zn (y1.1,y1.2.1,y6.1.tmod 8,y1.2.2.1,y1.2.2.2.1,y1.2.2.2.2.1,y1.2.2.2.2.2.1,y1.2.2.2.2.2.2.1,y1.2.2.2.2.2.2.2.1,y1.2.2.2.2.2.2.2.2.1,y1.2.2.2.2.2.2.2.2.2.1,y1.2.2.2.2.2.2.2.2.2.2.1,y1.2.2.2.2.2.2.2.2.2.2.2.1,y6.2.1,y1.2.2.2.2.2.2.2.2.2.2.2.2.2.1,y1.2.2.2.2.2.2.2.2.2.2.2.2.2.2.1,y1.2.2.2.2.2.2.2.2.2.2.2.2.2.2.2.1,y1.2.2.2.2.2.2.2.2.2.2.2.2.2.2.2.2.1,y1.2.2.2.2.2.2.2.2.2.2.2.2.2.2.2.2.2.1,y1.2.2.2.2.2.2.2.2.2.2.2.2.2.2.2.2.2.2.1,y1.2.2.2.2.2.2.2.2.2.2.2.2.2.2.2.2.2.2.2.1,y1.2.2.2.2.2.2.2.2.2.2.2.2.2.2.2.2.2.2.2.2.1,y1.2.2.2.2.2.2.2.2.2.2.2.2.2.2.2.2.2.2.2.2.2.1,y1.2.2.2.2.2.2.2.2.2.2.2.2.2.2.2.2.2.2.2.2.2.2.1,y1.2.2.2.2.2.2.2.2.2.2.2.2.2.2.2.2.2.2.2.2.2.2.2.1,([]:List zm),y1.2.2.2.2.2.2.2.2.2.2.2.2.2.2.2.2.2.2.2.2.2.2.2.2.1,y1.2.2.2.2.2.2.2.2.2.2.2.2.2.2.2.2.2.2.2.2.2.2.2.2.2.1,y1.2.2.2.2.2.2.2.2.2.2.2.2.2.2.2.2.2.2.2.2.2.2.2.2.2.2.1,y1.2.2.2.2.2.2.2.2.2.2.2.2.2.2.2.2.2.2.2.2.2.2.2.2.2.2.2.1,y1.2.2.2.2.2.2.2.2.2.2.2.2.2.2.2.2.2.2.2.2.2.2.2.2.2.2.2.2.1,y1.2.2.2.2.2.2.2.2.2.2.2.2.2.2.2.2.2.2.2.2.2.2.2.2.2.2.2.2.2.1,y1.2.2.2.2.2.2.2.2.2.2.2.2.2.2.2.2.2.2.2.2.2.2.2.2.2.2.2.2.2.2.1,y1.2.2.2.2.2.2.2.2.2.2.2.2.2.2.2.2.2.2.2.2.2.2.2.2.2.2.2.2.2.2.2.1,())).bind fun st=>match st with
    | .again _=>none
    | .brk y7 =>
    (yc (y7.2.2.2.2.2.2.2.2.2.2.2.2.2.2.2.2.2.2.2.2.2.2.2.2.2.2.2.2.2.2.1++(([y7.2.2.2.2.2.2.2.2.2.2.2.2.2.2.2.2.2.2.2.2.2.2.2.1]:List (List Int))))).bind fun l8 =>
    (yc (y7.2.2.2.2.2.2.2.2.2.2.2.2.2.2.2.2.2.2.2.2.2.2.2.2.2.2.2.2.2.2.2.1++(([y7.2.2.2.2.2.2.2.2.2.2.2.2.2.2.2.2.2.2.2.2.2.2.2.2.1]:List (List zm))))).bind fun l9 =>
    some (.again (y7.1,w64 (y7.2.1+1),y7.2.2.1,y7.2.2.2.1,y7.2.2.2.2.1,y7.2.2.2.2.2.1,y7.2.2.2.2.2.2.1,y7.2.2.2.2.2.2.2.1,y7.2.2.2.2.2.2.2.2.1,y7.2.2.2.2.2.2.2.2.2.1,y7.2.2.2.2.2.2.2.2.2.2.1,y7.2.2.2.2.2.2.2.2.2.2.2.1,y7.2.2.2.2.2.2.2.2.2.2.2.2.1,y7.2.2.2.2.2.2.2.2.2.2.2.2.2.1,y7.2.2.2.2.2.2.2.2.2.2.2.2.2.2.1,y7.2.2.2.2.2.2.2.2.2.2.2.2.2.2.2.1,y7.2.2.2.2.2.2.2.2.2.2.2.2.2.2.2.2.1,y7.2.2.2.2.2.2.2.2.2.2.2.2.2.2.2.2.2.1,y7.2.2.2.2.2.2.2.2.2.2.2.2.2.2.2.2.2.2.1,y7.2.2.2.2.2.2.2.2.2.2.2.2.2.2.2.2.2.2.2.1,y7.2.2.2.2.2.2.2.2.2.2.2.2.2.2.2.2.2.2.2.2.1,y7.2.2.2.2.2.2.2.2.2.2.2.2.2.2.2.2.2.2.2.2.2.1,y7.2.2.2.2.2.2.2.2.2.2.2.2.2.2.2.2.2.2.2.2.2.2.1,y7.2.2.2.2.2.2.2.2.2.2.2.2.2.2.2.2.2.2.2.2.2.2.2.2.2.1,y7.2.2.2.2.2.2.2.2.2.2.2.2.2.2.2.2.2.2.2.2.2.2.2.2.2.2.1,y7.2.2.2.2.2.2.2.2.2.2.2.2.2.2.2.2.2.2.2.2.2.2.2.2.2.2.2.1,y7.2.2.2.2.2.2.2.2.2.2.2.2.2.2.2.2.2.2.2.2.2.2.2.2.2.2.2.2.1,y7.2.2.2.2.2.2.2.2.2.2.2.2.2.2.2.2.2.2.2.2.2.2.2.2.2.2.2.2.2.1,l8,l9,y7.2.2.2.2.2.2.2.2.2.2.2.2.2.2.2.2.2.2.2.2.2.2.2.2.2.2.2.2.2.2.2.2.1,()))
    | .ret y7 =>
    some (.ret (()))
  | .ret y1 =>
  some (.ret (()))
 else
 some (.brk (s3,s4,s5,s6,s7,s8,s9,s10,s11,s12,s14,s15,s16,s17,s18,s19,s20,s21,s22,s23,s24,s25,s26,s27,s28,s29,s30,s31,())):=by kernel_rfl
theorem zkk (s1:Int) (s2:Int) (s3:Int) (s4:Int) (s5:Int) (s6:Int) (s7:Int) (s8:Int) (s9:Int) (s10:Int) (s11:Int) (s12:Int) (s13:BitVec 64) (s14:zG) (s15:Int) (s16:Int) (s17:Int) (s18:Int) (s19:Int) (s20:Int) (s21:Int) (s22:Int) (s23:Int) (s24:BitVec 64) (s25:List Int) (s26:List (List Int)) (s27:List (List Int)) (s28:List (List zm)) (s29:List zg) (s30:List (List Int)) (s31:List (List Int)) (s32:List (List zm)) (s33:List zg):YT (s1,s2,s3,s4,s5,s6,s7,s8,s9,s10,s11,s12,s13,s14,s15,s16,s17,s18,s19,s20,s21,s22,s23,s24,s25,s26,s27,s28,s29,s30,s31,s32,s33,()) =
 (zC s14).bind fun y1 =>
 bif decide (s3<(w64 (1+(y1.1.tmod 3)))) then
 (zC y1.2.1).bind fun y2 =>
 bif decide ((w64 (s1+1))=0) then
  none
 else
  (yc (s25++(([(y2.1.tmod (w64 (s1+1)))]:List Int)))).bind fun l3 =>
  some (.again (s1,s2,w64 (s3+1),s4,s5,s6,s7,s8,s9,s10,s11,s12,s13,y2.2.1,s15,s16,s17,s18,s19,s20,s21,s22,s23,s24,l3,s26,s27,s28,s29,s30,s31,s32,s33,()))
 else
 some (.brk (s1,s2,s4,s5,s6,s7,s8,s9,s10,s11,s12,s13,y1.2.1,s15,s16,s17,s18,s19,s20,s21,s22,s23,s24,s25,s26,s27,s28,s29,s30,s31,s32,s33,())):=by kernel_rfl
theorem zjS (s1:Int) (s2:Int) (s3:Int) (s4:Int) (s5:Int) (s6:Int) (s7:Int) (s8:Int) (s9:Int) (s10:Int) (s11:Int) (s12:Int) (s13:BitVec 64) (s14:zG) (s15:Int) (s16:Int) (s17:Int) (s18:Int) (s19:Int) (s20:Int) (s21:Int) (s22:Int) (s23:Int) (s24:BitVec 64) (s25:List Int) (s26:List zm) (s27:List (List Int)) (s28:List (List Int)) (s29:List (List zm)) (s30:List zg) (s31:List (List Int)) (s32:List (List Int)) (s33:List (List zm)) (s34:List zg):Zn (s1,s2,s3,s4,s5,s6,s7,s8,s9,s10,s11,s12,s13,s14,s15,s16,s17,s18,s19,s20,s21,s22,s23,s24,s25,s26,s27,s28,s29,s30,s31,s32,s33,s34,()) =
 bif decide (0<s3) then
 (Wh ((s25.length:Int)) s23 s14).bind fun y1 =>
 (yc (s26++([y1.1]:List zm))).bind fun l2 =>
 some (.again (s1,s2,w64 (s3-1),s4,s5,s6,s7,s8,s9,s10,s11,s12,s13,y1.2.1,s15,s16,s17,s18,s19,s20,s21,s22,s23,s24,s25,l2,s27,s28,s29,s30,s31,s32,s33,s34,()))
 else
 some (.brk (s1,s2,s4,s5,s6,s7,s8,s9,s10,s11,s12,s13,s14,s15,s16,s17,s18,s19,s20,s21,s22,s23,s24,s25,s26,s27,s28,s29,s30,s31,s32,s33,s34,())):=by kernel_rfl
theorem zoh (a1:List (BitVec 8)):zbH a1 =
 (cut a1 0 (bif decide (90<((a1.length:Int))) then 90 else ((a1.length:Int)))).bind fun l1 =>
 (zC (zG.mk l1 0)).bind fun y2 =>
 (zC y2.2.1).bind fun y3 =>
 (zC y3.2.1).bind fun y4 =>
 (zC y4.2.1).bind fun y5 =>
 (zC y5.2.1).bind fun y6 =>
 (zC y6.2.1).bind fun y7 =>
 (zC y7.2.1).bind fun y8 =>
 (zC y8.2.1).bind fun y9 =>
 (zC y9.2.1).bind fun y10 =>
 (zC y10.2.1).bind fun y11 =>
 (zO Xx (w64 (1+(y10.1.tmod 6)),0,0,0,0,0,0,0,0,0,0,0#64,y11.2.1,w64 (1+(y2.1.tmod 3)),y3.1.tmod 3,w64 (1+(y4.1.tmod 3)),w64 (1+(y5.1.tmod 2)),w64 (1+(y6.1.tmod 3)),w64 ((w64 (1+(y10.1.tmod 6)))+(y11.1.tmod 4)),y7.1.tmod 4,y8.1.tmod 4,w64 (1+(y9.1.tmod 2)),0#64,([]:List (List Int)),([]:List (List Int)),([]:List (List zm)),([]:List zg),([]:List (List Int)),([]:List (List Int)),([]:List (List zm)),([]:List zg),())).bind fun st=>match st with
  | .again _=>none
  | .brk y12 =>
  (zC y12.2.2.2.2.2.2.2.2.2.2.2.1).bind fun y13 =>
  bif decide ((w64 (y12.1+1))=0) then
  none
  else
  (ZY 0#64 (y13.1.tmod (w64 (y12.1+1)))).bind fun y14 =>
  (zO YQ (y12.1,0,y12.2.1,y12.2.2.1,y12.2.2.2.1,y12.2.2.2.2.1,y12.2.2.2.2.2.1,y12.2.2.2.2.2.2.1,y12.2.2.2.2.2.2.2.1,y12.2.2.2.2.2.2.2.2.1,y12.2.2.2.2.2.2.2.2.2.1,y12.2.2.2.2.2.2.2.2.2.2.1,y13.2.1,y12.2.2.2.2.2.2.2.2.2.2.2.2.1,y12.2.2.2.2.2.2.2.2.2.2.2.2.2.1,y12.2.2.2.2.2.2.2.2.2.2.2.2.2.2.1,y12.2.2.2.2.2.2.2.2.2.2.2.2.2.2.2.1,y12.2.2.2.2.2.2.2.2.2.2.2.2.2.2.2.2.1,y12.2.2.2.2.2.2.2.2.2.2.2.2.2.2.2.2.2.1,y12.2.2.2.2.2.2.2.2.2.2.2.2.2.2.2.2.2.2.1,y12.2.2.2.2.2.2.2.2.2.2.2.2.2.2.2.2.2.2.2.1,y12.2.2.2.2.2.2.2.2.2.2.2.2.2.2.2.2.2.2.2.2.1,y14.1,y12.2.2.2.2.2.2.2.2.2.2.2.2.2.2.2.2.2.2.2.2.2.2.1,y12.2.2.2.2.2.2.2.2.2.2.2.2.2.2.2.2.2.2.2.2.2.2.2.1,y12.2.2.2.2.2.2.2.2.2.2.2.2.2.2.2.2.2.2.2.2.2.2.2.2.1,y12.2.2.2.2.2.2.2.2.2.2.2.2.2.2.2.2.2.2.2.2.2.2.2.2.2.1,y12.2.2.2.2.2.2.2.2.2.2.2.2.2.2.2.2.2.2.2.2.2.2.2.2.2.2.1,y12.2.2.2.2.2.2.2.2.2.2.2.2.2.2.2.2.2.2.2.2.2.2.2.2.2.2.2.1,y12.2.2.2.2.2.2.2.2.2.2.2.2.2.2.2.2.2.2.2.2.2.2.2.2.2.2.2.2.1,y12.2.2.2.2.2.2.2.2.2.2.2.2.2.2.2.2.2.2.2.2.2.2.2.2.2.2.2.2.2.1,())).bind fun st=>match st with
   | .again _=>none
   | .brk y15 =>
   some (zb.mk y15.2.2.2.2.2.2.2.2.2.2.1 y15.2.2.2.2.2.2.2.2.2.2.2.1 y15.2.2.2.2.2.2.2.2.2.2.2.2.1 y15.2.2.2.2.2.2.2.2.2.2.2.2.2.1 y15.2.2.2.2.2.2.2.2.2.2.2.2.2.2.1 y15.2.2.2.2.2.2.2.2.2.2.2.2.2.2.2.1 y15.2.2.2.2.2.2.2.2.2.2.2.2.2.2.2.2.1 y15.2.2.2.2.2.2.2.2.2.2.2.2.2.2.2.2.2.1 (zt.mk y15.2.2.2.2.2.2.2.2.2.2.2.2.2.2.2.2.2.2.1 y15.2.2.2.2.2.2.2.2.2.2.2.2.2.2.2.2.2.2.2.2.2.2.2.2.1) y15.2.2.2.2.2.2.2.2.2.2.2.2.2.2.2.2.2.2.2.1 y15.2.2.2.2.2.2.2.2.2.2.2.2.2.2.2.2.2.2.2.2.2.2.2.2.2.1 y15.2.2.2.2.2.2.2.2.2.2.2.2.2.2.2.2.2.2.2.2.2.2.2.2.2.2.1 y15.2.2.2.2.2.2.2.2.2.2.2.2.2.2.2.2.2.2.2.2.2.2.2.2.2.2.2.1,())
   | .ret y15 =>
   none
  | .ret y12 =>
  none:=zr (by kernel_rfl)
theorem zky (s1:List (BitVec 8)) (s2:Int) (s3:Int) (s4:zb) (s5:List zg):VM (s1,s2,s3,s4,s5,()) =
 bif decide (s3<((s1.length:Int))) then
 bif decide (((s5.length:Int))<s2) then
  (idx s1 s3).bind fun x1 =>
  bif decide ((w64 ((w64 (1+s4.Workers))+s4.Mutators))=0) then
  none
  else
  bif decide (s4.Workers<(((x1.toNat:Int)).tmod (w64 ((w64 (1+s4.Workers))+s4.Mutators)))) then
   (zO vA (s1,s2,s3,0,s4,s5,zg.mk 2 (w64 ((((x1.toNat:Int)).tmod (w64 ((w64 (1+s4.Workers))+s4.Mutators)))-s4.Workers)),())).bind fun st=>match st with
    | .again _=>none
    | .brk y2 =>
    some (.again (y2.1,y2.2.1,w64 (y2.2.2.1+1),y2.2.2.2.1,y2.2.2.2.2.1,()))
    | .ret y2 =>
    some (.ret (()))
  else
   bif decide (0<(((x1.toNat:Int)).tmod (w64 ((w64 (1+s4.Workers))+s4.Mutators)))) then
   (zO vA (s1,s2,s3,0,s4,s5,zg.mk 1 (((x1.toNat:Int)).tmod (w64 ((w64 (1+s4.Workers))+s4.Mutators))),())).bind fun st=>match st with
    | .again _=>none
    | .brk y3 =>
    some (.again (y3.1,y3.2.1,w64 (y3.2.2.1+1),y3.2.2.2.1,y3.2.2.2.2.1,()))
    | .ret y3 =>
    some (.ret (()))
   else
   (zO vA (s1,s2,s3,0,s4,s5,zg.mk 0 0,())).bind fun st=>match st with
    | .again _=>none
    | .brk y4 =>
    some (.again (y4.1,y4.2.1,w64 (y4.2.2.1+1),y4.2.2.2.1,y4.2.2.2.2.1,()))
    | .ret y4 =>
    some (.ret (()))
 else
  some (.brk (s5,()))
 else
 some (.brk (s5,())):=by kernel_rfl
theorem zi4 (s1:List (BitVec 8)) (s2:Int) (s3:Int) (s4:Int) (s5:zb) (s6:List zg) (s7:zg):vA (s1,s2,s3,s4,s5,s6,s7,()) =
 (idx s1 s3).bind fun x1 =>
 bif decide (s4<=(w64 (((x1.toNat:Int)).tdiv 64))) then
 bif decide (((s6.length:Int))<s2) then
  (yc (s6++([s7]:List zg))).bind fun l2 =>
  some (.again (s1,s2,s3,w64 (s4+1),s5,l2,s7,()))
 else
  some (.brk (s1,s2,s3,s5,s6,()))
 else
 some (.brk (s1,s2,s3,s5,s6,())):=by kernel_rfl
theorem zm5 (a1:zb) (a2:List (BitVec 8)) (a3:Int):W1 a1 a2 a3 =
 (zO VM (a2,a3,0,a1,([]:List zg),())).bind fun st=>match st with
  | .again _=>none
  | .brk y1 =>
  some (y1.1,())
  | .ret y1 =>
  none:=zr (by kernel_rfl)
theorem znW (a1:List (BitVec 8)) (a2:List (BitVec 8)) (a3:Int):zbK a1 a2 a3 =
 (zbH a1).bind fun y1 =>
 (zgj y1.1).bind fun y2 =>
 (W1 y1.1 a2 a3).bind fun y3 =>
 (ul y2.1 y3.1).bind fun y4 =>
 some (y4.1,()):=zr (by kernel_rfl)
theorem zcO (s1:List Int) (s2:List Int) (s3:Int) (s4:Int):Z0 (s1,s2,s3,s4,()) =
 bif decide (s4<s3) then
 (idx s1 s4).bind fun x1 =>
 (idx s2 s4).bind fun x2 =>
 bif !(decide (x1=x2)) then
  some (.ret (false,()))
 else
  some (.again (s1,s2,s3,w64 (s4+1),()))
 else
 some (.brk (())):=by kernel_rfl
theorem zeK (a1:List Int) (a2:List Int):Xd a1 a2 =
 bif !(decide (((a1.length:Int))=((a2.length:Int)))) then
 some (false,())
 else
 (zO Z0 (a1,a2,(a1.length:Int),0,())).bind fun st=>match st with
  | .again _=>none
  | .brk y1 =>
  some (true,())
  | .ret y1 =>
  some (y1.1,()):=zr (by kernel_rfl)
theorem zwQ (a1:List Int) (a2:List Int):ztL a1 a2 =
 (zjd a1).bind fun y1 =>
 (zjd a2).bind fun y2 =>
 (Xd y1.1 y2.1).bind fun y3 =>
 some (y3.1,()):=zr (by kernel_rfl)
end Go.Pe.G
namespace Go.Pe.G
open Go.Pe
theorem zfd (s1:Bool) (s2:Int) (s3:za) (s4:List Int):XE (s1,s2,s3,s4,()) =
 bif decide (s2<=((s3.Ws.length:Int))) then
 (wK s3 s2).bind fun y1 =>
 (zgN s4 y1.1).bind fun y2 =>
 some (.again (s1,w64 (s2+1),s3,y2.1,()))
 else
 some (.brk (s1,s3,s4,())):=by kernel_rfl
theorem zeH (s1:Bool) (s2:Int) (s3:za) (s4:List Int):Y0 (s1,s2,s3,s4,()) =
 bif decide (s2<=((s3.Ms.length:Int))) then
 (Zm s3 s2).bind fun y1 =>
 (zgN s4 y1.1).bind fun y2 =>
 some (.again (s1,w64 (s2+1),s3,y2.1,()))
 else
 some (.brk (s1,s3,s4,())):=by kernel_rfl
theorem ziA (a1:List (BitVec 8)) (a2:List (BitVec 8)):uX a1 a2 =
 (V8).bind fun y1 =>
 bif !y1.1 then
 some (false,())
 else
 (zbK a1 a2 300).bind fun y2 =>
 (uZ y2.1).bind fun y3 =>
 (zO XE (y1.1,1,y2.1,y3.1,())).bind fun st=>match st with
  | .again _=>none
  | .brk y4 =>
  (zO Y0 (y4.1,1,y4.2.1,y4.2.2.1,())).bind fun st=>match st with
   | .again _=>none
   | .brk y5 =>
   bif y5.1 then
    (Va y5.2.1).bind fun y6 =>
    (ztL y5.2.2.1 y6.1).bind fun y7 =>
    bif y7.1 then
    (wK y5.2.1 0).bind fun y8 =>
    bif decide (((y8.1.length:Int))=0) then
     (Zm y5.2.1 (-1)).bind fun y9 =>
     bif decide (((y9.1.length:Int))=0) then
     (wK y5.2.1 (w64 (((y5.2.1.Ws.length:Int))+1))).bind fun y10 =>
     some (decide (((y10.1.length:Int))=0),())
     else
     some (false,())
    else
     some (false,())
    else
    some (false,())
   else
    some (false,())
   | .ret y5 =>
   none
  | .ret y4 =>
  none:=zr (by kernel_rfl)
end Go.Pe.G
namespace Go.Pe.G
open Go.Pe
theorem zGx:Go.Proofs.Tryz.prog.funcs[80]? =some Go.Proofs.Tryz.f80:=by kernel_rfl
theorem zFj:Go.Proofs.Tryz.f80.body.isSome=true:=by kernel_rfl
theorem zFs:ue Go.Proofs.Tryz.prog 80=true:=by kernel_rfl
theorem zGs:Go.Proofs.Tryz.prog.funcs[91]? =some Go.Proofs.Tryz.f91:=by kernel_rfl
theorem zE9:Go.Proofs.Tryz.f91.body.isSome=true:=by kernel_rfl
theorem zFO:ue Go.Proofs.Tryz.prog 91=true:=by kernel_rfl
theorem zFW:Go.Proofs.Tryz.prog.funcs[122]? =some Go.Proofs.Tryz.f122:=by kernel_rfl
theorem zEL:Go.Proofs.Tryz.f122.body.isSome=true:=by kernel_rfl
theorem zEx:ue Go.Proofs.Tryz.prog 122=true:=by kernel_rfl
theorem zhb (ys:List (List Int)) (s1:Int) (s2:Int) (s3:Int) (s4:Int) (s5:za):W7 ys (s1,s2,s3,s4,s5,()) =
 bif decide (s4<s3) then
 (wK s5 (w64 (s4+1))).bind fun y1 =>
 (YC ys s2 y1.1).bind fun _ =>
 some (.again (s1,s2+1,s3,w64 (s4+1),s5,()))
 else
 some (.brk (s1,s2,s5,())):=by kernel_rfl
theorem zg3 (ys:List (List Int)) (s1:Int) (s2:Int) (s3:Int) (s4:Int) (s5:za):zaA ys (s1,s2,s3,s4,s5,()) =
 bif decide (s4<s3) then
 (Zm s5 (w64 (s4+1))).bind fun y1 =>
 (YC ys s2 y1.1).bind fun _ =>
 some (.again (s1,s2+1,s3,w64 (s4+1),s5,()))
 else
 some (.brk (s1,s2,())):=by kernel_rfl
theorem ztf (n:Int) (ys:List (List Int)) (a1:Int) (a2:Int) (a3:Int) (a4:Int) (a5:Int) (a6:Int) (a7:Int) (a8:Int) (a9:Int) (a10:List (List Int)) (a11:BitVec 64) (a12:List (List Int)) (a13:List (List zm)) (a14:List zg) (a15:Int) (a16:List (List Int)) (a17:List (BitVec 64)) (a18:List (List Int)) (a19:BitVec 64) (a20:BitVec 64) (a21:Int) (a22:Int) (a23:Bool) (a24:Bool) (a25:Int) (a26:List Int) (a27:Int) (a28:Int) (a29:Int) (a30:List Int) (a31:List zh) (a32:List zc) (a33:Int) (a34:Int):zm4 (Yb ys) Go.Proofs.Tryz.f80 zbw n ((a1,a2,a3,a4,a5,a6,a7,a8,a9,a10,a11,a12,a13,a14,a15,a16,a17,a18,a19,a20,a21,a22,a23,a24,a25,a26,a27,a28,a29,a30,a31,a32,a33,a34,()):Int×Int×Int×Int×Int×Int×Int×Int×Int×(List (List Int))×(BitVec 64)×(List (List Int))×(List (List zm))×(List zg)×Int×(List (List Int))×(List (BitVec 64))×(List (List Int))×(BitVec 64)×(BitVec 64)×Int×Int×Bool×Bool×Int×(List Int)×Int×Int×Int×(List Int)×(List zh)×(List zc)×Int×Int×Unit) =
 (uZ (za.mk (zb.mk a1 a2 a3 a4 a5 a6 a7 a8 (zt.mk a9 a10) a11 a12 a13 a14) (zt.mk a15 a16) a17 a18 (zp.mk a19 a20) a21 a22 a23 a24 a25 a26 (zk.mk a27 a28 a29 a30) a31 a32 (zw.mk a33 a34))).bind fun y1 =>
 (YC ys 0 y1.1).bind fun _ =>
 (zO (W7 ys) (n,0+1,(a31.length:Int),0,za.mk (zb.mk a1 a2 a3 a4 a5 a6 a7 a8 (zt.mk a9 a10) a11 a12 a13 a14) (zt.mk a15 a16) a17 a18 (zp.mk a19 a20) a21 a22 a23 a24 a25 a26 (zk.mk a27 a28 a29 a30) a31 a32 (zw.mk a33 a34),())).bind fun st=>match st with
  | .again _=>none
  | .brk y2 =>
  (zO (zaA ys) (y2.1,y2.2.1,(y2.2.2.1.Ms.length:Int),0,y2.2.2.1,())).bind fun st=>match st with
   | .again _=>none
   | .brk y3 =>
   some y3.2.1
   | .ret y3 =>
   some y3.2.1
  | .ret y2 =>
  some y2.2.1:=by kernel_rfl
theorem zqK (ys:List Int) (s1:Int) (s2:Int) (s3:BitVec 64):zat ys (s1,s2,s3,()) =
 bif !(decide (s3=0#64)) then
 (qTZ s3).bind fun y1 =>
 (YC ys s2 (w64 (y1.1+1))).bind fun _ =>
 some (.again (s1,s2+1,s3&&&(s3-1#64),()))
 else
 some (.brk (s1,s2,())):=by kernel_rfl
theorem zs6 (n:Int) (ys:List Int) (a1:BitVec 64):zm4 (zbn ys) Go.Proofs.Tryz.f122 zno n ((a1,()):(BitVec 64)×Unit) =
 (zO (zat ys) (n,0,a1,())).bind fun st=>match st with
  | .again _=>none
  | .brk y1 =>
  some y1.2.1
  | .ret y1 =>
  some y1.2.1:=by kernel_rfl
theorem Wf (ys:List (List Int)) (s1:Int) (s2:Int) (s3:Int) (s4:List Int) (s5:Int):ub ys (s1,s2,s3,s4,s5,()) =
 bif decide (s3<((s4.length:Int))) then
 (cut s4 s3 ((s4.length:Int))).bind fun l1 =>
 bif decide (s3=0)&&decide ((w64 (s3+(bif decide (((l1.length:Int))<s5) then ((l1.length:Int)) else s5)))=0)&&decide ((w64 (s3+(bif decide (((l1.length:Int))<s5) then ((l1.length:Int)) else s5)))=0) then
  (YC ys s2 ([]:List Int)).bind fun _ =>
  some (.again (s1,s2+1,w64 (s3+s5),s4,s5,()))
 else
  bif decide (s3=0)&&decide ((w64 (s3+(bif decide (((l1.length:Int))<s5) then ((l1.length:Int)) else s5)))=((s4.length:Int)))&&decide ((w64 (s3+(bif decide (((l1.length:Int))<s5) then ((l1.length:Int)) else s5)))=((s4.length:Int))) then
  (YC ys s2 s4).bind fun _ =>
  some (.again (s1,s2+1,w64 (s3+s5),s4,s5,()))
  else
  bif decide ((w64 (s3+(bif decide (((l1.length:Int))<s5) then ((l1.length:Int)) else s5)))=(w64 (s3+(bif decide (((l1.length:Int))<s5) then ((l1.length:Int)) else s5)))) then
   (cut s4 s3 (w64 (s3+(bif decide (((l1.length:Int))<s5) then ((l1.length:Int)) else s5)))).bind fun l2 =>
   (YC ys s2 l2).bind fun _ =>
   some (.again (s1,s2+1,w64 (s3+s5),s4,s5,()))
  else
   none
 else
 some (.brk (s1,s2,())):=by kernel_rfl
theorem zeE (n:Int) (ys:List (List Int)) (a1:List Int) (a2:Int):zm4 (uy ys) Go.Proofs.Tryz.f91 VV n ((a1,a2,()):(List Int)×Int×Unit) =
 (zO (ub ys) (n,0,0,a1,a2,())).bind fun st=>match st with
  | .again _=>none
  | .brk y1 =>
  some y1.2.1
  | .ret y1 =>
  some y1.2.1:=by kernel_rfl
end Go.Pe.G
namespace Go.Pe.G
open Go.Pe
theorem zgV {A B D:Type}(g:A->Option (yy A B D)) {o:yy Unit B D}:∀(k m:Nat) (x:A),xr g k x=some o->k<=m->xr g m x=some o
 | 0,m,x,h,_=>by cases h
 | k+1,0,x,h,hm=>by omega
 | k+1,m+1,x,h,hm=>by
  simp only [xr,zGZ] at h ⊢
  obtain ⟨s,h1,h2⟩:=h
  refine ⟨s,h1,?_⟩
  cases s with
  | again y=>exact zgV g k m y h2 (by omega)
  | brk b=>exact h2
  | ret c=>exact h2
theorem zgZ {α:Type}(pre post:List α) (z:α):YC (pre++z::post) (pre.length:Int) z=some ():=by
 unfold YC
 rw [if_pos]
 refine ⟨by omega,?_⟩
 simp
theorem zie (n:Int) (ys:List Int):∀(f:Nat) (s:BitVec 64) (l pre:List Int),VZ f s=some l->ys=pre++l->xr (zat ys) f (n,(pre.length:Int),s,())=some (.brk (n,(ys.length:Int),()))
 | 0,s,l,pre,h,_=>by cases h
 | f+1,s,l,pre,h,e=>by
  simp only [VZ] at h
  simp only [xr,zqK]
  cases hz:decide (s=0#64) with
  | true =>
   simp only [hz,cond_true,Option.some.injEq] at h
   subst h
   simp only [zGQ] at e
   subst e
   rfl
  | false =>
   simp only [hz,cond_false,zG2] at h
   obtain ⟨l',h1,rfl⟩:=h
   have hn:YC ys (pre.length:Int) (w64 (tz s+1))=some ():=by rw [e];exact zgZ pre l' _
   simp only [Bool.not_false,cond_true,zFw,zGN,hn]
   have:=zie n ys f (s&&&(s-1#64)) l' (pre++[w64 (tz s+1)]) h1 (by rw [e];simp)
   simpa using this
theorem zsj (G:Nat->Prop) (W0:World) (hG:zmr G W0):YJ Go.Proofs.Tryz.prog G W0 122 zaW:=by
 obtain ⟨c,hc⟩:=zIy.1 zEL
 refine zoe (Cg:=zbn []) rfl zpL (fun f s hs=>Oks.at (.cons _ _ _ _ zEG (zCG hG) (.skip _ _ .nil)) f s hs) rfl ztA (fun g it h=>by cases h) zEx zFW hc zaW (zHs (by kernel_rfl)) rfl ?_
 rintro n ⟨a,⟨⟩⟩ ys h
 have h:VZ 66 a=some ys:=h
 have e:=zs6 n ys a
 have k:=zgV _ 66 vO _ (zie n ys 66 a ys [] h rfl) (by decide)
 refine Eq.trans e ?_
 have k':xr (zat ys) vO (n,0,a,())=some (.brk (n,(ys.length:Int),())):=k
 rw [X3,k']
 rfl
theorem zuG {a:Int}(h: -9223372036854775808<=a) (h2:a<9223372036854775808):w64 a=a:=by
 rw [zqN]
 omega
theorem zds (n:Int) (ys:List (List Int)) (l:List Int) (sz:Nat) (h1:1<=sz) (h2:sz<1000000) (h3:l.length<1000000):∀(f p:Nat) (pre:List (List Int)),(l.drop p).length<=f->ys=pre++vo sz f (l.drop p)->p<2000000 ->
  xr (ub ys) (f+1) (n,(pre.length:Int),(p:Int),l,(sz:Int),())=some (.brk (n,(ys.length:Int),())):=by
 intro f
 induction f with
 | zero =>
  intro p pre hf e hp
  simp only [xr,Wf]
  simp only [zH4] at hf
  have: ¬(p:Int)<(l.length:Int):=by omega
  simp only [this,decide_false,cond_false,zGN]
  simp only [vo,zGQ] at e
  rw [e]
 | succ f ih =>
  intro p pre hf e hp
  rw [xr,Wf]
  by_cases hlt:p<l.length
  ·have hlt':(p:Int)<(l.length:Int):=by omega
   have hcut:cut l (p:Int) (l.length:Int)=some (l.drop p):=by
    unfold cut
    have:(decide (0<=(p:Int))&&decide ((p:Int)<=(l.length:Int))&&decide ((l.length:Int)<=(l.length:Int)))=true:=by simp;omega
    simp only [this,cond_true]
    simp
   obtain ⟨x,r,hxr⟩:∃x r,l.drop p=x::r:=by
    cases hd:l.drop p with
    | nil=>have:=congrArg List.length hd;simp at this;omega
    | cons x r=>exact ⟨x,r,rfl⟩
   have hch:vo sz (f+1) (l.drop p)=(l.drop p).take sz::vo sz f (l.drop (p+sz)):=by
    rw [hxr];simp only [vo];rw [<-hxr,List.drop_drop]
   have hm:∃m:Nat,(bif decide (((l.drop p).length:Int)<(sz:Int)) then (((l.drop p).length:Int)) else (sz:Int))=(m:Int)/\m=min sz (l.length-p):=by
    simp only [zH4]
    by_cases hs:((l.length-p:Nat):Int)<(sz:Int)
    ·exact ⟨l.length-p,by simp only [hs,decide_true,cond_true],by omega⟩
    ·exact ⟨sz,by simp only [hs,decide_false,cond_false],by omega⟩
   obtain ⟨m,hm1,hm2⟩:=hm
   have hw:w64 ((p:Int)+(m:Int))=((p+m:Nat):Int):=by rw [zuG (by omega) (by omega)];omega
   have hw2:w64 ((p:Int)+(sz:Int))=((p+sz:Nat):Int):=by rw [zuG (by omega) (by omega)];omega
   have hne: ¬((p+m:Nat):Int)=0:=by omega
   simp only [hlt',decide_true,cond_true,hcut,zGN,hm1,hw,hw2,hne,decide_false,Bool.and_false,cond_false]
   have hn:YC ys (pre.length:Int) ((l.drop p).take sz)=some ():=by rw [e,hch];exact zgZ pre _ _
   have hcut2:cut l (p:Int) ((p+m:Nat):Int)=some ((l.drop p).take sz):=by
    unfold cut
    have:(decide (0<=(p:Int))&&decide ((p:Int)<=((p+m:Nat):Int))&&decide (((p+m:Nat):Int)<=(l.length:Int)))=true:=by simp;omega
    simp only [this,cond_true]
    refine congrArg some ?_
    simp only [zHw]
    rw [List.drop_take,Nat.add_sub_cancel_left,hm2]
    by_cases hs:sz<=l.length-p
    ·rw [Nat.min_eq_left hs]
    ·rw [Nat.min_eq_right (by omega),zIw (l:=l.drop p) (by simp),zIw (l:=l.drop p) (by simp;omega)]
   have hnext:=ih (p+sz) (pre++[(l.drop p).take sz]) (by simp only [zH4] at hf ⊢;omega) (by rw [e,hch];simp) (by omega)
   have hlen:((pre++[(l.drop p).take sz]).length:Int)=(pre.length:Int)+1:=by simp
   rw [hlen] at hnext
   cases hfull:(decide ((p:Int)=0)&&decide (((p+m:Nat):Int)=(l.length:Int))&&decide (((p+m:Nat):Int)=(l.length:Int))) with
   | true =>
    simp only [cond_true]
    have hl:l=(l.drop p).take sz:= ?_
    ·rw [<-hl] at hn
     rw [hn]
     exact hnext
    simp only [zGO,decide_eq_true_eq] at hfull
    obtain ⟨⟨hp0,hpl⟩,_⟩:=hfull
    have hp00:p=0:=by omega
    rw [hp00,List.drop_zero,zIw (by omega)]
   | false =>
    simp only [cond_false,hcut2,zGN,decide_true,cond_true]
    rw [hn]
    exact hnext
  ·have hnl: ¬(p:Int)<(l.length:Int):=by omega
   have hd:l.drop p=[]:=zIk (by omega)
   simp only [hnl,decide_false,cond_false,zGN]
   rw [hd] at e
   simp only [vo,zGQ] at e
   rw [e]
theorem zeg (n:Int) (ys:List (List Int)) (l:List Int) (sz:Int) (h:zjH l sz=some ys):xr (ub ys) vO (n,0,0,l,sz,())=some (.brk (n,(ys.length:Int),())):=by
 unfold zjH at h
 cases hc:(decide (1<=sz)&&decide (sz<1000000)&&decide ((l.length:Int)<1000000)) with
 | false=>simp [hc] at h
 | true =>
  simp only [hc,cond_true] at h
  injection h with h
  simp only [zGO,decide_eq_true_eq] at hc
  obtain ⟨⟨c1,c2⟩,c3⟩:=hc
  have k:=zgV _ (l.length+1) vO _ (zds n ys l sz.toNat (by omega) (by omega) (by omega) l.length 0 [] (by simp) (by simpa using h.symm) (by omega)) (by unfold vO;omega)
  have hs:((sz.toNat:Nat):Int)=sz:=by omega
  rw [hs] at k
  exact k
theorem zep (G:Nat->Prop) (W0:World) (hG:zmr G W0):YJ Go.Proofs.Tryz.prog G W0 91 vq:=by
 obtain ⟨c,hc⟩:=zIy.1 zE9
 refine zoe (Cg:=uy []) rfl zpL (fun f s hs=>Oks.at .nil f s hs) rfl ztA (fun g it h=>by cases h) zFO zGs hc vq (zHs (by kernel_rfl)) rfl (fun n x ys h=>?_)
 refine Eq.trans (zeE n ys x.1 x.2.1) ?_
 rw [X3,zeg n ys x.1 x.2.1 h]
 rfl
end Go.Pe.G
namespace Go.Pe.G
open Go.Pe Go.Proofs
theorem zBc (bk off cap:Nat) (l:List Int) (w:World) (hH:Go.Sort.Holds (Value.int .i64) w bk off l.toArray) (hb:bk<w.heap.size) (hlen:l.length<4294967296) :
  Calls Tryz.prog 68 #[.slice (some ⟨bk,off,none⟩) l.length cap] w fun e w'=>e= .returned (.tuple #[])/\∃n os,w'=Go.Sort.grow (Go.Sort.putRow (Value.int .i64) (Go.Sort.ahead w n) bk off (xT l).toArray) os:=by
 have hsz:l.toArray.size=l.length:=by simp
 have hlog:Go.Sort.bitsLen l.length<4611686018427387904:=by
  unfold Go.Sort.bitsLen
  split
  ·omega
  ·rename_i h0
   have:=(Nat.log2_lt h0 (k:=32)).2 (by omega)
   omega
 have hdep:=Go.Sort.pdqDepth_le_59 Go.Sort.ltInt l.toArray 0 l.toArray.size (Go.Sort.bitsLen l.toArray.size) true true (by rw [hsz];omega)
 have hs:Go.Sort.pdq Go.Sort.ltInt l.toArray 0 l.toArray.size (Go.Sort.bitsLen l.toArray.size) true true=(xT l).toArray:=Go.Proofs.Any.sort_int_eqD l
 have hP:Calls Tryz.prog 106 #[.slice (some ⟨bk,off,none⟩) l.length cap,.int .i64 0,.int .i64 (l.length:Int),.int .i64 ((Go.Sort.bitsLen l.length:Nat):Int)] w fun e w'=>e= .returned (.tuple #[])/\∃n os,w'=Go.Sort.grow (Go.Sort.putRow (Value.int .i64) (Go.Sort.ahead w n) bk off (xT l).toArray) os:=by
  have hk:=Go.calls_of_every_depth fun D=>Go.Proofs.Any.pdqWalkInInt Go.Proofs.laysPd D 65 bk off cap 0 l.toArray.size (Go.Sort.bitsLen l.toArray.size) l.toArray w (by omega) hH hb (zHO _) (zGT _) (by rw [hsz];omega) (by rw [hsz];exact hlog) (Or.inl rfl)
  rw [hs,hsz] at hk
  exact hk
 have hL:Calls Tryz.prog 107 #[.int .u64 (l.length:Int)] w fun e w'=>e= .returned (.int .i64 ((Go.Sort.bitsLen l.length:Nat):Int))/\w'=w:=by
  have hk:=Go.calls_of_every_depth fun D=>Go.Proofs.AnyS.bits_LenIn Go.Proofs.laysLn D (l.length:Int) w (by omega) (by omega)
  rw [zHw,Go.Proofs.bitLen_eq _ (by omega)] at hk
  exact hk
 clear hH hdep hs hsz
 go_enter Tryz.func68,Tryz.ntmps68
 go_wp2_with (first
  | (go_at_call 107;refine hL.mono ?_;rintro e w' ⟨rfl,rfl⟩)
  | (go_at_call 106;refine hP.mono ?_;rintro e w' ⟨rfl,n,os,rfl⟩))
 go_end0
 exact ⟨rfl,n,os,rfl⟩
theorem zCi (a:Option Addr) (w:World):Calls Tryz.prog 68 #[.slice a 0 0] w fun e w'=>e= .returned (.tuple #[])/\w'=w:=by
 have hP:=Go.calls_of_every_depth fun D=>Go.Proofs.AnyS.pdqsort_int_none_in Go.Proofs.laysPd D a 0 w
 have hL:Calls Tryz.prog 107 #[.int .u64 0] w fun e w'=>e= .returned (.int .i64 0)/\w'=w:=Go.calls_of_every_depth fun D=>Go.Proofs.AnyS.bits_LenIn Go.Proofs.laysLn D 0 w (by omega) (by omega)
 go_enter Tryz.func68,Tryz.ntmps68
 go_wp2_with (first
  | (go_at_call 107;refine hL.mono ?_;rintro e w' ⟨rfl,rfl⟩)
  | (go_at_call 106;refine hP.mono ?_;rintro e w' ⟨rfl,rfl⟩))
 go_end0
 exact ⟨rfl,rfl⟩
noncomputable def zsf:zy E:=sp (cf [] [] [] [] [] []) Tryz.f67 ⟨[vL],[]⟩ ⟨[.own 0],[.row true (.int .i64)]⟩ [oL] [oL]
theorem zEU (a:List Int):zsf.F (a,())=bif a.isEmpty then zjF (some (([]:List Int),())) ((yc (([]:List Int)++a)).bind fun l=>some (l,())) else (yc (([]:List Int)++a)).bind fun l=>some (l,()):=zr (by kernel_rfl)
theorem zEu {a:List Int}(h:a.length<4294967296):zsf.F (a,())=some (a,()):=by
 have hr:yc a=some a:=by rw [zsA,decide_eq_true h];rfl
 rw [zEU,zGY,hr]
 cases a with
 | nil=>exact zcZ _
 | cons x l=>rfl
theorem zBf {G:Nat->Prop}{W0:World}(hG:zmr G W0):Yq Tryz.prog G W0 67 zsf :=
 zwb (C:=cf [] [] [] [] [] []) zpL (ztB .nil) rfl (zy3 .nil) ztA Tryz.func67 (by kernel_rfl) (by kernel_rfl) (by kernel_rfl)
theorem zEP {w w':World}{A A' U U':Nat->Prop}{μ:Nat->Loc}{id:Nat}{v:Value}(h:zU E w A U μ (.own id) v) (hU:U' id):zU E w' A' U' μ (.own id) v:=by
 cases h with
 | own _ b off len cap _ hμ=>exact .own id b off len cap hU hμ
 | own0 _ a a2 _ hμ=>exact .own0 id a a2 hU hμ
theorem zDx {A1:Nat->Prop}{μ1:Nat->Loc}{l:List Int}{w1:World}{v1:Value}(S:zM A1 μ1 [Blk.row (E:=E) true (.int .i64) l] w1) (h0:zU E w1 (Av A1 μ1 [Blk.row (E:=E) true (.int .i64) l]) (Us [Blk.row (E:=E) true (.int .i64) l]) μ1 (.own 0) v1) (hlen:l.length<4294967296) :
  Calls Tryz.prog 68 #[v1] w1 fun e w2=>e= .returned (.tuple #[])/\zM A1 μ1 [Blk.row (E:=E) true (.int .i64) (xT l)] w2/\Adv (Lv μ1 [Blk.row (E:=E) true (.int .i64) l]) w1 (Lv μ1 [Blk.row (E:=E) true (.int .i64) (xT l)]) w2:=by
 have hok:=S.ok 0
 cases h0 with
 | own0 _ a1 a2 hU hμ =>
  have hl:l=[]:=by
   rcases hok with ⟨_,_,_,_,_,e1,_⟩ | ⟨e,_⟩
   ·have e1:μ1 0=_:=e1
    rw [hμ] at e1;cases e1
   ·exact e
  subst hl
  have e0:xT []=[]:=by unfold xT;simp
  refine (zCi a1 w1).mono ?_
  rintro e w' ⟨rfl,rfl⟩
  rw [e0]
  exact ⟨rfl,S,Adv.refl _ _⟩
 | own _ bk off len cap hU hμ =>
  obtain ⟨hA,hb⟩:=S.out 0 bk off len cap rfl hμ
  obtain ⟨cc,vs,t,rfl,e2,h1,h2,h3,h4⟩:∃(cc:Array Value) (vs:Nat->Value) (t:TypeId),len=l.length/\w1.heap[bk]? =some (.cells cc t (0,0))/\l.length<=cap/\off+cap*1<=cc.size /\
    (∀i,i<l.length->∀j u,(vs i).cells[j]? =some u->cc[off+i*1+j]? =some u)/\∀i (h:i<l.length),zZ E w1 (Av A1 μ1 [Blk.row true (.int .i64) l]) (.int .i64) (vs i) l[i]:=by
   rcases hok with ⟨b',off',cap',cc,vs,e1,⟨t,f,e2,e3⟩,h1,h2,h3,h4⟩ | ⟨_,a,e⟩
   ·have e1:μ1 0=_:=e1
    rw [hμ] at e1
    injection e1 with q1 q2 q3 q4
    subst q1;subst q2;subst q4
    have e3:=e3 rfl
    subst e3
    exact ⟨cc,vs,t,q3,e2,h1,h2,h3,h4⟩
   ·have e:μ1 0=_:=e
    rw [hμ] at e;cases e
  have hcell:∀(j:Nat) (h:j<l.length),cc[off+j]? =some (.int .i64 l[j]):=fun j h=>by
   have r:=h4 j h
   have q:=h3 j h 0
   obtain ⟨z,hz⟩:∃z:Int,z=l[j]:=⟨_,rfl⟩
   rw [<-hz] at r ⊢
   generalize vs j=vj at r q
   cases r with
   | int k z =>
    have:=q _ rfl
    rw [zHG,zHt] at this
    exact this
  have hsz:l.toArray.size=l.length:=by simp
  have hH:Go.Sort.Holds (Value.int .i64) w1 bk off l.toArray:=fun j hj=>by
   have hj:j<l.length:=by rw [<-hsz];exact hj
   refine ⟨?_,?_⟩
   ·unfold World.cell?
    rw [e2]
    show cc[off+j]? =some (Value.int .i64 l.toArray[j]!)
    rw [hcell j hj,getElem!_pos l.toArray j (by rw [hsz];exact hj)]
    rfl
   ·unfold World.frozen?
    rw [e2]
    simp
  refine (zBc bk off cap l w1 hH hb hlen).mono ?_
  rintro e w' ⟨rfl,n,os,rfl⟩
  obtain ⟨hS,hAd⟩:=ztG S hμ hb e2 h1 h2 hcell n os
  exact ⟨rfl,hS,hAd⟩
theorem zhu {G:Nat->Prop}{W0:World}(hG:zmr G W0):Yq Tryz.prog G W0 28 zm3:=by
 intro A0 μ w args x y wd S hr hy
 obtain ⟨l,⟨⟩⟩:=x
 have hy:znE l=some y:=hy
 unfold znE at hy
 cases hc:decide (l.length<4294967296) with
 | false=>rw [hc] at hy;cases hy
 | true =>
 rw [hc] at hy
 injection hy with hy
 subst hy
 have hlen:l.length<4294967296:=by simpa using hc
 have hcl:=zBf hG A0 μ w args (l,()) (l,()) wd S hr (zEu hlen)
 obtain ⟨v,rfl⟩:∃v,args= #[v]:=by
  have hl:=hr.1
  have hl:1=args.toList.length:=hl
  match ha:args.toList,hl with
  | [v],_=>exact ⟨v,by rw [<-zIp (xs:=args),ha]⟩
 go_enter Tryz.func28,Tryz.ntmps28
 have hout:∀ {vs:List Value}{A1:Nat->Prop}{μ1:Nat->Loc}{w1:World},zyN A0 μ (yn id zsf.inn (HL.toP zsf.inn.holes (l,()))).2 w zsf (zsf.go.to (l,())) vs A1 μ1 w1->∃v1,vs=[v1]/\zU E w1 (Av A1 μ1 [Blk.row (E:=E) true (.int .i64) l]) (Us [Blk.row (E:=E) true (.int .i64) l]) μ1 (.own 0) v1/\zM A1 μ1 [Blk.row (E:=E) true (.int .i64) l] w1:=fun {vs A1 μ1 w1} oc=>by
  have hl:=oc.rep.1
  have hl:1=vs.length:=hl
  match vs,hl,oc with
  | [v1],_,oc=>exact ⟨v1,rfl,oc.rep.2 0 (.own 0) v1 rfl rfl,oc.sim⟩
 go_wp2_with (first | (go_at_call 67;refine hcl.mono ?_;rintro e w1 ⟨vs,A1,μ1,rfl,oc⟩;obtain ⟨v1,rfl,h1,hS1⟩:=hout oc;have hso:=zDx hS1 h1 hlen) | (go_at_call 68;refine hso.mono ?_;rintro e w2 ⟨rfl,hS2,hAd2⟩))
 go_ret
 exact ⟨[v1],A1,μ1,rfl,hS2,RL.cons (zEP h1 rfl) RL.nil,oc.adv.trans hAd2,oc.up,fun b hb=>zG6 (oc.low b hb) hAd2.size,fun j ws h=>by cases j<;>cases h⟩
end Go.Pe.G
namespace Go.Proofs
open Go.Shelf
def zuj:Go.Shelf.Ren:={f:=fun k=>if k=6 then 113 else if k=10 then 71 else k,g:=fun k=>k,t:=fun k=>if k=0 then 0 else if k=3 then 3 else if k=4 then 4 else if k=22 then 37 else if k=23 then 3 else if k=25 then 131 else k}
theorem zE1:Bears Tryz.prog (zuj.f 6) (SlBodyH.n6 zuj):=Exists.intro ("slices.IndexFunc[[]int,int]") ⟨by kernel_rfl,by kernel_rfl⟩
theorem zEv:Bears Tryz.prog (zuj.f 10) (SlBodyH.n10 zuj):=Exists.intro ("slices.DeleteFunc[[]int,int]") ⟨by kernel_rfl,by kernel_rfl⟩
theorem zFd:SlLaysH.n10 Tryz.prog zuj:=by
 constructor<;>first | exact zE1 | exact zEv | kernel_rfl | (intro w;kernel_rfl)
def zlQ:Go.Shelf.Ren:={f:=fun k=>if k=4 then 69 else k,g:=fun k=>k,t:=fun k=>if k=0 then 0 else if k=3 then 3 else if k=4 then 4 else if k=9 then 9 else if k=20 then 20 else if k=22 then 48 else if k=25 then 3 else k}
theorem zEE:Bears Tryz.prog (zlQ.f 4) (Body8.n4 zlQ):=Exists.intro ("slices.Grow[besom/bag.Bag,int]") ⟨by kernel_rfl,by kernel_rfl⟩
theorem zCt:Lays8.n4 Tryz.prog zlQ:=by
 constructor<;>first | exact zEE | kernel_rfl | (intro w;kernel_rfl)
end Go.Proofs
namespace Go.Pe.G
open Go.Pe Go.Proofs
theorem lv1 {μ:Nat->Loc}{l:List Int}{b:Nat}(h:Lv (E:=E) μ [.free,Blk.row true (.int .i64) l] b):∃off len cap,μ 1= .blk b off len cap:=by
 obtain ⟨id,off,len,cap,hl,hm⟩:=h
 match id with
 | 0=>cases hl
 | 1=>exact ⟨off,len,cap,hm⟩
 | id+2=>cases hl
theorem zGC {A0:Nat->Prop}{μ:Nat->Loc}{l:List Int}{w:World}{b off cap:Nat}{cc:Array Value}{t:TypeId}(h0:μ 1= .blk b off l.length cap) (hA: ¬A0 b) (e2:w.heap[b]? =some (.cells cc t (0,0))) (h1:l.length<=cap) (h2:off+cap<=cc.size)
  (hc:∀(i:Nat) (h:i<l.length),cc[off+i]? =some (.int .i64 l[i])):zM A0 μ [.free,Blk.row (E:=E) true (.int .i64) l] w:=by
 refine ⟨fun id=>?_,fun i j b o l c b' o' l' c' ne hi hj=>?_,fun id b' o l' c ho hm=>?_⟩
 ·match id with
  | 0=>exact trivial
  | 1 =>
   refine .inl ⟨b,off,cap,cc,fun i=>.int .i64 (l.getD i 0),h0,⟨t,(0,0),e2,fun _=>rfl⟩,h1,?_,fun i hi j u hu=>?_,fun i hi=>?_⟩
   ·show off+cap*1<=cc.size;omega
   ·have hi:i<l.length:=hi
    match j,hu with
    | 0,hu =>
     have hu:some (Value.int .i64 (l.getD i 0))=some u:=hu
     injection hu with hu
     subst hu
     show cc[off+i*1+0]? =_
     rw [zHG,zHt,hc i hi,zGS,zGP hi];rfl
    | j+1,hu=>cases hu
   ·have hi:i<l.length:=hi
    have e:l.getD i 0=l[i]:=by rw [zGS,zGP hi];rfl
    show zZ E _ _ (.int .i64) (.int .i64 (l.getD i 0)) l[i]
    rw [e]
    exact .int .i64 _
  | id+2=>exact trivial
 ·match i,j with
  | 0,_=>cases hi
  | 1,0=>cases hj
  | 1,1=>exact absurd rfl ne
  | 1,j+2=>cases hj
  | i+2,_=>cases hi
 ·match id with
  | 0=>cases ho
  | 1 =>
   have hm:μ 1=Loc.blk b' o l' c:=hm
   rw [h0] at hm
   injection hm with hm
   subst hm
   exact ⟨hA,(zHb.1 e2).1⟩
  | id+2=>cases ho
theorem zGd {A0:Nat->Prop}{μ:Nat->Loc}{w:World}{b cap:Nat}{cc:Array Value}{t:TypeId}(h0:μ 0= .blk b 0 0 cap) (hA: ¬A0 b) (e2:w.heap[b]? =some (.cells cc t (0,0))) (h2:cap<=cc.size):zM A0 μ [Blk.row (E:=E) true (.int .i64) []] w:=by
 refine ⟨fun id=>?_,fun i j b o l c b' o' l' c' ne hi hj=>?_,fun id b' o l' c ho hm=>?_⟩
 ·match id with
  | 0 =>
   refine .inl ⟨b,0,cap,cc,fun i=>.int .i64 0,h0,⟨t,(0,0),e2,fun _=>rfl⟩,zHO _,?_,fun i hi=>absurd hi (Nat.not_lt_zero _),fun i hi=>absurd hi (Nat.not_lt_zero _)⟩
   show 0+cap*1<=cc.size;omega
  | id+1=>exact trivial
 ·match i,j with
  | 0,0=>exact absurd rfl ne
  | 0,j+1=>cases hj
  | i+1,_=>cases hi
 ·match id with
  | 0 =>
   have hm:μ 0=Loc.blk b' o l' c:=hm
   rw [h0] at hm
   injection hm with hm
   subst hm
   exact ⟨hA,(zHb.1 e2).1⟩
  | id+1=>cases ho
theorem zFY {A0:Nat->Prop}{μ:Nat->Loc}{w:World}{a:Option Addr}(h0:μ 0= .none a):zM A0 μ [Blk.row (E:=E) true (.int .i64) []] w:=by
 refine ⟨fun id=>?_,fun i j b o l c b' o' l' c' ne hi hj=>?_,fun id b' o l' c ho hm=>?_⟩
 ·match id with
  | 0=>exact .inr ⟨rfl,a,h0⟩
  | id+1=>exact trivial
 ·match i,j with
  | 0,0=>exact absurd rfl ne
  | 0,j+1=>cases hj
  | i+1,_=>cases hi
 ·match id with
  | 0 =>
   have hm:μ 0=Loc.blk b' o l' c:=hm
   rw [h0] at hm;cases hm
  | id+1=>cases ho
theorem zFt {A0:Nat->Prop}{μ:Nat->Loc}{l:List Int}{w:World}(S:zM A0 μ [Blk.row (E:=E) true (.int .i64) l] w) {bk off len cap:Nat}(hμ:μ 0= .blk bk off len cap) :
  ¬A0 bk/\bk<w.heap.size/\len=l.length/\∃(cc:Array Value) (t:TypeId),w.heap[bk]? =some (.cells cc t (0,0))/\l.length<=cap/\off+cap<=cc.size/\∀(j:Nat) (h:j<l.length),cc[off+j]? =some (.int .i64 l[j]):=by
 obtain ⟨hA,hb⟩:=S.out 0 bk off len cap rfl hμ
 refine ⟨hA,hb,?_⟩
 rcases S.ok 0 with ⟨b',off',cap',cc,vs,e1,⟨t,f,e2,e3⟩,h1,h2,h3,h4⟩ | ⟨_,a,e⟩
 ·have e1:μ 0=_:=e1
  rw [hμ] at e1
  injection e1 with q1 q2 q3 q4
  subst q1;subst q2;subst q4
  have e3:=e3 rfl
  subst e3
  have h2:off+cap*1<=cc.size:=h2
  refine ⟨q3,cc,t,e2,h1,by omega,fun j h=>?_⟩
  have r:=h4 j h
  have q:=h3 j h 0
  obtain ⟨z,hz⟩:∃z:Int,z=l[j]:=⟨_,rfl⟩
  have r:zZ E w _ (.int .i64) (vs j) l[j]:=r
  rw [<-hz] at r ⊢
  generalize vs j=vj at r q
  cases r with
  | int k z =>
   have:=q _ rfl
   have this:cc[off+j*1+0]? =_:=this
   rw [zHG,zHt] at this
   exact this
 ·have e:μ 0=_:=e
  rw [hμ] at e;cases e
theorem zBV (W:World) (x:Int):Calls Tryz.prog 72 #[.int .i64 x] W fun e w'=>e= .returned (.bool (decide (x=0)))/\w'=W:=by
 go_enter Tryz.func72,Tryz.ntmps72
 go_wp2
 go_ret
 exact ⟨rfl,rfl⟩
theorem zrG {G:Nat->Prop}{W0:World}(hG:zmr G W0):Yq Tryz.prog G W0 32 zxh:=by
 intro A0 μ w args x y wd S hr hy
 obtain ⟨l,⟨⟩⟩:=x
 have hy:zum l=some y:=hy
 unfold zum at hy
 cases hc:(decide (0<l.length)&&decide (l.length<4294967296)) with
 | false=>rw [hc] at hy;cases hy
 | true =>
 rw [hc] at hy
 injection hy with hy
 subst hy
 simp only [zGO,decide_eq_true_eq] at hc
 obtain ⟨hpos,hlen⟩:=hc
 obtain ⟨v,rfl,h0⟩:∃v,args= #[v]/\zU E w (Av A0 μ [Blk.row true (.int .i64) l]) (Us [Blk.row true (.int .i64) l]) μ (.own 0) v:=by
  have hl:=hr.1
  have hl:1=args.toList.length:=hl
  match ha:args.toList,hl with
  | [v],_=>exact ⟨v,by rw [<-zIp (xs:=args),ha],hr.2 0 (.own 0) v rfl (by rw [ha];rfl)⟩
 have S:zM A0 μ [Blk.row true (.int .i64) l] w:=S
 cases h0 with
 | own0 _ a1 a2 hU hμ =>
  exfalso
  rcases S.ok 0 with ⟨_,_,_,_,_,e1,_⟩ | ⟨e,_⟩
  ·have e1:μ 0=_:=e1
   rw [hμ] at e1;cases e1
  ·rw [e] at hpos;cases hpos
 | own _ bk off len cap hU hμ =>
  obtain ⟨hA,hb,rfl,cc,t,e2,h1,h2,hcell⟩:=zFt S hμ
  have hsz:l.toArray.size=l.length:=by simp
  have hH:Go.Sort.Holds (Value.int .i64) w bk off l.toArray:=fun j hj=>by
   have hj:j<l.length:=by rw [<-hsz];exact hj
   refine ⟨?_,?_⟩
   ·unfold World.cell?
    rw [e2]
    show cc[off+j]? =some (Value.int .i64 l.toArray[j]!)
    rw [hcell j hj,getElem!_pos l.toArray j (by rw [hsz];exact hj)]
    rfl
   ·unfold World.frozen?
    rw [e2]
    simp
  have fg:∀(W:World) (x:Int),FnGives Tryz.prog 72 #[] #[.int .i64 x] (.bool (decide (x=0))) W:=fun W x=>(zBV W x).mono (by rintro e w' ⟨rfl,rfl⟩;exact ⟨rfl,0,rfl⟩)
  have eg:∀args w,(callFunc 72 args).run Tryz.prog w= .ok (.enter 72 args) w:=enters_of Tryz.func72 (by kernel_rfl) rfl
  have hd:=AnyE.slices_DeleteFunc zFd (Value.int .i64) (fun _=>rfl) (fun x:Int=>decide (x=0)) 72 #[] eg 0 (fun w=>by kernel_rfl) bk off cap l.toArray w (fun W x _=>fg W x) (fun n os dk x _=>fg _ x) hH (by rw [hsz];omega) (by rw [hsz];exact h1)
  rw [hsz] at hd
  rw [show l.toArray.toList=l from rfl] at hd
  have hf:(l.filter fun x=> !decide (x=0)).length<=l.length:=zH8 _ _
  clear eg fg
  generalize hm:(l.filter fun x=> !decide (x=0))=m at hd hf ⊢
  have hd:Calls Tryz.prog 71 #[.slice (some ⟨bk,off,none⟩) l.length cap,.func (.func 72) #[] #[]] w fun e w'=>e= .returned (.slice (some ⟨bk,off,none⟩) m.length cap)/\∃q,w'=Go.Sort.putRow (Value.int .i64) (Go.Sort.ahead w q) bk off (m++List.replicate (l.length-m.length) 0).toArray:=hd
  go_enter Tryz.func32,Tryz.ntmps32
  go_wp2_with (go_at_call 71;refine hd.mono ?_;rintro e w' ⟨rfl,q,rfl⟩)
  go_ret
  have hheap:∀k,(Go.Sort.putRow (Value.int .i64) (Go.Sort.ahead w q) bk off (m++List.replicate (l.length-m.length) 0).toArray).heap[k]? =if bk=k then some (.cells (Go.Sort.putCells (Value.int .i64) off (m++List.replicate (l.length-m.length) 0).toArray cc) t (0,0)) else w.heap[k]? :=fun k=>by
   unfold Go.Sort.putRow Go.Sort.mapBlock Go.Sort.ahead
   dsimp only
   rw [Array.getElem?_modify]
   split
   ·rename_i h;subst h;rw [e2];rfl
   ·rfl
  have hput:∀(i:Nat) (h:i<m.length),(Go.Sort.putCells (Value.int .i64) off (m++List.replicate (l.length-m.length) 0).toArray cc)[off+i]? =some (.int .i64 m[i]):=fun i h=>by
   unfold Go.Sort.putCells
   rw [Array.getElem?_mapIdx,hcell i (by omega),zHH,if_pos ⟨by omega,by simp;omega⟩,show off+i-off=i by omega,getElem!_pos _ i (by simp;omega)]
   simp [zIA h]
  have hsize:(Go.Sort.putRow (Value.int .i64) (Go.Sort.ahead w q) bk off (m++List.replicate (l.length-m.length) 0).toArray).heap.size=w.heap.size:=by simp
  refine ⟨[.slice (some ⟨bk,off,none⟩) m.length cap],A0,fun id=>if id=1 then .blk bk off m.length cap else μ id,rfl,?_,RL.cons (.own 1 bk off m.length cap rfl rfl) RL.nil,⟨rfl,rfl,rfl,by rw [hsize];exact zGT _,fun b hb2 hn=>?_,fun b _ h=>?_⟩,fun _ h=>h,fun b h=>by rw [hsize];exact wd.low b h,fun j ws h=>by
   cases j with
   | zero=>cases h
   | succ j=>cases h⟩
  ·show zM A0 _ [.free,Blk.row true (.int .i64) m] _
   have hmc:m.length<=cap:=zHT hf h1
   refine zGC (b:=bk) (off:=off) (cap:=cap) (t:=t) rfl hA (by rw [hheap,if_pos rfl]) hmc ?_ hput
   unfold Go.Sort.putCells
   rw [Array.size_mapIdx];exact h2
  ·rw [hheap,if_neg]
   rintro rfl
   exact hn ⟨0,off,l.length,cap,rfl,hμ⟩
  ·obtain ⟨o,n,c,e⟩:=lv1 h
   have e:Loc.blk bk off m.length cap= .blk b o n c:=e
   injection e with e
   subst e
   exact ⟨0,off,l.length,cap,rfl,hμ⟩
theorem zBv (a:Option Addr) (k:Nat) (w:World) (h0:0<k) (hk:k<4294967296):Calls Tryz.prog 69 #[.slice a 0 0,.int .i64 (k:Int)] w fun e w'=>∃(G:Nat) (cc:Array Value) (t:TypeId),G<=cc.size/\e= .returned (.slice (some ⟨w.heap.size,0,none⟩) 0 G)/\w'=w.drew.alloc (.cells cc t):=by
 obtain ⟨i0,hi⟩:=zIy.1 (show (Tryz.prog.info? (zlQ.t 25)).isSome=true by kernel_rfl)
 have h2:(Tryz.prog.info? (zlQ.t 25)).map TypeInfo.size=some 1:=by kernel_rfl
 have h3:(Tryz.prog.info? (zlQ.t 25)).map TypeInfo.bytes=some 8:=by kernel_rfl
 have h4:(Tryz.prog.info? (zlQ.t 25)).map TypeInfo.zero=some (some (.int .i64 0)):=by kernel_rfl
 rw [hi] at h2 h3 h4
 simp only [zHH,Option.some.injEq] at h2 h3 h4
 have hd:=Any8.slices_Grow_grow zCt i0 (.int .i64 0) hi h4 (by rw [h2];decide) a 0 0 k [] w (zGT _) (by omega) (by rw [h3];omega) (by omega) (by simp) (fun _=>rfl) (fun b _ j v h=>by cases h)
 refine hd.mono ?_
 rintro e w' ⟨rfl,rfl⟩
 refine ⟨_,_,_,?_,rfl,rfl⟩
 have hg:=grownCap_ge w (0+k) 0 (zlQ.t 25)
 have z1:(Value.int IntKind.i64 0).cells.size=1:=rfl
 simp only [Array.size_append,Builtin.zeroCells,Array.size_map,Array.size_range,z1]
 simp
 omega
theorem zzr {G:Nat->Prop}{W0:World}(hG:zmr G W0):Yq Tryz.prog G W0 69 zAQ:=by
 intro A0 μ w args x y wd S hr hy
 obtain ⟨n,⟨⟩⟩:=x
 have hy:zt6 n=some y:=hy
 unfold zt6 at hy
 cases hc:(decide (0<=n)&&decide (n<4294967296)) with
 | false=>rw [hc] at hy;cases hy
 | true =>
 rw [hc] at hy
 injection hy with hy
 subst hy
 simp only [zGO,decide_eq_true_eq] at hc
 obtain ⟨hn0,hn1⟩:=hc
 obtain ⟨k,hk0⟩:=Int.eq_ofNat_of_zero_le hn0
 have hk1:k<4294967296:=by
  have h: @Eq Int n (k:Int):=hk0
  have h2: @LT.lt Int _ n (4294967296:Int):=hn1
  omega
 subst hk0
 obtain ⟨a,rfl⟩:∃a,args= #[.slice a 0 0,.int .i64 (k:Int)]:=by
  have hl:=hr.1
  have hl:2=args.toList.length:=hl
  match ha:args.toList,hl with
  | [v,v1],_ =>
   have h0:=hr.2 0 .nils v rfl (by rw [ha];rfl)
   have h1:=hr.2 1 (.v (.int .i64) (k:Int)) v1 rfl (by rw [ha];rfl)
   have e1:v1= .int .i64 (k:Int):=by
    cases h1 with
    | v _ _ _ h=>cases h with
     | int k z=>rfl
   subst e1
   cases h0 with
   | nils a=>exact ⟨a,by rw [<-zIp (xs:=args),ha]⟩
 have S:zM A0 μ ([]:List (Blk E)) w:=S
 by_cases hk:k=0
 ·subst hk
  refine (Any8.slices_Grow_room zCt a 0 0 0 w (zGT _) (by omega) (by omega) (by omega)).mono ?_
  rintro e w' ⟨rfl,rfl⟩
  refine ⟨[.slice a 0 0],A0,fun _=>.none a,rfl,zFY rfl,RL.cons (.own0 0 a a rfl rfl) RL.nil,⟨rfl,rfl,rfl,zGT _,fun b _ _=>rfl,fun b _ h=>?_⟩,fun _ h=>h,wd.low,fun j ws h=>by cases h⟩
  obtain ⟨id,off,len,cap,_,hm⟩:=h
  cases hm
 ·refine (zBv a k w (by omega) hk1).mono ?_
  rintro e w' ⟨N,cc,t,hN,rfl,rfl⟩
  have hat:(w.drew.alloc (.cells cc t)).heap[w.heap.size]? =some (.cells cc t (0,0)):=by
   show (w.heap.push _)[w.heap.size]? =_
   simp
  have hold:∀b,b<w.heap.size->(w.drew.alloc (.cells cc t)).heap[b]? =w.heap[b]? :=fun b hb=>by
   show (w.heap.push _)[b]? =_
   rw [zIj,if_neg (by omega)]
  have hsz:(w.drew.alloc (.cells cc t)).heap.size=w.heap.size+1:=by simp
  refine ⟨[.slice (some ⟨w.heap.size,0,none⟩) 0 N],A0,fun _=>.blk w.heap.size 0 0 N,rfl,zGd rfl (fun h=>by have:=wd.low _ h;omega) hat hN,RL.cons (.own 0 w.heap.size 0 0 N rfl rfl) RL.nil,⟨rfl,rfl,rfl,by rw [hsz];omega,fun b hb _=>hold b hb,fun b hb h=>?_⟩,fun _ h=>h,fun b h=>by have:=wd.low b h;rw [hsz];omega,fun j ws h=>by cases h⟩
  obtain ⟨id,off,len,cap,_,hm⟩:=h
  injection hm with hm
  omega
theorem zws (n:Int) (s:za) (ys:List (List Int)) (hs:s.Ws.length<1000000):∀(f i:Nat) (l pre:List (List Int)),i+f=s.Ws.length->zvg s f (i:Int)=some l->(∃post,ys=pre++l++post) ->
  xr (W7 ys) (f+1) (n,(pre.length:Int),(s.Ws.length:Int),(i:Int),s,())=some (.brk (n,((pre++l).length:Int),s,()))
 | 0,i,l,pre,hi,h,e=>by
  injection h with h
  subst h
  rw [xr,zhb,show decide ((i:Int)<(s.Ws.length:Int))=false by rw [decide_eq_false_iff_not];omega]
  simp
 | f+1,i,l,pre,hi,h,⟨post,e⟩=>by
  simp only [zvg,zGZ] at h
  obtain ⟨a,h1,l',h2,h3⟩:=h
  injection h3 with h3
  subst h3
  have ei:w64 ((i:Int)+1)=((i+1:Nat):Int):=by rw [zuG (by omega) (by omega)];omega
  have hn:YC ys (pre.length:Int) a.1=some ():=by rw [e,zGR];exact zgZ pre (l'++post) _
  rw [xr,zhb,show decide ((i:Int)<(s.Ws.length:Int))=true by rw [decide_eq_true_eq];omega,ei,show ((i+1:Nat):Int)=(i:Int)+1 by omega,h1]
  simp only [cond_true,zGN,hn]
  have:=zws n s ys hs f (i+1) l' (pre++[a.1]) (by omega) (by rw [show ((i+1:Nat):Int)=(i:Int)+1 by omega];exact h2) ⟨post,by rw [e];simp⟩
  simpa using this
theorem zwC (n:Int) (s:za) (ys:List (List Int)) (hs:s.Ms.length<1000000):∀(f i:Nat) (l pre:List (List Int)),i+f=s.Ms.length->zuM s f (i:Int)=some l->(∃post,ys=pre++l++post) ->
  xr (zaA ys) (f+1) (n,(pre.length:Int),(s.Ms.length:Int),(i:Int),s,())=some (.brk (n,((pre++l).length:Int),()))
 | 0,i,l,pre,hi,h,e=>by
  injection h with h
  subst h
  rw [xr,zg3,show decide ((i:Int)<(s.Ms.length:Int))=false by rw [decide_eq_false_iff_not];omega]
  simp
 | f+1,i,l,pre,hi,h,⟨post,e⟩=>by
  simp only [zuM,zGZ] at h
  obtain ⟨a,h1,l',h2,h3⟩:=h
  injection h3 with h3
  subst h3
  have ei:w64 ((i:Int)+1)=((i+1:Nat):Int):=by rw [zuG (by omega) (by omega)];omega
  have hn:YC ys (pre.length:Int) a.1=some ():=by rw [e,zGR];exact zgZ pre (l'++post) _
  rw [xr,zg3,show decide ((i:Int)<(s.Ms.length:Int))=true by rw [decide_eq_true_eq];omega,ei,show ((i+1:Nat):Int)=(i:Int)+1 by omega,h1]
  simp only [cond_true,zGN,hn]
  have:=zwC n s ys hs f (i+1) l' (pre++[a.1]) (by omega) (by rw [show ((i+1:Nat):Int)=(i:Int)+1 by omega];exact h2) ⟨post,by rw [e];simp⟩
  simpa using this
theorem zsB (n:Int) (x:HL E.T zbw.holes) (ys:List (List Int)) (h:za3.F x=some ys):zm4 (Yb ys) Tryz.f80 zbw n x=some (ys.length:Int):=by
 obtain ⟨a1,a2,a3,a4,a5,a6,a7,a8,a9,a10,a11,a12,a13,a14,a15,a16,a17,a18,a19,a20,a21,a22,a23,a24,a25,a26,a27,a28,a29,a30,a31,a32,a33,a34,⟨⟩⟩:=x
 refine Eq.trans (ztf n ys a1 a2 a3 a4 a5 a6 a7 a8 a9 a10 a11 a12 a13 a14 a15 a16 a17 a18 a19 a20 a21 a22 a23 a24 a25 a26 a27 a28 a29 a30 a31 a32 a33 a34) ?_
 have h:ztF (za.mk (zb.mk a1 a2 a3 a4 a5 a6 a7 a8 (zt.mk a9 a10) a11 a12 a13 a14) (zt.mk a15 a16) a17 a18 (zp.mk a19 a20) a21 a22 a23 a24 a25 a26 (zk.mk a27 a28 a29 a30) a31 a32 (zw.mk a33 a34))=some ys:=h
 show ((uZ (za.mk (zb.mk a1 a2 a3 a4 a5 a6 a7 a8 (zt.mk a9 a10) a11 a12 a13 a14) (zt.mk a15 a16) a17 a18 (zp.mk a19 a20) a21 a22 a23 a24 a25 a26 (zk.mk a27 a28 a29 a30) a31 a32 (zw.mk a33 a34))).bind fun y1=>(YC ys 0 y1.1).bind fun _ =>
  (zO (W7 ys) (n,0+1,((za.mk (zb.mk a1 a2 a3 a4 a5 a6 a7 a8 (zt.mk a9 a10) a11 a12 a13 a14) (zt.mk a15 a16) a17 a18 (zp.mk a19 a20) a21 a22 a23 a24 a25 a26 (zk.mk a27 a28 a29 a30) a31 a32 (zw.mk a33 a34)).Ws.length:Int),0,za.mk (zb.mk a1 a2 a3 a4 a5 a6 a7 a8 (zt.mk a9 a10) a11 a12 a13 a14) (zt.mk a15 a16) a17 a18 (zp.mk a19 a20) a21 a22 a23 a24 a25 a26 (zk.mk a27 a28 a29 a30) a31 a32 (zw.mk a33 a34),())).bind _)=_
 generalize za.mk (zb.mk a1 a2 a3 a4 a5 a6 a7 a8 (zt.mk a9 a10) a11 a12 a13 a14) (zt.mk a15 a16) a17 a18 (zp.mk a19 a20) a21 a22 a23 a24 a25 a26 (zk.mk a27 a28 a29 a30) a31 a32 (zw.mk a33 a34)=s at h ⊢
 unfold ztF at h
 cases hc:(decide (s.Ws.length<1000000)&&decide (s.Ms.length<1000000)) with
 | false=>rw [hc] at h;cases h
 | true =>
 rw [hc,cond_true] at h
 simp only [zGO,decide_eq_true_eq] at hc
 simp only [zGZ] at h
 obtain ⟨a,e1,b,e2,c,e3,e4⟩:=h
 injection e4 with e4
 have k2:=zgV _ _ vO _ (zws n s ys hc.1 s.Ws.length 0 b [a.1] (by omega) e2 ⟨c,by rw [<-e4];simp⟩) (by unfold vO;omega)
 have k7:=zgV _ _ vO _ (zwC n s ys hc.2 s.Ms.length 0 c (a.1::b) (by omega) e3 ⟨[],by rw [<-e4];simp⟩) (by unfold vO;omega)
 have k2:xr (W7 ys) vO (n,0+1,(s.Ws.length:Int),0,s,())=some (.brk (n,(((a.1::b).length:Nat):Int),s,())):=k2
 have k7:xr (zaA ys) vO (n,(((a.1::b).length:Nat):Int),(s.Ms.length:Int),0,s,())=some (.brk (n,(((a.1::b)++c).length:Int),())):=k7
 have hn:YC ys 0 a.1=some ():=by rw [<-e4];exact zgZ [] (b++c) _
 rw [e1,zGN,hn,zGN,X3,k2,zGN]
 dsimp only
 rw [X3,k7,zGN]
 dsimp only
 rw [<-e4];rfl
end Go.Pe.G
namespace Go.Pe.G
open Go.Pe
theorem k2 {G:Nat->Prop}{W0:World}{f:Nat}{s:zy E}{ss r} (hs:Yq Go.Proofs.Tryz.prog G W0 f s) (h:Oks Go.Proofs.Tryz.prog G W0 ((f,ss)::r)) (hc:ue Go.Proofs.Tryz.prog f=true:=by kernel_rfl):Oks Go.Proofs.Tryz.prog G W0 ((f,s::ss)::r):= .cons _ _ _ _ hc hs h
theorem k1 {G:Nat->Prop}{W0:World}{f:Nat}{s:zy E}{r} (hs:Yq Go.Proofs.Tryz.prog G W0 f s) (h:Oks Go.Proofs.Tryz.prog G W0 r) (hc:ue Go.Proofs.Tryz.prog f=true:=by kernel_rfl):Oks Go.Proofs.Tryz.prog G W0 ((f,[s])::r):= .cons _ _ _ _ hc hs (.skip _ _ h)
abbrev Sd (G:Nat->Prop) (W0:World):=Yq (E:=E) Go.Proofs.Tryz.prog G W0
theorem gs {G:Nat->Prop}{W0:World}{l:List (Nat×List (zy E))}{loops mv kept pk its} {f:FuncId}{fn:Func}{inn out:xG}{gi go:List Grp}{hi:Zy E gi=inn.holes} {ho:Zy E go=out.holes} (h:Oks Go.Proofs.Tryz.prog G W0 l) (h2:Its Go.Proofs.Tryz.prog G W0 its) (hf:Go.Proofs.Tryz.prog.funcs[f]? =some fn:=by kernel_rfl) (hb:fn.body.isSome=true:=by kernel_rfl)
  (hk:(cf l loops mv kept pk its).kept=zig inn.blks 0:=by kernel_rfl) (hn:Nat.ble inn.vals.length fn.ntmps=true:=by kernel_rfl):Yq Go.Proofs.Tryz.prog G W0 f (sp (cf l loops mv kept pk its) fn inn out gi go hi ho):=zwb (C:=cf l loops mv kept pk its) zpL (ztB h) rfl (zy3 h2) ztA hf hb hk hn
variable {G:Nat->Prop}{W0:World}(hG:zmr G W0)
include hG
theorem Yv:Sd G W0 65 X5:=gs .nil .nil
theorem zrY:Sd G W0 108 zoQ:=gs .nil .nil
theorem zr9:Sd G W0 109 zn8:=gs .nil .nil
theorem zsu:Sd G W0 110 znR:=gs .nil .nil
theorem zsW:Sd G W0 111 zoD:=gs .nil .nil
theorem zbc:Sd G W0 112 ZZ:=gs .nil .nil
theorem Yf:Sd G W0 70 Uy:=gs (k1 (zrY hG) (k1 (zr9 hG) (k1 (zsu hG) (k1 (zsW hG) (k1 (zbc hG) .nil))))) .nil
theorem za8:Sd G W0 66 zaY:=gs (k1 (Yf hG) .nil) .nil
theorem zpr:Sd G W0 24 zkH:=gs (k1 (Yv hG) (k1 (za8 hG) .nil)) .nil
theorem Zs:Sd G W0 25 YM:=gs .nil .nil
theorem Z6:Sd G W0 50 YY:=gs (k1 (Zs hG) .nil) .nil
theorem Zo:Sd G W0 26 Yu:=gs (k1 (Z6 hG) .nil) .nil
theorem zcT:Sd G W0 27 zeh:=gs (k1 (zhu hG) .nil) .nil
theorem zaZ:Sd G W0 6 za4:=gs (k1 (zpr hG) (k1 (Zs hG) (k1 (Zo hG) (k1 (zcT hG) .nil)))) .nil
theorem yL:Sd G W0 30 yR:=gs .nil .nil
theorem Z8:Sd G W0 35 Xe:=gs .nil .nil
theorem zpi:Sd G W0 31 zhY:=gs (k1 (Z8 hG) (k1 (Yf hG) .nil)) .nil
theorem zdN:Sd G W0 73 zg4:=gs .nil .nil
theorem zgp:Sd G W0 33 zd7:=gs (k1 (zdN hG) .nil) .nil
theorem w8:Sd G W0 74 u7:=gs (k1 (Yf hG) .nil) .nil
theorem vQ:Sd G W0 75 vK:=gs .nil .nil
theorem xl:Sd G W0 76 xm:=gs .nil .nil
theorem zag:Sd G W0 77 U0:=gs .nil .nil
theorem Y7:Sd G W0 78 ZR:=gs .nil .nil
theorem uR:Sd G W0 79 vS:=gs (k1 (Y7 hG) .nil) .nil
theorem zpo:Sd G W0 34 zhr:=gs (k1 (w8 hG) (k1 (vQ hG) (k1 (xl hG) (k1 (zag hG) (k1 (Y7 hG) (k1 (uR hG) .nil)))))) .nil
theorem zac:Sd G W0 8 UR:=gs (k1 (zcT hG) (k1 (yL hG) (k1 (zpi hG) (k1 (zrG hG) (k1 (zgp hG) (k1 (zpo hG) (k1 (Z8 hG) .nil))))))) .nil
theorem zgM:Sd G W0 36 zec:=gs .nil .nil
theorem Ut:Sd G W0 9 V1:=gs (k1 (zcT hG) (k1 (yL hG) (k1 (zrG hG) (k1 (zgp hG) (k1 (zgM hG) .nil))))) .nil
theorem zbW:Sd G W0 29 YE:=gs (k1 (zzr hG) .nil) .nil
theorem zlX:Sd G W0 7 zlV:=gs (k1 (zhu hG) (k1 (zbW hG) .nil)) .nil
theorem zsD:Sd G W0 38 zof:=gs .nil .nil
theorem ztR:YJ Go.Proofs.Tryz.prog G W0 80 za3:=by
 obtain ⟨c,hc⟩:=zIy.1 zFj
 exact zoe (Cg:=Yb []) rfl zpL (fun f s hs=>Oks.at (k1 (zaZ hG) (k1 (zac hG) (k1 (Ut hG) .nil))) f s hs) rfl ztA (fun g it h=>by cases h) zFs zGx hc za3 (zHs (by kernel_rfl)) rfl zsB
theorem zbS:Sd G W0 11 zb6:=gs (k1 (zlX hG) (k1 (zsD hG) .nil)) (.cons _ _ _ (ztR hG) (.nil))
theorem zki:Sd G W0 12 za7:=gs .nil .nil
theorem zan:Sd G W0 83 U2:=gs .nil .nil
theorem zkS:Sd G W0 81 zbT:=gs (k1 (zan hG) .nil) .nil
theorem zmp:Sd G W0 115 zcD:=gs .nil .nil
theorem Xp:Sd G W0 113 wv:=gs (k1 (zmp hG) .nil) .nil
theorem YD:Sd G W0 86 xY:=gs (k1 (Xp hG) .nil) .nil
theorem znQ:Sd G W0 114 zeU:=gs (k1 (YD hG) .nil) .nil
theorem Xi:Sd G W0 141 ww:=gs (k1 (znQ hG) .nil) .nil
theorem Yw:Sd G W0 116 xV:=gs (k1 (Xi hG) .nil) .nil
theorem zgH:Sd G W0 82 zef:=gs (k1 (Yw hG) .nil) .nil
theorem zq7:Sd G W0 84 zmq:=gs .nil .nil
theorem zh5:Sd G W0 85 zgo:=gs .nil .nil
theorem zn0:Sd G W0 87 zfj:=gs (k1 (zan hG) .nil) .nil
theorem XP:Sd G W0 113 wH:=gs (k1 (zn0 hG) .nil) .nil
theorem Y6:Sd G W0 86 wn:=gs (k1 (XP hG) .nil) .nil
theorem zom:Sd G W0 143 zfk:=gs .nil .nil
theorem zpV:Sd G W0 119 zks:=gs (k1 (zom hG) .nil) .nil
theorem zpl:Sd G W0 118 zhU:=gs (k1 (zpV hG) .nil) .nil
theorem Yk:Sd G W0 142 xJ:=gs (k1 (zpl hG) .nil) .nil
theorem ZU:Sd G W0 117 xx:=gs (k1 (Yk hG) .nil) .nil
theorem zre:Sd G W0 88 zl1:=gs (k1 (ZU hG) .nil) .nil
theorem zg7:Sd G W0 99 zdv:=gs .nil .nil
theorem znU:Sd G W0 121 zeW:=gs (k1 (zg7 hG) .nil) .nil
theorem ZE:Sd G W0 144 xp:=gs (k1 (znU hG) .nil) .nil
theorem Zg:Sd G W0 120 xe:=gs (k1 (ZE hG) .nil) .nil
theorem zpH:Sd G W0 89 zjJ:=gs (k1 (Zg hG) .nil) .nil
theorem zqx:Sd G W0 39 zkh:=gs (k1 (zkS hG) (k1 (zgH hG) (k1 (zan hG) (k1 (zq7 hG) (k1 (zh5 hG) (k1 (Y6 hG) (k1 (zre hG) (k1 (zpH hG) .nil)))))))) .nil
theorem zlw:Sd G W0 100 zlh:=gs .nil .nil
theorem YR:Sd G W0 54 Uh:=gs (k1 (zlw hG) .nil) .nil
theorem zeZ:Sd G W0 56 zjG:=gs (k1 (YR hG) .nil) .nil
theorem zpS:Sd G W0 40 zj4:=gs (k1 (zeZ hG) .nil) .nil
theorem zkg:Sd G W0 90 zaM:=gs .nil .nil
theorem zrx:Sd G W0 41 zmt:=gs (k1 (zkg hG) .nil) .nil
theorem zpp:Sd G W0 42 zkr:=gs .nil .nil
theorem Wa:Sd G W0 43 wT:=gs (k1 (yL hG) .nil) .nil
theorem zph:Sd G W0 44 zhz:=gs .nil .nil
theorem zak:Sd G W0 45 UQ:=gs .nil .nil
theorem zrf:Sd G W0 46 zmR:=gs .nil .nil
theorem zeN:Sd G W0 47 WD:=gs .nil .nil
theorem zsy:Sd G W0 92 zoS:=gs .nil .nil
theorem ztK:YJ Go.Proofs.Tryz.prog G W0 122 zaW:=zsj G W0 hG
theorem zku:Sd G W0 48 zi0:=gs (k1 (zsy hG) .nil) (.cons _ _ _ (ztK hG) (.nil))
theorem zeQ:Sd G W0 93 zcB:=gs (k1 (Yf hG) .nil) .nil
theorem zgu:Sd G W0 94 zeq:=gs .nil .nil
theorem zq6:Sd G W0 49 zmj:=gs (k1 (zeQ hG) (k1 (zgu hG) .nil)) .nil
theorem zeB:YJ Go.Proofs.Tryz.prog G W0 91 vq:=zep G W0 hG
theorem zh7:Sd G W0 13 zgf:=gs (k1 (Zs hG) (k1 (Zo hG) (k1 (yL hG) (k1 (Z8 hG) (k1 (zqx hG) (k1 (zpS hG) (k1 (zrx hG) (k1 (zpp hG) (k1 (Wa hG) (k1 (zph hG) (k1 (zak hG) (k1 (zrf hG) (k1 (zeN hG) (k1 (zku hG) (k1 (zq6 hG) (k1 (Z6 hG) .nil)))))))))))))))) (.cons _ _ _ (zeB hG) (.nil))
theorem zla:Sd G W0 124 zbR:=gs .nil .nil
theorem zpc:Sd G W0 96 zhN:=gs (k1 (zla hG) .nil) .nil
theorem zng:Sd G W0 95 zed:=gs (k1 (zpc hG) .nil) .nil
theorem zfy:Sd G W0 214 Vx:=gs (k1 (Yv hG) (k1 (za8 hG) .nil)) .nil
theorem zhT:Sd G W0 215 Uz:=gs (k1 (Yv hG) (k1 (zeQ hG) .nil)) .nil
theorem zeD:Sd G W0 216 WN:=gs (k1 (Yv hG) (k1 (Yf hG) (k1 (zgu hG) .nil))) .nil
theorem zdq:Sd G W0 217 XG:=gs (k1 (Yv hG) (k1 (za8 hG) .nil)) .nil
theorem YH:Sd G W0 180 XR:=gs (k1 (zfy hG) (k1 (zhT hG) (k1 (zeD hG) (k1 (zdq hG) .nil)))) .nil
theorem zht:Sd G W0 145 UM:=gs (k1 (YH hG) .nil) .nil
theorem UW:Sd G W0 152 Xs:=gs .nil .nil
theorem zoH:Sd G W0 218 zfQ:=gs .nil .nil
theorem zoF:Sd G W0 218 zfW:=gs .nil .nil
theorem znZ:Sd G W0 218 zfr:=gs .nil .nil
theorem zoK:Sd G W0 218 zfp:=gs .nil .nil
theorem zbL:Sd G W0 228 Yd:=gs (k1 (w8 hG) (k1 (xl hG) .nil)) .nil
theorem xR:Sd G W0 242 xO:=gs .nil .nil
theorem zeL:Sd G W0 229 WM:=gs (k1 (w8 hG) (k1 (vQ hG) (k1 (Y7 hG) (k1 (xR hG) .nil)))) .nil
theorem Z9:Sd G W0 243 YZ:=gs (k1 (Yf hG) .nil) .nil
theorem ziB:Sd G W0 230 zaj:=gs (k1 (uR hG) (k1 (Z9 hG) .nil)) .nil
theorem zcS:Sd G W0 231 Xf:=gs (k1 (xl hG) (k1 (xR hG) (k1 (Z9 hG) .nil))) .nil
theorem zhh:Sd G W0 232 VL:=gs (k1 (xl hG) (k1 (Z9 hG) .nil)) .nil
theorem zdl:Sd G W0 233 XI:=gs (k1 (w8 hG) (k1 (vQ hG) (k1 (zag hG) .nil))) .nil
theorem ze5:Sd G W0 234 Vf:=gs (k1 (w8 hG) (k1 (uR hG) (k1 (xR hG) .nil))) .nil
theorem UX:Sd G W0 244 Xt:=gs (k1 (Yf hG) (k1 (vQ hG) .nil)) .nil
theorem zeI:Sd G W0 235 WF:=gs (k1 (UX hG) .nil) .nil
theorem zeG:Sd G W0 236 WB:=gs (k1 (xl hG) (k1 (xR hG) (k1 (Z9 hG) .nil))) .nil
theorem zfh:Sd G W0 237 Vs:=gs (k1 (xl hG) (k1 (xR hG) (k1 (Z9 hG) .nil))) .nil
theorem ze6:Sd G W0 238 Vp:=gs (k1 (w8 hG) (k1 (vQ hG) .nil)) .nil
theorem zfU:Sd G W0 239 W9:=gs (k1 (w8 hG) (k1 (xl hG) (k1 (zag hG) .nil))) .nil
theorem zeF:Sd G W0 240 WO:=gs (k1 (w8 hG) (k1 (uR hG) .nil)) .nil
theorem zdn:Sd G W0 241 Xv:=gs (k1 (xR hG) (k1 (UX hG) .nil)) .nil
theorem zgz:Sd G W0 181 zeA:=gs (k2 (zoH hG) (k2 (zoF hG) (k2 (znZ hG) (k2 (zoK hG) (.skip _ _ (k1 (zbL hG) (k1 (zeL hG) (k1 (ziB hG) (k1 (zcS hG) (k1 (zhh hG) (k1 (zdl hG) (k1 (ze5 hG) (k1 (zeI hG) (k1 (zeG hG) (k1 (zfh hG) (k1 (ze6 hG) (k1 (zfU hG) (k1 (zeF hG) (k1 (zdn hG) .nil))))))))))))))))))) .nil
theorem zdb:Sd G W0 183 zaD:=gs (k1 (Z8 hG) (k1 (zak hG) .nil)) .nil
theorem Wn:Sd G W0 219 WQ:=gs .nil .nil
theorem zbz:Sd G W0 185 VI:=gs (k1 (Zo hG) (k1 (Wn hG) .nil)) .nil
theorem zhP:Sd G W0 182 UD:=gs (k1 (Zs hG) (k1 (zdb hG) (k1 (zbz hG) .nil))) .nil
theorem ziy:Sd G W0 146 zai:=gs (k1 (UW hG) (k1 (zgz hG) (k1 (zhP hG) .nil))) .nil
theorem zgY:Sd G W0 147 VT:=gs (k1 (zdb hG) .nil) .nil
theorem vy:Sd G W0 184 wB:=gs .nil .nil
theorem zhZ:Sd G W0 148 Up:=gs (k1 (Z6 hG) (k1 (vy hG) (k1 (zbz hG) .nil))) .nil
theorem zc7:Sd G W0 151 zaB:=gs .nil .nil
theorem zbA:Sd G W0 220 VH:=gs .nil .nil
theorem zcF:Sd G W0 186 zey:=gs (k1 (zbA hG) .nil) .nil
theorem zaP:Sd G W0 187 zaR:=gs .nil .nil
theorem zhX:Sd G W0 149 Uk:=gs (k1 (zc7 hG) (k1 (zcF hG) (k1 (zaP hG) .nil))) .nil
theorem zdp:Sd G W0 188 XK:=gs .nil .nil
theorem zdu:Sd G W0 129 zg9:=gs (k1 (zlw hG) .nil) .nil
theorem zgA:Sd G W0 221 zev:=gs (k1 (YR hG) (k1 (zdu hG) .nil)) .nil
theorem uK:Sd G W0 222 v9:=gs (k1 (Zo hG) (k1 (Z6 hG) (k1 (Wn hG) .nil))) .nil
theorem zfs:Sd G W0 189 Vy:=gs (k1 (Z8 hG) (k1 (zak hG) (k1 (zgA hG) (k1 (uK hG) .nil)))) .nil
theorem zfE:Sd G W0 190 Vt:=gs .nil .nil
theorem zfA:Sd G W0 191 Vk:=gs (k1 (zgz hG) (k1 (uK hG) .nil)) .nil
theorem zfJ:Sd G W0 192 Vc:=gs (k1 (uK hG) .nil) .nil
theorem ze7:Sd G W0 193 Vm:=gs (k1 (YH hG) (k1 (uK hG) .nil)) .nil
theorem zfa:Sd G W0 194 Vh:=gs (k1 (Zs hG) (k1 (Zo hG) (k1 (vy hG) (k1 (Wn hG) .nil)))) .nil
theorem zdo:Sd G W0 195 XJ:=gs (k1 (YH hG) .nil) .nil
theorem zh1:Sd G W0 150 zge:=gs (k1 (zdp hG) (k1 (zfs hG) (k1 (zfE hG) (k1 (zfA hG) (k1 (zfJ hG) (k1 (ze7 hG) (k1 (zfa hG) (k1 (zdo hG) .nil)))))))) .nil
theorem zlR:Sd G W0 196 zli:=gs (k1 (zdu hG) .nil) .nil
theorem zbV:Sd G W0 153 zcm:=gs (k1 (YR hG) (k1 (zlR hG) .nil)) .nil
theorem Yz:Sd G W0 197 Zt:=gs .nil .nil
theorem znd:Sd G W0 199 zdM:=gs .nil .nil
theorem WW:Sd G W0 198 vm:=gs (k1 (znd hG) .nil) .nil
theorem zeO:Sd G W0 154 zcv:=gs (k1 (Yz hG) (k1 (WW hG) .nil)) .nil
theorem zhD:Sd G W0 125 UF:=gs (k1 (zht hG) (k1 (ziy hG) (k1 (zgY hG) (k1 (zhZ hG) (k1 (zhX hG) (k1 (zh1 hG) (k1 (zc7 hG) (k1 (UW hG) (k1 (zbV hG) (k1 (zeO hG) .nil)))))))))) .nil
theorem Wu:Sd G W0 126 wX:=gs .nil .nil
theorem zpb:Sd G W0 97 zhm:=gs (k1 (zhD hG) (k1 (Wu hG) .nil)) .nil
theorem vD:Sd G W0 200 ug:=gs .nil .nil
theorem uS:Sd G W0 204 vW:=gs .nil .nil
theorem Xa:Sd G W0 201 ZF:=gs (k1 (yL hG) (k1 (uS hG) .nil)) .nil
theorem zfI:Sd G W0 155 Vv:=gs (k1 (vD hG) (k1 (Xa hG) .nil)) .nil
theorem zfm:Sd G W0 156 Vb:=gs (k1 (zaP hG) .nil) .nil
theorem zhv:Sd G W0 157 UC:=gs (k1 (yL hG) .nil) .nil
theorem VA:Sd G W0 202 Z3:=gs (k1 (zh1 hG) .nil) .nil
theorem ze3:Sd G W0 158 Vj:=gs (k1 (VA hG) .nil) .nil
theorem za2:Sd G W0 203 WU:=gs (k1 (zcF hG) (k1 (vD hG) .nil)) .nil
theorem zgq:Sd G W0 159 V4:=gs (k1 (vD hG) (k1 (Xa hG) (k1 (za2 hG) .nil))) .nil
theorem zho:Sd G W0 160 Ur:=gs (k1 (vD hG) (k1 (za2 hG) (k1 (uS hG) .nil))) .nil
theorem zfK:Sd G W0 161 Vl:=gs (k1 (zlR hG) .nil) .nil
theorem zdm:Sd G W0 162 Xr:=gs (k1 (yL hG) .nil) .nil
theorem zsP:Sd G W0 205 zoG:=gs (k1 (yL hG) (k1 (vy hG) (k1 (zbA hG) .nil))) .nil
theorem zeS:Sd G W0 163 Vr:=gs (k1 (vD hG) (k1 (uS hG) (k1 (zsP hG) .nil))) .nil
theorem zml:Sd G W0 224 zcQ:=gs .nil .nil
theorem WC:Sd G W0 198 vd:=gs (k1 (zml hG) .nil) .nil
theorem V0:Sd G W0 227 Ym:=gs (k1 (Yz hG) .nil) .nil
theorem zgG:Sd G W0 223 zeo:=gs (k1 (V0 hG) .nil) .nil
theorem zoU:Sd G W0 206 zff:=gs (k1 (WC hG) (k1 (zgG hG) .nil)) .nil
theorem zdz:Sd G W0 225 Wi:=gs .nil .nil
theorem zqg:Sd G W0 207 zkf:=gs (k1 (zgH hG) (k1 (zdz hG) .nil)) .nil
theorem zqb:Sd G W0 208 zkj:=gs (k1 (zbV hG) (k1 (zgA hG) .nil)) .nil
theorem ze8:Sd G W0 164 Vo:=gs (k1 (vD hG) (k1 (Xa hG) (k1 (uS hG) (k1 (zoU hG) (k1 (zqg hG) (k1 (zqb hG) .nil)))))) .nil
theorem znh:Sd G W0 226 zdt:=gs .nil .nil
theorem W5:Sd G W0 198 vu:=gs (k1 (znh hG) .nil) .nil
theorem zpa:Sd G W0 209 zhA:=gs (k1 (Yz hG) (k1 (W5 hG) .nil)) .nil
theorem zoi:Sd G W0 210 zfv:=gs (k1 (zgG hG) (k1 (V0 hG) .nil)) .nil
theorem Ui:Sd G W0 211 YS:=gs (k1 (Zo hG) (k1 (Wn hG) .nil)) .nil
theorem zg5:Sd G W0 165 Ua:=gs (k1 (Zs hG) (k1 (zpa hG) (k1 (zoi hG) (k1 (Ui hG) .nil)))) .nil
theorem zhn:Sd G W0 166 Uo:=gs (k1 (YH hG) .nil) .nil
theorem zfi:Sd G W0 167 Vd:=gs (k1 (Z6 hG) (k1 (vy hG) (k1 (Ui hG) .nil))) .nil
theorem zhd:Sd G W0 168 VY:=gs (k1 (YH hG) .nil) .nil
theorem zeX:Sd G W0 169 Vq:=gs .nil .nil
theorem zco:Sd G W0 212 Ul:=gs .nil .nil
theorem zgt:Sd G W0 170 V5:=gs (k1 (zcF hG) (k1 (zaP hG) (k1 (zco hG) .nil))) .nil
theorem zhL:Sd G W0 171 UN:=gs (k1 (VA hG) (k1 (zco hG) .nil)) .nil
theorem zdY:Sd G W0 172 XX:=gs (k1 (zbV hG) (k1 (zeO hG) .nil)) .nil
theorem zes:Sd G W0 173 XW:=gs .nil .nil
theorem zgD:Sd G W0 127 Uc:=gs (k1 (zfI hG) (k1 (zfm hG) (k1 (zhv hG) (k1 (ze3 hG) (k1 (zgq hG) (k1 (zho hG) (k1 (zfK hG) (k1 (zdm hG) (k1 (zeS hG) (k1 (ze8 hG) (k1 (zg5 hG) (k1 (zhn hG) (k1 (zfi hG) (k1 (zhd hG) (k1 (zeX hG) (k1 (zgt hG) (k1 (zhL hG) (k1 (zdY hG) (k1 (zes hG) .nil))))))))))))))))))) .nil
theorem XN:Sd G W0 128 wI:=gs .nil .nil
theorem zoI:Sd G W0 98 zeR:=gs (k1 (zgD hG) (k1 (XN hG) .nil)) .nil
theorem zpj:Sd G W0 51 zhy:=gs (k1 (zng hG) (k1 (zpb hG) (k1 (zoI hG) (k1 (zg7 hG) .nil)))) .nil
theorem zbb:Sd G W0 14 zba:=gs (k1 (zpj hG) .nil) .nil
theorem zpt:Sd G W0 52 zjY:=gs .nil .nil
theorem znC:Sd G W0 15 zdR:=gs (k1 (zbb hG) (k1 (zpt hG) .nil)) .nil
theorem zkY:Sd G W0 16 zbI:=gs .nil .nil
theorem zc1:Sd G W0 53 zaC:=gs (k1 (zgM hG) .nil) .nil
theorem zrl:Sd G W0 55 zmW:=gs (k1 (zdN hG) .nil) .nil
theorem znY:Sd G W0 17 zfN:=gs (k1 (zc1 hG) (k1 (YR hG) (k1 (zrl hG) (k1 (zeZ hG) .nil)))) .nil
theorem zh9:Sd G W0 19 zgg:=gs (k1 (zeZ hG) .nil) .nil
theorem zl3:Sd G W0 101 zcH:=gs (k1 (YR hG) .nil) .nil
theorem zn4:Sd G W0 103 zfF:=gs .nil .nil
theorem zbQ:Sd G W0 102 Yj:=gs (k1 (zku hG) (k1 (zh5 hG) (k1 (zn4 hG) (k1 (zdu hG) .nil)))) .nil
theorem zp4:Sd G W0 57 zjp:=gs (k1 (zl3 hG) (k1 (zbQ hG) .nil)) .nil
theorem zrb:Sd G W0 18 zmu:=gs (k1 (zh9 hG) (k1 (zp4 hG) .nil)) .nil
theorem zoq:Sd G W0 58 ze9:=gs .nil .nil
theorem uV:Sd G W0 104 yW:=gs (k1 (zoq hG) .nil) .nil
theorem uA:Sd G W0 60 yP:=gs (k1 (uV hG) .nil) .nil
theorem zov:Sd G W0 59 zfz:=gs .nil .nil
theorem uE:Sd G W0 105 yT:=gs (k1 (zov hG) .nil) .nil
theorem un:Sd G W0 61 yK:=gs (k1 (uE hG) .nil) .nil
theorem zp0:Sd G W0 20 zka:=gs (k1 (zbS hG) (k1 (uA hG) (k1 (un hG) .nil))) .nil
theorem zq5:Sd G W0 62 zmX:=gs (k1 (zdN hG) .nil) .nil
theorem zra:Sd G W0 21 zl2:=gs (k1 (zc1 hG) (k1 (zq5 hG) .nil)) .nil
theorem zgB:Sd G W0 4 V2:=gs (k1 (zaZ hG) (k1 (zac hG) (k1 (Ut hG) (k1 (zbS hG) (k1 (zki hG) (k1 (zh7 hG) (k1 (zbb hG) (k1 (znC hG) (k1 (zkY hG) (k1 (znY hG) (k1 (zrb hG) (k1 (zh9 hG) (k1 (zp0 hG) (k1 (zra hG) .nil)))))))))))))) .nil
theorem XZ:Sd G W0 63 Zb:=gs .nil .nil
theorem zdx:Sd G W0 64 Wk:=gs (k1 (XZ hG) .nil) .nil
theorem zkL:Sd G W0 22 zbN:=gs (k1 (YR hG) (k1 (XZ hG) (k1 (zdx hG) .nil))) .nil
theorem zjh:Sd G W0 23 zaL:=gs .nil .nil
theorem zkJ:Sd G W0 5 zbG:=gs (k1 (zh7 hG) (k1 (zbb hG) (k1 (zkL hG) (k1 (zjh hG) .nil)))) .nil
theorem zcP:Sd G W0 37 Y5:=gs .nil .nil
theorem zrX:Sd G W0 10 zn1:=gs (k1 (zhu hG) (k1 (zcP hG) .nil)) .nil
theorem zfS:Sd G W0 3 Vg:=gs (k1 (zgB hG) (k1 (zkJ hG) (k1 (zaZ hG) (k1 (zlX hG) (k1 (zac hG) (k1 (Ut hG) (k1 (zrX hG) (k1 (zbS hG) .nil)))))))) .nil
end Go.Pe.G
