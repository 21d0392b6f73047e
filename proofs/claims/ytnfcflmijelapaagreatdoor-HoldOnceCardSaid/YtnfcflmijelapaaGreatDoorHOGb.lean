/- Own work of this seat: G4e, G4f, EQ, G2i, GH, GW, GX, G3. -/
import Derived.Test.YtnfcflmijelapaaGreatDoorHOGa
import Derived.Tactics
import Derived.Tactics2
import Derived.Shelf.SlicesE.DeleteFunc
import Derived.Shelf.Spec.SlicesGrow
set_option linter.unusedVariables false
set_option linter.unusedSectionVars false
set_option linter.unusedSimpArgs false
set_option linter.unnecessarySimpa false
set_option linter.deprecated false
set_option maxRecDepth 100000
namespace Go.Pe.G
open Go.Pe
theorem zie (a1:zq):zb5 a1 =
 (vb a1).bind fun y1 =>
 (idx a1.Mutator.Regs y1.1.A).bind fun x2 =>
 (idx a1.Mutator.Regs y1.1.R).bind fun x3 =>
 (zn6 a1.s.H x2 y1.1.S x3).bind fun y4 =>
 (Zu ({a1 with s:={a1.s with H:=y4.1}})).bind fun y5 =>
 some (y5.1,()):=zr (by kernel_rfl)
theorem zoY (a1:Int) (a2:Int):Uk a1 a2 =
 some (w64 (a1-a2),()):=zr (by kernel_rfl)
theorem Vx (a1:zk) (a2:Int) (a3:Int):ZP a1 a2 a3 =
 bif decide (((a1.Bal.length:Int))=((a1.Bal.length:Int))) then
 (Wf ((a1.Bal.length:Int))).bind fun n1 =>
 bif decide (a1.Bal.length=((List.replicate n1 ((0:Int))).length)) then
  bif a1.Bal.isEmpty then
  (xt (List.replicate n1 ((0:Int))) (w64 (a2-1))).bind fun n2 =>
  ((List.replicate n1 ((0:Int)))[n2]?).bind fun x3 =>
  (Uk x3 a3).bind fun y4 =>
  (xt (List.replicate n1 ((0:Int))) (w64 (a2-1))).bind fun n5 =>
  some ({a1 with Bal:=(List.replicate n1 ((0:Int))).set n5 y4.1},())
  else
  (xt a1.Bal (w64 (a2-1))).bind fun n6 =>
  (a1.Bal[n6]?).bind fun x7 =>
  (Uk x7 a3).bind fun y8 =>
  (xt a1.Bal (w64 (a2-1))).bind fun n9 =>
  some ({a1 with Bal:=a1.Bal.set n9 y8.1},())
 else
  none
 else
 none:=zr (by kernel_rfl)
theorem ziK (a1:zk) (a2:Int) (a3:Int) (a4:Int):Yq a1 a2 a3 a4 =
 (Zs a1 a2).bind fun y1 =>
 bif y1.1 then
 bif decide (0≤(bif decide (a4<a3) then a4 else a3)) then
  some (decide ((bif decide (a3<a4) then a4 else a3)≤1000000),())
 else
  some (false,())
 else
 some (false,()):=zr (by kernel_rfl)
theorem zsQ (a1:zk) (a2:Int) (a3:Int) (a4:Int):zdz a1 a2 a3 a4 =
 (Yq a1 a2 a3 a4).bind fun y1 =>
 bif y1.1 then
 (idx a1.Bal (w64 (a2-1))).bind fun x2 =>
 some (decide ((w64 (0-a4))≤(w64 (x2-a3))),())
 else
 some (false,()):=zr (by kernel_rfl)
theorem zq0 (a1:zk) (a2:Int) (a3:Int) (a4:Int):zeU a1 a2 a3 a4 =
 (zdz a1 a2 a3 a4).bind fun y1 =>
 bif !y1.1 then
 some (a1,false,())
 else
 (ZP ({a1 with Spent:=w64 (a1.Spent+a3)}) a2 a3).bind fun y2 =>
 some (y2.1,true,()):=zr (by kernel_rfl)
theorem zg0 (a1:List (List Int)):X2 a1 =
 bif decide (0=0)&&decide (((a1.length:Int))=0)&&decide (((a1.length:Int))=0) then
 none
 else
 bif decide (0=0)&&decide (((a1.length:Int))=((a1.length:Int)))&&decide (((a1.length:Int))=((a1.length:Int))) then
  some (a1,())
 else
  bif decide (((a1.length:Int))=((a1.length:Int))) then
  (cut a1 0 ((a1.length:Int))).bind fun l1 =>
  none
  else
  none:=zr (by kernel_rfl)
theorem zum (a1:zt) (a2:Int):zko a1 a2 =
 (zaK a1).bind fun y1 =>
 bif !y1.1 then
 some (a1,0,1,())
 else
 bif decide ((bif decide (64<a2) then 64 else a2)≤((a1.Objs.length:Int))) then
  some (a1,0,4,())
 else
  (X2 a1.Objs).bind fun y2 =>
  bif decide (a1.Slots=a1.Slots) then
  (Wf a1.Slots).bind fun n3 =>
  (yc (y2.1++(([(List.replicate n3 ((0:Int)))]:List (List Int))))).bind fun l4 =>
  some ({a1 with Objs:=l4},(l4.length:Int),0,())
  else
  none:=zr (by kernel_rfl)
theorem zta (a1:zo) (a2:Int):zj1 a1 a2 =
 (zd4 a1 a2).bind fun y1 =>
 bif !y1.2.1 then
 some (a1,false,())
 else
 (UX y1.1 a2).bind fun y2 =>
 some (y2.1,y2.2.1,()):=zr (by kernel_rfl)
theorem ziH (a1:zq):zb7 a1 =
 (zeU a1.s.L a1.m a1.s.P.Price a1.s.P.Limit).bind fun y1 =>
 bif !y1.2.1 then
 some ({a1 with Mutator:={a1.Mutator with PC:=31}},())
 else
 (zko a1.s.H a1.s.P.Most).bind fun y2 =>
 bif !(decide (y2.2.2.1=0)) then
  (Zu a1).bind fun y3 =>
  some (y3.1,())
 else
  (zj1 a1.s.T y2.2.1).bind fun y4 =>
  (vb ({a1 with s:={a1.s with H:=y2.1,T:=y4.1,L:=y1.1}})).bind fun y5 =>
  (ut y5.1.R y2.2.1 ({a1 with s:={a1.s with H:=y2.1,T:=y4.1,L:=y1.1}})).bind fun y6 =>
  some (y6.1,()):=zr (by kernel_rfl)
theorem zp6 (a1:Int) (a2:Int):zav a1 a2 =
 some (w64 (a1+a2),()):=zr (by kernel_rfl)
theorem VW (a1:zk) (a2:Int) (a3:Int):ZY a1 a2 a3 =
 bif decide (((a1.Bal.length:Int))=((a1.Bal.length:Int))) then
 (Wf ((a1.Bal.length:Int))).bind fun n1 =>
 bif decide (a1.Bal.length=((List.replicate n1 ((0:Int))).length)) then
  bif a1.Bal.isEmpty then
  (xt (List.replicate n1 ((0:Int))) (w64 (a2-1))).bind fun n2 =>
  ((List.replicate n1 ((0:Int)))[n2]?).bind fun x3 =>
  (zav x3 a3).bind fun y4 =>
  (xt (List.replicate n1 ((0:Int))) (w64 (a2-1))).bind fun n5 =>
  some ({a1 with Bal:=(List.replicate n1 ((0:Int))).set n5 y4.1},())
  else
  (xt a1.Bal (w64 (a2-1))).bind fun n6 =>
  (a1.Bal[n6]?).bind fun x7 =>
  (zav x7 a3).bind fun y8 =>
  (xt a1.Bal (w64 (a2-1))).bind fun n9 =>
  some ({a1 with Bal:=a1.Bal.set n9 y8.1},())
 else
  none
 else
 none:=zr (by kernel_rfl)
theorem zrJ (a1:zk) (a2:Int) (a3:Int):zhi a1 a2 a3 =
 (Zs a1 a2).bind fun y1 =>
 bif !y1.1 then
 some (a1,0,())
 else
 bif decide ((bif decide (a1.Pool<a3) then a1.Pool else a3)≤0) then
  some (a1,0,())
 else
  (ZY ({a1 with Pool:=w64 (a1.Pool-(bif decide (a1.Pool<a3) then a1.Pool else a3))}) a2 (bif decide (a1.Pool<a3) then a1.Pool else a3)).bind fun y2 =>
  some (y2.1,bif decide (a1.Pool<a3) then a1.Pool else a3,()):=zr (by kernel_rfl)
theorem zq7 (a1:zk) (a2:Int) (a3:Int) (a4:Int):ze4 a1 a2 a3 a4 =
 (Yq a1 a2 a3 a4).bind fun y1 =>
 bif !y1.1 then
 some (-1,())
 else
 (zdz a1 a2 a3 a4).bind fun y2 =>
 bif y2.1 then
  some (0,())
 else
  (idx a1.Bal (w64 (a2-1))).bind fun x3 =>
  some (w64 ((w64 (a3-a4))-x3),()):=zr (by kernel_rfl)
theorem zjC (a1:Int) (a2:Int) (a3:Int) (a4:zq):YS a1 a2 a3 a4 =
 (ZR a4.s.P).bind fun y1 =>
 (US a1 a2 y1.1 a4.Mutator.Bin).bind fun y2 =>
 some ({a4 with Mutator:={a4.Mutator with PC:=a3,C:=y2.1}},()):=zr (by kernel_rfl)
theorem zjV (a1:zq):zcN a1 =
 (ze4 a1.s.L a1.m a1.s.P.Price a1.s.P.Limit).bind fun y1 =>
 (zhi a1.s.L a1.m y1.1).bind fun y2 =>
 bif decide (y2.2.1=0) then
 (Yw a1.s.P).bind fun y3 =>
 (YS 2 y3.1 32 (zq.mk {a1.Mutator with PC:=0} {a1.s with L:=y2.1} a1.m)).bind fun y4 =>
 some (y4.1,())
 else
 some (zq.mk {a1.Mutator with PC:=0} {a1.s with L:=y2.1} a1.m,()):=zr (by kernel_rfl)
theorem zkG (a1:zq):zdC a1 =
 (X5 a1.s.M a1.Mutator.C).bind fun y1 =>
 bif decide (y1.2.1.Out=1) then
 some (zq.mk {a1.Mutator with PC:=33,Bin:=y1.2.1.X,C:=y1.2.1} {a1.s with M:=y1.1} a1.m,())
 else
 bif decide (y1.2.1.Out=2) then
  some (zq.mk {a1.Mutator with PC:=0,C:=y1.2.1} {a1.s with M:=y1.1} a1.m,())
 else
  some (zq.mk {a1.Mutator with C:=y1.2.1} {a1.s with M:=y1.1} a1.m,()):=zr (by kernel_rfl)
theorem zid (a1:zq):zb1 a1 =
 (idx a1.s.Bins a1.Mutator.Bin).bind fun x1 =>
 (wA a1.s.Bins).bind fun y2 =>
 (xt y2.1 a1.Mutator.Bin).bind fun n3 =>
 (Y5 a1.s.P).bind fun y4 =>
 (YS 1 y4.1 34 (zq.mk {a1.Mutator with Batch:=x1} {a1.s with Bins:=y2.1.set n3 ([]:List Int)} a1.m)).bind fun y5 =>
 some (y5.1,()):=zr (by kernel_rfl)
theorem zi9 (a1:zq):zcI a1 =
 (X5 a1.s.M a1.Mutator.C).bind fun y1 =>
 bif decide (y1.2.1.Out=1) then
 some (zq.mk {a1.Mutator with PC:=35,Bin:=0,C:=y1.2.1} {a1.s with M:=y1.1} a1.m,())
 else
 some (zq.mk {a1.Mutator with C:=y1.2.1} {a1.s with M:=y1.1} a1.m,()):=zr (by kernel_rfl)
theorem zii (a1:zq):zcc a1 =
 bif decide (0<((a1.Mutator.Batch.length:Int))) then
 (idx a1.Mutator.Batch 0).bind fun x1 =>
 (cut a1.Mutator.Batch 1 ((a1.Mutator.Batch.length:Int))).bind fun l2 =>
 some ({a1 with Mutator:={a1.Mutator with PC:=36,Obj:=x1,Slot:=0,Batch:=l2}},())
 else
 some ({a1 with Mutator:={a1.Mutator with PC:=0}},()):=zr (by kernel_rfl)
theorem zoT (a1:zq):Uv a1 =
 bif decide (a1.Mutator.Slot=a1.s.H.Slots) then
 some (38,())
 else
 some (36,()):=zr (by kernel_rfl)
theorem zka (a1:zq):zc1 a1 =
 (zdR a1.s.H a1.Mutator.Obj a1.Mutator.Slot).bind fun y1 =>
 (Uv ({a1 with Mutator:={a1.Mutator with Slot:=w64 (a1.Mutator.Slot+1)}})).bind fun y2 =>
 bif !(decide (y1.1=0)) then
 (zaB 3 y1.1 a1.m).bind fun y3 =>
 some ({a1 with Mutator:={a1.Mutator with PC:=37,Slot:=w64 (a1.Mutator.Slot+1),G:=y3.1}},())
 else
 some ({a1 with Mutator:={a1.Mutator with PC:=y2.1,Slot:=w64 (a1.Mutator.Slot+1)}},()):=zr (by kernel_rfl)
theorem zkv (a1:zq):zdE a1 =
 (Uv a1).bind fun y1 =>
 (Z2 y1.1 a1).bind fun y2 =>
 some (y2.1,()):=zr (by kernel_rfl)
theorem zgh (a1:zq):zaR a1 =
 (UX a1.s.T a1.Mutator.Obj).bind fun y1 =>
 (UQ a1.s.L a1.m).bind fun y2 =>
 some (zq.mk {a1.Mutator with PC:=39} {a1.s with T:=y1.1,L:=y2.1} a1.m,()):=zr (by kernel_rfl)
theorem zgR (a1:zq):zaS a1 =
 some (zq.mk {a1.Mutator with PC:=35,Obj:=0} {a1.s with Work:=w64 (a1.s.Work-1)} a1.m,()):=zr (by kernel_rfl)
theorem zjD (a1:zq):VT a1 =
 bif decide (a1.Mutator.PC=0) then
 (Va a1).bind fun y1 =>
 some (y1.1,())
 else
 bif decide (a1.Mutator.PC=1) then
  (zbZ a1).bind fun y2 =>
  some (y2.1,())
 else
  bif decide (a1.Mutator.PC=2) then
  (zei a1).bind fun y3 =>
  some (zq.mk y3.1 (za.mk y3.2.1 y3.2.2.1 y3.2.2.2.1 y3.2.2.2.2.1 y3.2.2.2.2.2.1 y3.2.2.2.2.2.2.1 y3.2.2.2.2.2.2.2.1 y3.2.2.2.2.2.2.2.2.1 y3.2.2.2.2.2.2.2.2.2.1 y3.2.2.2.2.2.2.2.2.2.2.1 y3.2.2.2.2.2.2.2.2.2.2.2.2.2.2.2.2.1 y3.2.2.2.2.2.2.2.2.2.2.2.1 y3.2.2.2.2.2.2.2.2.2.2.2.2.1 y3.2.2.2.2.2.2.2.2.2.2.2.2.2.1 y3.2.2.2.2.2.2.2.2.2.2.2.2.2.2.1) y3.2.2.2.2.2.2.2.2.2.2.2.2.2.2.2.1,())
  else
  bif decide (a1.Mutator.PC=3) then
   (zb4 a1).bind fun y4 =>
   some (y4.1,())
  else
   bif decide (a1.Mutator.PC=10) then
   (zcL a1).bind fun y5 =>
   some (y5.1,())
   else
   bif decide (a1.Mutator.PC=20) then
    (zdO a1).bind fun y6 =>
    some (y6.1,())
   else
    bif decide (a1.Mutator.PC=21) then
    (zbU a1).bind fun y7 =>
    some (y7.1,())
    else
    bif decide (a1.Mutator.PC=22) then
     (zaq a1).bind fun y8 =>
     some (y8.1,())
    else
     bif decide (a1.Mutator.PC=23) then
     (zb5 a1).bind fun y9 =>
     some (y9.1,())
     else
     bif decide (a1.Mutator.PC=30) then
      (zb7 a1).bind fun y10 =>
      some (y10.1,())
     else
      bif decide (a1.Mutator.PC=31) then
      (zcN a1).bind fun y11 =>
      some (y11.1,())
      else
      bif decide (a1.Mutator.PC=32) then
       (zdC a1).bind fun y12 =>
       some (y12.1,())
      else
       bif decide (a1.Mutator.PC=33) then
       (zb1 a1).bind fun y13 =>
       some (y13.1,())
       else
       bif decide (a1.Mutator.PC=34) then
        (zcI a1).bind fun y14 =>
        some (y14.1,())
       else
        bif decide (a1.Mutator.PC=35) then
        (zcc a1).bind fun y15 =>
        some (y15.1,())
        else
        bif decide (a1.Mutator.PC=36) then
         (zc1 a1).bind fun y16 =>
         some (y16.1,())
        else
         bif decide (a1.Mutator.PC=37) then
         (zdE a1).bind fun y17 =>
         some (y17.1,())
         else
         bif decide (a1.Mutator.PC=38) then
          (zaR a1).bind fun y18 =>
          some (y18.1,())
         else
          bif decide (a1.Mutator.PC=39) then
          (zaS a1).bind fun y19 =>
          some (y19.1,())
          else
          some (a1,()):=zr (by kernel_rfl)
theorem Wz (a1:List zc):wG a1 =
 bif a1.isEmpty then
 zjY (
  some (([]:List zc),())) (
  (yc (([]:List zc)++a1)).bind fun l1 =>
  some (l1,()))
 else
 (yc (([]:List zc)++a1)).bind fun l2 =>
 some (l2,()):=zr (by kernel_rfl)
theorem zqT (a1:za) (a2:Int):zfw a1 a2 =
 bif a1.Done then
 some (a1,())
 else
 bif decide (a2<1) then
  some (a1,())
 else
  bif decide (((a1.Ms.length:Int))<a2) then
  some (a1,())
  else
  (idx a1.Ms (w64 (a2-1))).bind fun x1 =>
  (VT (zq.mk x1 a1 a2)).bind fun y2 =>
  (wG y2.1.s.Ms).bind fun y3 =>
  (xt y3.1 (w64 (a2-1))).bind fun n4 =>
  some ({y2.1.s with Ms:=y3.1.set n4 y2.1.Mutator},()):=zr (by kernel_rfl)
theorem zsx (a1:za) (a2:zg):zck a1 a2 =
 (zja a2).bind fun y1 =>
 bif !y1.1 then
 some (a1,())
 else
 bif decide (a2.Kind=0) then
  (zlw a1 a2.N).bind fun y2 =>
  some (y2.1,())
 else
  bif decide (a2.Kind=1) then
  (zhg a1 a2.N).bind fun y3 =>
  some (y3.1,())
  else
  bif decide (a2.Kind=2) then
   (zfw a1 a2.N).bind fun y4 =>
   some (y4.1,())
  else
   none:=zr (by kernel_rfl)
theorem zqc (s1:List zg) (s2:List zg) (s3:Int) (s4:Int) (s5:za) (s6:Int) (s7:Int) (s8:Int) (s9:Int) (s10:Int) (s11:Int) (s12:Int) (s13:Int) (s14:Int) (s15:BitVec 64) (s16:Int) (s17:zo) (s18:Int) (s19:Int) (s20:Bool) (s21:Bool) (s22:Int) (s23:Int) (s24:Int) (s25:Int) (s26:zw) (s27:List (List Int)) (s28:List (List Int)) (s29:List (List zm)) (s30:List zg) (s31:List (List Int)) (s32:List (BitVec 64)) (s33:List (List Int)) (s34:List Int) (s35:List Int) (s36:List zh) (s37:List zc):zd0 (s1,s2,s3,s4,s5,s6,s7,s8,s9,s10,s11,s12,s13,s14,s15,s16,s17,s18,s19,s20,s21,s22,s23,s24,s25,s26,s27,s28,s29,s30,s31,s32,s33,s34,s35,s36,s37,()) =
 bif decide (s4<s3) then
 (idx s2 s4).bind fun x1 =>
 bif s5.Done then
  some (.ret (s4,s5,()))
 else
  (zck s5 x1).bind fun y2 =>
  some (.again (s1,s2,s3,w64 (s4+1),y2.1,s6,s7,s8,s9,s10,s11,s12,s13,s14,s15,s16,s17,s18,s19,s20,s21,s22,s23,s24,s25,s26,s27,s28,s29,s30,s31,s32,s33,s34,s35,s36,s37,()))
 else
 some (.brk (s1,s5,s6,s7,s8,s9,s10,s11,s12,s13,s14,s15,s16,s17,s18,s19,s20,s21,s22,s23,s24,s25,s26,s27,s28,s29,s30,s31,s32,s33,s34,s35,s36,s37,())):=by kernel_rfl
theorem ztL (a1:za) (a2:List zg):uZ a1 a2 =
 (zO zd0 (a2,a2,(a2.length:Int),0,a1,0,0,0,0,0,0,0,0,0,0#64,0,zo.mk 0#64 0#64,0,0,false,false,0,0,0,0,zw.mk 0 0,([]:List (List Int)),([]:List (List Int)),([]:List (List zm)),([]:List zg),([]:List (List Int)),([]:List (BitVec 64)),([]:List (List Int)),([]:List Int),([]:List Int),([]:List zh),([]:List zc),())).bind fun st=>match st with
  | .again _=>none
  | .brk y1 =>
  some (y1.2.1,(y1.1.length:Int),())
  | .ret y1 =>
  some (y1.2.1,y1.1,()):=zr (by kernel_rfl)
theorem zpm (s1:Int) (s2:Int) (s3:Int) (s4:List zg):zdm (s1,s2,s3,s4,()) =
 bif decide (s3<s2) then
 (yc (s4++(([(zg.mk 1 (w64 (s3+1)))]:List zg)))).bind fun l1 =>
 some (.again (s1,s2,w64 (s3+1),l1,()))
 else
 some (.brk (s1,s4,())):=by kernel_rfl
theorem zp9 (s1:Int) (s2:Int) (s3:List zg):zdq (s1,s2,s3,()) =
 bif decide (s2<s1) then
 (yc (s3++(([(zg.mk 2 (w64 (s2+1)))]:List zg)))).bind fun l1 =>
 some (.again (s1,w64 (s2+1),l1,()))
 else
 some (.brk (s3,())):=by kernel_rfl
theorem zsY (a1:Int) (a2:Int):zjO a1 a2 =
 (zO zdm (a2,bif decide ((bif decide (16<a1) then 16 else a1)<0) then 0 else (bif decide (16<a1) then 16 else a1),0,([(zg.mk 0 0)]:List zg),())).bind fun st=>match st with
  | .again _=>none
  | .brk y1 =>
  (zO zdq (bif decide ((bif decide (16<y1.1) then 16 else y1.1)<0) then 0 else (bif decide (16<y1.1) then 16 else y1.1),0,y1.2.1,())).bind fun st=>match st with
   | .again _=>none
   | .brk y2 =>
   some (y2.1,())
   | .ret y2 =>
   none
  | .ret y1 =>
  none:=zr (by kernel_rfl)
theorem zmW (s1:Int) (s2:List zg) (s3:Int) (s4:za) (s5:Int) (s6:Int) (s7:Int) (s8:Int) (s9:Int) (s10:Int) (s11:Int) (s12:Int) (s13:Int) (s14:BitVec 64) (s15:Int) (s16:zo) (s17:Int) (s18:Int) (s19:Bool) (s20:Bool) (s21:Int) (s22:Int) (s23:Int) (s24:Int) (s25:zw) (s26:List (List Int)) (s27:List (List Int)) (s28:List (List zm)) (s29:List zg) (s30:List (List Int)) (s31:List (BitVec 64)) (s32:List (List Int)) (s33:List Int) (s34:List Int) (s35:List zh) (s36:List zc):zaP (s1,s2,s3,s4,s5,s6,s7,s8,s9,s10,s11,s12,s13,s14,s15,s16,s17,s18,s19,s20,s21,s22,s23,s24,s25,s26,s27,s28,s29,s30,s31,s32,s33,s34,s35,s36,()) =
 bif decide (s3<s1) then
 bif !s4.Done then
  (uZ s4 s2).bind fun y1 =>
  some (.again (s1,s2,w64 (s3+1),y1.1,s5,s6,s7,s8,s9,s10,s11,s12,s13,s14,s15,s16,s17,s18,s19,s20,s21,s22,s23,s24,s25,s26,s27,s28,s29,s30,s31,s32,s33,s34,s35,s36,()))
 else
  some (.brk (s3,s4,s5,s6,s7,s8,s9,s10,s11,s12,s13,s14,s15,s16,s17,s18,s19,s20,s21,s22,s23,s24,s25,s26,s27,s28,s29,s30,s31,s32,s33,s34,s35,s36,()))
 else
 some (.brk (s3,s4,s5,s6,s7,s8,s9,s10,s11,s12,s13,s14,s15,s16,s17,s18,s19,s20,s21,s22,s23,s24,s25,s26,s27,s28,s29,s30,s31,s32,s33,s34,s35,s36,())):=by kernel_rfl
theorem zpP (a1:za) (a2:Int):zan a1 a2 =
 (zjO ((a1.Ws.length:Int)) ((a1.Ms.length:Int))).bind fun y1 =>
 (zO zaP (a2,y1.1,0,a1,0,0,0,0,0,0,0,0,0,0#64,0,zo.mk 0#64 0#64,0,0,false,false,0,0,0,0,zw.mk 0 0,([]:List (List Int)),([]:List (List Int)),([]:List (List zm)),([]:List zg),([]:List (List Int)),([]:List (BitVec 64)),([]:List (List Int)),([]:List Int),([]:List Int),([]:List zh),([]:List zc),())).bind fun st=>match st with
  | .again _=>none
  | .brk y2 =>
  some (y2.2.1,y2.1,())
  | .ret y2 =>
  none:=zr (by kernel_rfl)
theorem zkP (s1:List Int) (s2:List Int) (s3:Int):Up (s1,s2,s3,()) =
 bif decide (s3<((s1.length:Int))) then
 (idx s1 s3).bind fun x1 =>
 (idx s2 s3).bind fun x2 =>
 bif !(decide (x1=x2)) then
  some (.ret (false,()))
 else
  some (.again (s1,s2,w64 (s3+1),()))
 else
 some (.brk (())):=by kernel_rfl
theorem zn8 (a1:List Int) (a2:List Int):ZU a1 a2 =
 bif !(decide (((a1.length:Int))=((a2.length:Int)))) then
 some (false,())
 else
 (zO Up (a1,a2,0,())).bind fun st=>match st with
  | .again _=>none
  | .brk y1 =>
  some (true,())
  | .ret y1 =>
  some (y1.1,()):=zr (by kernel_rfl)
theorem zcR (s1:List zh) (s2:Int) (s3:Int) (s4:za) (s5:List zu):Yx (s1,s2,s3,s4,s5,()) =
 bif decide (s3<s2) then
 (idx s1 s3).bind fun x1 =>
 bif decide (x1.PC=6) then
  (yc (s5++([x1.G]:List zu))).bind fun l2 =>
  some (.again (s1,s2,w64 (s3+1),s4,l2,()))
 else
  some (.again (s1,s2,w64 (s3+1),s4,s5,()))
 else
 some (.brk (s4,s5,())):=by kernel_rfl
theorem zcX (s1:List zc) (s2:Int) (s3:Int) (s4:List zu):YG (s1,s2,s3,s4,()) =
 bif decide (s3<s2) then
 (idx s1 s3).bind fun x1 =>
 (uf x1).bind fun y2 =>
 bif y2.1 then
  (yc (s4++([x1.G]:List zu))).bind fun l3 =>
  some (.again (s1,s2,w64 (s3+1),l3,()))
 else
  some (.again (s1,s2,w64 (s3+1),s4,()))
 else
 some (.brk (s4,())):=by kernel_rfl
theorem zo7 (a1:za):zam a1 =
 (zO Yx (a1.Ws,(a1.Ws.length:Int),0,a1,([]:List zu),())).bind fun st=>match st with
  | .again _=>none
  | .brk y1 =>
  (zO YG (y1.1.Ms,(y1.1.Ms.length:Int),0,y1.2.1,())).bind fun st=>match st with
   | .again _=>none
   | .brk y2 =>
   some (y2.1,())
   | .ret y2 =>
   none
  | .ret y1 =>
  none:=zr (by kernel_rfl)
theorem zux (a1:zu):zmp a1 =
 (zle a1 0 1 a1.Obj).bind fun y1 =>
 some (y1.1,()):=zr (by kernel_rfl)
theorem zej (s1:BitVec 64) (s2:Int) (s3:Int) (s4:za) (s5:List zu):Xh (s1,s2,s3,s4,s5,()) =
 bif decide (s3<s2) then
 (xt s5 s3).bind fun n1 =>
 (s5[n1]?).bind fun x2 =>
 (zmp x2).bind fun y3 =>
 (ZZ s1 y3.1).bind fun y4 =>
 some (.again (y4.1,s2,w64 (s3+1),s4,s5,()))
 else
 some (.brk (s1,s4,())):=by kernel_rfl
theorem zdi (s1:BitVec 64) (s2:List zc) (s3:Int) (s4:Int):Xi (s1,s2,s3,s4,()) =
 bif decide (s4<s3) then
 (idx s2 s4).bind fun x1 =>
 (zfA x1.Buf).bind fun y2 =>
 bif decide (x1.PC=21) then
  (ZZ (s1|||y2.1) x1.Old).bind fun y3 =>
  some (.again (y3.1,s2,s3,w64 (s4+1),()))
 else
  bif decide (x1.PC=22) then
  (ZZ (s1|||y2.1) x1.Old).bind fun y4 =>
  some (.again (y4.1,s2,s3,w64 (s4+1),()))
  else
  bif decide (x1.Ret=22) then
   bif decide (x1.PC=1) then
   (ZZ (s1|||y2.1) x1.Old).bind fun y5 =>
   some (.again (y5.1,s2,s3,w64 (s4+1),()))
   else
   bif decide (x1.PC=3) then
    (ZZ (s1|||y2.1) x1.Old).bind fun y6 =>
    some (.again (y6.1,s2,s3,w64 (s4+1),()))
   else
    some (.again (s1|||y2.1,s2,s3,w64 (s4+1),()))
  else
   some (.again (s1|||y2.1,s2,s3,w64 (s4+1),()))
 else
 some (.brk (s1,())):=by kernel_rfl
theorem zq6 (a1:za):XI a1 =
 (zam a1).bind fun y1 =>
 (zO Xh (0#64,(y1.1.length:Int),0,a1,y1.1,())).bind fun st=>match st with
  | .again _=>none
  | .brk y2 =>
  (zO Xi (y2.1,y2.2.1.Ms,(y2.2.1.Ms.length:Int),0,())).bind fun st=>match st with
   | .again _=>none
   | .brk y3 =>
   some (y3.1,())
   | .ret y3 =>
   none
  | .ret y2 =>
  none:=zr (by kernel_rfl)
theorem zhW (s1:BitVec 64) (s2:List zc) (s3:Int) (s4:Int):VG (s1,s2,s3,s4,()) =
 bif decide (s4<s3) then
 (idx s2 s4).bind fun x1 =>
 (zfA x1.Regs).bind fun y2 =>
 some (.again (s1|||y2.1,s2,s3,w64 (s4+1),()))
 else
 some (.brk (s1,())):=by kernel_rfl
theorem zvC (a1:za):zf1 a1 =
 (zO VG (0#64,a1.Ms,(a1.Ms.length:Int),0,())).bind fun st=>match st with
  | .again _=>none
  | .brk y1 =>
  some (y1.1,())
  | .ret y1 =>
  none:=zr (by kernel_rfl)
theorem zlZ (s1:BitVec 64) (s2:List Int) (s3:Int):U9 (s1,s2,s3,()) =
 bif decide (s3<64) then
 (zeW s2 64 s3).bind fun n1 =>
 (s2[n1]?).bind fun x2 =>
 bif decide (0<x2) then
  (ZZ s1 (w64 (s3+1))).bind fun y3 =>
  some (.again (y3.1,s2,w64 (s3+1),()))
 else
  some (.again (s1,s2,w64 (s3+1),()))
 else
 some (.brk (s1,())):=by kernel_rfl
theorem zoN (a1:List Int):zcw a1 =
 bif decide (a1.length=64) then
 (zO U9 (0#64,a1,0,())).bind fun st=>match st with
  | .again _=>none
  | .brk y1 =>
  some (y1.1,())
  | .ret y1 =>
  none
 else
 none:=zr (by kernel_rfl)
theorem zq3 (a1:Int):znn a1 =
 some (true,()):=zr (by kernel_rfl)
theorem Xb (s1:BitVec 64) (s2:Int) (s3:Int) (s4:zt) (s5:List Int) (s6:List Int) (s7:List Int):ZC (s1,s2,s3,s4,s5,s6,s7,()) =
 bif decide (s3<s2) then
 (xt s7 s3).bind fun n1 =>
 (s7[n1]?).bind fun x2 =>
 (zeW s6 64 (w64 (x2-1))).bind fun n3 =>
 some (.again (s1,s2,w64 (s3+1),s4,s5,s6.set n3 1,s7,()))
 else
 some (.brk (s1,s4,s5,s6,s7,())):=by kernel_rfl
theorem uF (s1:BitVec 64) (s2:zt) (s3:List Int) (s4:List Int) (s5:List Int):ZB (s1,s2,s3,s4,s5,()) =
 bif decide (0<((s5.length:Int))) then
 (xt s5 0).bind fun n1 =>
 (s5[n1]?).bind fun x2 =>
 (znn x2).bind fun y3 =>
 bif !y3.1 then
  (cut s5 1 ((s5.length:Int))).bind fun l4 =>
  some (.again (s1,s2,s3,s4,l4,()))
 else
  (idx s2.Objs (w64 (x2-1))).bind fun x5 =>
  (zO va (s1,x2,x5,(x5.length:Int),0,s2,s3,s4,s5,())).bind fun st=>match st with
   | .again _=>none
   | .brk y6 =>
   (cut y6.2.2.2.2.1 1 ((y6.2.2.2.2.1.length:Int))).bind fun l7 =>
   some (.again (y6.1,y6.2.1,y6.2.2.1,y6.2.2.2.1,l7,()))
   | .ret y6 =>
   some (.ret (()))
 else
 some (.brk (s3,s4,())):=by kernel_rfl
theorem YU (s1:BitVec 64) (s2:Int) (s3:List Int) (s4:Int) (s5:Int) (s6:zt) (s7:List Int) (s8:List Int) (s9:List Int):va (s1,s2,s3,s4,s5,s6,s7,s8,s9,()) =
 bif decide (s5<s4) then
 (idx s3 s5).bind fun x1 =>
 (zcM s1 x1).bind fun y2 =>
 bif y2.1 then
  (zeW s8 64 (w64 (x1-1))).bind fun n3 =>
  (s8[n3]?).bind fun x4 =>
  bif decide (x4=0) then
  (zeW s8 64 (w64 (s2-1))).bind fun n5 =>
  (s8[n5]?).bind fun x6 =>
  (zeW s8 64 (w64 (x1-1))).bind fun n7 =>
  (yc (s9++([x1]:List Int))).bind fun l8 =>
  some (.again (s1,s2,s3,s4,w64 (s5+1),s6,s7,s8.set n7 (w64 (x6+1)),l8,()))
  else
  some (.again (s1,s2,s3,s4,w64 (s5+1),s6,s7,s8,s9,()))
 else
  some (.again (s1,s2,s3,s4,w64 (s5+1),s6,s7,s8,s9,()))
 else
 some (.brk (s1,s6,s7,s8,s9,())):=by kernel_rfl
theorem zc6 (a1:zt) (a2:BitVec 64):Yj a1 a2 =
 (zfS ((a1.Objs.length:Int))).bind fun y1 =>
 (zdV (a2&&&y1.1)).bind fun y2 =>
 (zO ZC (y1.1,(y2.1.length:Int),0,a1,List.replicate 64 ((0:Int)),List.replicate 64 ((0:Int)),y2.1,())).bind fun st=>match st with
  | .again _=>none
  | .brk y3 =>
  (zO ZB (y3.1,y3.2.1,y3.2.2.1,y3.2.2.2.1,y3.2.2.2.2.1,())).bind fun st=>match st with
   | .again _=>none
   | .brk y4 =>
   bif decide (y4.2.1.length=64) then
   bif decide (y4.1.length=64) then
    bif decide (y4.2.1.length=64) then
    some (y4.2.1,())
    else
    none
   else
    none
   else
   none
   | .ret y4 =>
   none
  | .ret y3 =>
  none:=zr (by kernel_rfl)
theorem ztk (a1:zt) (a2:BitVec 64):zaL a1 a2 =
 (Yj a1 a2).bind fun y1 =>
 (zcw y1.1).bind fun y2 =>
 some (y2.1,()):=zr (by kernel_rfl)
theorem zuL (a1:za):zfQ a1 =
 (zf1 a1).bind fun y1 =>
 (zaL a1.H (a1.P.Roots|||y1.1)).bind fun y2 =>
 some (y2.1,()):=zr (by kernel_rfl)
theorem zqM (a1:zh):zeX a1 =
 bif !(decide (a1.Obj=0)) then
 some (true,())
 else
 some (decide (0<((a1.Batch.length:Int))),()):=zr (by kernel_rfl)
theorem uT (s1:List zh) (s2:Int) (s3:Int):yN (s1,s2,s3,()) =
 bif decide (s3<s2) then
 (idx s1 s3).bind fun x1 =>
 (zeX x1).bind fun y2 =>
 bif y2.1 then
  some (.ret (s3,()))
 else
  some (.again (s1,s2,w64 (s3+1),()))
 else
 some (.brk (())):=by kernel_rfl
theorem Zg (a1:List zh):wq a1 =
 (zO yN (a1,(a1.length:Int),0,())).bind fun st=>match st with
  | .again _=>none
  | .brk y1 =>
  some (-1,())
  | .ret y1 =>
  some (y1.1,()):=zr (by kernel_rfl)
theorem uU (a1:List zh):yO a1 =
 (wq a1).bind fun y1 =>
 some (decide (0≤y1.1),()):=zr (by kernel_rfl)
end Go.Pe.G
namespace Go.Pe.G
open Go.Pe
theorem zrd (a1:zc):zfy a1 =
 bif !(decide (a1.Obj=0)) then
 some (true,())
 else
 some (decide (0<(w64 (((a1.Batch.length:Int))+((a1.Buf.length:Int))))),()):=zr (by kernel_rfl)
theorem uC (s1:List zc) (s2:Int) (s3:Int):yI (s1,s2,s3,()) =
 bif decide (s3<s2) then
 (idx s1 s3).bind fun x1 =>
 (zfy x1).bind fun y2 =>
 bif y2.1 then
  some (.ret (s3,()))
 else
  some (.again (s1,s2,w64 (s3+1),()))
 else
 some (.brk (())):=by kernel_rfl
theorem u0 (a1:List zc):wb a1 =
 (zO yI (a1,(a1.length:Int),0,())).bind fun st=>match st with
  | .again _=>none
  | .brk y1 =>
  some (-1,())
  | .ret y1 =>
  some (y1.1,()):=zr (by kernel_rfl)
theorem uy (a1:List zc):yH a1 =
 (wb a1).bind fun y1 =>
 some (decide (0≤y1.1),()):=zr (by kernel_rfl)
theorem ztJ (a1:za):zdp a1 =
 (Vi a1).bind fun y1 =>
 bif decide (((y1.1.length:Int))=0) then
 (yO a1.Ws).bind fun y2 =>
 bif !y2.1 then
  (yH a1.Ms).bind fun y3 =>
  some (!y3.1,())
 else
  some (false,())
 else
 some (false,()):=zr (by kernel_rfl)
theorem zu7 (a1:zu):zmh a1 =
 (zle a1 1 2 1).bind fun y1 =>
 some (y1.1,()):=zr (by kernel_rfl)
theorem zh2 (s1:Int) (s2:Int) (s3:Int) (s4:za) (s5:List zu):V3 (s1,s2,s3,s4,s5,()) =
 bif decide (s3<s2) then
 (xt s5 s3).bind fun n1 =>
 (s5[n1]?).bind fun x2 =>
 (zmh x2).bind fun y3 =>
 some (.again (w64 (s1+y3.1),s2,w64 (s3+1),s4,s5,()))
 else
 some (.brk (s1,s4,())):=by kernel_rfl
theorem zhV (s1:Int) (s2:List zh) (s3:Int) (s4:Int) (s5:za):VI (s1,s2,s3,s4,s5,()) =
 bif decide (s4<s3) then
 (idx s2 s4).bind fun x1 =>
 bif decide (x1.PC=9) then
  some (.again (w64 (s1+1),s2,s3,w64 (s4+1),s5,()))
 else
  some (.again (s1,s2,s3,w64 (s4+1),s5,()))
 else
 some (.brk (s1,s5,())):=by kernel_rfl
theorem zgg (s1:Int) (s2:List zc) (s3:Int) (s4:Int):WN (s1,s2,s3,s4,()) =
 bif decide (s4<s3) then
 (idx s2 s4).bind fun x1 =>
 bif decide (x1.PC=39) then
  some (.again (w64 (s1+1),s2,s3,w64 (s4+1),()))
 else
  some (.again (s1,s2,s3,w64 (s4+1),()))
 else
 some (.brk (s1,())):=by kernel_rfl
theorem zvx (a1:za):zmA a1 =
 (zam a1).bind fun y1 =>
 (zO V3 (0,(y1.1.length:Int),0,a1,y1.1,())).bind fun st=>match st with
  | .again _=>none
  | .brk y2 =>
  (zO VI (y2.1,y2.2.1.Ws,(y2.2.1.Ws.length:Int),0,y2.2.1,())).bind fun st=>match st with
   | .again _=>none
   | .brk y3 =>
   (zO WN (y3.1,y3.2.1.Ms,(y3.2.1.Ms.length:Int),0,())).bind fun st=>match st with
    | .again _=>none
    | .brk y4 =>
    some (y4.1,())
    | .ret y4 =>
    none
   | .ret y3 =>
   none
  | .ret y2 =>
  none:=zr (by kernel_rfl)
theorem Ud (s1:List zg) (s2:Int) (s3:za) (s4:za):wO (s1,s2,s3,s4,()) =
 bif decide (s2<6) then
 (uZ s4 s1).bind fun y1 =>
 some (.again (s1,w64 (s2+1),s3,y1.1,()))
 else
 some (.brk (s1,s3,s4,())):=by kernel_rfl
theorem zjZ:VZ =
 (zax (([(([(zm.mk 1 1 0 0),(zm.mk 5 1 0 0),(zm.mk 2 1 0 0)]:List zm))]:List (List zm)))).bind fun y1 =>
 (zf7 y1.1).bind fun y2 =>
 (zO wO (([(zg.mk 2 1)]:List zg),0,y2.1,y2.1,())).bind fun st=>match st with
  | .again _=>none
  | .brk y3 =>
  (uZ y3.2.2.1 y3.1).bind fun y4 =>
  (uZ y4.1 y3.1).bind fun y5 =>
  (zan y5.1 900).bind fun y6 =>
  (uZ y3.2.1 (([(zg.mk 1 1),(zg.mk 1 1),(zg.mk 1 1),(zg.mk 1 1),(zg.mk 1 1),(zg.mk 1 1),(zg.mk 1 1)]:List zg))).bind fun y7 =>
  (Vi y3.2.1).bind fun y8 =>
  (ZU y8.1 ([1]:List Int)).bind fun y9 =>
  bif y9.1 then
  (ZN y3.2.1).bind fun y10 =>
  (ZU y10.1 ([1]:List Int)).bind fun y11 =>
  bif y11.1 then
   (XI y3.2.1).bind fun y12 =>
   bif decide (y12.1=0#64) then
   (zfQ y3.2.1).bind fun y13 =>
   bif decide (y13.1=3#64) then
    (zf1 y3.2.1).bind fun y14 =>
    bif decide (y14.1=1#64) then
    (XI y3.2.2.1).bind fun y15 =>
    bif decide (y15.1=2#64) then
     (XI y4.1).bind fun y16 =>
     bif decide (y16.1=2#64) then
     (zfQ y5.1).bind fun y17 =>
     bif decide (y17.1=1#64) then
      (XI y5.1).bind fun y18 =>
      bif decide (y18.1=2#64) then
      bif y6.1.Done then
       (zdp y6.1).bind fun y19 =>
       bif y19.1 then
       bif decide (y6.1.T.Marks=3#64) then
        (zdp y3.2.1).bind fun y20 =>
        bif !y20.1 then
        (ZN y7.1).bind fun y21 =>
        bif decide (((y21.1.length:Int))=0) then
         (u7 y7.1 1).bind fun y22 =>
         (ZU y22.1 ([1]:List Int)).bind fun y23 =>
         bif y23.1 then
         (u7 y3.2.1 2).bind fun y24 =>
         bif decide (((y24.1.length:Int))=0) then
          (XG y3.2.1 1).bind fun y25 =>
          bif decide (((y25.1.length:Int))=0) then
          (zmA y3.2.1).bind fun y26 =>
          some (decide (y26.1=0),())
          else
          some (false,())
         else
          some (false,())
         else
         some (false,())
        else
         some (false,())
        else
        some (false,())
       else
        some (false,())
       else
       some (false,())
      else
       some (false,())
      else
      some (false,())
     else
      some (false,())
     else
     some (false,())
    else
     some (false,())
    else
    some (false,())
   else
    some (false,())
   else
   some (false,())
  else
   some (false,())
  else
  some (false,())
  | .ret y3 =>
  none:=zr (by kernel_rfl)
theorem zeu (a1:zG):zC a1 =
 bif decide (((a1.L.length:Int))≤a1.At) then
 some (0,a1,())
 else
 (idx a1.L (w64 ((w64 (a1.At+1))-1))).bind fun x1 =>
 some ((x1.toNat:Int),{a1 with At:=w64 (a1.At+1)},()):=zr (by kernel_rfl)
theorem zgK (a1:Int) (a2:Int) (a3:zG):Wa a1 a2 a3 =
 (zC a3).bind fun y1 =>
 (xt ([1,1,2,2,2,3,4,5]:List Int) (y1.1.tmod 8)).bind fun n2 =>
 (([1,1,2,2,2,3,4,5]:List Int)[n2]?).bind fun x3 =>
 (zC y1.2.1).bind fun y4 =>
 bif decide (a1=0) then
 none
 else
 bif decide (x3=1) then
  (zC y4.2.1).bind fun y5 =>
  bif decide (a1=0) then
  none
  else
  bif decide (x3<3) then
   (zC y5.2.1).bind fun y6 =>
   bif decide (a2=0) then
   none
   else
   some (zm.mk x3 (y4.1.tmod a1) (y5.1.tmod a1) (y6.1.tmod a2),y6.2.1,())
  else
   some (zm.mk x3 (y4.1.tmod a1) (y5.1.tmod a1) 0,y5.2.1,())
 else
  bif decide (x3=2) then
  (zC y4.2.1).bind fun y7 =>
  bif decide (a1=0) then
   none
  else
   bif decide (x3<3) then
   (zC y7.2.1).bind fun y8 =>
   bif decide (a2=0) then
    none
   else
    some (zm.mk x3 (y4.1.tmod a1) (y7.1.tmod a1) (y8.1.tmod a2),y8.2.1,())
   else
   some (zm.mk x3 (y4.1.tmod a1) (y7.1.tmod a1) 0,y7.2.1,())
  else
  bif decide (x3=4) then
   (zC y4.2.1).bind fun y9 =>
   bif decide (a1=0) then
   none
   else
   bif decide (x3<3) then
    (zC y9.2.1).bind fun y10 =>
    bif decide (a2=0) then
    none
    else
    some (zm.mk x3 (y4.1.tmod a1) (y9.1.tmod a1) (y10.1.tmod a2),y10.2.1,())
   else
    some (zm.mk x3 (y4.1.tmod a1) (y9.1.tmod a1) 0,y9.2.1,())
  else
   bif decide (x3<3) then
   (zC y4.2.1).bind fun y11 =>
   bif decide (a2=0) then
    none
   else
    some (zm.mk x3 (y4.1.tmod a1) 0 (y11.1.tmod a2),y11.2.1,())
   else
   some (zm.mk x3 (y4.1.tmod a1) 0 0,y4.2.1,()):=zr (by kernel_rfl)
theorem zkB (s1:Int) (s2:Int) (s3:Int) (s4:Int) (s5:Int) (s6:Int) (s7:Int) (s8:Int) (s9:Int) (s10:Int) (s11:Int) (s12:BitVec 64) (s13:zG) (s14:Int) (s15:Int) (s16:Int) (s17:Int) (s18:Int) (s19:Int) (s20:Int) (s21:Int) (s22:Int) (s23:BitVec 64) (s24:List (List Int)) (s25:List (List Int)) (s26:List (List zm)) (s27:List zg) (s28:List (List Int)) (s29:List (List Int)) (s30:List (List zm)) (s31:List zg):Xw (s1,s2,s3,s4,s5,s6,s7,s8,s9,s10,s11,s12,s13,s14,s15,s16,s17,s18,s19,s20,s21,s22,s23,s24,s25,s26,s27,s28,s29,s30,s31,()) =
 bif decide (s2<s1) then
 (zO YR (s1,s2,0,s3,s4,s5,s6,s7,s8,s9,s10,s11,s12,s13,s14,s15,s16,s17,s18,s19,s20,s21,s22,s23,([]:List Int),s24,s25,s26,s27,s28,s29,s30,s31,())).bind fun st=>match st with
  | .again _=>none
  | .brk y1 =>
  (yc (y1.2.2.2.2.2.2.2.2.2.2.2.2.2.2.2.2.2.2.2.2.2.2.2.2.2.2.2.2.1++(([y1.2.2.2.2.2.2.2.2.2.2.2.2.2.2.2.2.2.2.2.2.2.2.2.1]:List (List Int))))).bind fun l2 =>
  some (.again (y1.1,w64 (y1.2.1+1),y1.2.2.1,y1.2.2.2.1,y1.2.2.2.2.1,y1.2.2.2.2.2.1,y1.2.2.2.2.2.2.1,y1.2.2.2.2.2.2.2.1,y1.2.2.2.2.2.2.2.2.1,y1.2.2.2.2.2.2.2.2.2.1,y1.2.2.2.2.2.2.2.2.2.2.1,y1.2.2.2.2.2.2.2.2.2.2.2.1,y1.2.2.2.2.2.2.2.2.2.2.2.2.1,y1.2.2.2.2.2.2.2.2.2.2.2.2.2.1,y1.2.2.2.2.2.2.2.2.2.2.2.2.2.2.1,y1.2.2.2.2.2.2.2.2.2.2.2.2.2.2.2.1,y1.2.2.2.2.2.2.2.2.2.2.2.2.2.2.2.2.1,y1.2.2.2.2.2.2.2.2.2.2.2.2.2.2.2.2.2.1,y1.2.2.2.2.2.2.2.2.2.2.2.2.2.2.2.2.2.2.1,y1.2.2.2.2.2.2.2.2.2.2.2.2.2.2.2.2.2.2.2.1,y1.2.2.2.2.2.2.2.2.2.2.2.2.2.2.2.2.2.2.2.2.1,y1.2.2.2.2.2.2.2.2.2.2.2.2.2.2.2.2.2.2.2.2.2.1,y1.2.2.2.2.2.2.2.2.2.2.2.2.2.2.2.2.2.2.2.2.2.2.1,y1.2.2.2.2.2.2.2.2.2.2.2.2.2.2.2.2.2.2.2.2.2.2.2.2.1,y1.2.2.2.2.2.2.2.2.2.2.2.2.2.2.2.2.2.2.2.2.2.2.2.2.2.1,y1.2.2.2.2.2.2.2.2.2.2.2.2.2.2.2.2.2.2.2.2.2.2.2.2.2.2.1,y1.2.2.2.2.2.2.2.2.2.2.2.2.2.2.2.2.2.2.2.2.2.2.2.2.2.2.2.1,l2,y1.2.2.2.2.2.2.2.2.2.2.2.2.2.2.2.2.2.2.2.2.2.2.2.2.2.2.2.2.2.1,y1.2.2.2.2.2.2.2.2.2.2.2.2.2.2.2.2.2.2.2.2.2.2.2.2.2.2.2.2.2.2.1,y1.2.2.2.2.2.2.2.2.2.2.2.2.2.2.2.2.2.2.2.2.2.2.2.2.2.2.2.2.2.2.2.1,()))
  | .ret y1 =>
  some (.ret (()))
 else
 some (.brk (s1,s3,s4,s5,s6,s7,s8,s9,s10,s11,s12,s13,s14,s15,s16,s17,s18,s19,s20,s21,s22,s23,s24,s25,s26,s27,s28,s29,s30,s31,())):=by kernel_rfl
theorem zj8 (s1:Int) (s2:Int) (s3:Int) (s4:Int) (s5:Int) (s6:Int) (s7:Int) (s8:Int) (s9:Int) (s10:Int) (s11:Int) (s12:Int) (s13:BitVec 64) (s14:zG) (s15:Int) (s16:Int) (s17:Int) (s18:Int) (s19:Int) (s20:Int) (s21:Int) (s22:Int) (s23:Int) (s24:BitVec 64) (s25:List Int) (s26:List (List Int)) (s27:List (List Int)) (s28:List (List zm)) (s29:List zg) (s30:List (List Int)) (s31:List (List Int)) (s32:List (List zm)) (s33:List zg):YR (s1,s2,s3,s4,s5,s6,s7,s8,s9,s10,s11,s12,s13,s14,s15,s16,s17,s18,s19,s20,s21,s22,s23,s24,s25,s26,s27,s28,s29,s30,s31,s32,s33,()) =
 bif decide (s3<s23) then
 (zC s14).bind fun y1 =>
 bif decide ((w64 (s1+1))=0) then
  none
 else
  (yc (s25++(([(y1.1.tmod (w64 (s1+1)))]:List Int)))).bind fun l2 =>
  some (.again (s1,s2,w64 (s3+1),s4,s5,s6,s7,s8,s9,s10,s11,s12,s13,y1.2.1,s15,s16,s17,s18,s19,s20,s21,s22,s23,s24,l2,s26,s27,s28,s29,s30,s31,s32,s33,()))
 else
 some (.brk (s1,s2,s4,s5,s6,s7,s8,s9,s10,s11,s12,s13,s14,s15,s16,s17,s18,s19,s20,s21,s22,s23,s24,s25,s26,s27,s28,s29,s30,s31,s32,s33,())):=by kernel_rfl
theorem zjK (s1:Int) (s2:Int) (s3:Int) (s4:Int) (s5:Int) (s6:Int) (s7:Int) (s8:Int) (s9:Int) (s10:Int) (s11:Int) (s12:BitVec 64) (s13:zG) (s14:Int) (s15:Int) (s16:Int) (s17:Int) (s18:Int) (s19:Int) (s20:Int) (s21:Int) (s22:Int) (s23:BitVec 64) (s24:List (List Int)) (s25:List (List Int)) (s26:List (List zm)) (s27:List zg) (s28:List (List Int)) (s29:List (List Int)) (s30:List (List zm)) (s31:List zg):YQ (s1,s2,s3,s4,s5,s6,s7,s8,s9,s10,s11,s12,s13,s14,s15,s16,s17,s18,s19,s20,s21,s22,s23,s24,s25,s26,s27,s28,s29,s30,s31,()) =
 bif decide (s2<s15) then
 (zO YN (s1,s2,0,s3,s4,s5,s6,s7,s8,s9,s10,s11,s12,s13,s14,s15,s16,s17,s18,s19,s20,s21,s22,s23,([]:List Int),s24,s25,s26,s27,s28,s29,s30,s31,())).bind fun st=>match st with
  | .again _=>none
  | .brk y1 =>
  bif decide (((y1.2.2.2.2.2.2.2.2.2.2.2.2.2.2.2.2.2.2.2.2.2.2.2.1.length:Int))=0) then
   (zC y1.2.2.2.2.2.2.2.2.2.2.2.2.1).bind fun y2 =>
   (zO Zm (y1.1,y1.2.1,y2.1.tmod 8,y1.2.2.1,y1.2.2.2.1,y1.2.2.2.2.1,y1.2.2.2.2.2.1,y1.2.2.2.2.2.2.1,y1.2.2.2.2.2.2.2.1,y1.2.2.2.2.2.2.2.2.1,y1.2.2.2.2.2.2.2.2.2.1,y1.2.2.2.2.2.2.2.2.2.2.1,y1.2.2.2.2.2.2.2.2.2.2.2.1,y2.2.1,y1.2.2.2.2.2.2.2.2.2.2.2.2.2.1,y1.2.2.2.2.2.2.2.2.2.2.2.2.2.2.1,y1.2.2.2.2.2.2.2.2.2.2.2.2.2.2.2.1,y1.2.2.2.2.2.2.2.2.2.2.2.2.2.2.2.2.1,y1.2.2.2.2.2.2.2.2.2.2.2.2.2.2.2.2.2.1,y1.2.2.2.2.2.2.2.2.2.2.2.2.2.2.2.2.2.2.1,y1.2.2.2.2.2.2.2.2.2.2.2.2.2.2.2.2.2.2.2.1,y1.2.2.2.2.2.2.2.2.2.2.2.2.2.2.2.2.2.2.2.2.1,y1.2.2.2.2.2.2.2.2.2.2.2.2.2.2.2.2.2.2.2.2.2.1,y1.2.2.2.2.2.2.2.2.2.2.2.2.2.2.2.2.2.2.2.2.2.2.1,([0]:List Int),([]:List zm),y1.2.2.2.2.2.2.2.2.2.2.2.2.2.2.2.2.2.2.2.2.2.2.2.2.1,y1.2.2.2.2.2.2.2.2.2.2.2.2.2.2.2.2.2.2.2.2.2.2.2.2.2.1,y1.2.2.2.2.2.2.2.2.2.2.2.2.2.2.2.2.2.2.2.2.2.2.2.2.2.2.1,y1.2.2.2.2.2.2.2.2.2.2.2.2.2.2.2.2.2.2.2.2.2.2.2.2.2.2.2.1,y1.2.2.2.2.2.2.2.2.2.2.2.2.2.2.2.2.2.2.2.2.2.2.2.2.2.2.2.2.1,y1.2.2.2.2.2.2.2.2.2.2.2.2.2.2.2.2.2.2.2.2.2.2.2.2.2.2.2.2.2.1,y1.2.2.2.2.2.2.2.2.2.2.2.2.2.2.2.2.2.2.2.2.2.2.2.2.2.2.2.2.2.2.1,y1.2.2.2.2.2.2.2.2.2.2.2.2.2.2.2.2.2.2.2.2.2.2.2.2.2.2.2.2.2.2.2.1,())).bind fun st=>match st with
    | .again _=>none
    | .brk y3 =>
    (yc (y3.2.2.2.2.2.2.2.2.2.2.2.2.2.2.2.2.2.2.2.2.2.2.2.2.2.2.2.2.2.2.1++(([y3.2.2.2.2.2.2.2.2.2.2.2.2.2.2.2.2.2.2.2.2.2.2.2.1]:List (List Int))))).bind fun l4 =>
    (yc (y3.2.2.2.2.2.2.2.2.2.2.2.2.2.2.2.2.2.2.2.2.2.2.2.2.2.2.2.2.2.2.2.1++(([y3.2.2.2.2.2.2.2.2.2.2.2.2.2.2.2.2.2.2.2.2.2.2.2.2.1]:List (List zm))))).bind fun l5 =>
    some (.again (y3.1,w64 (y3.2.1+1),y3.2.2.1,y3.2.2.2.1,y3.2.2.2.2.1,y3.2.2.2.2.2.1,y3.2.2.2.2.2.2.1,y3.2.2.2.2.2.2.2.1,y3.2.2.2.2.2.2.2.2.1,y3.2.2.2.2.2.2.2.2.2.1,y3.2.2.2.2.2.2.2.2.2.2.1,y3.2.2.2.2.2.2.2.2.2.2.2.1,y3.2.2.2.2.2.2.2.2.2.2.2.2.1,y3.2.2.2.2.2.2.2.2.2.2.2.2.2.1,y3.2.2.2.2.2.2.2.2.2.2.2.2.2.2.1,y3.2.2.2.2.2.2.2.2.2.2.2.2.2.2.2.1,y3.2.2.2.2.2.2.2.2.2.2.2.2.2.2.2.2.1,y3.2.2.2.2.2.2.2.2.2.2.2.2.2.2.2.2.2.1,y3.2.2.2.2.2.2.2.2.2.2.2.2.2.2.2.2.2.2.1,y3.2.2.2.2.2.2.2.2.2.2.2.2.2.2.2.2.2.2.2.1,y3.2.2.2.2.2.2.2.2.2.2.2.2.2.2.2.2.2.2.2.2.1,y3.2.2.2.2.2.2.2.2.2.2.2.2.2.2.2.2.2.2.2.2.2.1,y3.2.2.2.2.2.2.2.2.2.2.2.2.2.2.2.2.2.2.2.2.2.2.1,y3.2.2.2.2.2.2.2.2.2.2.2.2.2.2.2.2.2.2.2.2.2.2.2.2.2.1,y3.2.2.2.2.2.2.2.2.2.2.2.2.2.2.2.2.2.2.2.2.2.2.2.2.2.2.1,y3.2.2.2.2.2.2.2.2.2.2.2.2.2.2.2.2.2.2.2.2.2.2.2.2.2.2.2.1,y3.2.2.2.2.2.2.2.2.2.2.2.2.2.2.2.2.2.2.2.2.2.2.2.2.2.2.2.2.1,y3.2.2.2.2.2.2.2.2.2.2.2.2.2.2.2.2.2.2.2.2.2.2.2.2.2.2.2.2.2.1,l4,l5,y3.2.2.2.2.2.2.2.2.2.2.2.2.2.2.2.2.2.2.2.2.2.2.2.2.2.2.2.2.2.2.2.2.1,()))
    | .ret y3 =>
    some (.ret (()))
  else
   (zC y1.2.2.2.2.2.2.2.2.2.2.2.2.1).bind fun y6 =>
   (zO Zm (y1.1,y1.2.1,y6.1.tmod 8,y1.2.2.1,y1.2.2.2.1,y1.2.2.2.2.1,y1.2.2.2.2.2.1,y1.2.2.2.2.2.2.1,y1.2.2.2.2.2.2.2.1,y1.2.2.2.2.2.2.2.2.1,y1.2.2.2.2.2.2.2.2.2.1,y1.2.2.2.2.2.2.2.2.2.2.1,y1.2.2.2.2.2.2.2.2.2.2.2.1,y6.2.1,y1.2.2.2.2.2.2.2.2.2.2.2.2.2.1,y1.2.2.2.2.2.2.2.2.2.2.2.2.2.2.1,y1.2.2.2.2.2.2.2.2.2.2.2.2.2.2.2.1,y1.2.2.2.2.2.2.2.2.2.2.2.2.2.2.2.2.1,y1.2.2.2.2.2.2.2.2.2.2.2.2.2.2.2.2.2.1,y1.2.2.2.2.2.2.2.2.2.2.2.2.2.2.2.2.2.2.1,y1.2.2.2.2.2.2.2.2.2.2.2.2.2.2.2.2.2.2.2.1,y1.2.2.2.2.2.2.2.2.2.2.2.2.2.2.2.2.2.2.2.2.1,y1.2.2.2.2.2.2.2.2.2.2.2.2.2.2.2.2.2.2.2.2.2.1,y1.2.2.2.2.2.2.2.2.2.2.2.2.2.2.2.2.2.2.2.2.2.2.1,y1.2.2.2.2.2.2.2.2.2.2.2.2.2.2.2.2.2.2.2.2.2.2.2.1,([]:List zm),y1.2.2.2.2.2.2.2.2.2.2.2.2.2.2.2.2.2.2.2.2.2.2.2.2.1,y1.2.2.2.2.2.2.2.2.2.2.2.2.2.2.2.2.2.2.2.2.2.2.2.2.2.1,y1.2.2.2.2.2.2.2.2.2.2.2.2.2.2.2.2.2.2.2.2.2.2.2.2.2.2.1,y1.2.2.2.2.2.2.2.2.2.2.2.2.2.2.2.2.2.2.2.2.2.2.2.2.2.2.2.1,y1.2.2.2.2.2.2.2.2.2.2.2.2.2.2.2.2.2.2.2.2.2.2.2.2.2.2.2.2.1,y1.2.2.2.2.2.2.2.2.2.2.2.2.2.2.2.2.2.2.2.2.2.2.2.2.2.2.2.2.2.1,y1.2.2.2.2.2.2.2.2.2.2.2.2.2.2.2.2.2.2.2.2.2.2.2.2.2.2.2.2.2.2.1,y1.2.2.2.2.2.2.2.2.2.2.2.2.2.2.2.2.2.2.2.2.2.2.2.2.2.2.2.2.2.2.2.1,())).bind fun st=>match st with
    | .again _=>none
    | .brk y7 =>
    (yc (y7.2.2.2.2.2.2.2.2.2.2.2.2.2.2.2.2.2.2.2.2.2.2.2.2.2.2.2.2.2.2.1++(([y7.2.2.2.2.2.2.2.2.2.2.2.2.2.2.2.2.2.2.2.2.2.2.2.1]:List (List Int))))).bind fun l8 =>
    (yc (y7.2.2.2.2.2.2.2.2.2.2.2.2.2.2.2.2.2.2.2.2.2.2.2.2.2.2.2.2.2.2.2.1++(([y7.2.2.2.2.2.2.2.2.2.2.2.2.2.2.2.2.2.2.2.2.2.2.2.2.1]:List (List zm))))).bind fun l9 =>
    some (.again (y7.1,w64 (y7.2.1+1),y7.2.2.1,y7.2.2.2.1,y7.2.2.2.2.1,y7.2.2.2.2.2.1,y7.2.2.2.2.2.2.1,y7.2.2.2.2.2.2.2.1,y7.2.2.2.2.2.2.2.2.1,y7.2.2.2.2.2.2.2.2.2.1,y7.2.2.2.2.2.2.2.2.2.2.1,y7.2.2.2.2.2.2.2.2.2.2.2.1,y7.2.2.2.2.2.2.2.2.2.2.2.2.1,y7.2.2.2.2.2.2.2.2.2.2.2.2.2.1,y7.2.2.2.2.2.2.2.2.2.2.2.2.2.2.1,y7.2.2.2.2.2.2.2.2.2.2.2.2.2.2.2.1,y7.2.2.2.2.2.2.2.2.2.2.2.2.2.2.2.2.1,y7.2.2.2.2.2.2.2.2.2.2.2.2.2.2.2.2.2.1,y7.2.2.2.2.2.2.2.2.2.2.2.2.2.2.2.2.2.2.1,y7.2.2.2.2.2.2.2.2.2.2.2.2.2.2.2.2.2.2.2.1,y7.2.2.2.2.2.2.2.2.2.2.2.2.2.2.2.2.2.2.2.2.1,y7.2.2.2.2.2.2.2.2.2.2.2.2.2.2.2.2.2.2.2.2.2.1,y7.2.2.2.2.2.2.2.2.2.2.2.2.2.2.2.2.2.2.2.2.2.2.1,y7.2.2.2.2.2.2.2.2.2.2.2.2.2.2.2.2.2.2.2.2.2.2.2.2.2.1,y7.2.2.2.2.2.2.2.2.2.2.2.2.2.2.2.2.2.2.2.2.2.2.2.2.2.2.1,y7.2.2.2.2.2.2.2.2.2.2.2.2.2.2.2.2.2.2.2.2.2.2.2.2.2.2.2.1,y7.2.2.2.2.2.2.2.2.2.2.2.2.2.2.2.2.2.2.2.2.2.2.2.2.2.2.2.2.1,y7.2.2.2.2.2.2.2.2.2.2.2.2.2.2.2.2.2.2.2.2.2.2.2.2.2.2.2.2.2.1,l8,l9,y7.2.2.2.2.2.2.2.2.2.2.2.2.2.2.2.2.2.2.2.2.2.2.2.2.2.2.2.2.2.2.2.2.1,()))
    | .ret y7 =>
    some (.ret (()))
  | .ret y1 =>
  some (.ret (()))
 else
 some (.brk (s3,s4,s5,s6,s7,s8,s9,s10,s11,s12,s14,s15,s16,s17,s18,s19,s20,s21,s22,s23,s24,s25,s26,s27,s28,s29,s30,s31,())):=by kernel_rfl
theorem zke (s1:Int) (s2:Int) (s3:Int) (s4:Int) (s5:Int) (s6:Int) (s7:Int) (s8:Int) (s9:Int) (s10:Int) (s11:Int) (s12:Int) (s13:BitVec 64) (s14:zG) (s15:Int) (s16:Int) (s17:Int) (s18:Int) (s19:Int) (s20:Int) (s21:Int) (s22:Int) (s23:Int) (s24:BitVec 64) (s25:List Int) (s26:List (List Int)) (s27:List (List Int)) (s28:List (List zm)) (s29:List zg) (s30:List (List Int)) (s31:List (List Int)) (s32:List (List zm)) (s33:List zg):YN (s1,s2,s3,s4,s5,s6,s7,s8,s9,s10,s11,s12,s13,s14,s15,s16,s17,s18,s19,s20,s21,s22,s23,s24,s25,s26,s27,s28,s29,s30,s31,s32,s33,()) =
 (zC s14).bind fun y1 =>
 bif decide (s3<(w64 (1+(y1.1.tmod 3)))) then
 (zC y1.2.1).bind fun y2 =>
 bif decide ((w64 (s1+1))=0) then
  none
 else
  (yc (s25++(([(y2.1.tmod (w64 (s1+1)))]:List Int)))).bind fun l3 =>
  some (.again (s1,s2,w64 (s3+1),s4,s5,s6,s7,s8,s9,s10,s11,s12,s13,y2.2.1,s15,s16,s17,s18,s19,s20,s21,s22,s23,s24,l3,s26,s27,s28,s29,s30,s31,s32,s33,()))
 else
 some (.brk (s1,s2,s4,s5,s6,s7,s8,s9,s10,s11,s12,s13,y1.2.1,s15,s16,s17,s18,s19,s20,s21,s22,s23,s24,s25,s26,s27,s28,s29,s30,s31,s32,s33,())):=by kernel_rfl
theorem zjw (s1:Int) (s2:Int) (s3:Int) (s4:Int) (s5:Int) (s6:Int) (s7:Int) (s8:Int) (s9:Int) (s10:Int) (s11:Int) (s12:Int) (s13:BitVec 64) (s14:zG) (s15:Int) (s16:Int) (s17:Int) (s18:Int) (s19:Int) (s20:Int) (s21:Int) (s22:Int) (s23:Int) (s24:BitVec 64) (s25:List Int) (s26:List zm) (s27:List (List Int)) (s28:List (List Int)) (s29:List (List zm)) (s30:List zg) (s31:List (List Int)) (s32:List (List Int)) (s33:List (List zm)) (s34:List zg):Zm (s1,s2,s3,s4,s5,s6,s7,s8,s9,s10,s11,s12,s13,s14,s15,s16,s17,s18,s19,s20,s21,s22,s23,s24,s25,s26,s27,s28,s29,s30,s31,s32,s33,s34,()) =
 bif decide (0<s3) then
 (Wa ((s25.length:Int)) s23 s14).bind fun y1 =>
 (yc (s26++([y1.1]:List zm))).bind fun l2 =>
 some (.again (s1,s2,w64 (s3-1),s4,s5,s6,s7,s8,s9,s10,s11,s12,s13,y1.2.1,s15,s16,s17,s18,s19,s20,s21,s22,s23,s24,s25,l2,s27,s28,s29,s30,s31,s32,s33,s34,()))
 else
 some (.brk (s1,s2,s4,s5,s6,s7,s8,s9,s10,s11,s12,s13,s14,s15,s16,s17,s18,s19,s20,s21,s22,s23,s24,s25,s26,s27,s28,s29,s30,s31,s32,s33,s34,())):=by kernel_rfl
theorem znI (a1:List (BitVec 8)):zby a1 =
 (cut a1 0 (bif decide (90<((a1.length:Int))) then 90 else ((a1.length:Int)))).bind fun l1 =>
 (zC (zG.mk l1 0)).bind fun y2 =>
 (zC y2.2.1).bind fun y3 =>
 (zC y3.2.1).bind fun y4 =>
 (zC y4.2.1).bind fun y5 =>
 (zC y5.2.1).bind fun y6 =>
 (zC y6.2.1).bind fun y7 =>
 (zC y7.2.1).bind fun y8 =>
 (zC y8.2.1).bind fun y9 =>
 (zC y9.2.1).bind fun y10 =>
 (zC y10.2.1).bind fun y11 =>
 (zO Xw (w64 (1+(y10.1.tmod 6)),0,0,0,0,0,0,0,0,0,0,0#64,y11.2.1,w64 (1+(y2.1.tmod 3)),y3.1.tmod 3,w64 (1+(y4.1.tmod 3)),w64 (1+(y5.1.tmod 2)),w64 (1+(y6.1.tmod 3)),w64 ((w64 (1+(y10.1.tmod 6)))+(y11.1.tmod 4)),y7.1.tmod 4,y8.1.tmod 4,w64 (1+(y9.1.tmod 2)),0#64,([]:List (List Int)),([]:List (List Int)),([]:List (List zm)),([]:List zg),([]:List (List Int)),([]:List (List Int)),([]:List (List zm)),([]:List zg),())).bind fun st=>match st with
  | .again _=>none
  | .brk y12 =>
  (zC y12.2.2.2.2.2.2.2.2.2.2.2.1).bind fun y13 =>
  bif decide ((w64 (y12.1+1))=0) then
  none
  else
  (ZZ 0#64 (y13.1.tmod (w64 (y12.1+1)))).bind fun y14 =>
  (zO YQ (y12.1,0,y12.2.1,y12.2.2.1,y12.2.2.2.1,y12.2.2.2.2.1,y12.2.2.2.2.2.1,y12.2.2.2.2.2.2.1,y12.2.2.2.2.2.2.2.1,y12.2.2.2.2.2.2.2.2.1,y12.2.2.2.2.2.2.2.2.2.1,y12.2.2.2.2.2.2.2.2.2.2.1,y13.2.1,y12.2.2.2.2.2.2.2.2.2.2.2.2.1,y12.2.2.2.2.2.2.2.2.2.2.2.2.2.1,y12.2.2.2.2.2.2.2.2.2.2.2.2.2.2.1,y12.2.2.2.2.2.2.2.2.2.2.2.2.2.2.2.1,y12.2.2.2.2.2.2.2.2.2.2.2.2.2.2.2.2.1,y12.2.2.2.2.2.2.2.2.2.2.2.2.2.2.2.2.2.1,y12.2.2.2.2.2.2.2.2.2.2.2.2.2.2.2.2.2.2.1,y12.2.2.2.2.2.2.2.2.2.2.2.2.2.2.2.2.2.2.2.1,y12.2.2.2.2.2.2.2.2.2.2.2.2.2.2.2.2.2.2.2.2.1,y14.1,y12.2.2.2.2.2.2.2.2.2.2.2.2.2.2.2.2.2.2.2.2.2.2.1,y12.2.2.2.2.2.2.2.2.2.2.2.2.2.2.2.2.2.2.2.2.2.2.2.1,y12.2.2.2.2.2.2.2.2.2.2.2.2.2.2.2.2.2.2.2.2.2.2.2.2.1,y12.2.2.2.2.2.2.2.2.2.2.2.2.2.2.2.2.2.2.2.2.2.2.2.2.2.1,y12.2.2.2.2.2.2.2.2.2.2.2.2.2.2.2.2.2.2.2.2.2.2.2.2.2.2.1,y12.2.2.2.2.2.2.2.2.2.2.2.2.2.2.2.2.2.2.2.2.2.2.2.2.2.2.2.1,y12.2.2.2.2.2.2.2.2.2.2.2.2.2.2.2.2.2.2.2.2.2.2.2.2.2.2.2.2.1,y12.2.2.2.2.2.2.2.2.2.2.2.2.2.2.2.2.2.2.2.2.2.2.2.2.2.2.2.2.2.1,())).bind fun st=>match st with
   | .again _=>none
   | .brk y15 =>
   some (zb.mk y15.2.2.2.2.2.2.2.2.2.2.1 y15.2.2.2.2.2.2.2.2.2.2.2.1 y15.2.2.2.2.2.2.2.2.2.2.2.2.1 y15.2.2.2.2.2.2.2.2.2.2.2.2.2.1 y15.2.2.2.2.2.2.2.2.2.2.2.2.2.2.1 y15.2.2.2.2.2.2.2.2.2.2.2.2.2.2.2.1 y15.2.2.2.2.2.2.2.2.2.2.2.2.2.2.2.2.1 y15.2.2.2.2.2.2.2.2.2.2.2.2.2.2.2.2.2.1 (zt.mk y15.2.2.2.2.2.2.2.2.2.2.2.2.2.2.2.2.2.2.1 y15.2.2.2.2.2.2.2.2.2.2.2.2.2.2.2.2.2.2.2.2.2.2.2.2.1) y15.2.2.2.2.2.2.2.2.2.2.2.2.2.2.2.2.2.2.2.1 y15.2.2.2.2.2.2.2.2.2.2.2.2.2.2.2.2.2.2.2.2.2.2.2.2.2.1 y15.2.2.2.2.2.2.2.2.2.2.2.2.2.2.2.2.2.2.2.2.2.2.2.2.2.2.1 y15.2.2.2.2.2.2.2.2.2.2.2.2.2.2.2.2.2.2.2.2.2.2.2.2.2.2.2.1,())
   | .ret y15 =>
   none
  | .ret y12 =>
  none:=zr (by kernel_rfl)
theorem zjv (s1:List (BitVec 8)) (s2:Int) (s3:Int) (s4:zb) (s5:List zg):VE (s1,s2,s3,s4,s5,()) =
 bif decide (s3<((s1.length:Int))) then
 bif decide (((s5.length:Int))<s2) then
  (idx s1 s3).bind fun x1 =>
  bif decide ((w64 ((w64 (1+s4.Workers))+s4.Mutators))=0) then
  none
  else
  bif decide (s4.Workers<(((x1.toNat:Int)).tmod (w64 ((w64 (1+s4.Workers))+s4.Mutators)))) then
   (zO vA (s1,s2,s3,0,s4,s5,zg.mk 2 (w64 ((((x1.toNat:Int)).tmod (w64 ((w64 (1+s4.Workers))+s4.Mutators)))-s4.Workers)),())).bind fun st=>match st with
    | .again _=>none
    | .brk y2 =>
    some (.again (y2.1,y2.2.1,w64 (y2.2.2.1+1),y2.2.2.2.1,y2.2.2.2.2.1,()))
    | .ret y2 =>
    some (.ret (()))
  else
   bif decide (0<(((x1.toNat:Int)).tmod (w64 ((w64 (1+s4.Workers))+s4.Mutators)))) then
   (zO vA (s1,s2,s3,0,s4,s5,zg.mk 1 (((x1.toNat:Int)).tmod (w64 ((w64 (1+s4.Workers))+s4.Mutators))),())).bind fun st=>match st with
    | .again _=>none
    | .brk y3 =>
    some (.again (y3.1,y3.2.1,w64 (y3.2.2.1+1),y3.2.2.2.1,y3.2.2.2.2.1,()))
    | .ret y3 =>
    some (.ret (()))
   else
   (zO vA (s1,s2,s3,0,s4,s5,zg.mk 0 0,())).bind fun st=>match st with
    | .again _=>none
    | .brk y4 =>
    some (.again (y4.1,y4.2.1,w64 (y4.2.2.1+1),y4.2.2.2.1,y4.2.2.2.2.1,()))
    | .ret y4 =>
    some (.ret (()))
 else
  some (.brk (s5,()))
 else
 some (.brk (s5,())):=by kernel_rfl
theorem zix (s1:List (BitVec 8)) (s2:Int) (s3:Int) (s4:Int) (s5:zb) (s6:List zg) (s7:zg):vA (s1,s2,s3,s4,s5,s6,s7,()) =
 (idx s1 s3).bind fun x1 =>
 bif decide (s4≤(w64 (((x1.toNat:Int)).tdiv 64))) then
 bif decide (((s6.length:Int))<s2) then
  (yc (s6++([s7]:List zg))).bind fun l2 =>
  some (.again (s1,s2,s3,w64 (s4+1),s5,l2,s7,()))
 else
  some (.brk (s1,s2,s3,s5,s6,()))
 else
 some (.brk (s1,s2,s3,s5,s6,())):=by kernel_rfl
theorem zmV (a1:zb) (a2:List (BitVec 8)) (a3:Int):WP a1 a2 a3 =
 (zO VE (a2,a3,0,a1,([]:List zg),())).bind fun st=>match st with
  | .again _=>none
  | .brk y1 =>
  some (y1.1,())
  | .ret y1 =>
  none:=zr (by kernel_rfl)
theorem zwK (a1:List Int):zok a1 =
 (zfA a1).bind fun y1 =>
 (zf4 y1.1).bind fun y2 =>
 bif !(decide (y2.1=((a1.length:Int)))) then
 some (0#64,false,())
 else
 some (y1.1,true,()):=zr (by kernel_rfl)
theorem zsG (a1:zo):zpD a1 =
 some (a1.Marks&&& ~~~a1.Black,()):=zr (by kernel_rfl)
theorem Ua (s1:Bool) (s2:Int) (s3:Int) (s4:za) (s5:List zg):uh (s1,s2,s3,s4,s5,()) =
 bif decide (s3<s2) then
 (xt s5 s3).bind fun n1 =>
 (s5[n1]?).bind fun x2 =>
 (zck s4 x2).bind fun y3 =>
 (Vi y3.1).bind fun y4 =>
 (zok y4.1).bind fun y5 =>
 bif !y5.2.1 then
  some (.ret (false,()))
 else
  (zpD y3.1.T).bind fun y6 =>
  bif !(decide (y5.1=y6.1)) then
  some (.ret (false,()))
  else
  some (.again (s1,s2,w64 (s3+1),y3.1,s5,()))
 else
 some (.brk (s1,())):=by kernel_rfl
theorem zjU (a1:List (BitVec 8)) (a2:List (BitVec 8)):Zq a1 a2 =
 (VZ).bind fun y1 =>
 bif !y1.1 then
 some (false,())
 else
 (zby a1).bind fun y2 =>
 (zf7 y2.1).bind fun y3 =>
 (WP y2.1 a2 300).bind fun y4 =>
 (zO uh (y1.1,(y4.1.length:Int),0,y3.1,y4.1,())).bind fun st=>match st with
  | .again _=>none
  | .brk y5 =>
  some (y5.1,())
  | .ret y5 =>
  some (y5.1,()):=zr (by kernel_rfl)
end Go.Pe.G
namespace Go.Pe.G
open Go.Pe
theorem zGn:Go.Proofs.Tryz.prog.funcs[78]? =some Go.Proofs.Tryz.f78:=by kernel_rfl
theorem zFz:Go.Proofs.Tryz.f78.body.isSome=true:=by kernel_rfl
theorem zE8:ue Go.Proofs.Tryz.prog 78=true:=by kernel_rfl
theorem zGu:Go.Proofs.Tryz.prog.funcs[87]? =some Go.Proofs.Tryz.f87:=by kernel_rfl
theorem zFA:Go.Proofs.Tryz.f87.body.isSome=true:=by kernel_rfl
theorem zFp:ue Go.Proofs.Tryz.prog 87=true:=by kernel_rfl
theorem zGe:Go.Proofs.Tryz.prog.funcs[116]? =some Go.Proofs.Tryz.f116:=by kernel_rfl
theorem zEa:Go.Proofs.Tryz.f116.body.isSome=true:=by kernel_rfl
theorem zEt:ue Go.Proofs.Tryz.prog 116=true:=by kernel_rfl
theorem zpY (ys:List Int) (s1:Int) (s2:Int) (s3:BitVec 64):zaj ys (s1,s2,s3,()) =
 bif !(decide (s3=0#64)) then
 (qTZ s3).bind fun y1 =>
 (YH ys s2 (w64 (y1.1+1))).bind fun _ =>
 some (.again (s1,s2+1,s3&&&(s3-1#64),()))
 else
 some (.brk (s1,s2,())):=by kernel_rfl
theorem zsU (n:Int) (ys:List Int) (a1:BitVec 64):znl (zbf ys) Go.Proofs.Tryz.f116 zmN n ((a1,()):(BitVec 64)×Unit) =
 (zO (zaj ys) (n,0,a1,())).bind fun st=>match st with
  | .again _=>none
  | .brk y1 =>
  some y1.2.1
  | .ret y1 =>
  some y1.2.1:=by kernel_rfl
theorem XR (ys:List (List Int)) (s1:Int) (s2:Int) (s3:Int) (s4:List Int) (s5:Int):v9 ys (s1,s2,s3,s4,s5,()) =
 bif decide (s3<((s4.length:Int))) then
 (cut s4 s3 ((s4.length:Int))).bind fun l1 =>
 bif decide (s3=0)&&decide ((w64 (s3+(bif decide (((l1.length:Int))<s5) then ((l1.length:Int)) else s5)))=0)&&decide ((w64 (s3+(bif decide (((l1.length:Int))<s5) then ((l1.length:Int)) else s5)))=0) then
  (YH ys s2 ([]:List Int)).bind fun _ =>
  some (.again (s1,s2+1,w64 (s3+s5),s4,s5,()))
 else
  bif decide (s3=0)&&decide ((w64 (s3+(bif decide (((l1.length:Int))<s5) then ((l1.length:Int)) else s5)))=((s4.length:Int)))&&decide ((w64 (s3+(bif decide (((l1.length:Int))<s5) then ((l1.length:Int)) else s5)))=((s4.length:Int))) then
  (YH ys s2 s4).bind fun _ =>
  some (.again (s1,s2+1,w64 (s3+s5),s4,s5,()))
  else
  bif decide ((w64 (s3+(bif decide (((l1.length:Int))<s5) then ((l1.length:Int)) else s5)))=(w64 (s3+(bif decide (((l1.length:Int))<s5) then ((l1.length:Int)) else s5)))) then
   (cut s4 s3 (w64 (s3+(bif decide (((l1.length:Int))<s5) then ((l1.length:Int)) else s5)))).bind fun l2 =>
   (YH ys s2 l2).bind fun _ =>
   some (.again (s1,s2+1,w64 (s3+s5),s4,s5,()))
  else
   none
 else
 some (.brk (s1,s2,())):=by kernel_rfl
theorem zep (n:Int) (ys:List (List Int)) (a1:List Int) (a2:Int):znl (uw ys) Go.Proofs.Tryz.f78 VH n ((a1,a2,()):(List Int)×Int×Unit) =
 (zO (v9 ys) (n,0,0,a1,a2,())).bind fun st=>match st with
  | .again _=>none
  | .brk y1 =>
  some y1.2.1
  | .ret y1 =>
  some y1.2.1:=by kernel_rfl
theorem zgM (ys:List (List Int)) (s1:Int) (s2:Int) (s3:Int) (s4:Int) (s5:za):WV ys (s1,s2,s3,s4,s5,()) =
 bif decide (s4<s3) then
 (u7 s5 (w64 (s4+1))).bind fun y1 =>
 (YH ys s2 y1.1).bind fun _ =>
 some (.again (s1,s2+1,s3,w64 (s4+1),s5,()))
 else
 some (.brk (s1,s2,s5,())):=by kernel_rfl
theorem zgl (ys:List (List Int)) (s1:Int) (s2:Int) (s3:Int) (s4:Int) (s5:za):zak ys (s1,s2,s3,s4,s5,()) =
 bif decide (s4<s3) then
 (XG s5 (w64 (s4+1))).bind fun y1 =>
 (YH ys s2 y1.1).bind fun _ =>
 some (.again (s1,s2+1,s3,w64 (s4+1),s5,()))
 else
 some (.brk (s1,s2,())):=by kernel_rfl
theorem ztB (n:Int) (ys:List (List Int)) (a1:Int) (a2:Int) (a3:Int) (a4:Int) (a5:Int) (a6:Int) (a7:Int) (a8:Int) (a9:Int) (a10:List (List Int)) (a11:BitVec 64) (a12:List (List Int)) (a13:List (List zm)) (a14:List zg) (a15:Int) (a16:List (List Int)) (a17:List (BitVec 64)) (a18:List (List Int)) (a19:BitVec 64) (a20:BitVec 64) (a21:Int) (a22:Int) (a23:Bool) (a24:Bool) (a25:Int) (a26:List Int) (a27:Int) (a28:Int) (a29:Int) (a30:List Int) (a31:List zh) (a32:List zc) (a33:Int) (a34:Int):znl (Yb ys) Go.Proofs.Tryz.f87 za8 n ((a1,a2,a3,a4,a5,a6,a7,a8,a9,a10,a11,a12,a13,a14,a15,a16,a17,a18,a19,a20,a21,a22,a23,a24,a25,a26,a27,a28,a29,a30,a31,a32,a33,a34,()):Int×Int×Int×Int×Int×Int×Int×Int×Int×(List (List Int))×(BitVec 64)×(List (List Int))×(List (List zm))×(List zg)×Int×(List (List Int))×(List (BitVec 64))×(List (List Int))×(BitVec 64)×(BitVec 64)×Int×Int×Bool×Bool×Int×(List Int)×Int×Int×Int×(List Int)×(List zh)×(List zc)×Int×Int×Unit) =
 (ZN (za.mk (zb.mk a1 a2 a3 a4 a5 a6 a7 a8 (zt.mk a9 a10) a11 a12 a13 a14) (zt.mk a15 a16) a17 a18 (zo.mk a19 a20) a21 a22 a23 a24 a25 a26 (zk.mk a27 a28 a29 a30) a31 a32 (zw.mk a33 a34))).bind fun y1 =>
 (YH ys 0 y1.1).bind fun _ =>
 (zO (WV ys) (n,0+1,(a31.length:Int),0,za.mk (zb.mk a1 a2 a3 a4 a5 a6 a7 a8 (zt.mk a9 a10) a11 a12 a13 a14) (zt.mk a15 a16) a17 a18 (zo.mk a19 a20) a21 a22 a23 a24 a25 a26 (zk.mk a27 a28 a29 a30) a31 a32 (zw.mk a33 a34),())).bind fun st=>match st with
  | .again _=>none
  | .brk y2 =>
  (zO (zak ys) (y2.1,y2.2.1,(y2.2.2.1.Ms.length:Int),0,y2.2.2.1,())).bind fun st=>match st with
   | .again _=>none
   | .brk y3 =>
   some y3.2.1
   | .ret y3 =>
   some y3.2.1
  | .ret y2 =>
  some y2.2.1:=by kernel_rfl
end Go.Pe.G
namespace Go.Pe.G
open Go.Pe
theorem zgF {A B D:Type} (g:A→Option (yA A B D)) {o:yA Unit B D}: ∀(k m:Nat) (x:A),xr g k x=some o→k≤m→xr g m x=some o
 | 0,m,x,h,_=>by cases h
 | k+1,0,x,h,hm=>by omega
 | k+1,m+1,x,h,hm=>by
  simp only [xr,Option.bind_eq_some_iff] at h ⊢
  obtain ⟨s,h1,h2⟩:=h
  refine ⟨s,h1,?_⟩
  cases s with
  | again y=>exact zgF g k m y h2 (by omega)
  | brk b=>exact h2
  | ret c=>exact h2
theorem zgs {α:Type} (pre post:List α) (z:α):YH (pre++z::post) (pre.length:Int) z=some ():=by
 unfold YH
 rw [if_pos]
 refine ⟨by omega,?_⟩
 simp
theorem zhY (n:Int) (ys:List Int): ∀(f:Nat) (s:BitVec 64) (l pre:List Int),VO f s=some l→ys=pre++l→xr (zaj ys) f (n,(pre.length:Int),s,())=some (.brk (n,(ys.length:Int),()))
 | 0,s,l,pre,h,_=>by cases h
 | f+1,s,l,pre,h,e=>by
  simp only [VO] at h
  simp only [xr,zpY]
  cases hz:decide (s=0#64) with
  | true =>
   simp only [hz,cond_true,Option.some.injEq] at h
   subst h
   simp only [List.append_nil] at e
   subst e
   rfl
  | false =>
   simp only [hz,cond_false,Option.map_eq_some_iff] at h
   obtain ⟨l',h1,rfl⟩:=h
   have hn:YH ys (pre.length:Int) (w64 (tz s+1))=some ():=by rw [e];exact zgs pre l' _
   simp only [Bool.not_false,cond_true,zFh,Option.bind_some,hn]
   have:=zhY n ys f (s&&&(s-1#64)) l' (pre++[w64 (tz s+1)]) h1 (by rw [e];simp)
   simpa using this
theorem zrI (G:Nat→Prop) (W0:World) (hG:zml G W0):Yz Go.Proofs.Tryz.prog G W0 116 zaI:=by
 obtain ⟨c,hc⟩:=Option.isSome_iff_exists.1 zEa
 refine zn9 (Cg:=zbf []) rfl zpv (fun f s hs=>Oks.at (.cons _ _ _ _ zEU (zBA hG) (.skip _ _ .nil)) f s hs) rfl ztp (fun g it h=>by cases h) zEt zGe hc zaI (Nat.le_of_ble_eq_true (by kernel_rfl)) rfl ?_
 rintro n ⟨a,⟨⟩⟩ ys h
 have h:VO 66 a=some ys:=h
 have e:=zsU n ys a
 have k:=zgF _ 66 vH _ (zhY n ys 66 a ys [] h rfl) (by decide)
 refine Eq.trans e ?_
 have k':xr (zaj ys) vH (n,0,a,())=some (.brk (n,(ys.length:Int),())):=k
 rw [XW,k']
 rfl
theorem ztN {a:Int} (h: -9223372036854775808≤a) (h2:a<9223372036854775808):w64 a=a:=by
 rw [zqt]
 omega
theorem zc4 (n:Int) (ys:List (List Int)) (l:List Int) (sz:Nat) (h1:1≤sz) (h2:sz<1000000) (h3:l.length<1000000): ∀(f p:Nat) (pre:List (List Int)),(l.drop p).length≤f→ys=pre++vl sz f (l.drop p)→p<2000000 →
  xr (v9 ys) (f+1) (n,(pre.length:Int),(p:Int),l,(sz:Int),())=some (.brk (n,(ys.length:Int),())):=by
 intro f
 induction f with
 | zero =>
  intro p pre hf e hp
  simp only [xr,XR]
  simp only [List.length_drop] at hf
  have: ¬(p:Int)<(l.length:Int):=by omega
  simp only [this,decide_false,cond_false,Option.bind_some]
  simp only [vl,List.append_nil] at e
  rw [e]
 | succ f ih =>
  intro p pre hf e hp
  rw [xr,XR]
  by_cases hlt:p<l.length
  ·have hlt':(p:Int)<(l.length:Int):=by omega
   have hcut:cut l (p:Int) (l.length:Int)=some (l.drop p):=by
    unfold cut
    have:(decide (0≤(p:Int))&&decide ((p:Int)≤(l.length:Int))&&decide ((l.length:Int)≤(l.length:Int)))=true:=by simp;omega
    simp only [this,cond_true]
    simp
   obtain ⟨x,r,hxr⟩: ∃x r,l.drop p=x::r:=by
    cases hd:l.drop p with
    | nil=>have:=congrArg List.length hd;simp at this;omega
    | cons x r=>exact ⟨x,r,rfl⟩
   have hch:vl sz (f+1) (l.drop p)=(l.drop p).take sz::vl sz f (l.drop (p+sz)):=by
    rw [hxr];simp only [vl];rw [←hxr,List.drop_drop]
   have hm: ∃m:Nat,(bif decide (((l.drop p).length:Int)<(sz:Int)) then (((l.drop p).length:Int)) else (sz:Int))=(m:Int)∧m=min sz (l.length-p):=by
    simp only [List.length_drop]
    by_cases hs:((l.length-p:Nat):Int)<(sz:Int)
    ·exact ⟨l.length-p,by simp only [hs,decide_true,cond_true],by omega⟩
    ·exact ⟨sz,by simp only [hs,decide_false,cond_false],by omega⟩
   obtain ⟨m,hm1,hm2⟩:=hm
   have hw:w64 ((p:Int)+(m:Int))=((p+m:Nat):Int):=by rw [ztN (by omega) (by omega)];omega
   have hw2:w64 ((p:Int)+(sz:Int))=((p+sz:Nat):Int):=by rw [ztN (by omega) (by omega)];omega
   have hne: ¬((p+m:Nat):Int)=0:=by omega
   simp only [hlt',decide_true,cond_true,hcut,Option.bind_some,hm1,hw,hw2,hne,decide_false,Bool.and_false,cond_false]
   have hn:YH ys (pre.length:Int) ((l.drop p).take sz)=some ():=by rw [e,hch];exact zgs pre _ _
   have hcut2:cut l (p:Int) ((p+m:Nat):Int)=some ((l.drop p).take sz):=by
    unfold cut
    have:(decide (0≤(p:Int))&&decide ((p:Int)≤((p+m:Nat):Int))&&decide (((p+m:Nat):Int)≤(l.length:Int)))=true:=by simp;omega
    simp only [this,cond_true]
    refine congrArg some ?_
    simp only [Int.toNat_natCast]
    rw [List.drop_take,Nat.add_sub_cancel_left,hm2]
    by_cases hs:sz≤l.length-p
    ·rw [Nat.min_eq_left hs]
    ·rw [Nat.min_eq_right (by omega),List.take_of_length_le (l:=l.drop p) (by simp),List.take_of_length_le (l:=l.drop p) (by simp;omega)]
   have hnext:=ih (p+sz) (pre++[(l.drop p).take sz]) (by simp only [List.length_drop] at hf ⊢;omega) (by rw [e,hch];simp) (by omega)
   have hlen:((pre++[(l.drop p).take sz]).length:Int)=(pre.length:Int)+1:=by simp
   rw [hlen] at hnext
   cases hfull:(decide ((p:Int)=0)&&decide (((p+m:Nat):Int)=(l.length:Int))&&decide (((p+m:Nat):Int)=(l.length:Int))) with
   | true =>
    simp only [cond_true]
    have hl:l=(l.drop p).take sz:= ?_
    ·rw [←hl] at hn
     rw [hn]
     exact hnext
    simp only [Bool.and_eq_true,decide_eq_true_eq] at hfull
    obtain ⟨⟨hp0,hpl⟩,_⟩:=hfull
    have hp00:p=0:=by omega
    rw [hp00,List.drop_zero,List.take_of_length_le (by omega)]
   | false =>
    simp only [cond_false,hcut2,Option.bind_some,decide_true,cond_true]
    rw [hn]
    exact hnext
  ·have hnl: ¬(p:Int)<(l.length:Int):=by omega
   have hd:l.drop p=[]:=List.drop_eq_nil_of_le (by omega)
   simp only [hnl,decide_false,cond_false,Option.bind_some]
   rw [hd] at e
   simp only [vl,List.append_nil] at e
   rw [e]
theorem zee (n:Int) (ys:List (List Int)) (l:List Int) (sz:Int) (h:zkn l sz=some ys):xr (v9 ys) vH (n,0,0,l,sz,())=some (.brk (n,(ys.length:Int),())):=by
 unfold zkn at h
 cases hc:(decide (1≤sz)&&decide (sz<1000000)&&decide ((l.length:Int)<1000000)) with
 | false=>simp [hc] at h
 | true =>
  simp only [hc,cond_true] at h
  injection h with h
  simp only [Bool.and_eq_true,decide_eq_true_eq] at hc
  obtain ⟨⟨c1,c2⟩,c3⟩:=hc
  have k:=zgF _ (l.length+1) vH _ (zc4 n ys l sz.toNat (by omega) (by omega) (by omega) l.length 0 [] (by simp) (by simpa using h.symm) (by omega)) (by unfold vH;omega)
  have hs:((sz.toNat:Nat):Int)=sz:=by omega
  rw [hs] at k
  exact k
theorem zd6 (G:Nat→Prop) (W0:World) (hG:zml G W0):Yz Go.Proofs.Tryz.prog G W0 78 vk:=by
 obtain ⟨c,hc⟩:=Option.isSome_iff_exists.1 zFz
 refine zn9 (Cg:=uw []) rfl zpv (fun f s hs=>Oks.at .nil f s hs) rfl ztp (fun g it h=>by cases h) zE8 zGn hc vk (Nat.le_of_ble_eq_true (by kernel_rfl)) rfl (fun n x ys h=> ?_)
 refine Eq.trans (zep n ys x.1 x.2.1) ?_
 rw [XW,zee n ys x.1 x.2.1 h]
 rfl
end Go.Pe.G
namespace Go.Pe.G
open Go.Pe Go.Proofs
theorem zA8 (bk off cap:Nat) (l:List Int) (w:World) (hH:Go.Sort.Holds (Value.int .i64) w bk off l.toArray) (hb:bk<w.heap.size) (hlen:l.length<4294967296) :
  Calls Tryz.prog 148 #[.slice (some ⟨bk,off,none⟩) l.length cap] w fun e w'=>e= .returned (.tuple #[])∧∃n os,w'=Go.Sort.grow (Go.Sort.putRow (Value.int .i64) (Go.Sort.ahead w n) bk off (xS l).toArray) os:=by
 have hsz:l.toArray.size=l.length:=by simp
 have hlog:Go.Sort.bitsLen l.length<4611686018427387904:=by
  unfold Go.Sort.bitsLen
  split
  ·omega
  ·rename_i h0
   have:=(Nat.log2_lt h0 (k:=32)).2 (by omega)
   omega
 have hdep:=Go.Sort.pdqDepth_le_59 Go.Sort.ltInt l.toArray 0 l.toArray.size (Go.Sort.bitsLen l.toArray.size) true true (by rw [hsz];omega)
 have hs:Go.Sort.pdq Go.Sort.ltInt l.toArray 0 l.toArray.size (Go.Sort.bitsLen l.toArray.size) true true=(xS l).toArray:=Go.Proofs.Any.sort_int_eqD l
 have hP:Calls Tryz.prog 193 #[.slice (some ⟨bk,off,none⟩) l.length cap,.int .i64 0,.int .i64 (l.length:Int),.int .i64 ((Go.Sort.bitsLen l.length:Nat):Int)] w fun e w'=>e= .returned (.tuple #[])∧∃n os,w'=Go.Sort.grow (Go.Sort.putRow (Value.int .i64) (Go.Sort.ahead w n) bk off (xS l).toArray) os:=by
  have hk:=Go.calls_of_every_depth fun D=>Go.Proofs.Any.pdqWalkInInt Go.Proofs.laysPd D 65 bk off cap 0 l.toArray.size (Go.Sort.bitsLen l.toArray.size) l.toArray w (by omega) hH hb (Nat.zero_le _) (Nat.le_refl _) (by rw [hsz];omega) (by rw [hsz];exact hlog) (Or.inl rfl)
  rw [hs,hsz] at hk
  exact hk
 have hL:Calls Tryz.prog 194 #[.int .u64 (l.length:Int)] w fun e w'=>e= .returned (.int .i64 ((Go.Sort.bitsLen l.length:Nat):Int))∧w'=w:=by
  have hk:=Go.calls_of_every_depth fun D=>Go.Proofs.AnyS.bits_LenIn Go.Proofs.laysLn D (l.length:Int) w (by omega) (by omega)
  rw [Int.toNat_natCast,Go.Proofs.bitLen_eq _ (by omega)] at hk
  exact hk
 clear hH hdep hs hsz
 go_enter Tryz.func148,Tryz.ntmps148
 go_wp2_with (first
  | (go_at_call 194;refine hL.mono ?_;rintro e w' ⟨rfl,rfl⟩)
  | (go_at_call 193;refine hP.mono ?_;rintro e w' ⟨rfl,n,os,rfl⟩))
 go_end0
 exact ⟨rfl,n,os,rfl⟩
theorem zBK (a:Option Addr) (w:World):Calls Tryz.prog 148 #[.slice a 0 0] w fun e w'=>e= .returned (.tuple #[])∧w'=w:=by
 have hP:=Go.calls_of_every_depth fun D=>Go.Proofs.AnyS.pdqsort_int_none_in Go.Proofs.laysPd D a 0 w
 have hL:Calls Tryz.prog 194 #[.int .u64 0] w fun e w'=>e= .returned (.int .i64 0)∧w'=w:=Go.calls_of_every_depth fun D=>Go.Proofs.AnyS.bits_LenIn Go.Proofs.laysLn D 0 w (by omega) (by omega)
 go_enter Tryz.func148,Tryz.ntmps148
 go_wp2_with (first
  | (go_at_call 194;refine hL.mono ?_;rintro e w' ⟨rfl,rfl⟩)
  | (go_at_call 193;refine hP.mono ?_;rintro e w' ⟨rfl,rfl⟩))
 go_end0
 exact ⟨rfl,rfl⟩
noncomputable def zrG:zy E:=sp (cf [] [] [] [] [] []) Tryz.f147 ⟨[vL],[]⟩ ⟨[.own 0],[.row true (.int .i64)]⟩ [oL] [oL]
theorem zD8 (a:List Int):zrG.F (a,())=bif a.isEmpty then zjY (some (([]:List Int),())) ((yc (([]:List Int)++a)).bind fun l=>some (l,())) else (yc (([]:List Int)++a)).bind fun l=>some (l,()):=zr (by kernel_rfl)
theorem zEy {a:List Int} (h:a.length<4294967296):zrG.F (a,())=some (a,()):=by
 have hr:yc a=some a:=by rw [zsz,decide_eq_true h];rfl
 rw [zD8,List.nil_append,hr]
 cases a with
 | nil=>exact zcH _
 | cons x l=>rfl
theorem zBa {G:Nat→Prop} {W0:World} (hG:zml G W0):Yk Tryz.prog G W0 147 zrG :=
 zwA (C:=cf [] [] [] [] [] []) zpv (ztx .nil) rfl (zxL .nil) ztp Tryz.func147 (by kernel_rfl) (by kernel_rfl) (by kernel_rfl)
theorem zEe {w w':World} {A A' U U':Nat→Prop} {μ:Nat→Loc} {id:Nat} {v:Value} (h:zT E w A U μ (.own id) v) (hU:U' id):zT E w' A' U' μ (.own id) v:=by
 cases h with
 | own _ b off len cap _ hμ=>exact .own id b off len cap hU hμ
 | own0 _ a a2 _ hμ=>exact .own0 id a a2 hU hμ
theorem zDH {A1:Nat→Prop} {μ1:Nat→Loc} {l:List Int} {w1:World} {v1:Value} (S:zM A1 μ1 [Blk.row (E:=E) true (.int .i64) l] w1) (h0:zT E w1 (Av A1 μ1 [Blk.row (E:=E) true (.int .i64) l]) (Us [Blk.row (E:=E) true (.int .i64) l]) μ1 (.own 0) v1) (hlen:l.length<4294967296) :
  Calls Tryz.prog 148 #[v1] w1 fun e w2=>e= .returned (.tuple #[])∧zM A1 μ1 [Blk.row (E:=E) true (.int .i64) (xS l)] w2∧Adv (Lv μ1 [Blk.row (E:=E) true (.int .i64) l]) w1 (Lv μ1 [Blk.row (E:=E) true (.int .i64) (xS l)]) w2:=by
 have hok:=S.ok 0
 cases h0 with
 | own0 _ a1 a2 hU hμ =>
  have hl:l=[]:=by
   rcases hok with ⟨_,_,_,_,_,e1,_⟩ | ⟨e,_⟩
   ·have e1:μ1 0=_:=e1
    rw [hμ] at e1;cases e1
   ·exact e
  subst hl
  have e0:xS []=[]:=by unfold xS;simp
  refine (zBK a1 w1).mono ?_
  rintro e w' ⟨rfl,rfl⟩
  rw [e0]
  exact ⟨rfl,S,Adv.refl _ _⟩
 | own _ bk off len cap hU hμ =>
  obtain ⟨hA,hb⟩:=S.out 0 bk off len cap rfl hμ
  obtain ⟨cc,vs,t,rfl,e2,h1,h2,h3,h4⟩: ∃(cc:Array Value) (vs:Nat→Value) (t:TypeId),len=l.length∧w1.heap[bk]? =some (.cells cc t (0,0))∧l.length≤cap∧off+cap*1≤cc.size ∧
    (∀i,i<l.length→∀j u,(vs i).cells[j]? =some u→cc[off+i*1+j]? =some u)∧∀i (h:i<l.length),z5 E w1 (Av A1 μ1 [Blk.row true (.int .i64) l]) (.int .i64) (vs i) l[i]:=by
   rcases hok with ⟨b',off',cap',cc,vs,e1,⟨t,f,e2,e3⟩,h1,h2,h3,h4⟩ | ⟨_,a,e⟩
   ·have e1:μ1 0=_:=e1
    rw [hμ] at e1
    injection e1 with q1 q2 q3 q4
    subst q1;subst q2;subst q4
    have e3:=e3 rfl
    subst e3
    exact ⟨cc,vs,t,q3,e2,h1,h2,h3,h4⟩
   ·have e:μ1 0=_:=e
    rw [hμ] at e;cases e
  have hcell: ∀(j:Nat) (h:j<l.length),cc[off+j]? =some (.int .i64 l[j]):=fun j h=>by
   have r:=h4 j h
   have q:=h3 j h 0
   obtain ⟨z,hz⟩: ∃z:Int,z=l[j]:=⟨_,rfl⟩
   rw [←hz] at r ⊢
   generalize vs j=vj at r q
   cases r with
   | int k z =>
    have:=q _ rfl
    rw [Nat.mul_one,Nat.add_zero] at this
    exact this
  have hsz:l.toArray.size=l.length:=by simp
  have hH:Go.Sort.Holds (Value.int .i64) w1 bk off l.toArray:=fun j hj=>by
   have hj:j<l.length:=by rw [←hsz];exact hj
   refine ⟨?_,?_⟩
   ·unfold World.cell?
    rw [e2]
    show cc[off+j]? =some (Value.int .i64 l.toArray[j]!)
    rw [hcell j hj,getElem!_pos l.toArray j (by rw [hsz];exact hj)]
    rfl
   ·unfold World.frozen?
    rw [e2]
    simp
  refine (zA8 bk off cap l w1 hH hb hlen).mono ?_
  rintro e w' ⟨rfl,n,os,rfl⟩
  obtain ⟨hS,hAd⟩:=zsI S hμ hb e2 h1 h2 hcell n os
  exact ⟨rfl,hS,hAd⟩
theorem zoH {G:Nat→Prop} {W0:World} (hG:zml G W0):Yk Tryz.prog G W0 88 zqC:=by
 intro A0 μ w args x y wd S hr hy
 obtain ⟨l,⟨⟩⟩:=x
 have hy:zmO l=some y:=hy
 unfold zmO at hy
 cases hc:decide (l.length<4294967296) with
 | false=>rw [hc] at hy;cases hy
 | true =>
 rw [hc] at hy
 injection hy with hy
 subst hy
 have hlen:l.length<4294967296:=by simpa using hc
 have hcl:=zBa hG A0 μ w args (l,()) (l,()) wd S hr (zEy hlen)
 obtain ⟨v,rfl⟩: ∃v,args= #[v]:=by
  have hl:=hr.1
  have hl:1=args.toList.length:=hl
  match ha:args.toList,hl with
  | [v],_=>exact ⟨v,by rw [←Array.toArray_toList (xs:=args),ha]⟩
 go_enter Tryz.func88,Tryz.ntmps88
 have hout: ∀ {vs:List Value} {A1:Nat→Prop} {μ1:Nat→Loc} {w1:World},zxw A0 μ (ym id zrG.inn (HL.toP zrG.inn.holes (l,()))).2 w zrG (zrG.go.to (l,())) vs A1 μ1 w1→∃v1,vs=[v1]∧zT E w1 (Av A1 μ1 [Blk.row (E:=E) true (.int .i64) l]) (Us [Blk.row (E:=E) true (.int .i64) l]) μ1 (.own 0) v1∧zM A1 μ1 [Blk.row (E:=E) true (.int .i64) l] w1:=fun {vs A1 μ1 w1} oc=>by
  have hl:=oc.rep.1
  have hl:1=vs.length:=hl
  match vs,hl,oc with
  | [v1],_,oc=>exact ⟨v1,rfl,oc.rep.2 0 (.own 0) v1 rfl rfl,oc.sim⟩
 go_wp2_with (first | (go_at_call 147;refine hcl.mono ?_;rintro e w1 ⟨vs,A1,μ1,rfl,oc⟩;obtain ⟨v1,rfl,h1,hS1⟩:=hout oc;have hso:=zDH hS1 h1 hlen) | (go_at_call 148;refine hso.mono ?_;rintro e w2 ⟨rfl,hS2,hAd2⟩))
 go_ret
 exact ⟨[v1],A1,μ1,rfl,hS2,RL.cons (zEe h1 rfl) RL.nil,oc.adv.trans hAd2,oc.up,fun b hb=>Nat.lt_of_lt_of_le (oc.low b hb) hAd2.size,fun j ws h=>by cases j<;>cases h⟩
end Go.Pe.G
namespace Go.Proofs
open Go.Shelf
def ztF:Go.Shelf.Ren:={f:=fun k=>if k=6 then 110 else if k=10 then 99 else k,g:=fun k=>k,t:=fun k=>if k=0 then 0 else if k=3 then 3 else if k=4 then 4 else if k=22 then 38 else if k=23 then 3 else if k=25 then 130 else k}
theorem zEh:Bears Tryz.prog (ztF.f 6) (SlBodyH.n6 ztF):=Exists.intro ("slices.IndexFunc[[]int,int]") ⟨by kernel_rfl,by kernel_rfl⟩
theorem zEq:Bears Tryz.prog (ztF.f 10) (SlBodyH.n10 ztF):=Exists.intro ("slices.DeleteFunc[[]int,int]") ⟨by kernel_rfl,by kernel_rfl⟩
theorem zEX:SlLaysH.n10 Tryz.prog ztF:=by
 constructor<;>first | exact zEh | exact zEq | kernel_rfl | (intro w;kernel_rfl)
def zlE:Go.Shelf.Ren:={f:=fun k=>if k=4 then 149 else k,g:=fun k=>k,t:=fun k=>if k=0 then 0 else if k=3 then 3 else if k=4 then 4 else if k=9 then 9 else if k=20 then 20 else if k=22 then 55 else if k=25 then 3 else k}
theorem zEw:Bears Tryz.prog (zlE.f 4) (Body8.n4 zlE):=Exists.intro ("slices.Grow[besom/bag.Bag,int]") ⟨by kernel_rfl,by kernel_rfl⟩
theorem zB6:Lays8.n4 Tryz.prog zlE:=by
 constructor<;>first | exact zEw | kernel_rfl | (intro w;kernel_rfl)
end Go.Proofs
namespace Go.Pe.G
open Go.Pe Go.Proofs
theorem lv1 {μ:Nat→Loc} {l:List Int} {b:Nat} (h:Lv (E:=E) μ [.free,Blk.row true (.int .i64) l] b): ∃off len cap,μ 1= .blk b off len cap:=by
 obtain ⟨id,off,len,cap,hl,hm⟩:=h
 match id with
 | 0=>cases hl
 | 1=>exact ⟨off,len,cap,hm⟩
 | id+2=>cases hl
theorem zGq {A0:Nat→Prop} {μ:Nat→Loc} {l:List Int} {w:World} {b off cap:Nat} {cc:Array Value} {t:TypeId} (h0:μ 1= .blk b off l.length cap) (hA: ¬A0 b) (e2:w.heap[b]? =some (.cells cc t (0,0))) (h1:l.length≤cap) (h2:off+cap≤cc.size)
  (hc: ∀(i:Nat) (h:i<l.length),cc[off+i]? =some (.int .i64 l[i])):zM A0 μ [.free,Blk.row (E:=E) true (.int .i64) l] w:=by
 refine ⟨fun id=> ?_,fun i j b o l c b' o' l' c' ne hi hj=> ?_,fun id b' o l' c ho hm=> ?_⟩
 ·match id with
  | 0=>exact trivial
  | 1 =>
   refine .inl ⟨b,off,cap,cc,fun i=> .int .i64 (l.getD i 0),h0,⟨t,(0,0),e2,fun _=>rfl⟩,h1,?_,fun i hi j u hu=> ?_,fun i hi=> ?_⟩
   ·show off+cap*1≤cc.size;omega
   ·have hi:i<l.length:=hi
    match j,hu with
    | 0,hu =>
     have hu:some (Value.int .i64 (l.getD i 0))=some u:=hu
     injection hu with hu
     subst hu
     show cc[off+i*1+0]? =_
     rw [Nat.mul_one,Nat.add_zero,hc i hi,List.getD_eq_getElem?_getD,List.getElem?_eq_getElem hi];rfl
    | j+1,hu=>cases hu
   ·have hi:i<l.length:=hi
    have e:l.getD i 0=l[i]:=by rw [List.getD_eq_getElem?_getD,List.getElem?_eq_getElem hi];rfl
    show z5 E _ _ (.int .i64) (.int .i64 (l.getD i 0)) l[i]
    rw [e]
    exact .int .i64 _
  | id+2=>exact trivial
 ·match i,j with
  | 0,_=>cases hi
  | 1,0=>cases hj
  | 1,1=>exact absurd rfl ne
  | 1,j+2=>cases hj
  | i+2,_=>cases hi
 ·match id with
  | 0=>cases ho
  | 1 =>
   have hm:μ 1=Loc.blk b' o l' c:=hm
   rw [h0] at hm
   injection hm with hm
   subst hm
   exact ⟨hA,(Array.getElem?_eq_some_iff.1 e2).1⟩
  | id+2=>cases ho
theorem zGb {A0:Nat→Prop} {μ:Nat→Loc} {w:World} {b cap:Nat} {cc:Array Value} {t:TypeId} (h0:μ 0= .blk b 0 0 cap) (hA: ¬A0 b) (e2:w.heap[b]? =some (.cells cc t (0,0))) (h2:cap≤cc.size):zM A0 μ [Blk.row (E:=E) true (.int .i64) []] w:=by
 refine ⟨fun id=> ?_,fun i j b o l c b' o' l' c' ne hi hj=> ?_,fun id b' o l' c ho hm=> ?_⟩
 ·match id with
  | 0 =>
   refine .inl ⟨b,0,cap,cc,fun i=> .int .i64 0,h0,⟨t,(0,0),e2,fun _=>rfl⟩,Nat.zero_le _,?_,fun i hi=>absurd hi (Nat.not_lt_zero _),fun i hi=>absurd hi (Nat.not_lt_zero _)⟩
   show 0+cap*1≤cc.size;omega
  | id+1=>exact trivial
 ·match i,j with
  | 0,0=>exact absurd rfl ne
  | 0,j+1=>cases hj
  | i+1,_=>cases hi
 ·match id with
  | 0 =>
   have hm:μ 0=Loc.blk b' o l' c:=hm
   rw [h0] at hm
   injection hm with hm
   subst hm
   exact ⟨hA,(Array.getElem?_eq_some_iff.1 e2).1⟩
  | id+1=>cases ho
theorem zFX {A0:Nat→Prop} {μ:Nat→Loc} {w:World} {a:Option Addr} (h0:μ 0= .none a):zM A0 μ [Blk.row (E:=E) true (.int .i64) []] w:=by
 refine ⟨fun id=> ?_,fun i j b o l c b' o' l' c' ne hi hj=> ?_,fun id b' o l' c ho hm=> ?_⟩
 ·match id with
  | 0=>exact .inr ⟨rfl,a,h0⟩
  | id+1=>exact trivial
 ·match i,j with
  | 0,0=>exact absurd rfl ne
  | 0,j+1=>cases hj
  | i+1,_=>cases hi
 ·match id with
  | 0 =>
   have hm:μ 0=Loc.blk b' o l' c:=hm
   rw [h0] at hm;cases hm
  | id+1=>cases ho
theorem zFg {A0:Nat→Prop} {μ:Nat→Loc} {l:List Int} {w:World} (S:zM A0 μ [Blk.row (E:=E) true (.int .i64) l] w) {bk off len cap:Nat} (hμ:μ 0= .blk bk off len cap) :
  ¬A0 bk∧bk<w.heap.size∧len=l.length∧∃(cc:Array Value) (t:TypeId),w.heap[bk]? =some (.cells cc t (0,0))∧l.length≤cap∧off+cap≤cc.size∧∀(j:Nat) (h:j<l.length),cc[off+j]? =some (.int .i64 l[j]):=by
 obtain ⟨hA,hb⟩:=S.out 0 bk off len cap rfl hμ
 refine ⟨hA,hb,?_⟩
 rcases S.ok 0 with ⟨b',off',cap',cc,vs,e1,⟨t,f,e2,e3⟩,h1,h2,h3,h4⟩ | ⟨_,a,e⟩
 ·have e1:μ 0=_:=e1
  rw [hμ] at e1
  injection e1 with q1 q2 q3 q4
  subst q1;subst q2;subst q4
  have e3:=e3 rfl
  subst e3
  have h2:off+cap*1≤cc.size:=h2
  refine ⟨q3,cc,t,e2,h1,by omega,fun j h=> ?_⟩
  have r:=h4 j h
  have q:=h3 j h 0
  obtain ⟨z,hz⟩: ∃z:Int,z=l[j]:=⟨_,rfl⟩
  have r:z5 E w _ (.int .i64) (vs j) l[j]:=r
  rw [←hz] at r ⊢
  generalize vs j=vj at r q
  cases r with
  | int k z =>
   have:=q _ rfl
   have this:cc[off+j*1+0]? =_:=this
   rw [Nat.mul_one,Nat.add_zero] at this
   exact this
 ·have e:μ 0=_:=e
  rw [hμ] at e;cases e
theorem zCy (W:World) (x:Int):Calls Tryz.prog 100 #[.int .i64 x] W fun e w'=>e= .returned (.bool (decide (x=0)))∧w'=W:=by
 go_enter Tryz.func100,Tryz.ntmps100
 go_wp2
 go_ret
 exact ⟨rfl,rfl⟩
theorem zrg {G:Nat→Prop} {W0:World} (hG:zml G W0):Yk Tryz.prog G W0 62 zxd:=by
 intro A0 μ w args x y wd S hr hy
 obtain ⟨l,⟨⟩⟩:=x
 have hy:zt3 l=some y:=hy
 unfold zt3 at hy
 cases hc:(decide (0<l.length)&&decide (l.length<4294967296)) with
 | false=>rw [hc] at hy;cases hy
 | true =>
 rw [hc] at hy
 injection hy with hy
 subst hy
 simp only [Bool.and_eq_true,decide_eq_true_eq] at hc
 obtain ⟨hpos,hlen⟩:=hc
 obtain ⟨v,rfl,h0⟩: ∃v,args= #[v]∧zT E w (Av A0 μ [Blk.row true (.int .i64) l]) (Us [Blk.row true (.int .i64) l]) μ (.own 0) v:=by
  have hl:=hr.1
  have hl:1=args.toList.length:=hl
  match ha:args.toList,hl with
  | [v],_=>exact ⟨v,by rw [←Array.toArray_toList (xs:=args),ha],hr.2 0 (.own 0) v rfl (by rw [ha];rfl)⟩
 have S:zM A0 μ [Blk.row true (.int .i64) l] w:=S
 cases h0 with
 | own0 _ a1 a2 hU hμ =>
  exfalso
  rcases S.ok 0 with ⟨_,_,_,_,_,e1,_⟩ | ⟨e,_⟩
  ·have e1:μ 0=_:=e1
   rw [hμ] at e1;cases e1
  ·rw [e] at hpos;cases hpos
 | own _ bk off len cap hU hμ =>
  obtain ⟨hA,hb,rfl,cc,t,e2,h1,h2,hcell⟩:=zFg S hμ
  have hsz:l.toArray.size=l.length:=by simp
  have hH:Go.Sort.Holds (Value.int .i64) w bk off l.toArray:=fun j hj=>by
   have hj:j<l.length:=by rw [←hsz];exact hj
   refine ⟨?_,?_⟩
   ·unfold World.cell?
    rw [e2]
    show cc[off+j]? =some (Value.int .i64 l.toArray[j]!)
    rw [hcell j hj,getElem!_pos l.toArray j (by rw [hsz];exact hj)]
    rfl
   ·unfold World.frozen?
    rw [e2]
    simp
  have fg: ∀(W:World) (x:Int),FnGives Tryz.prog 100 #[] #[.int .i64 x] (.bool (decide (x=0))) W:=fun W x=>(zCy W x).mono (by rintro e w' ⟨rfl,rfl⟩;exact ⟨rfl,0,rfl⟩)
  have eg: ∀args w,(callFunc 100 args).run Tryz.prog w= .ok (.enter 100 args) w:=enters_of Tryz.func100 (by kernel_rfl) rfl
  have hd:=AnyE.slices_DeleteFunc zEX (Value.int .i64) (fun _=>rfl) (fun x:Int=>decide (x=0)) 100 #[] eg 0 (fun w=>by kernel_rfl) bk off cap l.toArray w (fun W x _=>fg W x) (fun n os dk x _=>fg _ x) hH (by rw [hsz];omega) (by rw [hsz];exact h1)
  rw [hsz] at hd
  rw [show l.toArray.toList=l from rfl] at hd
  have hf:(l.filter fun x=> !decide (x=0)).length≤l.length:=List.length_filter_le _ _
  clear eg fg
  generalize hm:(l.filter fun x=> !decide (x=0))=m at hd hf ⊢
  have hd:Calls Tryz.prog 99 #[.slice (some ⟨bk,off,none⟩) l.length cap,.func (.func 100) #[] #[]] w fun e w'=>e= .returned (.slice (some ⟨bk,off,none⟩) m.length cap)∧∃q,w'=Go.Sort.putRow (Value.int .i64) (Go.Sort.ahead w q) bk off (m++List.replicate (l.length-m.length) 0).toArray:=hd
  go_enter Tryz.func62,Tryz.ntmps62
  go_wp2_with (go_at_call 99;refine hd.mono ?_;rintro e w' ⟨rfl,q,rfl⟩)
  go_ret
  have hheap: ∀k,(Go.Sort.putRow (Value.int .i64) (Go.Sort.ahead w q) bk off (m++List.replicate (l.length-m.length) 0).toArray).heap[k]? =if bk=k then some (.cells (Go.Sort.putCells (Value.int .i64) off (m++List.replicate (l.length-m.length) 0).toArray cc) t (0,0)) else w.heap[k]? :=fun k=>by
   unfold Go.Sort.putRow Go.Sort.mapBlock Go.Sort.ahead
   dsimp only
   rw [Array.getElem?_modify]
   split
   ·rename_i h;subst h;rw [e2];rfl
   ·rfl
  have hput: ∀(i:Nat) (h:i<m.length),(Go.Sort.putCells (Value.int .i64) off (m++List.replicate (l.length-m.length) 0).toArray cc)[off+i]? =some (.int .i64 m[i]):=fun i h=>by
   unfold Go.Sort.putCells
   rw [Array.getElem?_mapIdx,hcell i (by omega),Option.map_some,if_pos ⟨by omega,by simp;omega⟩,show off+i-off=i by omega,getElem!_pos _ i (by simp;omega)]
   simp [List.getElem_append_left h]
  have hsize:(Go.Sort.putRow (Value.int .i64) (Go.Sort.ahead w q) bk off (m++List.replicate (l.length-m.length) 0).toArray).heap.size=w.heap.size:=by simp
  refine ⟨[.slice (some ⟨bk,off,none⟩) m.length cap],A0,fun id=>if id=1 then .blk bk off m.length cap else μ id,rfl,?_,RL.cons (.own 1 bk off m.length cap rfl rfl) RL.nil,⟨rfl,rfl,rfl,by rw [hsize];exact Nat.le_refl _,fun b hb2 hn=> ?_,fun b _ h=> ?_⟩,fun _ h=>h,fun b h=>by rw [hsize];exact wd.low b h,fun j ws h=>by
   cases j with
   | zero=>cases h
   | succ j=>cases h⟩
  ·show zM A0 _ [.free,Blk.row true (.int .i64) m] _
   have hmc:m.length≤cap:=Nat.le_trans hf h1
   refine zGq (b:=bk) (off:=off) (cap:=cap) (t:=t) rfl hA (by rw [hheap,if_pos rfl]) hmc ?_ hput
   unfold Go.Sort.putCells
   rw [Array.size_mapIdx];exact h2
  ·rw [hheap,if_neg]
   rintro rfl
   exact hn ⟨0,off,l.length,cap,rfl,hμ⟩
  ·obtain ⟨o,n,c,e⟩:=lv1 h
   have e:Loc.blk bk off m.length cap= .blk b o n c:=e
   injection e with e
   subst e
   exact ⟨0,off,l.length,cap,rfl,hμ⟩
theorem zAt (a:Option Addr) (k:Nat) (w:World) (h0:0<k) (hk:k<4294967296):Calls Tryz.prog 149 #[.slice a 0 0,.int .i64 (k:Int)] w fun e w'=>∃(G:Nat) (cc:Array Value) (t:TypeId),G≤cc.size∧e= .returned (.slice (some ⟨w.heap.size,0,none⟩) 0 G)∧w'=w.drew.alloc (.cells cc t):=by
 obtain ⟨i0,hi⟩:=Option.isSome_iff_exists.1 (show (Tryz.prog.info? (zlE.t 25)).isSome=true by kernel_rfl)
 have h2:(Tryz.prog.info? (zlE.t 25)).map TypeInfo.size=some 1:=by kernel_rfl
 have h3:(Tryz.prog.info? (zlE.t 25)).map TypeInfo.bytes=some 8:=by kernel_rfl
 have h4:(Tryz.prog.info? (zlE.t 25)).map TypeInfo.zero=some (some (.int .i64 0)):=by kernel_rfl
 rw [hi] at h2 h3 h4
 simp only [Option.map_some,Option.some.injEq] at h2 h3 h4
 have hd:=Any8.slices_Grow_grow zB6 i0 (.int .i64 0) hi h4 (by rw [h2];decide) a 0 0 k [] w (Nat.le_refl _) (by omega) (by rw [h3];omega) (by omega) (by simp) (fun _=>rfl) (fun b _ j v h=>by cases h)
 refine hd.mono ?_
 rintro e w' ⟨rfl,rfl⟩
 refine ⟨_,_,_,?_,rfl,rfl⟩
 have hg:=grownCap_ge w (0+k) 0 (zlE.t 25)
 have z1:(Value.int IntKind.i64 0).cells.size=1:=rfl
 simp only [Array.size_append,Builtin.zeroCells,Array.size_map,Array.size_range,z1]
 simp
 omega
theorem zzg {G:Nat→Prop} {W0:World} (hG:zml G W0):Yk Tryz.prog G W0 149 zA9:=by
 intro A0 μ w args x y wd S hr hy
 obtain ⟨n,⟨⟩⟩:=x
 have hy:zud n=some y:=hy
 unfold zud at hy
 cases hc:(decide (0≤n)&&decide (n<4294967296)) with
 | false=>rw [hc] at hy;cases hy
 | true =>
 rw [hc] at hy
 injection hy with hy
 subst hy
 simp only [Bool.and_eq_true,decide_eq_true_eq] at hc
 obtain ⟨hn0,hn1⟩:=hc
 obtain ⟨k,hk0⟩:=Int.eq_ofNat_of_zero_le hn0
 have hk1:k<4294967296:=by
  have h: @Eq Int n (k:Int):=hk0
  have h2: @LT.lt Int _ n (4294967296:Int):=hn1
  omega
 subst hk0
 obtain ⟨a,rfl⟩: ∃a,args= #[.slice a 0 0,.int .i64 (k:Int)]:=by
  have hl:=hr.1
  have hl:2=args.toList.length:=hl
  match ha:args.toList,hl with
  | [v,v1],_ =>
   have h0:=hr.2 0 .nils v rfl (by rw [ha];rfl)
   have h1:=hr.2 1 (.v (.int .i64) (k:Int)) v1 rfl (by rw [ha];rfl)
   have e1:v1= .int .i64 (k:Int):=by
    cases h1 with
    | v _ _ _ h=>cases h with
     | int k z=>rfl
   subst e1
   cases h0 with
   | nils a=>exact ⟨a,by rw [←Array.toArray_toList (xs:=args),ha]⟩
 have S:zM A0 μ ([]:List (Blk E)) w:=S
 by_cases hk:k=0
 ·subst hk
  refine (Any8.slices_Grow_room zB6 a 0 0 0 w (Nat.le_refl _) (by omega) (by omega) (by omega)).mono ?_
  rintro e w' ⟨rfl,rfl⟩
  refine ⟨[.slice a 0 0],A0,fun _=> .none a,rfl,zFX rfl,RL.cons (.own0 0 a a rfl rfl) RL.nil,⟨rfl,rfl,rfl,Nat.le_refl _,fun b _ _=>rfl,fun b _ h=> ?_⟩,fun _ h=>h,wd.low,fun j ws h=>by cases h⟩
  obtain ⟨id,off,len,cap,_,hm⟩:=h
  cases hm
 ·refine (zAt a k w (by omega) hk1).mono ?_
  rintro e w' ⟨N,cc,t,hN,rfl,rfl⟩
  have hat:(w.drew.alloc (.cells cc t)).heap[w.heap.size]? =some (.cells cc t (0,0)):=by
   show (w.heap.push _)[w.heap.size]? =_
   simp
  have hold: ∀b,b<w.heap.size→(w.drew.alloc (.cells cc t)).heap[b]? =w.heap[b]? :=fun b hb=>by
   show (w.heap.push _)[b]? =_
   rw [Array.getElem?_push,if_neg (by omega)]
  have hsz:(w.drew.alloc (.cells cc t)).heap.size=w.heap.size+1:=by simp
  refine ⟨[.slice (some ⟨w.heap.size,0,none⟩) 0 N],A0,fun _=> .blk w.heap.size 0 0 N,rfl,zGb rfl (fun h=>by have:=wd.low _ h;omega) hat hN,RL.cons (.own 0 w.heap.size 0 0 N rfl rfl) RL.nil,⟨rfl,rfl,rfl,by rw [hsz];omega,fun b hb _=>hold b hb,fun b hb h=> ?_⟩,fun _ h=>h,fun b h=>by have:=wd.low b h;rw [hsz];omega,fun j ws h=>by cases h⟩
  obtain ⟨id,off,len,cap,_,hm⟩:=h
  injection hm with hm
  omega
theorem zwr (n:Int) (s:za) (ys:List (List Int)) (hs:s.Ws.length<1000000): ∀(f i:Nat) (l pre:List (List Int)),i+f=s.Ws.length→zvt s f (i:Int)=some l→(∃post,ys=pre++l++post) →
  xr (WV ys) (f+1) (n,(pre.length:Int),(s.Ws.length:Int),(i:Int),s,())=some (.brk (n,((pre++l).length:Int),s,()))
 | 0,i,l,pre,hi,h,e=>by
  injection h with h
  subst h
  rw [xr,zgM,show decide ((i:Int)<(s.Ws.length:Int))=false by rw [decide_eq_false_iff_not];omega]
  simp
 | f+1,i,l,pre,hi,h,⟨post,e⟩=>by
  simp only [zvt,Option.bind_eq_some_iff] at h
  obtain ⟨a,h1,l',h2,h3⟩:=h
  injection h3 with h3
  subst h3
  have ei:w64 ((i:Int)+1)=((i+1:Nat):Int):=by rw [ztN (by omega) (by omega)];omega
  have hn:YH ys (pre.length:Int) a.1=some ():=by rw [e,List.append_assoc];exact zgs pre (l'++post) _
  rw [xr,zgM,show decide ((i:Int)<(s.Ws.length:Int))=true by rw [decide_eq_true_eq];omega,ei,show ((i+1:Nat):Int)=(i:Int)+1 by omega,h1]
  simp only [cond_true,Option.bind_some,hn]
  have:=zwr n s ys hs f (i+1) l' (pre++[a.1]) (by omega) (by rw [show ((i+1:Nat):Int)=(i:Int)+1 by omega];exact h2) ⟨post,by rw [e];simp⟩
  simpa using this
theorem zwy (n:Int) (s:za) (ys:List (List Int)) (hs:s.Ms.length<1000000): ∀(f i:Nat) (l pre:List (List Int)),i+f=s.Ms.length→zvd s f (i:Int)=some l→(∃post,ys=pre++l++post) →
  xr (zak ys) (f+1) (n,(pre.length:Int),(s.Ms.length:Int),(i:Int),s,())=some (.brk (n,((pre++l).length:Int),()))
 | 0,i,l,pre,hi,h,e=>by
  injection h with h
  subst h
  rw [xr,zgl,show decide ((i:Int)<(s.Ms.length:Int))=false by rw [decide_eq_false_iff_not];omega]
  simp
 | f+1,i,l,pre,hi,h,⟨post,e⟩=>by
  simp only [zvd,Option.bind_eq_some_iff] at h
  obtain ⟨a,h1,l',h2,h3⟩:=h
  injection h3 with h3
  subst h3
  have ei:w64 ((i:Int)+1)=((i+1:Nat):Int):=by rw [ztN (by omega) (by omega)];omega
  have hn:YH ys (pre.length:Int) a.1=some ():=by rw [e,List.append_assoc];exact zgs pre (l'++post) _
  rw [xr,zgl,show decide ((i:Int)<(s.Ms.length:Int))=true by rw [decide_eq_true_eq];omega,ei,show ((i+1:Nat):Int)=(i:Int)+1 by omega,h1]
  simp only [cond_true,Option.bind_some,hn]
  have:=zwy n s ys hs f (i+1) l' (pre++[a.1]) (by omega) (by rw [show ((i+1:Nat):Int)=(i:Int)+1 by omega];exact h2) ⟨post,by rw [e];simp⟩
  simpa using this
theorem zsd (n:Int) (x:HL E.T za8.holes) (ys:List (List Int)) (h:zay.F x=some ys):znl (Yb ys) Tryz.f87 za8 n x=some (ys.length:Int):=by
 obtain ⟨a1,a2,a3,a4,a5,a6,a7,a8,a9,a10,a11,a12,a13,a14,a15,a16,a17,a18,a19,a20,a21,a22,a23,a24,a25,a26,a27,a28,a29,a30,a31,a32,a33,a34,⟨⟩⟩:=x
 refine Eq.trans (ztB n ys a1 a2 a3 a4 a5 a6 a7 a8 a9 a10 a11 a12 a13 a14 a15 a16 a17 a18 a19 a20 a21 a22 a23 a24 a25 a26 a27 a28 a29 a30 a31 a32 a33 a34) ?_
 have h:zto (za.mk (zb.mk a1 a2 a3 a4 a5 a6 a7 a8 (zt.mk a9 a10) a11 a12 a13 a14) (zt.mk a15 a16) a17 a18 (zo.mk a19 a20) a21 a22 a23 a24 a25 a26 (zk.mk a27 a28 a29 a30) a31 a32 (zw.mk a33 a34))=some ys:=h
 show ((ZN (za.mk (zb.mk a1 a2 a3 a4 a5 a6 a7 a8 (zt.mk a9 a10) a11 a12 a13 a14) (zt.mk a15 a16) a17 a18 (zo.mk a19 a20) a21 a22 a23 a24 a25 a26 (zk.mk a27 a28 a29 a30) a31 a32 (zw.mk a33 a34))).bind fun y1=>(YH ys 0 y1.1).bind fun _ =>
  (zO (WV ys) (n,0+1,((za.mk (zb.mk a1 a2 a3 a4 a5 a6 a7 a8 (zt.mk a9 a10) a11 a12 a13 a14) (zt.mk a15 a16) a17 a18 (zo.mk a19 a20) a21 a22 a23 a24 a25 a26 (zk.mk a27 a28 a29 a30) a31 a32 (zw.mk a33 a34)).Ws.length:Int),0,za.mk (zb.mk a1 a2 a3 a4 a5 a6 a7 a8 (zt.mk a9 a10) a11 a12 a13 a14) (zt.mk a15 a16) a17 a18 (zo.mk a19 a20) a21 a22 a23 a24 a25 a26 (zk.mk a27 a28 a29 a30) a31 a32 (zw.mk a33 a34),())).bind _)=_
 generalize za.mk (zb.mk a1 a2 a3 a4 a5 a6 a7 a8 (zt.mk a9 a10) a11 a12 a13 a14) (zt.mk a15 a16) a17 a18 (zo.mk a19 a20) a21 a22 a23 a24 a25 a26 (zk.mk a27 a28 a29 a30) a31 a32 (zw.mk a33 a34)=s at h ⊢
 unfold zto at h
 cases hc:(decide (s.Ws.length<1000000)&&decide (s.Ms.length<1000000)) with
 | false=>rw [hc] at h;cases h
 | true =>
 rw [hc,cond_true] at h
 simp only [Bool.and_eq_true,decide_eq_true_eq] at hc
 simp only [Option.bind_eq_some_iff] at h
 obtain ⟨a,e1,b,e2,c,e3,e4⟩:=h
 injection e4 with e4
 have k2:=zgF _ _ vH _ (zwr n s ys hc.1 s.Ws.length 0 b [a.1] (by omega) e2 ⟨c,by rw [←e4];simp⟩) (by unfold vH;omega)
 have k7:=zgF _ _ vH _ (zwy n s ys hc.2 s.Ms.length 0 c (a.1::b) (by omega) e3 ⟨[],by rw [←e4];simp⟩) (by unfold vH;omega)
 have k2:xr (WV ys) vH (n,0+1,(s.Ws.length:Int),0,s,())=some (.brk (n,(((a.1::b).length:Nat):Int),s,())):=k2
 have k7:xr (zak ys) vH (n,(((a.1::b).length:Nat):Int),(s.Ms.length:Int),0,s,())=some (.brk (n,(((a.1::b)++c).length:Int),())):=k7
 have hn:YH ys 0 a.1=some ():=by rw [←e4];exact zgs [] (b++c) _
 rw [e1,Option.bind_some,hn,Option.bind_some,XW,k2,Option.bind_some]
 dsimp only
 rw [XW,k7,Option.bind_some]
 dsimp only
 rw [←e4];rfl
end Go.Pe.G
namespace Go.Pe.G
open Go.Pe
theorem k2 {G:Nat→Prop} {W0:World} {f:Nat} {s:zy E} {ss r} (hs:Yk Go.Proofs.Tryz.prog G W0 f s) (h:Oks Go.Proofs.Tryz.prog G W0 ((f,ss)::r)) (hc:ue Go.Proofs.Tryz.prog f=true:=by kernel_rfl):Oks Go.Proofs.Tryz.prog G W0 ((f,s::ss)::r):= .cons _ _ _ _ hc hs h
theorem k1 {G:Nat→Prop} {W0:World} {f:Nat} {s:zy E} {r} (hs:Yk Go.Proofs.Tryz.prog G W0 f s) (h:Oks Go.Proofs.Tryz.prog G W0 r) (hc:ue Go.Proofs.Tryz.prog f=true:=by kernel_rfl):Oks Go.Proofs.Tryz.prog G W0 ((f,[s])::r):= .cons _ _ _ _ hc hs (.skip _ _ h)
abbrev Sd (G:Nat→Prop) (W0:World):=Yk (E:=E) Go.Proofs.Tryz.prog G W0
theorem gs {G:Nat→Prop} {W0:World} {l:List (Nat×List (zy E))} {loops mv kept pk its} {f:FuncId} {fn:Func} {inn out:xG} {gi go:List Grp} {hi:Zz E gi=inn.holes} {ho:Zz E go=out.holes} (h:Oks Go.Proofs.Tryz.prog G W0 l) (h2:Its Go.Proofs.Tryz.prog G W0 its) (hf:Go.Proofs.Tryz.prog.funcs[f]? =some fn:=by kernel_rfl) (hb:fn.body.isSome=true:=by kernel_rfl)
  (hk:(cf l loops mv kept pk its).kept=ziF inn.blks 0:=by kernel_rfl) (hn:Nat.ble inn.vals.length fn.ntmps=true:=by kernel_rfl):Yk Go.Proofs.Tryz.prog G W0 f (sp (cf l loops mv kept pk its) fn inn out gi go hi ho):=zwA (C:=cf l loops mv kept pk its) zpv (ztx h) rfl (zxL h2) ztp hf hb hk hn
variable {G:Nat→Prop} {W0:World} (hG:zml G W0)
include hG
theorem U5:Sd G W0 70 UR:=gs .nil .nil
theorem zkE:Sd G W0 68 zbD:=gs (k1 (U5 hG) .nil) .nil
theorem zlW:Sd G W0 108 zcC:=gs .nil .nil
theorem Xl:Sd G W0 110 ww:=gs (k1 (zlW hG) .nil) .nil
theorem Yr:Sd G W0 73 xZ:=gs (k1 (Xl hG) .nil) .nil
theorem znw:Sd G W0 107 zfv:=gs (k1 (Yr hG) .nil) .nil
theorem Xc:Sd G W0 156 wv:=gs (k1 (znw hG) .nil) .nil
theorem YF:Sd G W0 109 xY:=gs (k1 (Xc hG) .nil) .nil
theorem zgA:Sd G W0 69 zd3:=gs (k1 (YF hG) .nil) .nil
theorem zqP:Sd G W0 71 zmD:=gs .nil .nil
theorem zhX:Sd G W0 72 zfO:=gs .nil .nil
theorem znW:Sd G W0 74 ze9:=gs (k1 (U5 hG) .nil) .nil
theorem XF:Sd G W0 110 wI:=gs (k1 (znW hG) .nil) .nil
theorem Y4:Sd G W0 73 wm:=gs (k1 (XF hG) .nil) .nil
theorem zn1:Sd G W0 158 zeO:=gs .nil .nil
theorem zpU:Sd G W0 113 zkm:=gs (k1 (zn1 hG) .nil) .nil
theorem zoO:Sd G W0 112 zhG:=gs (k1 (zpU hG) .nil) .nil
theorem Ya:Sd G W0 157 xJ:=gs (k1 (zoO hG) .nil) .nil
theorem ZW:Sd G W0 111 xw:=gs (k1 (Ya hG) .nil) .nil
theorem zqW:Sd G W0 75 zmr:=gs (k1 (ZW hG) .nil) .nil
theorem zgr:Sd G W0 47 zdl:=gs .nil .nil
theorem zox:Sd G W0 115 zfm:=gs (k1 (zgr hG) .nil) .nil
theorem ZE:Sd G W0 159 xn:=gs (k1 (zox hG) .nil) .nil
theorem Zh:Sd G W0 114 xe:=gs (k1 (ZE hG) .nil) .nil
theorem zqd:Sd G W0 76 zjR:=gs (k1 (Zh hG) .nil) .nil
theorem zpL:Sd G W0 27 zjx:=gs (k1 (zkE hG) (k1 (zgA hG) (k1 (U5 hG) (k1 (zqP hG) (k1 (zhX hG) (k1 (Y4 hG) (k1 (zqW hG) (k1 (zqd hG) .nil)))))))) .nil
theorem zkX:Sd G W0 67 zlC:=gs .nil .nil
theorem YT:Sd G W0 25 Ue:=gs (k1 (zkX hG) .nil) .nil
theorem zbh:Sd G W0 48 zeJ:=gs (k1 (YT hG) .nil) .nil
theorem zqp:Sd G W0 28 zkk:=gs (k1 (zbh hG) .nil) .nil
theorem zkg:Sd G W0 77 zaV:=gs .nil .nil
theorem zhS:Sd G W0 29 zfN:=gs (k1 (zkg hG) .nil) .nil
theorem zqn:Sd G W0 30 zkb:=gs .nil .nil
theorem yL:Sd G W0 32 yR:=gs .nil .nil
theorem XU:Sd G W0 31 wL:=gs (k1 (yL hG) .nil) .nil
theorem zoZ:Sd G W0 33 zhH:=gs .nil .nil
theorem U7:Sd G W0 34 UL:=gs .nil .nil
theorem Z7:Sd G W0 35 Xa:=gs .nil .nil
theorem zqV:Sd G W0 36 zl3:=gs .nil .nil
theorem zev:Sd G W0 37 Ww:=gs .nil .nil
theorem zrD:Sd G W0 79 zn3:=gs .nil .nil
theorem zs3:Yz Go.Proofs.Tryz.prog G W0 116 zaI:=zrI G W0 hG
theorem zjm:Sd G W0 38 ziR:=gs (k1 (zrD hG) .nil) (.cons _ _ _ (zs3 hG) (.nil))
theorem zso:Sd G W0 151 zod:=gs .nil .nil
theorem zrF:Sd G W0 152 znY:=gs .nil .nil
theorem zsc:Sd G W0 153 znE:=gs .nil .nil
theorem zse:Sd G W0 154 znD:=gs .nil .nil
theorem zbg:Sd G W0 155 Z1:=gs .nil .nil
theorem Yi:Sd G W0 98 Uw:=gs (k1 (zso hG) (k1 (zrF hG) (k1 (zsc hG) (k1 (zse hG) (k1 (zbg hG) .nil))))) .nil
theorem zeA:Sd G W0 80 zcg:=gs (k1 (Yi hG) .nil) .nil
theorem zgv:Sd G W0 81 zdh:=gs .nil .nil
theorem zqL:Sd G W0 39 zl1:=gs (k1 (zeA hG) (k1 (zgv hG) .nil)) .nil
theorem Zr:Sd G W0 40 YE:=gs .nil .nil
theorem Z8:Sd G W0 42 Y6:=gs (k1 (Zr hG) .nil) .nil
theorem Zj:Sd G W0 41 YC:=gs (k1 (Z8 hG) .nil) .nil
theorem zeo:Yz Go.Proofs.Tryz.prog G W0 78 vk:=zd6 G W0 hG
theorem zhT:Sd G W0 6 zgd:=gs (k1 (zpL hG) (k1 (zqp hG) (k1 (zhS hG) (k1 (zqn hG) (k1 (XU hG) (k1 (yL hG) (k1 (zoZ hG) (k1 (U7 hG) (k1 (Z7 hG) (k1 (zqV hG) (k1 (zev hG) (k1 (zjm hG) (k1 (zqL hG) (k1 (Zr hG) (k1 (Zj hG) (k1 (Z8 hG) .nil)))))))))))))))) (.cons _ _ _ (zeo hG) (.nil))
theorem zsD:Sd G W0 49 zn7:=gs .nil .nil
theorem zb8:Sd G W0 89 Yu:=gs (k1 (zzg hG) .nil) .nil
theorem zsS:Sd G W0 50 zqo:=gs (k1 (zoH hG) (k1 (zb8 hG) .nil)) .nil
theorem YD:Sd G W0 90 XL:=gs .nil .nil
theorem zaC:Sd G W0 91 zaz:=gs (k1 (Yi hG) .nil) .nil
theorem zp2:Sd G W0 52 zj6:=gs (k1 (YD hG) (k1 (zaC hG) .nil)) .nil
theorem zcF:Sd G W0 53 zdZ:=gs (k1 (zoH hG) .nil) .nil
theorem zg4:Sd G W0 16 zdr:=gs (k1 (Zr hG) (k1 (Zj hG) (k1 (zp2 hG) (k1 (zcF hG) .nil)))) .nil
theorem zoS:Sd G W0 61 zhN:=gs (k1 (Z7 hG) (k1 (Yi hG) .nil)) .nil
theorem zdX:Sd G W0 92 zgZ:=gs .nil .nil
theorem zgp:Sd G W0 63 zdd:=gs (k1 (zdX hG) .nil) .nil
theorem wZ:Sd G W0 101 u5:=gs (k1 (Yi hG) .nil) .nil
theorem vO:Sd G W0 102 vF:=gs .nil .nil
theorem xk:Sd G W0 103 xm:=gs .nil .nil
theorem U8:Sd G W0 104 UM:=gs .nil .nil
theorem Y8:Sd G W0 105 ZM:=gs .nil .nil
theorem uN:Sd G W0 106 vR:=gs (k1 (Y8 hG) .nil) .nil
theorem zoM:Sd G W0 64 zhq:=gs (k1 (wZ hG) (k1 (vO hG) (k1 (xk hG) (k1 (U8 hG) (k1 (Y8 hG) (k1 (uN hG) .nil)))))) .nil
theorem zeB:Sd G W0 21 zcm:=gs (k1 (yL hG) (k1 (Z7 hG) (k1 (zcF hG) (k1 (zoS hG) (k1 (zrg hG) (k1 (zgp hG) (k1 (zoM hG) .nil))))))) .nil
theorem zgj:Sd G W0 65 zd7:=gs .nil .nil
theorem zdN:Sd G W0 22 zbi:=gs (k1 (yL hG) (k1 (zcF hG) (k1 (zrg hG) (k1 (zgp hG) (k1 (zgj hG) .nil))))) .nil
theorem ztj:Yz Go.Proofs.Tryz.prog G W0 87 zay:=by
 obtain ⟨c,hc⟩:=Option.isSome_iff_exists.1 zFA
 exact zn9 (Cg:=Yb []) rfl zpv (fun f s hs=>Oks.at (k1 (zg4 hG) (k1 (zeB hG) (k1 (zdN hG) .nil))) f s hs) rfl ztp (fun g it h=>by cases h) zFp zGu hc zay (Nat.le_of_ble_eq_true (by kernel_rfl)) rfl zsd
theorem zbw:Sd G W0 10 zbP:=gs (k1 (zsD hG) (k1 (zsS hG) .nil)) (.cons _ _ _ (ztj hG) (.nil))
theorem zjA:Sd G W0 12 zaQ:=gs .nil .nil
theorem zkt:Sd G W0 82 zbF:=gs .nil .nil
theorem zoR:Sd G W0 44 zhO:=gs (k1 (zkt hG) .nil) .nil
theorem zmY:Sd G W0 43 zdo:=gs (k1 (zoR hG) .nil) .nil
theorem zeT:Sd G W0 195 Vc:=gs (k1 (YD hG) (k1 (zaC hG) .nil)) .nil
theorem zhy:Sd G W0 196 Uq:=gs (k1 (zeA hG) (k1 (YD hG) .nil)) .nil
theorem zes:Sd G W0 197 WE:=gs (k1 (zgv hG) (k1 (YD hG) (k1 (Yi hG) .nil))) .nil
theorem zda:Sd G W0 198 Xu:=gs (k1 (YD hG) (k1 (zaC hG) .nil)) .nil
theorem YJ:Sd G W0 160 X9:=gs (k1 (zeT hG) (k1 (zhy hG) (k1 (zes hG) (k1 (zda hG) .nil)))) .nil
theorem zhp:Sd G W0 118 Uj:=gs (k1 (YJ hG) .nil) .nil
theorem UJ:Sd G W0 125 Xv:=gs .nil .nil
theorem zoa:Sd G W0 199 zfd:=gs .nil .nil
theorem zoq:Sd G W0 199 zfJ:=gs .nil .nil
theorem zoj:Sd G W0 199 ze5:=gs .nil .nil
theorem znF:Sd G W0 199 zfq:=gs .nil .nil
theorem zbt:Sd G W0 220 Yc:=gs (k1 (wZ hG) (k1 (xk hG) .nil)) .nil
theorem xR:Sd G W0 240 xO:=gs .nil .nil
theorem zeq:Sd G W0 221 WF:=gs (k1 (wZ hG) (k1 (vO hG) (k1 (Y8 hG) (k1 (xR hG) .nil)))) .nil
theorem Z5:Sd G W0 241 YY:=gs (k1 (Yi hG) .nil) .nil
theorem ziB:Sd G W0 222 zaa:=gs (k1 (uN hG) (k1 (Z5 hG) .nil)) .nil
theorem zcp:Sd G W0 223 Y9:=gs (k1 (xk hG) (k1 (xR hG) (k1 (Z5 hG) .nil))) .nil
theorem zgW:Sd G W0 224 VL:=gs (k1 (xk hG) (k1 (Z5 hG) .nil)) .nil
theorem zdb:Sd G W0 225 Xp:=gs (k1 (wZ hG) (k1 (vO hG) (k1 (U8 hG) .nil))) .nil
theorem zfj:Sd G W0 226 Vl:=gs (k1 (wZ hG) (k1 (uN hG) (k1 (xR hG) .nil))) .nil
theorem UK:Sd G W0 242 Xz:=gs (k1 (Yi hG) (k1 (vO hG) .nil)) .nil
theorem zet:Sd G W0 227 WA:=gs (k1 (UK hG) .nil) .nil
theorem zex:Sd G W0 228 WH:=gs (k1 (xk hG) (k1 (xR hG) (k1 (Z5 hG) .nil))) .nil
theorem zfz:Sd G W0 229 Vf:=gs (k1 (xk hG) (k1 (xR hG) (k1 (Z5 hG) .nil))) .nil
theorem ze0:Sd G W0 230 W8:=gs (k1 (wZ hG) (k1 (vO hG) .nil)) .nil
theorem zfx:Sd G W0 231 Vr:=gs (k1 (wZ hG) (k1 (xk hG) (k1 (U8 hG) .nil))) .nil
theorem zey:Sd G W0 232 WD:=gs (k1 (wZ hG) (k1 (uN hG) .nil)) .nil
theorem zc7:Sd G W0 233 Xt:=gs (k1 (xR hG) (k1 (UK hG) .nil)) .nil
theorem zgJ:Sd G W0 161 zdn:=gs (k2 (zoa hG) (k2 (zoq hG) (k2 (zoj hG) (k2 (znF hG) (.skip _ _ (k1 (zbt hG) (k1 (zeq hG) (k1 (ziB hG) (k1 (zcp hG) (k1 (zgW hG) (k1 (zdb hG) (k1 (zfj hG) (k1 (zet hG) (k1 (zex hG) (k1 (zfz hG) (k1 (ze0 hG) (k1 (zfx hG) (k1 (zey hG) (k1 (zc7 hG) .nil))))))))))))))))))) .nil
theorem zcK:Sd G W0 163 zae:=gs (k1 (U7 hG) (k1 (Z7 hG) .nil)) .nil
theorem Wg:Sd G W0 200 WK:=gs .nil .nil
theorem zbm:Sd G W0 165 VD:=gs (k1 (Zj hG) (k1 (Wg hG) .nil)) .nil
theorem zhl:Sd G W0 162 UE:=gs (k1 (Zr hG) (k1 (zcK hG) (k1 (zbm hG) .nil))) .nil
theorem zio:Sd G W0 119 U6:=gs (k1 (UJ hG) (k1 (zgJ hG) (k1 (zhl hG) .nil))) .nil
theorem zg6:Sd G W0 120 VM:=gs (k1 (zcK hG) .nil) .nil
theorem vr:Sd G W0 164 wB:=gs .nil .nil
theorem zhm:Sd G W0 121 UG:=gs (k1 (Z8 hG) (k1 (vr hG) (k1 (zbm hG) .nil))) .nil
theorem zcT:Sd G W0 124 zag:=gs .nil .nil
theorem zbo:Sd G W0 201 Vz:=gs .nil .nil
theorem zcy:Sd G W0 166 zdA:=gs (k1 (zbo hG) .nil) .nil
theorem zaD:Sd G W0 167 zaO:=gs .nil .nil
theorem zhB:Sd G W0 122 Uy:=gs (k1 (zcT hG) (k1 (zcy hG) (k1 (zaD hG) .nil))) .nil
theorem zc8:Sd G W0 168 Xo:=gs .nil .nil
theorem zdW:Sd G W0 150 zgn:=gs (k1 (zkX hG) .nil) .nil
theorem zgz:Sd G W0 202 zd1:=gs (k1 (YT hG) (k1 (zdW hG) .nil)) .nil
theorem uJ:Sd G W0 203 vQ:=gs (k1 (Zj hG) (k1 (Z8 hG) (k1 (Wg hG) .nil))) .nil
theorem zfn:Sd G W0 169 Vj:=gs (k1 (U7 hG) (k1 (Z7 hG) (k1 (zgz hG) (k1 (uJ hG) .nil)))) .nil
theorem zfh:Sd G W0 170 Vt:=gs .nil .nil
theorem ze6:Sd G W0 171 Vd:=gs (k1 (zgJ hG) (k1 (uJ hG) .nil)) .nil
theorem zfo:Sd G W0 172 W6:=gs (k1 (uJ hG) .nil) .nil
theorem zfl:Sd G W0 173 Vq:=gs (k1 (YJ hG) (k1 (uJ hG) .nil)) .nil
theorem zeI:Sd G W0 174 Vm:=gs (k1 (Zr hG) (k1 (Zj hG) (k1 (vr hG) (k1 (Wg hG) .nil)))) .nil
theorem zc5:Sd G W0 175 Xr:=gs (k1 (YJ hG) .nil) .nil
theorem zh0:Sd G W0 123 zfV:=gs (k1 (zc8 hG) (k1 (zfn hG) (k1 (zfh hG) (k1 (ze6 hG) (k1 (zfo hG) (k1 (zfl hG) (k1 (zeI hG) (k1 (zc5 hG) .nil)))))))) .nil
theorem zlF:Sd G W0 176 zly:=gs (k1 (zdW hG) .nil) .nil
theorem zbx:Sd G W0 126 zb3:=gs (k1 (YT hG) (k1 (zlF hG) .nil)) .nil
theorem Yt:Sd G W0 177 Zn:=gs .nil .nil
theorem zmH:Sd G W0 179 zdM:=gs .nil .nil
theorem WM:Sd G W0 178 vm:=gs (k1 (zmH hG) .nil) .nil
theorem zez:Sd G W0 127 zcf:=gs (k1 (Yt hG) (k1 (WM hG) .nil)) .nil
theorem zg9:Sd G W0 83 Uo:=gs (k1 (zhp hG) (k1 (zio hG) (k1 (zg6 hG) (k1 (zhm hG) (k1 (zhB hG) (k1 (zh0 hG) (k1 (zcT hG) (k1 (UJ hG) (k1 (zbx hG) (k1 (zez hG) .nil)))))))))) .nil
theorem Wm:Sd G W0 84 wW:=gs .nil .nil
theorem zoU:Sd G W0 45 zhd:=gs (k1 (zg9 hG) (k1 (Wm hG) .nil)) .nil
theorem vz:Sd G W0 180 ud:=gs .nil .nil
theorem uK:Sd G W0 184 vW:=gs .nil .nil
theorem Y2:Sd G W0 181 ZO:=gs (k1 (yL hG) (k1 (uK hG) .nil)) .nil
theorem zff:Sd G W0 128 Vs:=gs (k1 (vz hG) (k1 (Y2 hG) .nil)) .nil
theorem zeP:Sd G W0 129 W5:=gs (k1 (zaD hG) .nil) .nil
theorem zhk:Sd G W0 130 Ug:=gs (k1 (yL hG) .nil) .nil
theorem Vv:Sd G W0 182 Z3:=gs (k1 (zh0 hG) .nil) .nil
theorem zfE:Sd G W0 131 Vo:=gs (k1 (Vv hG) .nil) .nil
theorem zaG:Sd G W0 183 WO:=gs (k1 (zcy hG) (k1 (vz hG) .nil)) .nil
theorem zg7:Sd G W0 132 VY:=gs (k1 (vz hG) (k1 (Y2 hG) (k1 (zaG hG) .nil))) .nil
theorem zhf:Sd G W0 133 UD:=gs (k1 (vz hG) (k1 (zaG hG) (k1 (uK hG) .nil))) .nil
theorem zfb:Sd G W0 134 Vp:=gs (k1 (zlF hG) .nil) .nil
theorem zdc:Sd G W0 135 XD:=gs (k1 (yL hG) .nil) .nil
theorem zsg:Sd G W0 185 znU:=gs (k1 (yL hG) (k1 (vr hG) (k1 (zbo hG) .nil))) .nil
theorem zfF:Sd G W0 136 Vg:=gs (k1 (vz hG) (k1 (uK hG) (k1 (zsg hG) .nil))) .nil
theorem zlN:Sd G W0 205 zcE:=gs .nil .nil
theorem WB:Sd G W0 178 vf:=gs (k1 (zlN hG) .nil) .nil
theorem V1:Sd G W0 208 Yl:=gs (k1 (Yt hG) .nil) .nil
theorem zgI:Sd G W0 204 zdw:=gs (k1 (V1 hG) .nil) .nil
theorem zns:Sd G W0 186 zeV:=gs (k1 (WB hG) (k1 (zgI hG) .nil)) .nil
theorem zdG:Sd G W0 206 XM:=gs .nil .nil
theorem zpN:Sd G W0 187 zi8:=gs (k1 (zgA hG) (k1 (zdG hG) .nil)) .nil
theorem zpE:Sd G W0 188 zi5:=gs (k1 (zbx hG) (k1 (zgz hG) .nil)) .nil
theorem ze8:Sd G W0 137 Vk:=gs (k1 (vz hG) (k1 (Y2 hG) (k1 (uK hG) (k1 (zns hG) (k1 (zpN hG) (k1 (zpE hG) .nil)))))) .nil
theorem zm4:Sd G W0 207 zdD:=gs .nil .nil
theorem WL:Sd G W0 178 vo:=gs (k1 (zm4 hG) .nil) .nil
theorem zo0:Sd G W0 189 zhM:=gs (k1 (Yt hG) (k1 (WL hG) .nil)) .nil
theorem zon:Sd G W0 190 zfp:=gs (k1 (zgI hG) (k1 (V1 hG) .nil)) .nil
theorem Uc:Sd G W0 191 YV:=gs (k1 (Zj hG) (k1 (Wg hG) .nil)) .nil
theorem zge:Sd G W0 138 VS:=gs (k1 (Zr hG) (k1 (zo0 hG) (k1 (zon hG) (k1 (Uc hG) .nil)))) .nil
theorem zhx:Sd G W0 139 Ux:=gs (k1 (YJ hG) .nil) .nil
theorem zeZ:Sd G W0 140 Ve:=gs (k1 (Z8 hG) (k1 (vr hG) (k1 (Uc hG) .nil))) .nil
theorem zgy:Sd G W0 141 V7:=gs (k1 (YJ hG) .nil) .nil
theorem zfI:Sd G W0 142 W7:=gs .nil .nil
theorem zbV:Sd G W0 192 UA:=gs .nil .nil
theorem zg3:Sd G W0 143 V2:=gs (k1 (zcy hG) (k1 (zaD hG) (k1 (zbV hG) .nil))) .nil
theorem zhD:Sd G W0 144 Ui:=gs (k1 (Vv hG) (k1 (zbV hG) .nil)) .nil
theorem zdT:Sd G W0 145 XV:=gs (k1 (zbx hG) (k1 (zez hG) .nil)) .nil
theorem zde:Sd G W0 146 XQ:=gs .nil .nil
theorem zgX:Sd G W0 85 VP:=gs (k1 (zff hG) (k1 (zeP hG) (k1 (zhk hG) (k1 (zfE hG) (k1 (zg7 hG) (k1 (zhf hG) (k1 (zfb hG) (k1 (zdc hG) (k1 (zfF hG) (k1 (ze8 hG) (k1 (zge hG) (k1 (zhx hG) (k1 (zeZ hG) (k1 (zgy hG) (k1 (zfI hG) (k1 (zg3 hG) (k1 (zhD hG) (k1 (zdT hG) (k1 (zde hG) .nil))))))))))))))))))) .nil
theorem XJ:Sd G W0 86 wH:=gs .nil .nil
theorem znJ:Sd G W0 46 zfk:=gs (k1 (zgX hG) (k1 (XJ hG) .nil)) .nil
theorem zeC:Sd G W0 8 zcl:=gs (k1 (zmY hG) (k1 (zoU hG) (k1 (znJ hG) (k1 (zgr hG) .nil)))) .nil
theorem zgY:Sd G W0 13 zea:=gs (k1 (zeC hG) .nil) .nil
theorem zpd:Sd G W0 51 zjh:=gs .nil .nil
theorem zmQ:Sd G W0 14 zeb:=gs (k1 (zgY hG) (k1 (zpd hG) .nil)) .nil
theorem zkL:Sd G W0 15 zbA:=gs .nil .nil
theorem zcV:Sd G W0 54 zal:=gs (k1 (zgj hG) .nil) .nil
theorem zrc:Sd G W0 55 zmz:=gs (k1 (zdX hG) .nil) .nil
theorem zof:Sd G W0 17 zfD:=gs (k1 (YT hG) (k1 (zbh hG) (k1 (zcV hG) (k1 (zrc hG) .nil)))) .nil
theorem zhQ:Sd G W0 19 zf0:=gs (k1 (zbh hG) .nil) .nil
theorem zlY:Sd G W0 93 zcs:=gs (k1 (YT hG) .nil) .nil
theorem zoi:Sd G W0 95 zfs:=gs .nil .nil
theorem zbu:Sd G W0 94 Yh:=gs (k1 (zjm hG) (k1 (zhX hG) (k1 (zoi hG) (k1 (zdW hG) .nil)))) .nil
theorem zqg:Sd G W0 56 zjF:=gs (k1 (zlY hG) (k1 (zbu hG) .nil)) .nil
theorem zra:Sd G W0 18 zmj:=gs (k1 (zhQ hG) (k1 (zqg hG) .nil)) .nil
theorem zoh:Sd G W0 57 zfe:=gs .nil .nil
theorem uV:Sd G W0 96 yW:=gs (k1 (zoh hG) .nil) .nil
theorem uu:Sd G W0 59 yP:=gs (k1 (uV hG) .nil) .nil
theorem znp:Sd G W0 58 zfa:=gs .nil .nil
theorem uD:Sd G W0 97 yT:=gs (k1 (znp hG) .nil) .nil
theorem ui:Sd G W0 60 yK:=gs (k1 (uD hG) .nil) .nil
theorem zpC:Sd G W0 20 zkl:=gs (k1 (zbw hG) (k1 (uu hG) (k1 (ui hG) .nil))) .nil
theorem zqU:Sd G W0 66 zmt:=gs (k1 (zdX hG) .nil) .nil
theorem zq5:Sd G W0 23 zmC:=gs (k1 (zcV hG) (k1 (zqU hG) .nil)) .nil
theorem zgD:Sd G W0 4 V5:=gs (k1 (zhT hG) (k1 (zbw hG) (k1 (zjA hG) (k1 (zgY hG) (k1 (zmQ hG) (k1 (zkL hG) (k1 (zg4 hG) (k1 (zof hG) (k1 (zra hG) (k1 (zhQ hG) (k1 (zpC hG) (k1 (zeB hG) (k1 (zdN hG) (k1 (zq5 hG) .nil)))))))))))))) .nil
theorem X8:Sd G W0 24 Zb:=gs .nil .nil
theorem zd2:Sd G W0 26 XZ:=gs (k1 (X8 hG) .nil) .nil
theorem zkV:Sd G W0 5 zbE:=gs (k1 (X8 hG) (k1 (YT hG) (k1 (zd2 hG) .nil))) .nil
theorem zjp:Sd G W0 7 zaT:=gs .nil .nil
theorem zr0:Sd G W0 9 zop:=gs (k1 (zhS hG) (k1 (zbh hG) .nil)) .nil
theorem zps:Sd G W0 11 ziY:=gs .nil .nil
theorem zgU:Sd G W0 3 V0:=gs (k1 (zgD hG) (k1 (zkV hG) (k1 (zhT hG) (k1 (zjp hG) (k1 (zeC hG) (k1 (zr0 hG) (k1 (zbw hG) (k1 (zps hG) .nil)))))))) .nil
end Go.Pe.G
