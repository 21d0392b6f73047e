/- Own work of this seat: G4f, G4g, EQ, G2i, GH, GW, GX, G3. -/
import Derived.Test.YtohmajcohogajaaGreatDoorTFGa
import Derived.Tactics
import Derived.Tactics2
import Derived.Shelf.SlicesE.DeleteFunc
import Derived.Shelf.Spec.SlicesGrow
set_option linter.unusedVariables false
set_option linter.unusedSectionVars false
set_option linter.unusedSimpArgs false
set_option linter.unnecessarySimpa false
set_option linter.deprecated false
set_option maxRecDepth 100000
open Array renaming getElem?_eq_some_iff → zJ0, getElem?_push → zK9
open Bool renaming and_eq_true → zJB
open Int renaming toNat_natCast → zKi
open List renaming getElem?_eq_getElem → zJC, getD_eq_getElem?_getD → zJD, append_nil → zJE, append_assoc → zJJ, nil_append → zJM, length_filter_le → zKN, length_drop → zKR, drop_eq_nil_of_le → zLa, take_of_length_le → zLn, getElem_append_left → zLs
open Nat renaming le_refl → zJF, lt_of_lt_of_le → zJX, le_of_ble_eq_true → zKd, add_zero → zKj, mul_one → zKx, le_trans → zKG, zero_le → zKM
open Option renaming bind_some → zJA, bind_eq_some_iff → zJL, map_eq_some_iff → zJR, map_some → zKD, isSome_iff_exists → zLq
namespace Go.Pe.G
open Go.Pe
theorem zjC (s1:Int) (s2:Int) (s3:Int) (s4:za) (s5:List zB):UR (s1,s2,s3,s4,s5,()) =
 bif decide (s3<s2) then
 (xM s5 s3).bind fun n1 =>
 (s5[n1]?).bind fun x2 =>
 (zn0 x2).bind fun y3 =>
 some (.again (w64 (s1+y3.1),s2,w64 (s3+1),s4,s5,()))
 else
 some (.brk (s1,s4,())):=by kernel_rfl
theorem zjH (s1:Int) (s2:List zk) (s3:Int) (s4:Int) (s5:za):UG (s1,s2,s3,s4,s5,()) =
 bif decide (s4<s3) then
 (idx s2 s4).bind fun x1 =>
 bif decide (x1.PC=9) then
  some (.again (w64 (s1+1),s2,s3,w64 (s4+1),s5,()))
 else
  some (.again (s1,s2,s3,w64 (s4+1),s5,()))
 else
 some (.brk (s1,s5,())):=by kernel_rfl
theorem ziK (s1:Int) (s2:List ze) (s3:Int) (s4:Int):VI (s1,s2,s3,s4,()) =
 bif decide (s4<s3) then
 (idx s2 s4).bind fun x1 =>
 bif decide (x1.PC=39) then
  some (.again (w64 (s1+1),s2,s3,w64 (s4+1),()))
 else
  some (.again (s1,s2,s3,w64 (s4+1),()))
 else
 some (.brk (s1,())):=by kernel_rfl
theorem zxF (a1:za):zn7 a1 =
 (zbq a1).bind fun y1 =>
 (zX UR (0,(y1.1.length:Int),0,a1,y1.1,())).bind fun st=>match st with
  | .again _=>none
  | .brk y2 =>
  (zX UG (y2.1,y2.2.1.Ws,(y2.2.1.Ws.length:Int),0,y2.2.1,())).bind fun st=>match st with
   | .again _=>none
   | .brk y3 =>
   (zX VI (y3.1,y3.2.1.Ms,(y3.2.1.Ms.length:Int),0,())).bind fun st=>match st with
    | .again _=>none
    | .brk y4 =>
    some (y4.1,())
    | .ret y4 =>
    none
   | .ret y3 =>
   none
  | .ret y2 =>
  none:=zx (by kernel_rfl)
theorem zuf (a1:za):VB a1 =
 (zds a1).bind fun y1 =>
 (zn7 a1).bind fun y2 =>
 some (decide (a1.Work=(w64 (((y1.1.length:Int))+y2.1))),()):=zx (by kernel_rfl)
theorem zwA (a1:zB):zn3 a1 =
 (zny a1 0 1 a1.Obj).bind fun y1 =>
 some (y1.1,()):=zx (by kernel_rfl)
theorem zfg (s1:BitVec 64) (s2:Int) (s3:Int) (s4:za) (s5:List zB):XV (s1,s2,s3,s4,s5,()) =
 bif decide (s3<s2) then
 (xM s5 s3).bind fun n1 =>
 (s5[n1]?).bind fun x2 =>
 (zn3 x2).bind fun y3 =>
 (Yw s1 y3.1).bind fun y4 =>
 some (.again (y4.1,s2,w64 (s3+1),s4,s5,()))
 else
 some (.brk (s1,s4,())):=by kernel_rfl
theorem zeP (s1:BitVec 64) (s2:List ze) (s3:Int) (s4:Int):XN (s1,s2,s3,s4,()) =
 bif decide (s4<s3) then
 (idx s2 s4).bind fun x1 =>
 (zkY x1.Buf).bind fun y2 =>
 bif decide (x1.PC=21) then
  (Yw (s1|||y2.1) x1.Old).bind fun y3 =>
  some (.again (y3.1,s2,s3,w64 (s4+1),()))
 else
  bif decide (x1.PC=22) then
  (Yw (s1|||y2.1) x1.Old).bind fun y4 =>
  some (.again (y4.1,s2,s3,w64 (s4+1),()))
  else
  bif decide (x1.Ret=22) then
   bif decide (x1.PC=1) then
   (Yw (s1|||y2.1) x1.Old).bind fun y5 =>
   some (.again (y5.1,s2,s3,w64 (s4+1),()))
   else
   bif decide (x1.PC=3) then
    (Yw (s1|||y2.1) x1.Old).bind fun y6 =>
    some (.again (y6.1,s2,s3,w64 (s4+1),()))
   else
    some (.again (s1|||y2.1,s2,s3,w64 (s4+1),()))
  else
   some (.again (s1|||y2.1,s2,s3,w64 (s4+1),()))
 else
 some (.brk (s1,())):=by kernel_rfl
theorem ztd (a1:za):UQ a1 =
 (zbq a1).bind fun y1 =>
 (zX XV (0#64,(y1.1.length:Int),0,a1,y1.1,())).bind fun st=>match st with
  | .again _=>none
  | .brk y2 =>
  (zX XN (y2.1,y2.2.1.Ms,(y2.2.1.Ms.length:Int),0,())).bind fun st=>match st with
   | .again _=>none
   | .brk y3 =>
   some (y3.1,())
   | .ret y3 =>
   none
  | .ret y2 =>
  none:=zx (by kernel_rfl)
theorem znL (s1:BitVec 64) (s2:List Int) (s3:Int):zbl (s1,s2,s3,()) =
 bif decide (s3<64) then
 (zgM s2 64 s3).bind fun n1 =>
 (s2[n1]?).bind fun x2 =>
 bif decide (0<x2) then
  (Yw s1 (w64 (s3+1))).bind fun y3 =>
  some (.again (y3.1,s2,w64 (s3+1),()))
 else
  some (.again (s1,s2,w64 (s3+1),()))
 else
 some (.brk (s1,())):=by kernel_rfl
theorem zqO (a1:List Int):zdQ a1 =
 bif decide (a1.length=64) then
 (zX zbl (0#64,a1,0,())).bind fun st=>match st with
  | .again _=>none
  | .brk y1 =>
  some (y1.1,())
  | .ret y1 =>
  none
 else
 none:=zx (by kernel_rfl)
theorem zsL (a1:Int):zo7 a1 =
 some (true,()):=zx (by kernel_rfl)
theorem X2 (s1:BitVec 64) (s2:Int) (s3:Int) (s4:zq) (s5:List Int) (s6:List Int) (s7:List Int):Z5 (s1,s2,s3,s4,s5,s6,s7,()) =
 bif decide (s3<s2) then
 (xM s7 s3).bind fun n1 =>
 (s7[n1]?).bind fun x2 =>
 (zgM s6 64 (w64 (x2-1))).bind fun n3 =>
 some (.again (s1,s2,w64 (s3+1),s4,s5,s6.set n3 1,s7,()))
 else
 some (.brk (s1,s4,s5,s6,s7,())):=by kernel_rfl
theorem Zb (s1:BitVec 64) (s2:zq) (s3:List Int) (s4:List Int) (s5:List Int):Z4 (s1,s2,s3,s4,s5,()) =
 bif decide (0<((s5.length:Int))) then
 (xM s5 0).bind fun n1 =>
 (s5[n1]?).bind fun x2 =>
 (zo7 x2).bind fun y3 =>
 bif !y3.1 then
  (cut s5 1 ((s5.length:Int))).bind fun l4 =>
  some (.again (s1,s2,s3,s4,l4,()))
 else
  (idx s2.Objs (w64 (x2-1))).bind fun x5 =>
  (zX vD (s1,x2,x5,(x5.length:Int),0,s2,s3,s4,s5,())).bind fun st=>match st with
   | .again _=>none
   | .brk y6 =>
   (cut y6.2.2.2.2.1 1 ((y6.2.2.2.2.1.length:Int))).bind fun l7 =>
   some (.again (y6.1,y6.2.1,y6.2.2.1,y6.2.2.2.1,l7,()))
   | .ret y6 =>
   some (.ret (()))
 else
 some (.brk (s3,s4,())):=by kernel_rfl
theorem Xr (s1:BitVec 64) (s2:Int) (s3:List Int) (s4:Int) (s5:Int) (s6:zq) (s7:List Int) (s8:List Int) (s9:List Int):vD (s1,s2,s3,s4,s5,s6,s7,s8,s9,()) =
 bif decide (s5<s4) then
 (idx s3 s5).bind fun x1 =>
 (zb9 s1 x1).bind fun y2 =>
 bif y2.1 then
  (zgM s8 64 (w64 (x1-1))).bind fun n3 =>
  (s8[n3]?).bind fun x4 =>
  bif decide (x4=0) then
  (zgM s8 64 (w64 (s2-1))).bind fun n5 =>
  (s8[n5]?).bind fun x6 =>
  (zgM s8 64 (w64 (x1-1))).bind fun n7 =>
  (yq (s9++([x1]:List Int))).bind fun l8 =>
  some (.again (s1,s2,s3,s4,w64 (s5+1),s6,s7,s8.set n7 (w64 (x6+1)),l8,()))
  else
  some (.again (s1,s2,s3,s4,w64 (s5+1),s6,s7,s8,s9,()))
 else
  some (.again (s1,s2,s3,s4,w64 (s5+1),s6,s7,s8,s9,()))
 else
 some (.brk (s1,s6,s7,s8,s9,())):=by kernel_rfl
theorem zeH (a1:zq) (a2:BitVec 64):YL a1 a2 =
 (Ug ((a1.Objs.length:Int))).bind fun y1 =>
 (zfh (a2&&&y1.1)).bind fun y2 =>
 (zX Z5 (y1.1,(y2.1.length:Int),0,a1,List.replicate 64 ((0:Int)),List.replicate 64 ((0:Int)),y2.1,())).bind fun st=>match st with
  | .again _=>none
  | .brk y3 =>
  (zX Z4 (y3.1,y3.2.1,y3.2.2.1,y3.2.2.2.1,y3.2.2.2.2.1,())).bind fun st=>match st with
   | .again _=>none
   | .brk y4 =>
   bif decide (y4.2.1.length=64) then
   bif decide (y4.1.length=64) then
    bif decide (y4.2.1.length=64) then
    some (y4.2.1,())
    else
    none
   else
    none
   else
   none
   | .ret y4 =>
   none
  | .ret y3 =>
  none:=zx (by kernel_rfl)
theorem zwr (a1:zq) (a2:BitVec 64):UJ a1 a2 =
 (YL a1 a2).bind fun y1 =>
 (zdQ y1.1).bind fun y2 =>
 some (y2.1,()):=zx (by kernel_rfl)
theorem zw7 (a1:zd):zhv a1 =
 (zeO a1).bind fun y1 =>
 (UJ a1.H y1.1).bind fun y2 =>
 some (y2.1,()):=zx (by kernel_rfl)
theorem zxL (a1:za):zbe a1 =
 (zfD a1.T).bind fun y1 =>
 (UQ a1).bind fun y2 =>
 (UJ a1.H (y1.1|||y2.1)).bind fun y3 =>
 (zhv a1.P).bind fun y4 =>
 (Z9 y4.1 (a1.T.Marks|||y3.1)).bind fun y5 =>
 some (y5.1,()):=zx (by kernel_rfl)
theorem zvF (a1:zm) (a2:Int):zre a1 a2 =
 (Z9 a1.Black a1.Marks).bind fun y1 =>
 bif y1.1 then
 (Ug a2).bind fun y2 =>
 (Z9 a1.Marks y2.1).bind fun y3 =>
 some (y3.1,())
 else
 some (false,()):=zx (by kernel_rfl)
theorem ztB (a1:za):Vz a1 =
 (Wu a1).bind fun y1 =>
 (zhv a1.P).bind fun y2 =>
 (Z9 a1.T.Marks (y2.1|||y1.1)).bind fun y3 =>
 bif y3.1 then
 (Z9 y1.1 a1.T.Black).bind fun y4 =>
 bif y4.1 then
  (zre a1.T ((a1.H.Objs.length:Int))).bind fun y5 =>
  some (y5.1,())
 else
  some (false,())
 else
 some (false,()):=zx (by kernel_rfl)
theorem zeS (s1:Int) (s2:List Int) (s3:Int) (s4:Int) (s5:zr):XP (s1,s2,s3,s4,s5,()) =
 bif decide (s4<s3) then
 (idx s2 s4).bind fun x1 =>
 bif decide (x1<(-1099511627776)) then
  some (.ret (false,()))
 else
  bif decide (1099511627776<x1) then
  some (.ret (false,()))
  else
  some (.again (w64 (s1+x1),s2,s3,w64 (s4+1),s5,()))
 else
 some (.brk (s1,s5,())):=by kernel_rfl
theorem zsZ (a1:zr):zg5 a1 =
 bif decide (16<((a1.Bal.length:Int))) then
 some (false,())
 else
 bif decide ((bif decide (a1.Pool<(bif decide (a1.Spent<a1.Scanned) then a1.Spent else a1.Scanned)) then a1.Pool else (bif decide (a1.Spent<a1.Scanned) then a1.Spent else a1.Scanned))<0) then
  some (false,())
 else
  bif decide (1099511627776<(bif decide ((bif decide (a1.Scanned<a1.Spent) then a1.Spent else a1.Scanned)<a1.Pool) then a1.Pool else (bif decide (a1.Scanned<a1.Spent) then a1.Spent else a1.Scanned))) then
  some (false,())
  else
  (zX XP (w64 (a1.Spent+a1.Pool),a1.Bal,(a1.Bal.length:Int),0,a1,())).bind fun st=>match st with
   | .again _=>none
   | .brk y1 =>
   some (decide (y1.1=y1.2.1.Scanned),())
   | .ret y1 =>
   some (y1.1,()):=zx (by kernel_rfl)
theorem zvB (a1:Int) (a2:za):zrB a1 a2 =
 some (decide (a1<(w64 (0-a2.P.Limit))),()):=zx (by kernel_rfl)
theorem uc (s1:List Int) (s2:Int) (s3:Int) (s4:za):yI (s1,s2,s3,s4,()) =
 bif decide (s3<s2) then
 (idx s1 s3).bind fun x1 =>
 (zrB x1 s4).bind fun y2 =>
 bif y2.1 then
  some (.ret (s3,()))
 else
  some (.again (s1,s2,w64 (s3+1),s4,()))
 else
 some (.brk (())):=by kernel_rfl
theorem WU (a1:List Int) (a2:za):Zc a1 a2 =
 (zX yI (a1,(a1.length:Int),0,a2,())).bind fun st=>match st with
  | .again _=>none
  | .brk y1 =>
  some (-1,())
  | .ret y1 =>
  some (y1.1,()):=zx (by kernel_rfl)
theorem XT (a1:List Int) (a2:za):wm a1 a2 =
 (Zc a1 a2).bind fun y1 =>
 some (decide (0<=y1.1),()):=zx (by kernel_rfl)
theorem zza (a1:za):zcL a1 =
 (Wu a1).bind fun y1 =>
 (Wt y1.1).bind fun y2 =>
 (zmY a1).bind fun y3 =>
 (Wt (a1.T.Black&&&y3.1)).bind fun y4 =>
 (zg5 a1.L).bind fun y5 =>
 bif y5.1 then
 (wm a1.L.Bal a1).bind fun y6 =>
 bif !y6.1 then
  bif decide (a1.L.Spent=(w64 (a1.P.Price*y2.1))) then
  some (decide (a1.L.Scanned=y4.1),())
  else
  some (false,())
 else
  some (false,())
 else
 some (false,()):=zx (by kernel_rfl)
theorem zwR (a1:za):za6 a1 =
 bif !a1.Done then
 some (true,())
 else
 (zz5 a1).bind fun y1 =>
 bif y1.1 then
  (zCg a1).bind fun y2 =>
  (UQ a1).bind fun y3 =>
  (Z9 (y2.1|||y3.1) a1.T.Marks).bind fun y4 =>
  bif y4.1 then
  some (decide (a1.Work=0),())
  else
  some (false,())
 else
  some (false,()):=zx (by kernel_rfl)
theorem Za (s1:Int) (s2:za):vZ (s1,s2,()) =
 bif decide (s1<6) then
 bif decide (s1=5) then
  (za6 s2).bind fun y1 =>
  bif !y1.1 then
  some (.ret (false,()))
  else
  some (.again (w64 (s1+1),s2,()))
 else
  bif decide (s1=4) then
  (zcL s2).bind fun y2 =>
  bif !y2.1 then
   some (.ret (false,()))
  else
   some (.again (w64 (s1+1),s2,()))
  else
  bif decide (s1=3) then
   (Vz s2).bind fun y3 =>
   bif !y3.1 then
   some (.ret (false,()))
   else
   some (.again (w64 (s1+1),s2,()))
  else
   bif decide (s1=2) then
   (zbe s2).bind fun y4 =>
   bif !y4.1 then
    some (.ret (false,()))
   else
    some (.again (w64 (s1+1),s2,()))
   else
   bif decide (s1=1) then
    (VB s2).bind fun y5 =>
    bif !y5.1 then
    some (.ret (false,()))
    else
    some (.again (w64 (s1+1),s2,()))
   else
    bif decide (s1=0) then
    (zbc s2).bind fun y6 =>
    bif !y6.1 then
     some (.ret (false,()))
    else
     some (.again (w64 (s1+1),s2,()))
    else
    none
 else
 some (.brk (s2,())):=by kernel_rfl
theorem zxK (a1:za):zdq a1 =
 (zX vZ (0,a1,())).bind fun st=>match st with
  | .again _=>none
  | .brk y1 =>
  (Xj y1.1.H).bind fun y2 =>
  some (y2.1,())
  | .ret y1 =>
  some (y1.1,()):=zx (by kernel_rfl)
theorem zle (a1:BitVec 64) (a2:Int):zjh a1 a2 =
 (zb9 a1 a2).bind fun y1 =>
 some (y1.1,()):=zx (by kernel_rfl)
theorem zwT (a1:za) (a2:za):zdz a1 a2 =
 (zaA a1 a2).bind fun y1 =>
 bif decide (a2.L.Scanned<a1.L.Scanned) then
 some (false,())
 else
 bif decide (a2.Epoch<a1.Epoch) then
  some (false,())
 else
  bif decide (y1.1=1) then
  (UQ a1).bind fun y2 =>
  (zjh y2.1 y1.2.1).bind fun y3 =>
  some (y3.1,())
  else
  bif decide (y1.1=2) then
   (zfD a1.T).bind fun y4 =>
   (zjh y4.1 y1.2.1).bind fun y5 =>
   some (y5.1,())
  else
   some (!(decide (y1.1=(-1))),()):=zx (by kernel_rfl)
theorem zmf:U5 =
 (zcg (([(([(zw.mk 5 1 0 0),(zw.mk 2 1 0 0),(zw.mk 3 1 0 0)]:List zw))]:List (List zw)))).bind fun y1 =>
 (zhz y1.1).bind fun y2 =>
 (cut (([(zj.mk 2 1),(zj.mk 2 1),(zj.mk 2 1),(zj.mk 2 1),(zj.mk 2 1),(zj.mk 2 1),(zj.mk 2 1),(zj.mk 2 1)]:List zj)) 0 5).bind fun l3 =>
 (WJ y2.1 l3).bind fun y4 =>
 (cut (([(zj.mk 2 1),(zj.mk 2 1),(zj.mk 2 1),(zj.mk 2 1),(zj.mk 2 1),(zj.mk 2 1),(zj.mk 2 1),(zj.mk 2 1)]:List zj)) 0 6).bind fun l5 =>
 (WJ y2.1 l5).bind fun y6 =>
 (cut (([(zj.mk 2 1),(zj.mk 2 1),(zj.mk 2 1),(zj.mk 2 1),(zj.mk 2 1),(zj.mk 2 1),(zj.mk 2 1),(zj.mk 2 1)]:List zj)) 0 7).bind fun l7 =>
 (WJ y2.1 l7).bind fun y8 =>
 (cut (([(zj.mk 2 1),(zj.mk 2 1),(zj.mk 2 1),(zj.mk 2 1),(zj.mk 2 1),(zj.mk 2 1),(zj.mk 2 1),(zj.mk 2 1)]:List zj)) 0 8).bind fun l9 =>
 (WJ y2.1 l9).bind fun y10 =>
 (zaA y4.1 y6.1).bind fun y11 =>
 (zaA y8.1 y10.1).bind fun y12 =>
 (zaA y10.1 y8.1).bind fun y13 =>
 (zaA y2.1 y2.1).bind fun y14 =>
 (zdq y2.1).bind fun y15 =>
 bif y15.1 then
 (zdq y10.1).bind fun y16 =>
 bif y16.1 then
  bif decide (y11.1=4) then
  bif decide (y11.2.1=1) then
   bif decide (y12.1=3) then
   bif decide (y12.2.1=4) then
    bif decide (y13.1=(-1)) then
    bif decide (y14.1=0) then
     (Wu y10.1).bind fun y17 =>
     bif decide (y17.1=8#64) then
     (Wu y2.1).bind fun y18 =>
     bif decide (y18.1=0#64) then
      (zdz y4.1 y6.1).bind fun y19 =>
      bif y19.1 then
      (zdz y8.1 y10.1).bind fun y20 =>
      bif y20.1 then
       (zdz y10.1 y8.1).bind fun y21 =>
       bif !y21.1 then
       (zbc y2.1).bind fun y22 =>
       bif y22.1 then
        (VB y2.1).bind fun y23 =>
        bif y23.1 then
        (zbe y2.1).bind fun y24 =>
        bif y24.1 then
         (Vz y2.1).bind fun y25 =>
         bif y25.1 then
         (zcL y10.1).bind fun y26 =>
         bif y26.1 then
          (za6 y2.1).bind fun y27 =>
          some (y27.1,())
         else
          some (false,())
         else
         some (false,())
        else
         some (false,())
        else
        some (false,())
       else
        some (false,())
       else
       some (false,())
      else
       some (false,())
      else
      some (false,())
     else
      some (false,())
     else
     some (false,())
    else
     some (false,())
    else
    some (false,())
   else
    some (false,())
   else
   some (false,())
  else
   some (false,())
  else
  some (false,())
 else
  some (false,())
 else
 some (false,()):=zx (by kernel_rfl)
theorem zf5 (a1:zO):zG a1 =
 bif decide (((a1.L.length:Int))<=a1.At) then
 some (0,a1,())
 else
 (idx a1.L (w64 ((w64 (a1.At+1))-1))).bind fun x1 =>
 some ((x1.toNat:Int),{a1 with At:=w64 (a1.At+1)},()):=zx (by kernel_rfl)
theorem ziu (a1:Int) (a2:Int) (a3:zO):W2 a1 a2 a3 =
 (zG a3).bind fun y1 =>
 (xM ([1,1,2,2,2,3,4,5]:List Int) (y1.1.tmod 8)).bind fun n2 =>
 (([1,1,2,2,2,3,4,5]:List Int)[n2]?).bind fun x3 =>
 (zG y1.2.1).bind fun y4 =>
 bif decide (a1=0) then
 none
 else
 bif decide (x3=1) then
  (zG y4.2.1).bind fun y5 =>
  bif decide (a1=0) then
  none
  else
  bif decide (x3<3) then
   (zG y5.2.1).bind fun y6 =>
   bif decide (a2=0) then
   none
   else
   some (zw.mk x3 (y4.1.tmod a1) (y5.1.tmod a1) (y6.1.tmod a2),y6.2.1,())
  else
   some (zw.mk x3 (y4.1.tmod a1) (y5.1.tmod a1) 0,y5.2.1,())
 else
  bif decide (x3=2) then
  (zG y4.2.1).bind fun y7 =>
  bif decide (a1=0) then
   none
  else
   bif decide (x3<3) then
   (zG y7.2.1).bind fun y8 =>
   bif decide (a2=0) then
    none
   else
    some (zw.mk x3 (y4.1.tmod a1) (y7.1.tmod a1) (y8.1.tmod a2),y8.2.1,())
   else
   some (zw.mk x3 (y4.1.tmod a1) (y7.1.tmod a1) 0,y7.2.1,())
  else
  bif decide (x3=4) then
   (zG y4.2.1).bind fun y9 =>
   bif decide (a1=0) then
   none
   else
   bif decide (x3<3) then
    (zG y9.2.1).bind fun y10 =>
    bif decide (a2=0) then
    none
    else
    some (zw.mk x3 (y4.1.tmod a1) (y9.1.tmod a1) (y10.1.tmod a2),y10.2.1,())
   else
    some (zw.mk x3 (y4.1.tmod a1) (y9.1.tmod a1) 0,y9.2.1,())
  else
   bif decide (x3<3) then
   (zG y4.2.1).bind fun y11 =>
   bif decide (a2=0) then
    none
   else
    some (zw.mk x3 (y4.1.tmod a1) 0 (y11.1.tmod a2),y11.2.1,())
   else
   some (zw.mk x3 (y4.1.tmod a1) 0 0,y4.2.1,()):=zx (by kernel_rfl)
end Go.Pe.G
namespace Go.Pe.G
open Go.Pe
theorem zmm (s1:Int) (s2:Int) (s3:Int) (s4:Int) (s5:Int) (s6:Int) (s7:Int) (s8:Int) (s9:Int) (s10:Int) (s11:Int) (s12:BitVec 64) (s13:zO) (s14:Int) (s15:Int) (s16:Int) (s17:Int) (s18:Int) (s19:Int) (s20:Int) (s21:Int) (s22:Int) (s23:BitVec 64) (s24:List (List Int)) (s25:List (List Int)) (s26:List (List zw)) (s27:List zj) (s28:List (List Int)) (s29:List (List Int)) (s30:List (List zw)) (s31:List zj):Wi (s1,s2,s3,s4,s5,s6,s7,s8,s9,s10,s11,s12,s13,s14,s15,s16,s17,s18,s19,s20,s21,s22,s23,s24,s25,s26,s27,s28,s29,s30,s31,()) =
 bif decide (s2<s1) then
 (zX Xo (s1,s2,0,s3,s4,s5,s6,s7,s8,s9,s10,s11,s12,s13,s14,s15,s16,s17,s18,s19,s20,s21,s22,s23,([]:List Int),s24,s25,s26,s27,s28,s29,s30,s31,())).bind fun st=>match st with
  | .again _=>none
  | .brk y1 =>
  let y1a:=y1.2.2.2.2.2.2.2.2;let y1b:=y1a.2.2.2.2.2.2.2.2;let y1c:=y1b.2.2.2.2.2.2.2.2
  (yq (y1c.2.2.2.2.1++(([y1b.2.2.2.2.2.2.2.1]:List (List Int))))).bind fun l2 =>
  some (.again (y1.1,w64 (y1.2.1+1),y1.2.2.1,y1.2.2.2.1,y1.2.2.2.2.1,y1.2.2.2.2.2.1,y1.2.2.2.2.2.2.1,y1.2.2.2.2.2.2.2.1,y1a.1,y1a.2.1,y1a.2.2.1,y1a.2.2.2.1,y1a.2.2.2.2.1,y1a.2.2.2.2.2.1,y1a.2.2.2.2.2.2.1,y1a.2.2.2.2.2.2.2.1,y1b.1,y1b.2.1,y1b.2.2.1,y1b.2.2.2.1,y1b.2.2.2.2.1,y1b.2.2.2.2.2.1,y1b.2.2.2.2.2.2.1,y1c.1,y1c.2.1,y1c.2.2.1,y1c.2.2.2.1,l2,y1c.2.2.2.2.2.1,y1c.2.2.2.2.2.2.1,y1c.2.2.2.2.2.2.2.1,()))
  | .ret y1 =>
  some (.ret (()))
 else
 some (.brk (s1,s3,s4,s5,s6,s7,s8,s9,s10,s11,s12,s13,s14,s15,s16,s17,s18,s19,s20,s21,s22,s23,s24,s25,s26,s27,s28,s29,s30,s31,())):=by kernel_rfl
theorem zl4 (s1:Int) (s2:Int) (s3:Int) (s4:Int) (s5:Int) (s6:Int) (s7:Int) (s8:Int) (s9:Int) (s10:Int) (s11:Int) (s12:Int) (s13:BitVec 64) (s14:zO) (s15:Int) (s16:Int) (s17:Int) (s18:Int) (s19:Int) (s20:Int) (s21:Int) (s22:Int) (s23:Int) (s24:BitVec 64) (s25:List Int) (s26:List (List Int)) (s27:List (List Int)) (s28:List (List zw)) (s29:List zj) (s30:List (List Int)) (s31:List (List Int)) (s32:List (List zw)) (s33:List zj):Xo (s1,s2,s3,s4,s5,s6,s7,s8,s9,s10,s11,s12,s13,s14,s15,s16,s17,s18,s19,s20,s21,s22,s23,s24,s25,s26,s27,s28,s29,s30,s31,s32,s33,()) =
 bif decide (s3<s23) then
 (zG s14).bind fun y1 =>
 bif decide ((w64 (s1+1))=0) then
  none
 else
  (yq (s25++(([(y1.1.tmod (w64 (s1+1)))]:List Int)))).bind fun l2 =>
  some (.again (s1,s2,w64 (s3+1),s4,s5,s6,s7,s8,s9,s10,s11,s12,s13,y1.2.1,s15,s16,s17,s18,s19,s20,s21,s22,s23,s24,l2,s26,s27,s28,s29,s30,s31,s32,s33,()))
 else
 some (.brk (s1,s2,s4,s5,s6,s7,s8,s9,s10,s11,s12,s13,s14,s15,s16,s17,s18,s19,s20,s21,s22,s23,s24,s25,s26,s27,s28,s29,s30,s31,s32,s33,())):=by kernel_rfl
theorem zlM (s1:Int) (s2:Int) (s3:Int) (s4:Int) (s5:Int) (s6:Int) (s7:Int) (s8:Int) (s9:Int) (s10:Int) (s11:Int) (s12:BitVec 64) (s13:zO) (s14:Int) (s15:Int) (s16:Int) (s17:Int) (s18:Int) (s19:Int) (s20:Int) (s21:Int) (s22:Int) (s23:BitVec 64) (s24:List (List Int)) (s25:List (List Int)) (s26:List (List zw)) (s27:List zj) (s28:List (List Int)) (s29:List (List Int)) (s30:List (List zw)) (s31:List zj):Xq (s1,s2,s3,s4,s5,s6,s7,s8,s9,s10,s11,s12,s13,s14,s15,s16,s17,s18,s19,s20,s21,s22,s23,s24,s25,s26,s27,s28,s29,s30,s31,()) =
 bif decide (s2<s15) then
 (zX Xw (s1,s2,0,s3,s4,s5,s6,s7,s8,s9,s10,s11,s12,s13,s14,s15,s16,s17,s18,s19,s20,s21,s22,s23,([]:List Int),s24,s25,s26,s27,s28,s29,s30,s31,())).bind fun st=>match st with
  | .again _=>none
  | .brk y1 =>
  let y1a:=y1.2.2.2.2.2.2.2.2;let y1b:=y1a.2.2.2.2.2.2.2.2;let y1c:=y1b.2.2.2.2.2.2.2.2
  bif decide (((y1b.2.2.2.2.2.2.2.1.length:Int))=0) then
   (zG y1a.2.2.2.2.1).bind fun y2 =>
   (zX ZJ (y1.1,y1.2.1,y2.1.tmod 8,y1.2.2.1,y1.2.2.2.1,y1.2.2.2.2.1,y1.2.2.2.2.2.1,y1.2.2.2.2.2.2.1,y1.2.2.2.2.2.2.2.1,y1a.1,y1a.2.1,y1a.2.2.1,y1a.2.2.2.1,y2.2.1,y1a.2.2.2.2.2.1,y1a.2.2.2.2.2.2.1,y1a.2.2.2.2.2.2.2.1,y1b.1,y1b.2.1,y1b.2.2.1,y1b.2.2.2.1,y1b.2.2.2.2.1,y1b.2.2.2.2.2.1,y1b.2.2.2.2.2.2.1,([0]:List Int),([]:List zw),y1c.1,y1c.2.1,y1c.2.2.1,y1c.2.2.2.1,y1c.2.2.2.2.1,y1c.2.2.2.2.2.1,y1c.2.2.2.2.2.2.1,y1c.2.2.2.2.2.2.2.1,())).bind fun st=>match st with
    | .again _=>none
    | .brk y3 =>
    let y3a:=y3.2.2.2.2.2.2.2.2;let y3b:=y3a.2.2.2.2.2.2.2.2;let y3c:=y3b.2.2.2.2.2.2.2.2;let y3d:=y3c.2.2.2.2.2.2.2.2
    (yq (y3c.2.2.2.2.2.2.1++(([y3b.2.2.2.2.2.2.2.1]:List (List Int))))).bind fun l4 =>
    (yq (y3c.2.2.2.2.2.2.2.1++(([y3c.1]:List (List zw))))).bind fun l5 =>
    some (.again (y3.1,w64 (y3.2.1+1),y3.2.2.1,y3.2.2.2.1,y3.2.2.2.2.1,y3.2.2.2.2.2.1,y3.2.2.2.2.2.2.1,y3.2.2.2.2.2.2.2.1,y3a.1,y3a.2.1,y3a.2.2.1,y3a.2.2.2.1,y3a.2.2.2.2.1,y3a.2.2.2.2.2.1,y3a.2.2.2.2.2.2.1,y3a.2.2.2.2.2.2.2.1,y3b.1,y3b.2.1,y3b.2.2.1,y3b.2.2.2.1,y3b.2.2.2.2.1,y3b.2.2.2.2.2.1,y3b.2.2.2.2.2.2.1,y3c.2.1,y3c.2.2.1,y3c.2.2.2.1,y3c.2.2.2.2.1,y3c.2.2.2.2.2.1,l4,l5,y3d.1,()))
    | .ret y3 =>
    some (.ret (()))
  else
   (zG y1a.2.2.2.2.1).bind fun y6 =>
   (zX ZJ (y1.1,y1.2.1,y6.1.tmod 8,y1.2.2.1,y1.2.2.2.1,y1.2.2.2.2.1,y1.2.2.2.2.2.1,y1.2.2.2.2.2.2.1,y1.2.2.2.2.2.2.2.1,y1a.1,y1a.2.1,y1a.2.2.1,y1a.2.2.2.1,y6.2.1,y1a.2.2.2.2.2.1,y1a.2.2.2.2.2.2.1,y1a.2.2.2.2.2.2.2.1,y1b.1,y1b.2.1,y1b.2.2.1,y1b.2.2.2.1,y1b.2.2.2.2.1,y1b.2.2.2.2.2.1,y1b.2.2.2.2.2.2.1,y1b.2.2.2.2.2.2.2.1,([]:List zw),y1c.1,y1c.2.1,y1c.2.2.1,y1c.2.2.2.1,y1c.2.2.2.2.1,y1c.2.2.2.2.2.1,y1c.2.2.2.2.2.2.1,y1c.2.2.2.2.2.2.2.1,())).bind fun st=>match st with
    | .again _=>none
    | .brk y7 =>
    let y7a:=y7.2.2.2.2.2.2.2.2;let y7b:=y7a.2.2.2.2.2.2.2.2;let y7c:=y7b.2.2.2.2.2.2.2.2;let y7d:=y7c.2.2.2.2.2.2.2.2
    (yq (y7c.2.2.2.2.2.2.1++(([y7b.2.2.2.2.2.2.2.1]:List (List Int))))).bind fun l8 =>
    (yq (y7c.2.2.2.2.2.2.2.1++(([y7c.1]:List (List zw))))).bind fun l9 =>
    some (.again (y7.1,w64 (y7.2.1+1),y7.2.2.1,y7.2.2.2.1,y7.2.2.2.2.1,y7.2.2.2.2.2.1,y7.2.2.2.2.2.2.1,y7.2.2.2.2.2.2.2.1,y7a.1,y7a.2.1,y7a.2.2.1,y7a.2.2.2.1,y7a.2.2.2.2.1,y7a.2.2.2.2.2.1,y7a.2.2.2.2.2.2.1,y7a.2.2.2.2.2.2.2.1,y7b.1,y7b.2.1,y7b.2.2.1,y7b.2.2.2.1,y7b.2.2.2.2.1,y7b.2.2.2.2.2.1,y7b.2.2.2.2.2.2.1,y7c.2.1,y7c.2.2.1,y7c.2.2.2.1,y7c.2.2.2.2.1,y7c.2.2.2.2.2.1,l8,l9,y7d.1,()))
    | .ret y7 =>
    some (.ret (()))
  | .ret y1 =>
  some (.ret (()))
 else
 some (.brk (s3,s4,s5,s6,s7,s8,s9,s10,s11,s12,s14,s15,s16,s17,s18,s19,s20,s21,s22,s23,s24,s25,s26,s27,s28,s29,s30,s31,())):=by kernel_rfl
theorem zk6 (s1:Int) (s2:Int) (s3:Int) (s4:Int) (s5:Int) (s6:Int) (s7:Int) (s8:Int) (s9:Int) (s10:Int) (s11:Int) (s12:Int) (s13:BitVec 64) (s14:zO) (s15:Int) (s16:Int) (s17:Int) (s18:Int) (s19:Int) (s20:Int) (s21:Int) (s22:Int) (s23:Int) (s24:BitVec 64) (s25:List Int) (s26:List (List Int)) (s27:List (List Int)) (s28:List (List zw)) (s29:List zj) (s30:List (List Int)) (s31:List (List Int)) (s32:List (List zw)) (s33:List zj):Xw (s1,s2,s3,s4,s5,s6,s7,s8,s9,s10,s11,s12,s13,s14,s15,s16,s17,s18,s19,s20,s21,s22,s23,s24,s25,s26,s27,s28,s29,s30,s31,s32,s33,()) =
 (zG s14).bind fun y1 =>
 bif decide (s3<(w64 (1+(y1.1.tmod 3)))) then
 (zG y1.2.1).bind fun y2 =>
 bif decide ((w64 (s1+1))=0) then
  none
 else
  (yq (s25++(([(y2.1.tmod (w64 (s1+1)))]:List Int)))).bind fun l3 =>
  some (.again (s1,s2,w64 (s3+1),s4,s5,s6,s7,s8,s9,s10,s11,s12,s13,y2.2.1,s15,s16,s17,s18,s19,s20,s21,s22,s23,s24,l3,s26,s27,s28,s29,s30,s31,s32,s33,()))
 else
 some (.brk (s1,s2,s4,s5,s6,s7,s8,s9,s10,s11,s12,s13,y1.2.1,s15,s16,s17,s18,s19,s20,s21,s22,s23,s24,s25,s26,s27,s28,s29,s30,s31,s32,s33,())):=by kernel_rfl
theorem zkS (s1:Int) (s2:Int) (s3:Int) (s4:Int) (s5:Int) (s6:Int) (s7:Int) (s8:Int) (s9:Int) (s10:Int) (s11:Int) (s12:Int) (s13:BitVec 64) (s14:zO) (s15:Int) (s16:Int) (s17:Int) (s18:Int) (s19:Int) (s20:Int) (s21:Int) (s22:Int) (s23:Int) (s24:BitVec 64) (s25:List Int) (s26:List zw) (s27:List (List Int)) (s28:List (List Int)) (s29:List (List zw)) (s30:List zj) (s31:List (List Int)) (s32:List (List Int)) (s33:List (List zw)) (s34:List zj):ZJ (s1,s2,s3,s4,s5,s6,s7,s8,s9,s10,s11,s12,s13,s14,s15,s16,s17,s18,s19,s20,s21,s22,s23,s24,s25,s26,s27,s28,s29,s30,s31,s32,s33,s34,()) =
 bif decide (0<s3) then
 (W2 ((s25.length:Int)) s23 s14).bind fun y1 =>
 (yq (s26++([y1.1]:List zw))).bind fun l2 =>
 some (.again (s1,s2,w64 (s3-1),s4,s5,s6,s7,s8,s9,s10,s11,s12,s13,y1.2.1,s15,s16,s17,s18,s19,s20,s21,s22,s23,s24,s25,l2,s27,s28,s29,s30,s31,s32,s33,s34,()))
 else
 some (.brk (s1,s2,s4,s5,s6,s7,s8,s9,s10,s11,s12,s13,s14,s15,s16,s17,s18,s19,s20,s21,s22,s23,s24,s25,s26,s27,s28,s29,s30,s31,s32,s33,s34,())):=by kernel_rfl
theorem zqf (a1:List (BitVec 8)):zc4 a1 =
 (cut a1 0 (bif decide (90<((a1.length:Int))) then 90 else ((a1.length:Int)))).bind fun l1 =>
 (zG (zO.mk l1 0)).bind fun y2 =>
 (zG y2.2.1).bind fun y3 =>
 (zG y3.2.1).bind fun y4 =>
 (zG y4.2.1).bind fun y5 =>
 (zG y5.2.1).bind fun y6 =>
 (zG y6.2.1).bind fun y7 =>
 (zG y7.2.1).bind fun y8 =>
 (zG y8.2.1).bind fun y9 =>
 (zG y9.2.1).bind fun y10 =>
 (zG y10.2.1).bind fun y11 =>
 (zX Wi (w64 (1+(y10.1.tmod 6)),0,0,0,0,0,0,0,0,0,0,0#64,y11.2.1,w64 (1+(y2.1.tmod 3)),y3.1.tmod 3,w64 (1+(y4.1.tmod 3)),w64 (1+(y5.1.tmod 2)),w64 (1+(y6.1.tmod 3)),w64 ((w64 (1+(y10.1.tmod 6)))+(y11.1.tmod 4)),y7.1.tmod 4,y8.1.tmod 4,w64 (1+(y9.1.tmod 2)),0#64,([]:List (List Int)),([]:List (List Int)),([]:List (List zw)),([]:List zj),([]:List (List Int)),([]:List (List Int)),([]:List (List zw)),([]:List zj),())).bind fun st=>match st with
  | .again _=>none
  | .brk y12 =>
  let y12a:=y12.2.2.2.2.2.2.2.2;let y12b:=y12a.2.2.2.2.2.2.2.2;let y12c:=y12b.2.2.2.2.2.2.2.2
  (zG y12a.2.2.2.1).bind fun y13 =>
  bif decide ((w64 (y12.1+1))=0) then
  none
  else
  (Yw 0#64 (y13.1.tmod (w64 (y12.1+1)))).bind fun y14 =>
  (zX Xq (y12.1,0,y12.2.1,y12.2.2.1,y12.2.2.2.1,y12.2.2.2.2.1,y12.2.2.2.2.2.1,y12.2.2.2.2.2.2.1,y12.2.2.2.2.2.2.2.1,y12a.1,y12a.2.1,y12a.2.2.1,y13.2.1,y12a.2.2.2.2.1,y12a.2.2.2.2.2.1,y12a.2.2.2.2.2.2.1,y12a.2.2.2.2.2.2.2.1,y12b.1,y12b.2.1,y12b.2.2.1,y12b.2.2.2.1,y12b.2.2.2.2.1,y14.1,y12b.2.2.2.2.2.2.1,y12b.2.2.2.2.2.2.2.1,y12c.1,y12c.2.1,y12c.2.2.1,y12c.2.2.2.1,y12c.2.2.2.2.1,y12c.2.2.2.2.2.1,())).bind fun st=>match st with
   | .again _=>none
   | .brk y15 =>
   let y15a:=y15.2.2.2.2.2.2.2.2;let y15b:=y15a.2.2.2.2.2.2.2.2;let y15c:=y15b.2.2.2.2.2.2.2.2
   some (zd.mk y15a.2.2.1 y15a.2.2.2.1 y15a.2.2.2.2.1 y15a.2.2.2.2.2.1 y15a.2.2.2.2.2.2.1 y15a.2.2.2.2.2.2.2.1 y15b.1 y15b.2.1 (zq.mk y15b.2.2.1 y15c.1) y15b.2.2.2.1 y15c.2.1 y15c.2.2.1 y15c.2.2.2.1,())
   | .ret y15 =>
   none
  | .ret y12 =>
  none:=zx (by kernel_rfl)
theorem zln (s1:List (BitVec 8)) (s2:Int) (s3:Int) (s4:zd) (s5:List zj):UP (s1,s2,s3,s4,s5,()) =
 bif decide (s3<((s1.length:Int))) then
 bif decide (((s5.length:Int))<s2) then
  (idx s1 s3).bind fun x1 =>
  bif decide ((w64 ((w64 (1+s4.Workers))+s4.Mutators))=0) then
  none
  else
  bif decide (s4.Workers<(((x1.toNat:Int)).tmod (w64 ((w64 (1+s4.Workers))+s4.Mutators)))) then
   (zX v8 (s1,s2,s3,0,s4,s5,zj.mk 2 (w64 ((((x1.toNat:Int)).tmod (w64 ((w64 (1+s4.Workers))+s4.Mutators)))-s4.Workers)),())).bind fun st=>match st with
    | .again _=>none
    | .brk y2 =>
    some (.again (y2.1,y2.2.1,w64 (y2.2.2.1+1),y2.2.2.2.1,y2.2.2.2.2.1,()))
    | .ret y2 =>
    some (.ret (()))
  else
   bif decide (0<(((x1.toNat:Int)).tmod (w64 ((w64 (1+s4.Workers))+s4.Mutators)))) then
   (zX v8 (s1,s2,s3,0,s4,s5,zj.mk 1 (((x1.toNat:Int)).tmod (w64 ((w64 (1+s4.Workers))+s4.Mutators))),())).bind fun st=>match st with
    | .again _=>none
    | .brk y3 =>
    some (.again (y3.1,y3.2.1,w64 (y3.2.2.1+1),y3.2.2.2.1,y3.2.2.2.2.1,()))
    | .ret y3 =>
    some (.ret (()))
   else
   (zX v8 (s1,s2,s3,0,s4,s5,zj.mk 0 0,())).bind fun st=>match st with
    | .again _=>none
    | .brk y4 =>
    some (.again (y4.1,y4.2.1,w64 (y4.2.2.1+1),y4.2.2.2.1,y4.2.2.2.2.1,()))
    | .ret y4 =>
    some (.ret (()))
 else
  some (.brk (s5,()))
 else
 some (.brk (s5,())):=by kernel_rfl
theorem zkq (s1:List (BitVec 8)) (s2:Int) (s3:Int) (s4:Int) (s5:zd) (s6:List zj) (s7:zj):v8 (s1,s2,s3,s4,s5,s6,s7,()) =
 (idx s1 s3).bind fun x1 =>
 bif decide (s4<=(w64 (((x1.toNat:Int)).tdiv 64))) then
 bif decide (((s6.length:Int))<s2) then
  (yq (s6++([s7]:List zj))).bind fun l2 =>
  some (.again (s1,s2,s3,w64 (s4+1),s5,l2,s7,()))
 else
  some (.brk (s1,s2,s3,s5,s6,()))
 else
 some (.brk (s1,s2,s3,s5,s6,())):=by kernel_rfl
theorem zoO (a1:zd) (a2:List (BitVec 8)) (a3:Int):VG a1 a2 a3 =
 (zX UP (a2,a3,0,a1,([]:List zj),())).bind fun st=>match st with
  | .again _=>none
  | .brk y1 =>
  some (y1.1,())
  | .ret y1 =>
  none:=zx (by kernel_rfl)
theorem zal (s1:Bool) (s2:Int) (s3:Int) (s4:zd) (s5:za) (s6:List zj):uJ (s1,s2,s3,s4,s5,s6,()) =
 bif decide (s3<s2) then
 (xM s6 s3).bind fun n1 =>
 (s6[n1]?).bind fun x2 =>
 (zdG s5 x2).bind fun y3 =>
 (Wu y3.1).bind fun y4 =>
 (Wu s5).bind fun y5 =>
 (Z9 y5.1 y4.1).bind fun y6 =>
 bif !y6.1 then
  some (.ret (false,()))
 else
  (Wt y4.1).bind fun y7 =>
  bif !(decide (y7.1=(w64 (((y3.1.H.Objs.length:Int))-((s4.H.Objs.length:Int)))))) then
  some (.ret (false,()))
  else
  (Z9 y4.1 y3.1.T.Black).bind fun y8 =>
  bif !y8.1 then
   some (.ret (false,()))
  else
   (Wt y4.1).bind fun y9 =>
   bif decide ((w64 (s4.Most-((s4.H.Objs.length:Int))))<y9.1) then
   some (.ret (false,()))
   else
   some (.again (s1,s2,w64 (s3+1),s4,y3.1,s6,()))
 else
 some (.brk (s1,())):=by kernel_rfl
theorem zk3 (a1:List (BitVec 8)) (a2:List (BitVec 8)):ZK a1 a2 =
 (U5).bind fun y1 =>
 bif !y1.1 then
 some (false,())
 else
 (zc4 a1).bind fun y2 =>
 (zhz y2.1).bind fun y3 =>
 (VG y2.1 a2 300).bind fun y4 =>
 (zX uJ (y1.1,(y4.1.length:Int),0,y2.1,y3.1,y4.1,())).bind fun st=>match st with
  | .again _=>none
  | .brk y5 =>
  some (y5.1,())
  | .ret y5 =>
  some (y5.1,()):=zx (by kernel_rfl)
end Go.Pe.G
namespace Go.Pe.G
open Go.Pe
theorem zJu:Go.Proofs.Tryz.prog.funcs[77]? =some Go.Proofs.Tryz.f77:=by kernel_rfl
theorem zIU:Go.Proofs.Tryz.f77.body.isSome=true:=by kernel_rfl
theorem zIs:YJ Go.Proofs.Tryz.prog 77=true:=by kernel_rfl
theorem zIY:Go.Proofs.Tryz.prog.funcs[115]? =some Go.Proofs.Tryz.f115:=by kernel_rfl
theorem zH3:Go.Proofs.Tryz.f115.body.isSome=true:=by kernel_rfl
theorem zIi:YJ Go.Proofs.Tryz.prog 115=true:=by kernel_rfl
theorem zJd:Go.Proofs.Tryz.prog.funcs[150]? =some Go.Proofs.Tryz.f150:=by kernel_rfl
theorem zHE:Go.Proofs.Tryz.f150.body.isSome=true:=by kernel_rfl
theorem zHA:YJ Go.Proofs.Tryz.prog 150=true:=by kernel_rfl
theorem zrN (ys:List Int) (s1:Int) (s2:Int) (s3:BitVec 64):zbr ys (s1,s2,s3,()) =
 bif !(decide (s3=0#64)) then
 (qTZ s3).bind fun y1 =>
 (Y5 ys s2 (w64 (y1.1+1))).bind fun _ =>
 some (.again (s1,s2+1,s3&&&(s3-1#64),()))
 else
 some (.brk (s1,s2,())):=by kernel_rfl
theorem zvQ (n:Int) (ys:List Int) (a1:BitVec 64):zoV (zcC ys) Go.Proofs.Tryz.f115 zoI n ((a1,()):(BitVec 64)×Unit) =
 (zX (zbr ys) (n,0,a1,())).bind fun st=>match st with
  | .again _=>none
  | .brk y1 =>
  some y1.2.1
  | .ret y1 =>
  some y1.2.1:=by kernel_rfl
theorem WR (ys:List (List Int)) (s1:Int) (s2:Int) (s3:Int) (s4:List Int) (s5:Int):uz ys (s1,s2,s3,s4,s5,()) =
 bif decide (s3<((s4.length:Int))) then
 (cut s4 s3 ((s4.length:Int))).bind fun l1 =>
 bif decide (s3=0)&&decide ((w64 (s3+(bif decide (((l1.length:Int))<s5) then ((l1.length:Int)) else s5)))=0)&&decide ((w64 (s3+(bif decide (((l1.length:Int))<s5) then ((l1.length:Int)) else s5)))=0) then
  (Y5 ys s2 ([]:List Int)).bind fun _ =>
  some (.again (s1,s2+1,w64 (s3+s5),s4,s5,()))
 else
  bif decide (s3=0)&&decide ((w64 (s3+(bif decide (((l1.length:Int))<s5) then ((l1.length:Int)) else s5)))=((s4.length:Int)))&&decide ((w64 (s3+(bif decide (((l1.length:Int))<s5) then ((l1.length:Int)) else s5)))=((s4.length:Int))) then
  (Y5 ys s2 s4).bind fun _ =>
  some (.again (s1,s2+1,w64 (s3+s5),s4,s5,()))
  else
  bif decide ((w64 (s3+(bif decide (((l1.length:Int))<s5) then ((l1.length:Int)) else s5)))=(w64 (s3+(bif decide (((l1.length:Int))<s5) then ((l1.length:Int)) else s5)))) then
   (cut s4 s3 (w64 (s3+(bif decide (((l1.length:Int))<s5) then ((l1.length:Int)) else s5)))).bind fun l2 =>
   (Y5 ys s2 l2).bind fun _ =>
   some (.again (s1,s2+1,w64 (s3+s5),s4,s5,()))
  else
   none
 else
 some (.brk (s1,s2,())):=by kernel_rfl
theorem zf7 (n:Int) (ys:List (List Int)) (a1:List Int) (a2:Int):zoV (uT ys) Go.Proofs.Tryz.f77 U7 n ((a1,a2,()):(List Int)×Int×Unit) =
 (zX (uz ys) (n,0,0,a1,a2,())).bind fun st=>match st with
  | .again _=>none
  | .brk y1 =>
  some y1.2.1
  | .ret y1 =>
  some y1.2.1:=by kernel_rfl
theorem ziD (ys:List (List Int)) (s1:Int) (s2:Int) (s3:Int) (s4:Int) (s5:za):VM ys (s1,s2,s3,s4,s5,()) =
 bif decide (s4<s3) then
 (zdJ s5 (w64 (s4+1))).bind fun y1 =>
 (Y5 ys s2 y1.1).bind fun _ =>
 some (.again (s1,s2+1,s3,w64 (s4+1),s5,()))
 else
 some (.brk (s1,s2,s5,())):=by kernel_rfl
theorem zhT (ys:List (List Int)) (s1:Int) (s2:Int) (s3:Int) (s4:Int) (s5:za):zbA ys (s1,s2,s3,s4,s5,()) =
 bif decide (s4<s3) then
 (zcu s5 (w64 (s4+1))).bind fun y1 =>
 (Y5 ys s2 y1.1).bind fun _ =>
 some (.again (s1,s2+1,s3,w64 (s4+1),s5,()))
 else
 some (.brk (s1,s2,())):=by kernel_rfl
theorem zwl (n:Int) (ys:List (List Int)) (a1:Int) (a2:Int) (a3:Int) (a4:Int) (a5:Int) (a6:Int) (a7:Int) (a8:Int) (a9:Int) (a10:List (List Int)) (a11:BitVec 64) (a12:List (List Int)) (a13:List (List zw)) (a14:List zj) (a15:Int) (a16:List (List Int)) (a17:List (BitVec 64)) (a18:List (List Int)) (a19:BitVec 64) (a20:BitVec 64) (a21:Int) (a22:Int) (a23:Bool) (a24:Bool) (a25:Int) (a26:List Int) (a27:Int) (a28:Int) (a29:Int) (a30:List Int) (a31:List zk) (a32:List ze) (a33:Int) (a34:Int):zoV (YN ys) Go.Proofs.Tryz.f150 zcr n ((a1,a2,a3,a4,a5,a6,a7,a8,a9,a10,a11,a12,a13,a14,a15,a16,a17,a18,a19,a20,a21,a22,a23,a24,a25,a26,a27,a28,a29,a30,a31,a32,a33,a34,()):Int×Int×Int×Int×Int×Int×Int×Int×Int×(List (List Int))×(BitVec 64)×(List (List Int))×(List (List zw))×(List zj)×Int×(List (List Int))×(List (BitVec 64))×(List (List Int))×(BitVec 64)×(BitVec 64)×Int×Int×Bool×Bool×Int×(List Int)×Int×Int×Int×(List Int)×(List zk)×(List ze)×Int×Int×Unit) =
 (zb8 (za.mk (zd.mk a1 a2 a3 a4 a5 a6 a7 a8 (zq.mk a9 a10) a11 a12 a13 a14) (zq.mk a15 a16) a17 a18 (zm.mk a19 a20) a21 a22 a23 a24 a25 a26 (zr.mk a27 a28 a29 a30) a31 a32 (zE.mk a33 a34))).bind fun y1 =>
 (Y5 ys 0 y1.1).bind fun _ =>
 (zX (VM ys) (n,0+1,(a31.length:Int),0,za.mk (zd.mk a1 a2 a3 a4 a5 a6 a7 a8 (zq.mk a9 a10) a11 a12 a13 a14) (zq.mk a15 a16) a17 a18 (zm.mk a19 a20) a21 a22 a23 a24 a25 a26 (zr.mk a27 a28 a29 a30) a31 a32 (zE.mk a33 a34),())).bind fun st=>match st with
  | .again _=>none
  | .brk y2 =>
  (zX (zbA ys) (y2.1,y2.2.1,(y2.2.2.1.Ms.length:Int),0,y2.2.2.1,())).bind fun st=>match st with
   | .again _=>none
   | .brk y3 =>
   some y3.2.1
   | .ret y3 =>
   some y3.2.1
  | .ret y2 =>
  some y2.2.1:=by kernel_rfl
end Go.Pe.G
namespace Go.Pe.G
open Go.Pe
theorem zij {A B D:Type}(g:A->Option (yD A B D)) {o:yD Unit B D}:∀(k m:Nat) (x:A),yK g k x=some o->k<=m->yK g m x=some o
 | 0,m,x,h,_=>by cases h
 | k+1,0,x,h,hm=>by omega
 | k+1,m+1,x,h,hm=>by
  simp only [yK,zJL] at h ⊢;obtain ⟨s,h1,h2⟩:=h;refine ⟨s,h1,?_⟩;cases s with
  | again y=>exact zij g k m y h2 (by omega)
  | brk b=>exact h2
  | ret c=>exact h2
theorem ziI {α:Type}(pre post:List α) (z:α):Y5 (pre++z::post) (pre.length:Int) z=some ():=by
 unfold Y5;rw [zb];refine ⟨by omega,?_⟩;simp
theorem zjS (n:Int) (ys:List Int):∀(f:Nat) (s:BitVec 64) (l pre:List Int),zag f s=some l->ys=pre++l->yK (zbr ys) f (n,(pre.length:Int),s,())=some (.brk (n,(ys.length:Int),()))
 | 0,s,l,pre,h,_=>by cases h
 | f+1,s,l,pre,h,e=>by
  simp only [zag] at h;simp only [yK,zrN];cases hz:decide (s=0#64) with
  | true =>
   simp only [hz,cond_true,Option.some.injEq] at h;subst h;simp only [zJE] at e;subst e;rfl
  | false =>
   simp only [hz,cond_false,zJR] at h;obtain ⟨l',h1,rfl⟩:=h;have hn:Y5 ys (pre.length:Int) (w64 (tz s+1))=some ():=by rw [e];exact ziI pre l' _
   simp only [Bool.not_false,cond_true,zIB,zJA,hn];have:=zjS n ys f (s&&&(s-1#64)) l' (pre++[w64 (tz s+1)]) h1 (by rw [e];simp);simpa using this
theorem ztV (G:Nat->Prop) (W0:World) (hG:zqV G W0):Xc Go.Proofs.Tryz.prog G W0 115 zbW:=by
 obtain ⟨c,hc⟩:=zLq.1 zH3;refine zpe (Cg:=zcC []) rfl zsa (fun f s hs=>Oks.at (.cons _ _ _ _ zH1 (zFx hG) (.skip _ _ .nil)) f s hs) rfl zwe (fun g it h=>by cases h) zIi zIY hc zbW (zKd (by kernel_rfl)) rfl ?_;rintro n ⟨a,⟨⟩⟩ ys h;have h:zag 66 a=some ys:=h;have e:=zvQ n ys a;have k:=zij _ 66 vv _ (zjS n ys 66 a ys [] h rfl) (by decide);refine Eq.trans e ?_;have k':yK (zbr ys) vv (n,0,a,())=some (.brk (n,(ys.length:Int),())):=k;rw [YI,k'];rfl
theorem zvx {a:Int}(h: -9223372036854775808<=a) (h2:a<9223372036854775808):w64 a=a:=by
 rw [zsA];omega
theorem zeI (n:Int) (ys:List (List Int)) (l:List Int) (sz:Nat) (h1:1<=sz) (h2:sz<1000000) (h3:l.length<1000000):∀(f p:Nat) (pre:List (List Int)),(l.drop p).length<=f->ys=pre++vQ sz f (l.drop p)->p<2000000 ->
  yK (uz ys) (f+1) (n,(pre.length:Int),(p:Int),l,(sz:Int),())=some (.brk (n,(ys.length:Int),())):=by
 intro f
 induction f with
 | zero =>
  intro p pre hf e hp;simp only [yK,WR];simp only [zKR] at hf;have: ¬(p:Int)<(l.length:Int):=by omega
  simp only [this,decide_false,cond_false,zJA];simp only [vQ,zJE] at e;rw [e]
 | succ f ih =>
  intro p pre hf e hp;rw [yK,WR];by_cases hlt:p<l.length
  .have hlt':(p:Int)<(l.length:Int):=by omega
   have hcut:cut l (p:Int) (l.length:Int)=some (l.drop p):=by
    unfold cut;have:(decide (0<=(p:Int))&&decide ((p:Int)<=(l.length:Int))&&decide ((l.length:Int)<=(l.length:Int)))=true:=by simp;omega
    simp only [this,cond_true];simp
   obtain ⟨x,r,hxr⟩:∃x r,l.drop p=x::r:=by
    cases hd:l.drop p with
    | nil=>have:=congrArg List.length hd;simp at this;omega
    | cons x r=>exact ⟨x,r,rfl⟩
   have hch:vQ sz (f+1) (l.drop p)=(l.drop p).take sz::vQ sz f (l.drop (p+sz)):=by
    rw [hxr];simp only [vQ];rw [<-hxr,List.drop_drop]
   have hm:∃m:Nat,(bif decide (((l.drop p).length:Int)<(sz:Int)) then (((l.drop p).length:Int)) else (sz:Int))=(m:Int)/\m=min sz (l.length-p):=by
    simp only [zKR];by_cases hs:((l.length-p:Nat):Int)<(sz:Int)
    .exact ⟨l.length-p,by simp only [hs,decide_true,cond_true],by omega⟩
    .exact ⟨sz,by simp only [hs,decide_false,cond_false],by omega⟩
   obtain ⟨m,hm1,hm2⟩:=hm;have hw:w64 ((p:Int)+(m:Int))=((p+m:Nat):Int):=by rw [zvx (by omega) (by omega)];omega
   have hw2:w64 ((p:Int)+(sz:Int))=((p+sz:Nat):Int):=by rw [zvx (by omega) (by omega)];omega
   have hne: ¬((p+m:Nat):Int)=0:=by omega
   simp only [hlt',decide_true,cond_true,hcut,zJA,hm1,hw,hw2,hne,decide_false,Bool.and_false,cond_false];have hn:Y5 ys (pre.length:Int) ((l.drop p).take sz)=some ():=by rw [e,hch];exact ziI pre _ _
   have hcut2:cut l (p:Int) ((p+m:Nat):Int)=some ((l.drop p).take sz):=by
    unfold cut;have:(decide (0<=(p:Int))&&decide ((p:Int)<=((p+m:Nat):Int))&&decide (((p+m:Nat):Int)<=(l.length:Int)))=true:=by simp;omega
    simp only [this,cond_true];refine congrArg some ?_;simp only [zKi];rw [List.drop_take,Nat.add_sub_cancel_left,hm2];by_cases hs:sz<=l.length-p
    .rw [Nat.min_eq_left hs]
    .rw [Nat.min_eq_right (by omega),zLn (l:=l.drop p) (by simp),zLn (l:=l.drop p) (by simp;omega)]
   have hnext:=ih (p+sz) (pre++[(l.drop p).take sz]) (by simp only [zKR] at hf ⊢;omega) (by rw [e,hch];simp) (by omega);have hlen:((pre++[(l.drop p).take sz]).length:Int)=(pre.length:Int)+1:=by simp
   rw [hlen] at hnext;cases hfull:(decide ((p:Int)=0)&&decide (((p+m:Nat):Int)=(l.length:Int))&&decide (((p+m:Nat):Int)=(l.length:Int))) with
   | true =>
    simp only [cond_true];have hl:l=(l.drop p).take sz:= ?_
    .rw [<-hl] at hn;rw [hn];exact hnext
    simp only [zJB,decide_eq_true_eq] at hfull;obtain ⟨⟨hp0,hpl⟩,_⟩:=hfull;have hp00:p=0:=by omega
    rw [hp00,List.drop_zero,zLn (by omega)]
   | false =>
    simp only [cond_false,hcut2,zJA,decide_true,cond_true];rw [hn];exact hnext
  .have hnl: ¬(p:Int)<(l.length:Int):=by omega
   have hd:l.drop p=[]:=zLa (by omega);simp only [hnl,decide_false,cond_false,zJA];rw [hd] at e;simp only [vQ,zJE] at e;rw [e]
theorem zfv (n:Int) (ys:List (List Int)) (l:List Int) (sz:Int) (h:zla l sz=some ys):yK (uz ys) vv (n,0,0,l,sz,())=some (.brk (n,(ys.length:Int),())):=by
 unfold zla at h;cases hc:(decide (1<=sz)&&decide (sz<1000000)&&decide ((l.length:Int)<1000000)) with
 | false=>simp [hc] at h
 | true =>
  simp only [hc,cond_true] at h;injection h with h;simp only [zJB,decide_eq_true_eq] at hc;obtain ⟨⟨c1,c2⟩,c3⟩:=hc;have k:=zij _ (l.length+1) vv _ (zeI n ys l sz.toNat (by omega) (by omega) (by omega) l.length 0 [] (by simp) (by simpa using h.symm) (by omega)) (by unfold vv;omega);have hs:((sz.toNat:Nat):Int)=sz:=by omega
  rw [hs] at k;exact k
theorem zfu (G:Nat->Prop) (W0:World) (hG:zqV G W0):Xc Go.Proofs.Tryz.prog G W0 77 vP:=by
 obtain ⟨c,hc⟩:=zLq.1 zIU;refine zpe (Cg:=uT []) rfl zsa (fun f s hs=>Oks.at .nil f s hs) rfl zwe (fun g it h=>by cases h) zIs zJu hc vP (zKd (by kernel_rfl)) rfl (fun n x ys h=>?_);refine Eq.trans (zf7 n ys x.1 x.2.1) ?_;rw [YI,zfv n ys x.1 x.2.1 h];rfl
end Go.Pe.G
namespace Go.Pe.G
open Go.Pe Go.Proofs
theorem zDy (bk off cap:Nat) (l:List Int) (w:World) (hH:Go.Sort.Holds (Value.int .i64) w bk off l.toArray) (hb:bk<w.heap.size) (hlen:l.length<4294967296) :
  Calls Tryz.prog 203 #[.slice (some ⟨bk,off,none⟩) l.length cap] w fun e w'=>e= .returned (.tuple #[])/\∃n os,w'=Go.Sort.grow (Go.Sort.putRow (Value.int .i64) (Go.Sort.ahead w n) bk off (wV l).toArray) os:=by
 have hsz:l.toArray.size=l.length:=by simp
 have hlog:Go.Sort.bitsLen l.length<4611686018427387904:=by
  unfold Go.Sort.bitsLen;split
  .omega
  .rename_i h0;have:=(Nat.log2_lt h0 (k:=32)).2 (by omega);omega
 have hdep:=Go.Sort.pdqDepth_le_59 Go.Sort.ltInt l.toArray 0 l.toArray.size (Go.Sort.bitsLen l.toArray.size) true true (by rw [hsz];omega);have hs:Go.Sort.pdq Go.Sort.ltInt l.toArray 0 l.toArray.size (Go.Sort.bitsLen l.toArray.size) true true=(wV l).toArray:=Go.Proofs.Any.sort_int_eqD l;have hP:Calls Tryz.prog 227 #[.slice (some ⟨bk,off,none⟩) l.length cap,.int .i64 0,.int .i64 (l.length:Int),.int .i64 ((Go.Sort.bitsLen l.length:Nat):Int)] w fun e w'=>e= .returned (.tuple #[])/\∃n os,w'=Go.Sort.grow (Go.Sort.putRow (Value.int .i64) (Go.Sort.ahead w n) bk off (wV l).toArray) os:=by
  have hk:=Go.calls_of_every_depth fun D=>Go.Proofs.Any.pdqWalkInInt Go.Proofs.laysPd D 65 bk off cap 0 l.toArray.size (Go.Sort.bitsLen l.toArray.size) l.toArray w (by omega) hH hb (zKM _) (zJF _) (by rw [hsz];omega) (by rw [hsz];exact hlog) (Or.inl rfl);rw [hs,hsz] at hk;exact hk
 have hL:Calls Tryz.prog 228 #[.int .u64 (l.length:Int)] w fun e w'=>e= .returned (.int .i64 ((Go.Sort.bitsLen l.length:Nat):Int))/\w'=w:=by
  have hk:=Go.calls_of_every_depth fun D=>Go.Proofs.AnyS.bits_LenIn Go.Proofs.laysLn D (l.length:Int) w (by omega) (by omega);rw [zKi,Go.Proofs.bitLen_eq _ (by omega)] at hk;exact hk
 clear hH hdep hs hsz
 go_enter Tryz.func203,Tryz.ntmps203
 go_wp2_with (first
  | (go_at_call 228;refine hL.mono ?_;rintro e w' ⟨rfl,rfl⟩)
  | (go_at_call 227;refine hP.mono ?_;rintro e w' ⟨rfl,n,os,rfl⟩))
 go_end0
 exact ⟨rfl,n,os,rfl⟩
theorem zEZ (a:Option Addr) (w:World):Calls Tryz.prog 203 #[.slice a 0 0] w fun e w'=>e= .returned (.tuple #[])/\w'=w:=by
 have hP:=Go.calls_of_every_depth fun D=>Go.Proofs.AnyS.pdqsort_int_none_in Go.Proofs.laysPd D a 0 w;have hL:Calls Tryz.prog 228 #[.int .u64 0] w fun e w'=>e= .returned (.int .i64 0)/\w'=w:=Go.calls_of_every_depth fun D=>Go.Proofs.AnyS.bits_LenIn Go.Proofs.laysLn D 0 w (by omega) (by omega)
 go_enter Tryz.func203,Tryz.ntmps203
 go_wp2_with (first
  | (go_at_call 228;refine hL.mono ?_;rintro e w' ⟨rfl,rfl⟩)
  | (go_at_call 227;refine hP.mono ?_;rintro e w' ⟨rfl,rfl⟩))
 go_end0
 exact ⟨rfl,rfl⟩
noncomputable def zt6:zC E:=sp (cf [] [] [] [] [] []) Tryz.f202 ⟨[vL],[]⟩ ⟨[.own 0],[.row true (.int .i64)]⟩ [oL] [oL]
theorem zHZ (a:List Int):zt6.F (a,())=bif a.isEmpty then zlV (some (([]:List Int),())) ((yq (([]:List Int)++a)).bind fun l=>some (l,())) else (yq (([]:List Int)++a)).bind fun l=>some (l,()):=zx (by kernel_rfl)
theorem zHD {a:List Int}(h:a.length<4294967296):zt6.F (a,())=some (a,()):=by
 have hr:yq a=some a:=by rw [zuq,decide_eq_true h];rfl
 rw [zHZ,zJM,hr];cases a with
 | nil=>exact zee _
 | cons x l=>rfl
theorem zDs {G:Nat->Prop}{W0:World}(hG:zqV G W0):Wm Tryz.prog G W0 202 zt6 :=
 zyq (C:=cf [] [] [] [] [] []) zsa (zuL .nil) rfl (zAF .nil) zwe Tryz.func202 (by kernel_rfl) (by kernel_rfl) (by kernel_rfl)
theorem zHv {w w':World}{A A' U U':Nat->Prop}{μ:Nat->Loc}{id:Nat}{v:Value}(h:z7 E w A U μ (.own id) v) (hU:U' id):z7 E w' A' U' μ (.own id) v:=by
 cases h with
 | own _ b off len cap _ hμ=>exact .own id b off len cap hU hμ
 | own0 _ a a2 _ hμ=>exact .own0 id a a2 hU hμ
theorem zF3 {A1:Nat->Prop}{μ1:Nat->Loc}{l:List Int}{w1:World}{v1:Value}(S:zT A1 μ1 [Blk.row (E:=E) true (.int .i64) l] w1) (h0:z7 E w1 (Av A1 μ1 [Blk.row (E:=E) true (.int .i64) l]) (Us [Blk.row (E:=E) true (.int .i64) l]) μ1 (.own 0) v1) (hlen:l.length<4294967296) :
  Calls Tryz.prog 203 #[v1] w1 fun e w2=>e= .returned (.tuple #[])/\zT A1 μ1 [Blk.row (E:=E) true (.int .i64) (wV l)] w2/\Adv (Lv μ1 [Blk.row (E:=E) true (.int .i64) l]) w1 (Lv μ1 [Blk.row (E:=E) true (.int .i64) (wV l)]) w2:=by
 have hok:=S.ok 0;cases h0 with
 | own0 _ a1 a2 hU hμ =>
  have hl:l=[]:=by
   rcases hok with ⟨_,_,_,_,_,e1,_⟩ | ⟨e,_⟩
   .have e1:μ1 0=_:=e1;rw [hμ] at e1;cases e1
   .exact e
  subst hl;have e0:wV []=[]:=by unfold wV;simp
  refine (zEZ a1 w1).mono ?_;rintro e w' ⟨rfl,rfl⟩;rw [e0];exact ⟨rfl,S,Adv.refl _ _⟩
 | own _ bk off len cap hU hμ =>
  obtain ⟨hA,hb⟩:=S.out 0 bk off len cap rfl hμ;obtain ⟨cc,vs,t,rfl,e2,h1,h2,h3,h4⟩:∃(cc:Array Value) (vs:Nat->Value) (t:TypeId),len=l.length/\w1.heap[bk]? =some (.cells cc t (0,0))/\l.length<=cap/\off+cap*1<=cc.size /\
    (∀i,i<l.length->∀j u,(vs i).cells[j]? =some u->cc[off+i*1+j]? =some u)/\∀i (h:i<l.length),yn E w1 (Av A1 μ1 [Blk.row true (.int .i64) l]) (.int .i64) (vs i) l[i]:=by
   rcases hok with ⟨b',off',cap',cc,vs,e1,⟨t,f,e2,e3⟩,h1,h2,h3,h4⟩ | ⟨_,a,e⟩
   .have e1:μ1 0=_:=e1;rw [hμ] at e1;injection e1 with q1 q2 q3 q4;subst q1;subst q2;subst q4;have e3:=e3 rfl;subst e3;exact ⟨cc,vs,t,q3,e2,h1,h2,h3,h4⟩
   .have e:μ1 0=_:=e;rw [hμ] at e;cases e
  have hcell:∀(j:Nat) (h:j<l.length),cc[off+j]? =some (.int .i64 l[j]):=fun j h=>by
   have r:=h4 j h;have q:=h3 j h 0;obtain ⟨z,hz⟩:∃z:Int,z=l[j]:=⟨_,rfl⟩
   rw [<-hz] at r ⊢;generalize vs j=vj at r q;cases r with
   | int k z =>
    have:=q _ rfl;rw [zKx,zKj] at this;exact this
  have hsz:l.toArray.size=l.length:=by simp
  have hH:Go.Sort.Holds (Value.int .i64) w1 bk off l.toArray:=fun j hj=>by
   have hj:j<l.length:=by rw [<-hsz];exact hj
   refine ⟨?_,?_⟩
   .unfold World.cell?;rw [e2];show cc[off+j]? =some (Value.int .i64 l.toArray[j]!);rw [hcell j hj,getElem!_pos l.toArray j (by rw [hsz];exact hj)];rfl
   .unfold World.frozen?;rw [e2];simp
  refine (zDy bk off cap l w1 hH hb hlen).mono ?_;rintro e w' ⟨rfl,n,os,rfl⟩;obtain ⟨hS,hAd⟩:=zDC S hμ hb e2 h1 h2 hcell n os;exact ⟨rfl,hS,hAd⟩
theorem zqo {G:Nat->Prop}{W0:World}(hG:zqV G W0):Wm Tryz.prog G W0 154 zsm:=by
 intro A0 μ w args x y wd S hr hy;obtain ⟨l,⟨⟩⟩:=x;have hy:zo2 l=some y:=hy;unfold zo2 at hy;cases hc:decide (l.length<4294967296) with
 | false=>rw [hc] at hy;cases hy
 | true =>
 rw [hc] at hy;injection hy with hy;subst hy;have hlen:l.length<4294967296:=by simpa using hc
 have hcl:=zDs hG A0 μ w args (l,()) (l,()) wd S hr (zHD hlen);obtain ⟨v,rfl⟩:∃v,args= #[v]:=by
  have hl:=hr.1;have hl:1=args.toList.length:=hl
  match ha:args.toList,hl with
  | [v],_=>exact ⟨v,by rw [<-Array.toArray_toList (xs:=args),ha]⟩
 go_enter Tryz.func154,Tryz.ntmps154
 have hout:∀ {vs:List Value}{A1:Nat->Prop}{μ1:Nat->Loc}{w1:World},zDX A0 μ (yx id zt6.inn (HL.toP zt6.inn.holes (l,()))).2 w zt6 (zt6.go.to (l,())) vs A1 μ1 w1->∃v1,vs=[v1]/\z7 E w1 (Av A1 μ1 [Blk.row (E:=E) true (.int .i64) l]) (Us [Blk.row (E:=E) true (.int .i64) l]) μ1 (.own 0) v1/\zT A1 μ1 [Blk.row (E:=E) true (.int .i64) l] w1:=fun {vs A1 μ1 w1} oc=>by
  have hl:=oc.rep.1;have hl:1=vs.length:=hl
  match vs,hl,oc with
  | [v1],_,oc=>exact ⟨v1,rfl,oc.rep.2 0 (.own 0) v1 rfl rfl,oc.sim⟩
 go_wp2_with (first | (go_at_call 202;refine hcl.mono ?_;rintro e w1 ⟨vs,A1,μ1,rfl,oc⟩;obtain ⟨v1,rfl,h1,hS1⟩:=hout oc;have hso:=zF3 hS1 h1 hlen) | (go_at_call 203;refine hso.mono ?_;rintro e w2 ⟨rfl,hS2,hAd2⟩))
 go_ret
 exact ⟨[v1],A1,μ1,rfl,hS2,RL.cons (zHv h1 rfl) RL.nil,oc.adv.trans hAd2,oc.up,fun b hb=>zJX (oc.low b hb) hAd2.size,fun j ws h=>by cases j<;>cases h⟩
end Go.Pe.G
namespace Go.Proofs
open Go.Shelf
def zuO:Go.Shelf.Ren:={f:=fun k=>if k=6 then 109 else if k=10 then 219 else k,g:=fun k=>k,t:=fun k=>if k=0 then 0 else if k=3 then 3 else if k=4 then 4 else if k=22 then 38 else if k=23 then 3 else if k=25 then 126 else k}
theorem zIc:Bears Tryz.prog (zuO.f 6) (SlBodyH.n6 zuO):=Exists.intro ("slices.IndexFunc[[]int,int]") ⟨by kernel_rfl,by kernel_rfl⟩
theorem zH2:Bears Tryz.prog (zuO.f 10) (SlBodyH.n10 zuO):=Exists.intro ("slices.DeleteFunc[[]int,int]") ⟨by kernel_rfl,by kernel_rfl⟩
theorem zIG:SlLaysH.n10 Tryz.prog zuO:=by
 constructor<;>first | exact zIc | exact zH2 | kernel_rfl | (intro w;kernel_rfl)
def znx:Go.Shelf.Ren:={f:=fun k=>if k=4 then 204 else k,g:=fun k=>k,t:=fun k=>if k=0 then 0 else if k=3 then 3 else if k=4 then 4 else if k=9 then 9 else if k=20 then 20 else if k=22 then 116 else if k=25 then 3 else k}
theorem zHt:Bears Tryz.prog (znx.f 4) (Body8.n4 znx):=Exists.intro ("slices.Grow[besom/bag.Bag,int]") ⟨by kernel_rfl,by kernel_rfl⟩
theorem zEy:Lays8.n4 Tryz.prog znx:=by
 constructor<;>first | exact zHt | kernel_rfl | (intro w;kernel_rfl)
end Go.Proofs
namespace Go.Pe.G
open Go.Pe Go.Proofs
theorem lv1 {μ:Nat->Loc}{l:List Int}{b:Nat}(h:Lv (E:=E) μ [.free,Blk.row true (.int .i64) l] b):∃off len cap,μ 1= .blk b off len cap:=by
 obtain ⟨id,off,len,cap,hl,hm⟩:=h
 match id with
 | 0=>cases hl
 | 1=>exact ⟨off,len,cap,hm⟩
 | id+2=>cases hl
theorem zJw {A0:Nat->Prop}{μ:Nat->Loc}{l:List Int}{w:World}{b off cap:Nat}{cc:Array Value}{t:TypeId}(h0:μ 1= .blk b off l.length cap) (hA: ¬A0 b) (e2:w.heap[b]? =some (.cells cc t (0,0))) (h1:l.length<=cap) (h2:off+cap<=cc.size)
  (hc:∀(i:Nat) (h:i<l.length),cc[off+i]? =some (.int .i64 l[i])):zT A0 μ [.free,Blk.row (E:=E) true (.int .i64) l] w:=by
 refine ⟨fun id=>?_,fun i j b o l c b' o' l' c' ne hi hj=>?_,fun id b' o l' c ho hm=>?_⟩
 .match id with
  | 0=>exact trivial
  | 1 =>
   refine .inl ⟨b,off,cap,cc,fun i=>.int .i64 (l.getD i 0),h0,⟨t,(0,0),e2,fun _=>rfl⟩,h1,?_,fun i hi j u hu=>?_,fun i hi=>?_⟩
   .show off+cap*1<=cc.size;omega
   .have hi:i<l.length:=hi
    match j,hu with
    | 0,hu =>
     have hu:some (Value.int .i64 (l.getD i 0))=some u:=hu;injection hu with hu;subst hu;show cc[off+i*1+0]? =_;rw [zKx,zKj,hc i hi,zJD,zJC hi];rfl
    | j+1,hu=>cases hu
   .have hi:i<l.length:=hi;have e:l.getD i 0=l[i]:=by rw [zJD,zJC hi];rfl
    show yn E _ _ (.int .i64) (.int .i64 (l.getD i 0)) l[i];rw [e];exact .int .i64 _
  | id+2=>exact trivial
 .match i,j with
  | 0,_=>cases hi
  | 1,0=>cases hj
  | 1,1=>exact absurd rfl ne
  | 1,j+2=>cases hj
  | i+2,_=>cases hi
 .match id with
  | 0=>cases ho
  | 1 =>
   have hm:μ 1=Loc.blk b' o l' c:=hm;rw [h0] at hm;injection hm with hm;subst hm;exact ⟨hA,(zJ0.1 e2).1⟩
  | id+2=>cases ho
theorem zJq {A0:Nat->Prop}{μ:Nat->Loc}{w:World}{b cap:Nat}{cc:Array Value}{t:TypeId}(h0:μ 0= .blk b 0 0 cap) (hA: ¬A0 b) (e2:w.heap[b]? =some (.cells cc t (0,0))) (h2:cap<=cc.size):zT A0 μ [Blk.row (E:=E) true (.int .i64) []] w:=by
 refine ⟨fun id=>?_,fun i j b o l c b' o' l' c' ne hi hj=>?_,fun id b' o l' c ho hm=>?_⟩
 .match id with
  | 0 =>
   refine .inl ⟨b,0,cap,cc,fun i=>.int .i64 0,h0,⟨t,(0,0),e2,fun _=>rfl⟩,zKM _,?_,fun i hi=>absurd hi (Nat.not_lt_zero _),fun i hi=>absurd hi (Nat.not_lt_zero _)⟩;show 0+cap*1<=cc.size;omega
  | id+1=>exact trivial
 .match i,j with
  | 0,0=>exact absurd rfl ne
  | 0,j+1=>cases hj
  | i+1,_=>cases hi
 .match id with
  | 0 =>
   have hm:μ 0=Loc.blk b' o l' c:=hm;rw [h0] at hm;injection hm with hm;subst hm;exact ⟨hA,(zJ0.1 e2).1⟩
  | id+1=>cases ho
theorem zJp {A0:Nat->Prop}{μ:Nat->Loc}{w:World}{a:Option Addr}(h0:μ 0= .none a):zT A0 μ [Blk.row (E:=E) true (.int .i64) []] w:=by
 refine ⟨fun id=>?_,fun i j b o l c b' o' l' c' ne hi hj=>?_,fun id b' o l' c ho hm=>?_⟩
 .match id with
  | 0=>exact .inr ⟨rfl,a,h0⟩
  | id+1=>exact trivial
 .match i,j with
  | 0,0=>exact absurd rfl ne
  | 0,j+1=>cases hj
  | i+1,_=>cases hi
 .match id with
  | 0 =>
   have hm:μ 0=Loc.blk b' o l' c:=hm;rw [h0] at hm;cases hm
  | id+1=>cases ho
theorem zIy {A0:Nat->Prop}{μ:Nat->Loc}{l:List Int}{w:World}(S:zT A0 μ [Blk.row (E:=E) true (.int .i64) l] w) {bk off len cap:Nat}(hμ:μ 0= .blk bk off len cap) :
  ¬A0 bk/\bk<w.heap.size/\len=l.length/\∃(cc:Array Value) (t:TypeId),w.heap[bk]? =some (.cells cc t (0,0))/\l.length<=cap/\off+cap<=cc.size/\∀(j:Nat) (h:j<l.length),cc[off+j]? =some (.int .i64 l[j]):=by
 obtain ⟨hA,hb⟩:=S.out 0 bk off len cap rfl hμ;refine ⟨hA,hb,?_⟩;rcases S.ok 0 with ⟨b',off',cap',cc,vs,e1,⟨t,f,e2,e3⟩,h1,h2,h3,h4⟩ | ⟨_,a,e⟩
 .have e1:μ 0=_:=e1;rw [hμ] at e1;injection e1 with q1 q2 q3 q4;subst q1;subst q2;subst q4;have e3:=e3 rfl;subst e3;have h2:off+cap*1<=cc.size:=h2;refine ⟨q3,cc,t,e2,h1,by omega,fun j h=>?_⟩;have r:=h4 j h;have q:=h3 j h 0;obtain ⟨z,hz⟩:∃z:Int,z=l[j]:=⟨_,rfl⟩
  have r:yn E w _ (.int .i64) (vs j) l[j]:=r;rw [<-hz] at r ⊢;generalize vs j=vj at r q;cases r with
  | int k z =>
   have:=q _ rfl;have this:cc[off+j*1+0]? =_:=this;rw [zKx,zKj] at this;exact this
 .have e:μ 0=_:=e;rw [hμ] at e;cases e
theorem zFc (W:World) (x:Int):Calls Tryz.prog 220 #[.int .i64 x] W fun e w'=>e= .returned (.bool (decide (x=0)))/\w'=W:=by
 go_enter Tryz.func220,Tryz.ntmps220
 go_wp2
 go_ret
 exact ⟨rfl,rfl⟩
theorem ztq {G:Nat->Prop}{W0:World}(hG:zqV G W0):Wm Tryz.prog G W0 199 zzv:=by
 intro A0 μ w args x y wd S hr hy;obtain ⟨l,⟨⟩⟩:=x;have hy:zvc l=some y:=hy;unfold zvc at hy;cases hc:(decide (0<l.length)&&decide (l.length<4294967296)) with
 | false=>rw [hc] at hy;cases hy
 | true =>
 rw [hc] at hy;injection hy with hy;subst hy;simp only [zJB,decide_eq_true_eq] at hc;obtain ⟨hpos,hlen⟩:=hc;obtain ⟨v,rfl,h0⟩:∃v,args= #[v]/\z7 E w (Av A0 μ [Blk.row true (.int .i64) l]) (Us [Blk.row true (.int .i64) l]) μ (.own 0) v:=by
  have hl:=hr.1;have hl:1=args.toList.length:=hl
  match ha:args.toList,hl with
  | [v],_=>exact ⟨v,by rw [<-Array.toArray_toList (xs:=args),ha],hr.2 0 (.own 0) v rfl (by rw [ha];rfl)⟩
 have S:zT A0 μ [Blk.row true (.int .i64) l] w:=S;cases h0 with
 | own0 _ a1 a2 hU hμ =>
  exfalso;rcases S.ok 0 with ⟨_,_,_,_,_,e1,_⟩ | ⟨e,_⟩
  .have e1:μ 0=_:=e1;rw [hμ] at e1;cases e1
  .rw [e] at hpos;cases hpos
 | own _ bk off len cap hU hμ =>
  obtain ⟨hA,hb,rfl,cc,t,e2,h1,h2,hcell⟩:=zIy S hμ;have hsz:l.toArray.size=l.length:=by simp
  have hH:Go.Sort.Holds (Value.int .i64) w bk off l.toArray:=fun j hj=>by
   have hj:j<l.length:=by rw [<-hsz];exact hj
   refine ⟨?_,?_⟩
   .unfold World.cell?;rw [e2];show cc[off+j]? =some (Value.int .i64 l.toArray[j]!);rw [hcell j hj,getElem!_pos l.toArray j (by rw [hsz];exact hj)];rfl
   .unfold World.frozen?;rw [e2];simp
  have fg:∀(W:World) (x:Int),FnGives Tryz.prog 220 #[] #[.int .i64 x] (.bool (decide (x=0))) W:=fun W x=>(zFc W x).mono (by rintro e w' ⟨rfl,rfl⟩;exact ⟨rfl,0,rfl⟩);have eg:∀args w,(callFunc 220 args).run Tryz.prog w= .ok (.enter 220 args) w:=enters_of Tryz.func220 (by kernel_rfl) rfl;have hd:=AnyE.slices_DeleteFunc zIG (Value.int .i64) (fun _=>rfl) (fun x:Int=>decide (x=0)) 220 #[] eg 0 (fun w=>by kernel_rfl) bk off cap l.toArray w (fun W x _=>fg W x) (fun n os dk x _=>fg _ x) hH (by rw [hsz];omega) (by rw [hsz];exact h1);rw [hsz] at hd;rw [show l.toArray.toList=l from rfl] at hd;have hf:(l.filter fun x=> !decide (x=0)).length<=l.length:=zKN _ _;clear eg fg;generalize hm:(l.filter fun x=> !decide (x=0))=m at hd hf ⊢;have hd:Calls Tryz.prog 219 #[.slice (some ⟨bk,off,none⟩) l.length cap,.func (.func 220) #[] #[]] w fun e w'=>e= .returned (.slice (some ⟨bk,off,none⟩) m.length cap)/\∃q,w'=Go.Sort.putRow (Value.int .i64) (Go.Sort.ahead w q) bk off (m++List.replicate (l.length-m.length) 0).toArray:=hd
  go_enter Tryz.func199,Tryz.ntmps199
  go_wp2_with (go_at_call 219;refine hd.mono ?_;rintro e w' ⟨rfl,q,rfl⟩)
  go_ret
  have hheap:∀k,(Go.Sort.putRow (Value.int .i64) (Go.Sort.ahead w q) bk off (m++List.replicate (l.length-m.length) 0).toArray).heap[k]? =if bk=k then some (.cells (Go.Sort.putCells (Value.int .i64) off (m++List.replicate (l.length-m.length) 0).toArray cc) t (0,0)) else w.heap[k]? :=fun k=>by
   unfold Go.Sort.putRow Go.Sort.mapBlock Go.Sort.ahead;dsimp only;rw [Array.getElem?_modify];split
   .rename_i h;subst h;rw [e2];rfl
   .rfl
  have hput:∀(i:Nat) (h:i<m.length),(Go.Sort.putCells (Value.int .i64) off (m++List.replicate (l.length-m.length) 0).toArray cc)[off+i]? =some (.int .i64 m[i]):=fun i h=>by
   unfold Go.Sort.putCells;rw [Array.getElem?_mapIdx,hcell i (by omega),zKD,zb ⟨by omega,by simp;omega⟩,show off+i-off=i by omega,getElem!_pos _ i (by simp;omega)];simp [zLs h]
  have hsize:(Go.Sort.putRow (Value.int .i64) (Go.Sort.ahead w q) bk off (m++List.replicate (l.length-m.length) 0).toArray).heap.size=w.heap.size:=by simp
  refine ⟨[.slice (some ⟨bk,off,none⟩) m.length cap],A0,fun id=>if id=1 then .blk bk off m.length cap else μ id,rfl,?_,RL.cons (.own 1 bk off m.length cap rfl rfl) RL.nil,⟨rfl,rfl,rfl,by rw [hsize];exact zJF _,fun b hb2 hn=>?_,fun b _ h=>?_⟩,fun _ h=>h,fun b h=>by rw [hsize];exact wd.low b h,fun j ws h=>by
   cases j with
   | zero=>cases h
   | succ j=>cases h⟩
  .show zT A0 _ [.free,Blk.row true (.int .i64) m] _;have hmc:m.length<=cap:=zKG hf h1;refine zJw (b:=bk) (off:=off) (cap:=cap) (t:=t) rfl hA (by rw [hheap,zb rfl]) hmc ?_ hput;unfold Go.Sort.putCells;rw [Array.size_mapIdx];exact h2
  .rw [hheap,zc];rintro rfl;exact hn ⟨0,off,l.length,cap,rfl,hμ⟩
  .obtain ⟨o,n,c,e⟩:=lv1 h;have e:Loc.blk bk off m.length cap= .blk b o n c:=e;injection e with e;subst e;exact ⟨0,off,l.length,cap,rfl,hμ⟩
theorem zD9 (a:Option Addr) (k:Nat) (w:World) (h0:0<k) (hk:k<4294967296):Calls Tryz.prog 204 #[.slice a 0 0,.int .i64 (k:Int)] w fun e w'=>∃(G:Nat) (cc:Array Value) (t:TypeId),G<=cc.size/\e= .returned (.slice (some ⟨w.heap.size,0,none⟩) 0 G)/\w'=w.drew.alloc (.cells cc t):=by
 obtain ⟨i0,hi⟩:=zLq.1 (show (Tryz.prog.info? (znx.t 25)).isSome=true by kernel_rfl);have h2:(Tryz.prog.info? (znx.t 25)).map TypeInfo.size=some 1:=by kernel_rfl
 have h3:(Tryz.prog.info? (znx.t 25)).map TypeInfo.bytes=some 8:=by kernel_rfl
 have h4:(Tryz.prog.info? (znx.t 25)).map TypeInfo.zero=some (some (.int .i64 0)):=by kernel_rfl
 rw [hi] at h2 h3 h4;simp only [zKD,Option.some.injEq] at h2 h3 h4;have hd:=Any8.slices_Grow_grow zEy i0 (.int .i64 0) hi h4 (by rw [h2];decide) a 0 0 k [] w (zJF _) (by omega) (by rw [h3];omega) (by omega) (by simp) (fun _=>rfl) (fun b _ j v h=>by cases h);refine hd.mono ?_;rintro e w' ⟨rfl,rfl⟩;refine ⟨_,_,_,?_,rfl,rfl⟩;have hg:=grownCap_ge w (0+k) 0 (znx.t 25);have z1:(Value.int IntKind.i64 0).cells.size=1:=rfl;simp only [Array.size_append,Builtin.zeroCells,Array.size_map,Array.size_range,z1];simp;omega
theorem zCC {G:Nat->Prop}{W0:World}(hG:zqV G W0):Wm Tryz.prog G W0 204 zEk:=by
 intro A0 μ w args x y wd S hr hy;obtain ⟨n,⟨⟩⟩:=x;have hy:zvo n=some y:=hy;unfold zvo at hy;cases hc:(decide (0<=n)&&decide (n<4294967296)) with
 | false=>rw [hc] at hy;cases hy
 | true =>
 rw [hc] at hy;injection hy with hy;subst hy;simp only [zJB,decide_eq_true_eq] at hc;obtain ⟨hn0,hn1⟩:=hc;obtain ⟨k,hk0⟩:=Int.eq_ofNat_of_zero_le hn0;have hk1:k<4294967296:=by
  have h: @Eq Int n (k:Int):=hk0;have h2: @LT.lt Int _ n (4294967296:Int):=hn1;omega
 subst hk0;obtain ⟨a,rfl⟩:∃a,args= #[.slice a 0 0,.int .i64 (k:Int)]:=by
  have hl:=hr.1;have hl:2=args.toList.length:=hl
  match ha:args.toList,hl with
  | [v,v1],_ =>
   have h0:=hr.2 0 .nils v rfl (by rw [ha];rfl);have h1:=hr.2 1 (.v (.int .i64) (k:Int)) v1 rfl (by rw [ha];rfl);have e1:v1= .int .i64 (k:Int):=by
    cases h1 with
    | v _ _ _ h=>cases h with
     | int k z=>rfl
   subst e1;cases h0 with
   | nils a=>exact ⟨a,by rw [<-Array.toArray_toList (xs:=args),ha]⟩
 have S:zT A0 μ ([]:List (Blk E)) w:=S;by_cases hk:k=0
 .subst hk;refine (Any8.slices_Grow_room zEy a 0 0 0 w (zJF _) (by omega) (by omega) (by omega)).mono ?_;rintro e w' ⟨rfl,rfl⟩;refine ⟨[.slice a 0 0],A0,fun _=>.none a,rfl,zJp rfl,RL.cons (.own0 0 a a rfl rfl) RL.nil,⟨rfl,rfl,rfl,zJF _,fun b _ _=>rfl,fun b _ h=>?_⟩,fun _ h=>h,wd.low,fun j ws h=>by cases h⟩;obtain ⟨id,off,len,cap,_,hm⟩:=h;cases hm
 .refine (zD9 a k w (by omega) hk1).mono ?_;rintro e w' ⟨N,cc,t,hN,rfl,rfl⟩;have hat:(w.drew.alloc (.cells cc t)).heap[w.heap.size]? =some (.cells cc t (0,0)):=by
   show (w.heap.push _)[w.heap.size]? =_;simp
  have hold:∀b,b<w.heap.size->(w.drew.alloc (.cells cc t)).heap[b]? =w.heap[b]? :=fun b hb=>by
   show (w.heap.push _)[b]? =_;rw [zK9,zi]
  have hsz:(w.drew.alloc (.cells cc t)).heap.size=w.heap.size+1:=by simp
  refine ⟨[.slice (some ⟨w.heap.size,0,none⟩) 0 N],A0,fun _=>.blk w.heap.size 0 0 N,rfl,zJq rfl (fun h=>by have:=wd.low _ h;omega) hat hN,RL.cons (.own 0 w.heap.size 0 0 N rfl rfl) RL.nil,⟨rfl,rfl,rfl,by rw [hsz];omega,fun b hb _=>hold b hb,fun b hb h=>?_⟩,fun _ h=>h,fun b h=>by have:=wd.low b h;rw [hsz];omega,fun j ws h=>by cases h⟩;obtain ⟨id,off,len,cap,_,hm⟩:=h;injection hm with hm;omega
theorem zyA (n:Int) (s:za) (ys:List (List Int)) (hs:s.Ws.length<1000000):∀(f i:Nat) (l pre:List (List Int)),i+f=s.Ws.length->zxI s f (i:Int)=some l->(∃post,ys=pre++l++post) ->
  yK (VM ys) (f+1) (n,(pre.length:Int),(s.Ws.length:Int),(i:Int),s,())=some (.brk (n,((pre++l).length:Int),s,()))
 | 0,i,l,pre,hi,h,e=>by
  injection h with h;subst h;rw [yK,ziD,show decide ((i:Int)<(s.Ws.length:Int))=false by rw [decide_eq_false_iff_not];omega];simp
 | f+1,i,l,pre,hi,h,⟨post,e⟩=>by
  simp only [zxI,zJL] at h;obtain ⟨a,h1,l',h2,h3⟩:=h;injection h3 with h3;subst h3;have ei:w64 ((i:Int)+1)=((i+1:Nat):Int):=by rw [zvx (by omega) (by omega)];omega
  have hn:Y5 ys (pre.length:Int) a.1=some ():=by rw [e,zJJ];exact ziI pre (l'++post) _
  rw [yK,ziD,show decide ((i:Int)<(s.Ws.length:Int))=true by rw [decide_eq_true_eq];omega,ei,show ((i+1:Nat):Int)=(i:Int)+1 by omega,h1];simp only [cond_true,zJA,hn];have:=zyA n s ys hs f (i+1) l' (pre++[a.1]) (by omega) (by rw [show ((i+1:Nat):Int)=(i:Int)+1 by omega];exact h2) ⟨post,by rw [e];simp⟩;simpa using this
theorem zxW (n:Int) (s:za) (ys:List (List Int)) (hs:s.Ms.length<1000000):∀(f i:Nat) (l pre:List (List Int)),i+f=s.Ms.length->zw1 s f (i:Int)=some l->(∃post,ys=pre++l++post) ->
  yK (zbA ys) (f+1) (n,(pre.length:Int),(s.Ms.length:Int),(i:Int),s,())=some (.brk (n,((pre++l).length:Int),()))
 | 0,i,l,pre,hi,h,e=>by
  injection h with h;subst h;rw [yK,zhT,show decide ((i:Int)<(s.Ms.length:Int))=false by rw [decide_eq_false_iff_not];omega];simp
 | f+1,i,l,pre,hi,h,⟨post,e⟩=>by
  simp only [zw1,zJL] at h;obtain ⟨a,h1,l',h2,h3⟩:=h;injection h3 with h3;subst h3;have ei:w64 ((i:Int)+1)=((i+1:Nat):Int):=by rw [zvx (by omega) (by omega)];omega
  have hn:Y5 ys (pre.length:Int) a.1=some ():=by rw [e,zJJ];exact ziI pre (l'++post) _
  rw [yK,zhT,show decide ((i:Int)<(s.Ms.length:Int))=true by rw [decide_eq_true_eq];omega,ei,show ((i+1:Nat):Int)=(i:Int)+1 by omega,h1];simp only [cond_true,zJA,hn];have:=zxW n s ys hs f (i+1) l' (pre++[a.1]) (by omega) (by rw [show ((i+1:Nat):Int)=(i:Int)+1 by omega];exact h2) ⟨post,by rw [e];simp⟩;simpa using this
theorem ztI (n:Int) (x:HL E.T zcr.holes) (ys:List (List Int)) (h:zbR.F x=some ys):zoV (YN ys) Tryz.f150 zcr n x=some (ys.length:Int):=by
 obtain ⟨a1,a2,a3,a4,a5,a6,a7,a8,a9,a10,a11,a12,a13,a14,a15,a16,a17,a18,a19,a20,a21,a22,a23,a24,a25,a26,a27,a28,a29,a30,a31,a32,a33,a34,⟨⟩⟩:=x;refine Eq.trans (zwl n ys a1 a2 a3 a4 a5 a6 a7 a8 a9 a10 a11 a12 a13 a14 a15 a16 a17 a18 a19 a20 a21 a22 a23 a24 a25 a26 a27 a28 a29 a30 a31 a32 a33 a34) ?_;have h:zvC (za.mk (zd.mk a1 a2 a3 a4 a5 a6 a7 a8 (zq.mk a9 a10) a11 a12 a13 a14) (zq.mk a15 a16) a17 a18 (zm.mk a19 a20) a21 a22 a23 a24 a25 a26 (zr.mk a27 a28 a29 a30) a31 a32 (zE.mk a33 a34))=some ys:=h;show ((zb8 (za.mk (zd.mk a1 a2 a3 a4 a5 a6 a7 a8 (zq.mk a9 a10) a11 a12 a13 a14) (zq.mk a15 a16) a17 a18 (zm.mk a19 a20) a21 a22 a23 a24 a25 a26 (zr.mk a27 a28 a29 a30) a31 a32 (zE.mk a33 a34))).bind fun y1=>(Y5 ys 0 y1.1).bind fun _ =>
  (zX (VM ys) (n,0+1,((za.mk (zd.mk a1 a2 a3 a4 a5 a6 a7 a8 (zq.mk a9 a10) a11 a12 a13 a14) (zq.mk a15 a16) a17 a18 (zm.mk a19 a20) a21 a22 a23 a24 a25 a26 (zr.mk a27 a28 a29 a30) a31 a32 (zE.mk a33 a34)).Ws.length:Int),0,za.mk (zd.mk a1 a2 a3 a4 a5 a6 a7 a8 (zq.mk a9 a10) a11 a12 a13 a14) (zq.mk a15 a16) a17 a18 (zm.mk a19 a20) a21 a22 a23 a24 a25 a26 (zr.mk a27 a28 a29 a30) a31 a32 (zE.mk a33 a34),())).bind _)=_
 generalize za.mk (zd.mk a1 a2 a3 a4 a5 a6 a7 a8 (zq.mk a9 a10) a11 a12 a13 a14) (zq.mk a15 a16) a17 a18 (zm.mk a19 a20) a21 a22 a23 a24 a25 a26 (zr.mk a27 a28 a29 a30) a31 a32 (zE.mk a33 a34)=s at h ⊢;unfold zvC at h;cases hc:(decide (s.Ws.length<1000000)&&decide (s.Ms.length<1000000)) with
 | false=>rw [hc] at h;cases h
 | true =>
 rw [hc,cond_true] at h;simp only [zJB,decide_eq_true_eq] at hc;simp only [zJL] at h;obtain ⟨a,e1,b,e2,c,e3,e4⟩:=h;injection e4 with e4;have k2:=zij _ _ vv _ (zyA n s ys hc.1 s.Ws.length 0 b [a.1] (by omega) e2 ⟨c,by rw [<-e4];simp⟩) (by unfold vv;omega);have k7:=zij _ _ vv _ (zxW n s ys hc.2 s.Ms.length 0 c (a.1::b) (by omega) e3 ⟨[],by rw [<-e4];simp⟩) (by unfold vv;omega);have k2:yK (VM ys) vv (n,0+1,(s.Ws.length:Int),0,s,())=some (.brk (n,(((a.1::b).length:Nat):Int),s,())):=k2;have k7:yK (zbA ys) vv (n,(((a.1::b).length:Nat):Int),(s.Ms.length:Int),0,s,())=some (.brk (n,(((a.1::b)++c).length:Int),())):=k7;have hn:Y5 ys 0 a.1=some ():=by rw [<-e4];exact ziI [] (b++c) _
 rw [e1,zJA,hn,zJA,YI,k2,zJA];dsimp only;rw [YI,k7,zJA];dsimp only;rw [<-e4];rfl
end Go.Pe.G
namespace Go.Pe.G
open Go.Pe
theorem k2 {G:Nat->Prop}{W0:World}{f:Nat}{s:zC E}{ss r} (hs:Wm Go.Proofs.Tryz.prog G W0 f s) (h:Oks Go.Proofs.Tryz.prog G W0 ((f,ss)::r)) (hc:YJ Go.Proofs.Tryz.prog f=true:=by kernel_rfl):Oks Go.Proofs.Tryz.prog G W0 ((f,s::ss)::r):= .cons _ _ _ _ hc hs h
theorem k1 {G:Nat->Prop}{W0:World}{f:Nat}{s:zC E}{r} (hs:Wm Go.Proofs.Tryz.prog G W0 f s) (h:Oks Go.Proofs.Tryz.prog G W0 r) (hc:YJ Go.Proofs.Tryz.prog f=true:=by kernel_rfl):Oks Go.Proofs.Tryz.prog G W0 ((f,[s])::r):= .cons _ _ _ _ hc hs (.skip _ _ h)
abbrev Sd (G:Nat->Prop) (W0:World):=Wm (E:=E) Go.Proofs.Tryz.prog G W0
theorem gs {G:Nat->Prop}{W0:World}{l:List (Nat×List (zC E))}{loops mv kept pk its} {f:FuncId}{fn:Func}{inn out:xS}{gi go:List Grp}{hi:Z0 E gi=inn.holes} {ho:Z0 E go=out.holes} (h:Oks Go.Proofs.Tryz.prog G W0 l) (h2:Its Go.Proofs.Tryz.prog G W0 its) (hf:Go.Proofs.Tryz.prog.funcs[f]? =some fn:=by kernel_rfl) (hb:fn.body.isSome=true:=by kernel_rfl)
  (hk:(cf l loops mv kept pk its).kept=zkA inn.blks 0:=by kernel_rfl) (hn:Nat.ble inn.vals.length fn.ntmps=true:=by kernel_rfl):Wm Go.Proofs.Tryz.prog G W0 f (sp (cf l loops mv kept pk its) fn inn out gi go hi ho):=zyq (C:=cf l loops mv kept pk its) zsa (zuL h) rfl (zAF h2) zwe hf hb hk hn
variable {G:Nat->Prop}{W0:World}(hG:zqV G W0)
include hG
theorem zlo:Sd G W0 48 zbL:=gs .nil .nil
theorem UD:Sd G W0 11 za9:=gs (k1 (zlo hG) .nil) .nil
theorem Yt:Sd G W0 10 Wq:=gs .nil .nil
theorem XO:Sd G W0 46 Um:=gs .nil .nil
theorem znH:Sd G W0 93 zd8:=gs .nil .nil
theorem XS:Sd G W0 109 wL:=gs (k1 (znH hG) .nil) .nil
theorem Y8:Sd G W0 72 wp:=gs (k1 (XS hG) .nil) .nil
theorem zpb:Sd G W0 92 zgQ:=gs (k1 (Y8 hG) .nil) .nil
theorem XQ:Sd G W0 147 wN:=gs (k1 (zpb hG) .nil) .nil
theorem Xa:Sd G W0 94 wn:=gs (k1 (XQ hG) .nil) .nil
theorem zcd:Sd G W0 53 zcc:=gs (k1 (Xa hG) .nil) .nil
theorem zbm:Sd G W0 71 za1:=gs .nil .nil
theorem zmD:Sd G W0 70 zcZ:=gs (k1 (zbm hG) .nil) .nil
theorem zpQ:Sd G W0 73 zgw:=gs (k1 (zbm hG) .nil) .nil
theorem Ww:Sd G W0 109 vb:=gs (k1 (zpQ hG) .nil) .nil
theorem XB:Sd G W0 72 wF:=gs (k1 (Ww hG) .nil) .nil
theorem zpt:Sd G W0 159 zhl:=gs .nil .nil
theorem zrd:Sd G W0 112 zlT:=gs (k1 (zpt hG) .nil) .nil
theorem zqU:Sd G W0 111 zjA:=gs (k1 (zrd hG) .nil) .nil
theorem YU:Sd G W0 158 xX:=gs (k1 (zqU hG) .nil) .nil
theorem Yu:Sd G W0 110 xN:=gs (k1 (YU hG) .nil) .nil
theorem zsH:Sd G W0 74 znQ:=gs (k1 (Yu hG) .nil) .nil
theorem zid:Sd G W0 45 zfs:=gs .nil .nil
theorem zpF:Sd G W0 114 zhg:=gs (k1 (zid hG) .nil) .nil
theorem Z8:Sd G W0 160 xH:=gs (k1 (zpF hG) .nil) .nil
theorem ZD:Sd G W0 113 xx:=gs (k1 (Z8 hG) .nil) .nil
theorem zsg:Sd G W0 75 zlv:=gs (k1 (ZD hG) .nil) .nil
theorem zqY:Sd G W0 26 zl3:=gs (k1 (Yt hG) (k1 (XO hG) (k1 (zcd hG) (k1 (zmD hG) (k1 (zbm hG) (k1 (XB hG) (k1 (zsH hG) (k1 (zsg hG) .nil)))))))) .nil
theorem znw:Sd G W0 69 znm:=gs .nil .nil
theorem Xn:Sd G W0 24 zam:=gs (k1 (znw hG) .nil) .nil
theorem zcv:Sd G W0 76 zgN:=gs (k1 (Xn hG) .nil) .nil
theorem zh6:Sd G W0 27 zfI:=gs (k1 (zcv hG) .nil) .nil
theorem zrv:Sd G W0 28 zk0:=gs .nil .nil
theorem yV:Sd G W0 30 xk:=gs .nil .nil
theorem Wz:Sd G W0 29 vn:=gs (k1 (yV hG) .nil) .nil
theorem zqN:Sd G W0 31 ziS:=gs .nil .nil
theorem zbj:Sd G W0 32 za2:=gs .nil .nil
theorem YH:Sd G W0 33 Xz:=gs .nil .nil
theorem zsQ:Sd G W0 34 znO:=gs .nil .nil
theorem zf9:Sd G W0 35 Vk:=gs .nil .nil
theorem ztP:Sd G W0 78 zpy:=gs .nil .nil
theorem zu1:Xc Go.Proofs.Tryz.prog G W0 115 zbW:=ztV G W0 hG
theorem zmb:Sd G W0 36 zjZ:=gs (k1 (ztP hG) .nil) (.cons _ _ _ (zu1 hG) (.nil))
theorem ztM:Sd G W0 161 zpn:=gs .nil .nil
theorem ztJ:Sd G W0 162 zpp:=gs .nil .nil
theorem ztW:Sd G W0 163 zpw:=gs .nil .nil
theorem ztG:Sd G W0 164 zqi:=gs .nil .nil
theorem zcn:Sd G W0 165 Yy:=gs .nil .nil
theorem YO:Sd G W0 117 zau:=gs (k1 (ztM hG) (k1 (ztJ hG) (k1 (ztW hG) (k1 (ztG hG) (k1 (zcn hG) .nil))))) .nil
theorem zgd:Sd G W0 79 zdI:=gs (k1 (YO hG) .nil) .nil
theorem ziE:Sd G W0 80 zfr:=gs .nil .nil
theorem zs8:Sd G W0 37 znC:=gs (k1 (zgd hG) (k1 (ziE hG) .nil)) .nil
theorem ZL:Sd G W0 38 Y6:=gs .nil .nil
theorem YG:Sd G W0 40 XA:=gs (k1 (ZL hG) .nil) .nil
theorem ZW:Sd G W0 39 Xk:=gs (k1 (YG hG) .nil) .nil
theorem zf6:Xc Go.Proofs.Tryz.prog G W0 77 vP:=zfu G W0 hG
theorem zjN:Sd G W0 6 zht:=gs (k1 (UD hG) (k1 (zqY hG) (k1 (zh6 hG) (k1 (zrv hG) (k1 (Wz hG) (k1 (yV hG) (k1 (zqN hG) (k1 (zbj hG) (k1 (YH hG) (k1 (zsQ hG) (k1 (zf9 hG) (k1 (zmb hG) (k1 (zs8 hG) (k1 (ZL hG) (k1 (ZW hG) (k1 (YG hG) .nil)))))))))))))))) (.cons _ _ _ (zf6 hG) (.nil))
theorem zm5:Sd G W0 47 zmX:=gs (k1 (XO hG) .nil) .nil
theorem UC:Sd G W0 9 zba:=gs (k1 (XO hG) (k1 (zm5 hG) .nil)) .nil
theorem zk7:Sd G W0 12 zch:=gs .nil .nil
theorem zmB:Sd G W0 81 zc2:=gs .nil .nil
theorem zqS:Sd G W0 42 ziO:=gs (k1 (zmB hG) .nil) .nil
theorem zoF:Sd G W0 41 zfa:=gs (k1 (zqS hG) .nil) .nil
theorem zbB:Sd G W0 55 zen:=gs (k1 (znw hG) .nil) .nil
theorem znj:Sd G W0 146 zmV:=gs (k1 (zbB hG) .nil) .nil
theorem UA:Sd G W0 87 za4:=gs (k1 (Xn hG) (k1 (znj hG) .nil)) .nil
theorem Xi:Sd G W0 217 WT:=gs .nil .nil
theorem zb3:Sd G W0 218 zce:=gs (k1 (YO hG) .nil) .nil
theorem zhe:Sd G W0 205 V7:=gs (k1 (Xi hG) (k1 (zb3 hG) .nil)) .nil
theorem zi0:Sd G W0 206 zaL:=gs (k1 (zgd hG) (k1 (Xi hG) .nil)) .nil
theorem zga:Sd G W0 207 Vj:=gs (k1 (ziE hG) (k1 (YO hG) (k1 (Xi hG) .nil))) .nil
theorem zeE:Sd G W0 208 Wn:=gs (k1 (Xi hG) (k1 (zb3 hG) .nil)) .nil
theorem Xh:Sd G W0 166 WP:=gs (k1 (zhe hG) (k1 (zi0 hG) (k1 (zga hG) (k1 (zeE hG) .nil)))) .nil
theorem zjf:Sd G W0 118 zat:=gs (k1 (Xh hG) .nil) .nil
theorem za3:Sd G W0 125 Wl:=gs .nil .nil
theorem zpi:Sd G W0 209 zgt:=gs .nil .nil
theorem zp0:Sd G W0 209 zha:=gs .nil .nil
theorem zpu:Sd G W0 209 zgq:=gs .nil .nil
theorem zpH:Sd G W0 209 zgl:=gs .nil .nil
theorem vw:Sd G W0 221 Zu:=gs (k1 (YO hG) .nil) .nil
theorem xF:Sd G W0 223 xJ:=gs .nil .nil
theorem zcU:Sd G W0 229 YM:=gs (k1 (vw hG) (k1 (xF hG) .nil)) .nil
theorem ul:Sd G W0 222 uh:=gs .nil .nil
theorem Xy:Sd G W0 225 Yg:=gs .nil .nil
theorem wh:Sd G W0 254 x8:=gs .nil .nil
theorem zf2:Sd G W0 230 Vl:=gs (k1 (vw hG) (k1 (ul hG) (k1 (Xy hG) (k1 (wh hG) .nil)))) .nil
theorem Zk:Sd G W0 226 ut:=gs (k1 (Xy hG) .nil) .nil
theorem YE:Sd G W0 255 XJ:=gs (k1 (YO hG) .nil) .nil
theorem zkc:Sd G W0 231 zbi:=gs (k1 (Zk hG) (k1 (YE hG) .nil)) .nil
theorem zdV:Sd G W0 232 XK:=gs (k1 (xF hG) (k1 (wh hG) (k1 (YE hG) .nil))) .nil
theorem zio:Sd G W0 233 UO:=gs (k1 (xF hG) (k1 (YE hG) .nil)) .nil
theorem zbk:Sd G W0 224 zaW:=gs .nil .nil
theorem zeB:Sd G W0 234 X3:=gs (k1 (vw hG) (k1 (ul hG) (k1 (zbk hG) .nil))) .nil
theorem zg7:Sd G W0 235 Uh:=gs (k1 (vw hG) (k1 (Zk hG) (k1 (wh hG) .nil))) .nil
theorem zaZ:Sd G W0 256 X5:=gs (k1 (YO hG) (k1 (ul hG) .nil)) .nil
theorem zfZ:Sd G W0 236 Vw:=gs (k1 (zaZ hG) .nil) .nil
theorem zf4:Sd G W0 237 Vq:=gs (k1 (xF hG) (k1 (wh hG) (k1 (YE hG) .nil))) .nil
theorem zgx:Sd G W0 238 V3:=gs (k1 (xF hG) (k1 (wh hG) (k1 (YE hG) .nil))) .nil
theorem zgA:Sd G W0 239 V4:=gs (k1 (vw hG) (k1 (ul hG) .nil)) .nil
theorem zgk:Sd G W0 240 V9:=gs (k1 (vw hG) (k1 (xF hG) (k1 (zbk hG) .nil))) .nil
theorem zf8:Sd G W0 241 Vn:=gs (k1 (vw hG) (k1 (Zk hG) .nil)) .nil
theorem zeA:Sd G W0 242 X9:=gs (k1 (wh hG) (k1 (zaZ hG) .nil)) .nil
theorem zil:Sd G W0 167 zfd:=gs (k2 (zpi hG) (k2 (zp0 hG) (k2 (zpu hG) (k2 (zpH hG) (.skip _ _ (k1 (zcU hG) (k1 (zf2 hG) (k1 (zkc hG) (k1 (zdV hG) (k1 (zio hG) (k1 (zeB hG) (k1 (zg7 hG) (k1 (zfZ hG) (k1 (zf4 hG) (k1 (zgx hG) (k1 (zgA hG) (k1 (zgk hG) (k1 (zf8 hG) (k1 (zeA hG) .nil))))))))))))))))))) .nil
theorem zeh:Sd G W0 169 zbw:=gs (k1 (zbj hG) (k1 (YH hG) .nil)) .nil
theorem W9:Sd G W0 210 VD:=gs .nil .nil
theorem zcO:Sd G W0 171 Ux:=gs (k1 (ZW hG) (k1 (W9 hG) .nil)) .nil
theorem zjs:Sd G W0 168 zax:=gs (k1 (ZL hG) (k1 (zeh hG) (k1 (zcO hG) .nil))) .nil
theorem zkm:Sd G W0 119 zbn:=gs (k1 (za3 hG) (k1 (zil hG) (k1 (zjs hG) .nil))) .nil
theorem ziC:Sd G W0 120 UT:=gs (k1 (zeh hG) .nil) .nil
theorem vW:Sd G W0 170 wX:=gs .nil .nil
theorem ziR:Sd G W0 121 zaP:=gs (k1 (YG hG) (k1 (vW hG) (k1 (zcO hG) .nil))) .nil
theorem zep:Sd G W0 124 zbv:=gs .nil .nil
theorem zcT:Sd G W0 211 UB:=gs .nil .nil
theorem zdX:Sd G W0 172 zfm:=gs (k1 (zcT hG) .nil) .nil
theorem zbM:Sd G W0 173 zbZ:=gs .nil .nil
theorem zjx:Sd G W0 122 zaG:=gs (k1 (zep hG) (k1 (zdX hG) (k1 (zbM hG) .nil))) .nil
theorem zeD:Sd G W0 174 Wo:=gs .nil .nil
theorem zcj:Sd G W0 86 zb6:=gs (k1 (Xn hG) (k1 (zbB hG) .nil)) .nil
theorem Zf:Sd G W0 212 ux:=gs (k1 (ZW hG) (k1 (YG hG) (k1 (W9 hG) .nil))) .nil
theorem zgv:Sd G W0 175 VZ:=gs (k1 (zbj hG) (k1 (YH hG) (k1 (zcj hG) (k1 (Zf hG) .nil)))) .nil
theorem zgR:Sd G W0 176 Ui:=gs .nil .nil
theorem zhm:Sd G W0 177 V0:=gs (k1 (zil hG) (k1 (Zf hG) .nil)) .nil
theorem zhi:Sd G W0 178 Uc:=gs (k1 (Zf hG) .nil) .nil
theorem zgU:Sd G W0 179 V6:=gs (k1 (Xh hG) (k1 (Zf hG) .nil)) .nil
theorem zhd:Sd G W0 180 VY:=gs (k1 (ZL hG) (k1 (ZW hG) (k1 (vW hG) (k1 (W9 hG) .nil)))) .nil
theorem zeF:Sd G W0 181 Wp:=gs (k1 (Xh hG) .nil) .nil
theorem zjF:Sd G W0 123 zhy:=gs (k1 (zeD hG) (k1 (zgv hG) (k1 (zgR hG) (k1 (zhm hG) (k1 (zhi hG) (k1 (zgU hG) (k1 (zhd hG) (k1 (zeF hG) .nil)))))))) .nil
theorem Y0:Sd G W0 182 ZV:=gs .nil .nil
theorem zox:Sd G W0 184 zfP:=gs .nil .nil
theorem VT:Sd G W0 183 vV:=gs (k1 (zox hG) .nil) .nil
theorem zgf:Sd G W0 126 zdF:=gs (k1 (Y0 hG) (k1 (VT hG) .nil)) .nil
theorem zi4:Sd G W0 82 zaB:=gs (k1 (UA hG) (k1 (zjf hG) (k1 (zkm hG) (k1 (ziC hG) (k1 (ziR hG) (k1 (zjx hG) (k1 (zjF hG) (k1 (zep hG) (k1 (za3 hG) (k1 (zgf hG) .nil)))))))))) .nil
theorem Vc:Sd G W0 83 vq:=gs .nil .nil
theorem zqH:Sd G W0 43 zjr:=gs (k1 (zi4 hG) (k1 (Vc hG) .nil)) .nil
theorem ub:Sd G W0 185 uG:=gs .nil .nil
theorem Zi:Sd G W0 189 uv:=gs .nil .nil
theorem XE:Sd G W0 186 Ya:=gs (k1 (yV hG) (k1 (Zi hG) .nil)) .nil
theorem zgP:Sd G W0 127 Un:=gs (k1 (ub hG) (k1 (XE hG) .nil)) .nil
theorem zgF:Sd G W0 128 Ue:=gs (k1 (zbM hG) .nil) .nil
theorem zjt:Sd G W0 129 zaE:=gs (k1 (yV hG) .nil) .nil
theorem Uq:Sd G W0 187 YB:=gs (k1 (zjF hG) .nil) .nil
theorem zgB:Sd G W0 130 V8:=gs (k1 (Uq hG) .nil) .nil
theorem zbO:Sd G W0 188 VQ:=gs (k1 (zdX hG) (k1 (ub hG) .nil)) .nil
theorem zhX:Sd G W0 131 U6:=gs (k1 (ub hG) (k1 (XE hG) (k1 (zbO hG) .nil))) .nil
theorem ziP:Sd G W0 132 zaC:=gs (k1 (ub hG) (k1 (zbO hG) (k1 (Zi hG) .nil))) .nil
theorem zhf:Sd G W0 133 Ul:=gs (k1 (znj hG) .nil) .nil
theorem zeG:Sd G W0 134 Wc:=gs (k1 (yV hG) .nil) .nil
theorem zud:Sd G W0 190 zpr:=gs (k1 (yV hG) (k1 (vW hG) (k1 (zcT hG) .nil))) .nil
theorem zgr:Sd G W0 135 Ud:=gs (k1 (ub hG) (k1 (Zi hG) (k1 (zud hG) .nil))) .nil
theorem zeY:Sd G W0 91 WH:=gs .nil .nil
theorem zig:Sd G W0 51 zeV:=gs (k1 (zcd hG) (k1 (zeY hG) .nil)) .nil
theorem ziA:Sd G W0 88 ze7:=gs (k1 (zcj hG) (k1 (UA hG) .nil)) .nil
theorem znX:Sd G W0 214 zd6:=gs .nil .nil
theorem Vh:Sd G W0 183 vz:=gs (k1 (znX hG) .nil) .nil
theorem zac:Sd G W0 216 YX:=gs (k1 (Y0 hG) .nil) .nil
theorem zic:Sd G W0 213 zfE:=gs (k1 (zac hG) .nil) .nil
theorem zqa:Sd G W0 191 zgm:=gs (k1 (Vh hG) (k1 (zic hG) .nil)) .nil
theorem zgs:Sd G W0 136 Uj:=gs (k1 (zig hG) (k1 (ziA hG) (k1 (ub hG) (k1 (XE hG) (k1 (Zi hG) (k1 (zqa hG) .nil)))))) .nil
theorem zoH:Sd G W0 215 zfX:=gs .nil .nil
theorem VR:Sd G W0 183 vR:=gs (k1 (zoH hG) .nil) .nil
theorem zqR:Sd G W0 192 zi6:=gs (k1 (Y0 hG) (k1 (VR hG) .nil)) .nil
theorem zp8:Sd G W0 193 zg1:=gs (k1 (zic hG) (k1 (zac hG) .nil)) .nil
theorem zao:Sd G W0 194 Xt:=gs (k1 (ZW hG) (k1 (W9 hG) .nil)) .nil
theorem zh8:Sd G W0 137 zaf:=gs (k1 (ZL hG) (k1 (zqR hG) (k1 (zp8 hG) (k1 (zao hG) .nil)))) .nil
theorem zi5:Sd G W0 138 zaq:=gs (k1 (Xh hG) .nil) .nil
theorem zgZ:Sd G W0 139 Up:=gs (k1 (YG hG) (k1 (vW hG) (k1 (zao hG) .nil))) .nil
theorem zh1:Sd G W0 140 zae:=gs (k1 (Xh hG) .nil) .nil
theorem zgH:Sd G W0 141 Uk:=gs .nil .nil
theorem zdx:Sd G W0 195 zaS:=gs .nil .nil
theorem ziH:Sd G W0 142 UK:=gs (k1 (zdX hG) (k1 (zbM hG) (k1 (zdx hG) .nil))) .nil
theorem zi3:Sd G W0 143 zaH:=gs (k1 (Uq hG) (k1 (zdx hG) .nil)) .nil
theorem zft:Sd G W0 144 WW:=gs (k1 (UA hG) (k1 (zgf hG) .nil)) .nil
theorem zfU:Sd G W0 145 WQ:=gs .nil .nil
theorem zim:Sd G W0 84 U4:=gs (k1 (zgP hG) (k1 (zgF hG) (k1 (zjt hG) (k1 (zgB hG) (k1 (zhX hG) (k1 (ziP hG) (k1 (zhf hG) (k1 (zeG hG) (k1 (zgr hG) (k1 (zgs hG) (k1 (zh8 hG) (k1 (zi5 hG) (k1 (zgZ hG) (k1 (zh1 hG) (k1 (zgH hG) (k1 (ziH hG) (k1 (zi3 hG) (k1 (zft hG) (k1 (zfU hG) .nil))))))))))))))))))) .nil
theorem Wx:Sd G W0 85 vc:=gs .nil .nil
theorem zql:Sd G W0 44 zgy:=gs (k1 (zim hG) (k1 (Wx hG) .nil)) .nil
theorem zgg:Sd G W0 8 zdC:=gs (k1 (zoF hG) (k1 (zqH hG) (k1 (zql hG) (k1 (zid hG) .nil)))) .nil
theorem zsl:Sd G W0 13 zlm:=gs (k1 (zgg hG) .nil) .nil
theorem zpP:Sd G W0 49 zhk:=gs (k1 (zcj hG) (k1 (UA hG) (k1 (ziA hG) .nil))) .nil
theorem zf0:Sd G W0 90 Vx:=gs .nil .nil
theorem uO:Sd G W0 89 yW:=gs (k1 (zf0 hG) .nil) .nil
theorem zsT:Sd G W0 50 zn5:=gs (k1 (uO hG) .nil) .nil
theorem zqE:Sd G W0 52 ziV:=gs .nil .nil
theorem zlg:Sd G W0 14 zkd:=gs (k1 (zpP hG) (k1 (zsT hG) (k1 (zig hG) (k1 (zqE hG) .nil)))) .nil
theorem zbS:Sd G W0 57 zb1:=gs .nil .nil
theorem ztE:Sd G W0 58 zpx:=gs (k1 (UD hG) (k1 (zcv hG) .nil)) .nil
theorem zuI:Sd G W0 97 zqc:=gs .nil .nil
theorem zdm:Sd G W0 155 Xe:=gs (k1 (zCC hG) .nil) .nil
theorem zvq:Sd G W0 98 zqW:=gs (k1 (zqo hG) (k1 (zdm hG) .nil)) .nil
theorem zq3:Sd G W0 196 zlt:=gs (k1 (Xi hG) (k1 (zb3 hG) .nil)) .nil
theorem zd3:Sd G W0 197 zfF:=gs (k1 (zqo hG) .nil) .nil
theorem zrT:Sd G W0 151 zlk:=gs (k1 (ZL hG) (k1 (ZW hG) (k1 (zq3 hG) (k1 (zd3 hG) .nil)))) .nil
theorem zqI:Sd G W0 198 zji:=gs (k1 (YH hG) (k1 (YO hG) .nil)) .nil
theorem zfc:Sd G W0 149 zh0:=gs .nil .nil
theorem zie:Sd G W0 200 zeU:=gs (k1 (zfc hG) .nil) .nil
theorem zqG:Sd G W0 201 zjl:=gs (k1 (vw hG) (k1 (ul hG) (k1 (xF hG) (k1 (zbk hG) (k1 (Xy hG) (k1 (Zk hG) .nil)))))) .nil
theorem zqF:Sd G W0 152 zjq:=gs (k1 (yV hG) (k1 (YH hG) (k1 (zd3 hG) (k1 (zqI hG) (k1 (ztq hG) (k1 (zie hG) (k1 (zqG hG) .nil))))))) .nil
theorem zhS:Sd G W0 148 zfy:=gs .nil .nil
theorem zpD:Sd G W0 153 zgG:=gs (k1 (yV hG) (k1 (zhS hG) (k1 (zd3 hG) (k1 (ztq hG) (k1 (zie hG) .nil))))) .nil
theorem zvY:Xc Go.Proofs.Tryz.prog G W0 150 zbR:=by
 obtain ⟨c,hc⟩:=zLq.1 zHE;exact zpe (Cg:=YN []) rfl zsa (fun f s hs=>Oks.at (k1 (zrT hG) (k1 (zqF hG) (k1 (zpD hG) .nil))) f s hs) rfl zwe (fun g it h=>by cases h) zHA zJd hc zbR (zKd (by kernel_rfl)) rfl ztI
theorem zcV:Sd G W0 59 zdg:=gs (k1 (zuI hG) (k1 (zvq hG) .nil)) (.cons _ _ _ (zvY hG) (.nil))
theorem zjO:Sd G W0 17 zhG:=gs (k1 (zbS hG) (k1 (ztE hG) (k1 (zcV hG) .nil))) .nil
theorem zeq:Sd G W0 95 zbH:=gs (k1 (zhS hG) .nil) .nil
theorem ztc:Sd G W0 99 znT:=gs (k1 (zfc hG) .nil) .nil
theorem zta:Sd G W0 60 zoo:=gs (k1 (zeq hG) (k1 (ztc hG) .nil)) .nil
theorem zge:Sd G W0 18 zdM:=gs (k1 (zcV hG) (k1 (zta hG) .nil)) .nil
theorem zsW:Sd G W0 96 znP:=gs (k1 (zfc hG) .nil) .nil
theorem zaN:Sd G W0 56 U3:=gs (k1 (Xn hG) (k1 (zcv hG) (k1 (zeq hG) (k1 (zsW hG) .nil)))) .nil
theorem znR:Sd G W0 100 zd4:=gs (k1 (Xn hG) .nil) .nil
theorem zqm:Sd G W0 102 zgW:=gs .nil .nil
theorem zcW:Sd G W0 101 YS:=gs (k1 (zmb hG) (k1 (XO hG) (k1 (zbB hG) (k1 (zqm hG) .nil)))) .nil
theorem zbT:Sd G W0 61 zb0:=gs (k1 (znR hG) (k1 (zcW hG) .nil)) .nil
theorem zjM:Sd G W0 62 zhp:=gs (k1 (zh6 hG) (k1 (zbT hG) .nil)) .nil
theorem zjK:Sd G W0 19 zho:=gs (k1 (Yt hG) (k1 (zaN hG) (k1 (zbS hG) (k1 (zbT hG) (k1 (zjM hG) .nil))))) .nil
theorem zrO:Sd G W0 63 zlb:=gs (k1 (Yt hG) (k1 (XO hG) .nil)) .nil
theorem zgc:Sd G W0 20 zdD:=gs (k1 (UC hG) (k1 (Yt hG) (k1 (zjM hG) (k1 (zrO hG) .nil)))) .nil
theorem zp7:Sd G W0 65 zgu:=gs .nil .nil
theorem zsk:Sd G W0 64 zlu:=gs .nil .nil
theorem X1:Sd G W0 103 wO:=gs (k1 (zsk hG) .nil) .nil
theorem Xb:Sd G W0 66 wu:=gs (k1 (X1 hG) .nil) .nil
theorem zlS:Sd G W0 21 zkv:=gs (k1 (UC hG) (k1 (UD hG) (k1 (zm5 hG) (k1 (zp7 hG) (k1 (Xb hG) .nil))))) .nil
theorem zph:Sd G W0 104 zoK:=gs .nil .nil
theorem Zo:Sd G W0 156 wJ:=gs (k1 (zph hG) .nil) .nil
theorem uW:Sd G W0 106 wq:=gs (k1 (Zo hG) .nil) .nil
theorem zp6:Sd G W0 105 zoU:=gs .nil .nil
theorem u4:Sd G W0 157 wy:=gs (k1 (zp6 hG) .nil) .nil
theorem uC:Sd G W0 107 wa:=gs (k1 (u4 hG) .nil) .nil
theorem zsd:Sd G W0 67 zlX:=gs (k1 (zcV hG) (k1 (uW hG) (k1 (uC hG) .nil))) .nil
theorem zsR:Sd G W0 108 ztg:=gs (k1 (zcv hG) .nil) .nil
theorem zsI:Sd G W0 68 zog:=gs (k1 (zbT hG) (k1 (zsR hG) .nil)) .nil
theorem zjJ:Sd G W0 22 zhw:=gs (k1 (Yt hG) (k1 (zaN hG) (k1 (zsd hG) (k1 (zsI hG) .nil)))) .nil
theorem zsX:Sd G W0 15 zoh:=gs (k1 (zjO hG) (k1 (zge hG) (k1 (zjK hG) (k1 (zgc hG) (k1 (zlS hG) (k1 (zjJ hG) (k1 (zcd hG) .nil))))))) .nil
theorem zqP:Sd G W0 54 ziW:=gs (k1 (zbB hG) .nil) .nil
theorem zsY:Sd G W0 16 zof:=gs (k1 (zlg hG) (k1 (zqP hG) (k1 (zaN hG) (k1 (zbS hG) .nil)))) .nil
theorem zhU:Sd G W0 4 U8:=gs (k1 (zjN hG) (k1 (UC hG) (k1 (zk7 hG) (k1 (zsl hG) (k1 (zlg hG) (k1 (zsX hG) (k1 (zsY hG) (k1 (zjO hG) (k1 (zge hG) (k1 (zjK hG) (k1 (zgc hG) (k1 (zlS hG) (k1 (zjJ hG) .nil))))))))))))) .nil
theorem WY:Sd G W0 23 ZA:=gs .nil .nil
theorem zfz:Sd G W0 25 WB:=gs (k1 (WY hG) .nil) .nil
theorem zmL:Sd G W0 5 zc3:=gs (k1 (WY hG) (k1 (Xn hG) (k1 (zfz hG) .nil))) .nil
theorem zlB:Sd G W0 7 zbQ:=gs .nil .nil
theorem zh9:Sd G W0 3 U0:=gs (k1 (zhU hG) (k1 (zmL hG) (k1 (zjN hG) (k1 (zlB hG) (k1 (zgg hG) (k1 (UC hG) (k1 (Yt hG) (k1 (UD hG) .nil)))))))) .nil
end Go.Pe.G
