/- Own work of this seat: G4c, G4d, G4e, G4f, G4g, EQ, G2i, GH, G3. -/
import Derived.Test.YtodhlecdfgklaaaGreatDoorWTGa
set_option linter.unusedVariables false
set_option linter.unusedSectionVars false
set_option linter.unusedSimpArgs false
set_option linter.unnecessarySimpa false
set_option linter.deprecated false
set_option maxRecDepth 100000
namespace Go.Pe.G
open Go.Pe
theorem zgg (a1 : List (BitVec 64)) (a2 : zh) : zb8 a1 a2 =
 (ud (a2.B - 1#64) a2).bind fun y1 =>
 (uL a1 y1.1).bind fun y2 =>
 bif !(decide (a2.T = (a2.B - 1#64))) then
  (xm 1 ({ a2 with X := y2.1.toInt })).bind fun y3 =>
  some (a1, y3.1, ())
 else
  some (a1, { a2 with X := y2.1.toInt }, ()) := zl (by kernel_rfl)
theorem ziW (a1 : List (BitVec 64)) (a2 : zh) : Yw a1 a2 =
 (Zn a2).bind fun y1 =>
 (YW a1 (u4.mk 3 y1.1 a2.T (a2.T + 1#64))).bind fun y2 =>
 some (y2.1, y2.2.2.1, ()) := zl (by kernel_rfl)
theorem zf7 (a1 : List (BitVec 64)) (a2 : zh) : zbc a1 a2 =
 (Yw a1 a2).bind fun y1 =>
 bif y1.2.1 then
  some (y1.1, { a2 with PC := 5 }, ())
 else
  some (y1.1, a2, ()) := zl (by kernel_rfl)
theorem zfH (a1 : List (BitVec 64)) (a2 : zh) : za5 a1 a2 =
 (xm 2 a2).bind fun y1 =>
 (xN y1.1).bind fun y2 =>
 (ZV a1 y2.1 y1.1.B).bind fun y3 =>
 some (y3.1, y1.1, ()) := zl (by kernel_rfl)
theorem zgm (a1 : List (BitVec 64)) (a2 : zh) : zb2 a1 a2 =
 (xm 1 a2).bind fun y1 =>
 (xN y1.1).bind fun y2 =>
 (ZV a1 y2.1 y1.1.B).bind fun y3 =>
 some (y3.1, y1.1, ()) := zl (by kernel_rfl)
theorem zgn (a1 : List (BitVec 64)) (a2 : zh) : zbP a1 a2 =
 (Zn a2).bind fun y1 =>
 (uL a1 y1.1).bind fun y2 =>
 some (a1, { a2 with T := y2.1 }, ()) := zl (by kernel_rfl)
theorem zgl (a1 : List (BitVec 64)) (a2 : zh) : zbW a1 a2 =
 (xN a2).bind fun y1 =>
 (uL a1 y1.1).bind fun y2 =>
 (zfI y2.1 a2.T).bind fun y3 =>
 bif !y3.1 then
  some (a1, { a2 with B := y2.1, Out := 2 }, ())
 else
  some (a1, { a2 with B := y2.1 }, ()) := zl (by kernel_rfl)
theorem zfR (a1 : List (BitVec 64)) (a2 : zh) : zbb a1 a2 =
 (ud a2.T a2).bind fun y1 =>
 (uL a1 y1.1).bind fun y2 =>
 some (a1, { a2 with X := y2.1.toInt }, ()) := zl (by kernel_rfl)
theorem zeF (a1 : List (BitVec 64)) (a2 : zh) : UL a1 a2 =
 (Yw a1 a2).bind fun y1 =>
 bif y1.2.1 then
  (xm 1 a2).bind fun y2 =>
  some (y1.1, y2.1, ())
 else
  (xm 4 a2).bind fun y3 =>
  some (y1.1, y3.1, ()) := zl (by kernel_rfl)
theorem zjm (a1 : List (BitVec 64)) (a2 : zh) : zaq a1 a2 =
 Option.or (
  (zkC a2.Kind).bind fun y1 =>
  bif !(decide (a2.Out = 0)) then
   some (a1, a2, ())
  else
   bif decide (a2.PC < 0) then
    some (a1, a2, ())
   else
    bif decide (4 ≤ a2.PC) then
     some (a1, a2, ())
    else
     bif decide (a2.PC = 3) then
      (Z1 a1 a2).bind fun y2 =>
      some (y2.1, { y2.2.1 with PC := w64 (y2.2.1.PC + 1) }, ())
     else
      bif decide (a2.PC = 2) then
       (UH a1 a2).bind fun y3 =>
       some (y3.1, { a2 with PC := w64 (a2.PC + 1) }, ())
      else
       bif decide (a2.PC = 1) then
        (Xk a1 a2).bind fun y4 =>
        some (y4.1, { y4.2.1 with PC := w64 (y4.2.1.PC + 1) }, ())
       else
        bif decide (a2.PC = 0) then
         (xT a1 a2).bind fun y5 =>
         some (y5.1, { y5.2.1 with PC := w64 (y5.2.1.PC + 1) }, ())
        else
         none) (
  Option.or (
   (zkS a2.Kind).bind fun y6 =>
   bif !(decide (a2.Out = 0)) then
    some (a1, a2, ())
   else
    bif decide (a2.PC < 0) then
     some (a1, a2, ())
    else
     bif decide (7 ≤ a2.PC) then
      some (a1, a2, ())
     else
      bif decide (a2.PC = 6) then
       (zb2 a1 a2).bind fun y7 =>
       some (y7.1, { y7.2.1 with PC := w64 (y7.2.1.PC + 1) }, ())
      else
       bif decide (a2.PC = 5) then
        (za5 a1 a2).bind fun y8 =>
        some (y8.1, { y8.2.1 with PC := w64 (y8.2.1.PC + 1) }, ())
       else
        bif decide (a2.PC = 4) then
         (zbc a1 a2).bind fun y9 =>
         some (y9.1, { y9.2.1 with PC := w64 (y9.2.1.PC + 1) }, ())
        else
         bif decide (a2.PC = 3) then
          (zb8 a1 a2).bind fun y10 =>
          some (y10.1, { y10.2.1 with PC := w64 (y10.2.1.PC + 1) }, ())
         else
          bif decide (a2.PC = 2) then
           (UN a1 a2).bind fun y11 =>
           some (y11.1, { y11.2.1 with PC := w64 (y11.2.1.PC + 1) }, ())
          else
           bif decide (a2.PC = 1) then
            (zcB a1 a2).bind fun y12 =>
            some (y12.1, { a2 with PC := w64 (a2.PC + 1) }, ())
           else
            bif decide (a2.PC = 0) then
             (xT a1 a2).bind fun y13 =>
             some (y13.1, { y13.2.1 with PC := w64 (y13.2.1.PC + 1) }, ())
            else
             none) (
   Option.or (
    (zko a2.Kind).bind fun y14 =>
    bif !(decide (a2.Out = 0)) then
     some (a1, a2, ())
    else
     bif decide (a2.PC < 0) then
      some (a1, a2, ())
     else
      bif decide (4 ≤ a2.PC) then
       some (a1, a2, ())
      else
       bif decide (a2.PC = 3) then
        (UL a1 a2).bind fun y15 =>
        some (y15.1, { y15.2.1 with PC := w64 (y15.2.1.PC + 1) }, ())
       else
        bif decide (a2.PC = 2) then
         (zbb a1 a2).bind fun y16 =>
         some (y16.1, { y16.2.1 with PC := w64 (y16.2.1.PC + 1) }, ())
        else
         bif decide (a2.PC = 1) then
          (zbW a1 a2).bind fun y17 =>
          some (y17.1, { y17.2.1 with PC := w64 (y17.2.1.PC + 1) }, ())
         else
          bif decide (a2.PC = 0) then
           (zbP a1 a2).bind fun y18 =>
           some (y18.1, { y18.2.1 with PC := w64 (y18.2.1.PC + 1) }, ())
          else
           none) (
    (zkj a2.Kind).bind fun y19 =>
    bif !(decide (a2.Out = 0)) then
     some (a1, a2, ())
    else
     bif decide (a2.PC < 0) then
      some (a1, a2, ())
     else
      bif decide (((y19.1.length : Int)) ≤ a2.PC) then
       some (a1, a2, ())
      else
       none))) := zl (by kernel_rfl)
theorem zfp (a1 : Int) (a2 : Int) (a3 : zH) : zc9 a1 a2 a3 =
 (Ud a3.s.P a2).bind fun y1 =>
 (zcn a1 y1.1 a3.s.P.Cap 0).bind fun y2 =>
 some (y2.1, ()) := zl (by kernel_rfl)
theorem VN (a1 : Int) (a2 : Int) (a3 : Int) (a4 : Int) : zci a1 a2 a3 a4 =
 some (zD.mk a1 0 a2 a3 0#64 a4 0 0, ()) := zl (by kernel_rfl)
theorem zdB (a1 : Int) (a2 : Int) (a3 : Int) (a4 : zH) : zbF a1 a2 a3 a4 =
 (YV a4.s.P).bind fun y1 =>
 (zci a1 a2 y1.1 a3).bind fun y2 =>
 some (y2.1, ()) := zl (by kernel_rfl)
theorem zit (a1 : zH) : Yp a1 =
 bif decide (((a1.s.Ws.length : Int)) = 0) then
  none
 else
  bif decide ((w64 ((a1.Worker.Victim.tmod ((a1.s.Ws.length : Int))) + 1)) = a1.w) then
   (WY a1.s.P).bind fun y1 =>
   (zbF 2 y1.1 0 ({ a1 with Worker := { a1.Worker with Victim := w64 ((a1.Worker.Victim.tmod ((a1.s.Ws.length : Int))) + 1) } })).bind fun y2 =>
   some ({ a1 with Worker := { a1.Worker with PC := 2, Victim := w64 ((a1.Worker.Victim.tmod ((a1.s.Ws.length : Int))) + 1), C := y2.1 } }, ())
  else
   (zc9 3 (w64 ((a1.Worker.Victim.tmod ((a1.s.Ws.length : Int))) + 1)) ({ a1 with Worker := { a1.Worker with Victim := w64 ((a1.Worker.Victim.tmod ((a1.s.Ws.length : Int))) + 1) } })).bind fun y3 =>
   some ({ a1 with Worker := { a1.Worker with PC := 1, Victim := w64 ((a1.Worker.Victim.tmod ((a1.s.Ws.length : Int))) + 1), D := y3.1 } }, ()) := zl (by kernel_rfl)
theorem zjv (a1 : zH) : Xa a1 =
 (zaq a1.s.M a1.Worker.D).bind fun y1 =>
 bif decide (y1.2.1.Out = 1) then
  (Yk y1.2.1.X (zH.mk { a1.Worker with Victim := a1.w, D := y1.2.1 } { a1.s with M := y1.1 } a1.w)).bind fun y2 =>
  some (y2.1, ())
 else
  bif decide (y1.2.1.Out = 4) then
   (Yp (zH.mk { a1.Worker with D := y1.2.1 } { a1.s with M := y1.1 } a1.w)).bind fun y3 =>
   some (y3.1, ())
  else
   bif decide (y1.2.1.Out = 2) then
    (Yp (zH.mk { a1.Worker with D := y1.2.1 } { a1.s with M := y1.1 } a1.w)).bind fun y4 =>
    some (y4.1, ())
   else
    some (zH.mk { a1.Worker with D := y1.2.1 } { a1.s with M := y1.1 } a1.w, ()) := zl (by kernel_rfl)
theorem zgY (a1 : zH) : wN a1 =
 (zc9 2 a1.w a1).bind fun y1 =>
 some ({ a1 with Worker := { a1.Worker with PC := 0, Victim := a1.w, D := y1.1 } }, ()) := zl (by kernel_rfl)
theorem zec (a1 : List (List Int)) : uq a1 =
 bif a1.isEmpty then
  zlo (
   some (([] : List (List Int)), ())) (
   (yZ ((([] : List (List Int))) ++ a1)).bind fun l1 =>
   some (l1, ()))
 else
  (yZ ((([] : List (List Int))) ++ a1)).bind fun l2 =>
  some (l2, ()) := zl (by kernel_rfl)
theorem ziv (a1 : zH) : Vv a1 =
 (idx a1.s.Bins a1.Worker.Bin).bind fun x1 =>
 (uq a1.s.Bins).bind fun y2 =>
 (vd y2.1 a1.Worker.Bin).bind fun n3 =>
 (XA a1.s.P).bind fun y4 =>
 (zbF 1 y4.1 a1.Worker.Bin (zH.mk { a1.Worker with Batch := x1 } { a1.s with Bins := y2.1.set n3 ([] : List Int) } a1.w)).bind fun y5 =>
 some (zH.mk { a1.Worker with PC := 4, Batch := x1, C := y5.1 } { a1.s with Bins := y2.1.set n3 ([] : List Int) } a1.w, ()) := zl (by kernel_rfl)
theorem zm3 (a1 : zH) : XE a1 =
 bif decide (a1.Worker.Slot = a1.s.H.Slots) then
  some (8, ())
 else
  some (5, ()) := zl (by kernel_rfl)
theorem zdb (a1 : zF) (a2 : Int) (a3 : Int) : zbE a1 a2 a3 =
 bif decide (1 ≤ a2) then
  bif decide (a2 ≤ ((a1.Objs.length : Int))) then
   bif decide (0 ≤ a3) then
    (idx a1.Objs (w64 (a2 - 1))).bind fun x1 =>
    some (decide (a3 < ((x1.length : Int))), ())
   else
    some (false, ())
  else
   some (false, ())
 else
  some (false, ()) := zl (by kernel_rfl)
theorem zmq (a1 : zF) (a2 : Int) (a3 : Int) : zml a1 a2 a3 =
 (zbE a1 a2 a3).bind fun y1 =>
 bif !y1.1 then
  some (0, false, ())
 else
  (idx a1.Objs (w64 (a2 - 1))).bind fun x2 =>
  (idx x2 a3).bind fun x3 =>
  some (x3, true, ()) := zl (by kernel_rfl)
theorem zq2 (a1 : Int) (a2 : Int) (a3 : Int) : zhQ a1 a2 a3 =
 some (zJ.mk 0 a1 a2 a3 (zh.mk 0 0 0 0 0#64 0#64 0 0) (zD.mk 0 0 0 0 0#64 0 0 0) 0 0, ()) := zl (by kernel_rfl)
theorem zin (a1 : zH) : VE a1 =
 (zml a1.s.H a1.Worker.Obj a1.Worker.Slot).bind fun y1 =>
 bif decide (y1.1 = 0) then
  (XE ({ a1 with Worker := { a1.Worker with Slot := w64 (a1.Worker.Slot + 1) } })).bind fun y2 =>
  some ({ a1 with Worker := { a1.Worker with PC := y2.1, Slot := w64 (a1.Worker.Slot + 1) } }, ())
 else
  (zhQ 1 y1.1 a1.w).bind fun y3 =>
  some ({ a1 with Worker := { a1.Worker with PC := 6, Slot := w64 (a1.Worker.Slot + 1), G := y3.1 } }, ()) := zl (by kernel_rfl)
theorem zeI (a1 : zA) : UW a1 =
 some (zA.mk { a1.Grey with PC := 1 } { a1.s with Work := w64 (a1.s.Work + 1) }, ()) := zl (by kernel_rfl)
theorem ztt (a1 : BitVec 64) (a2 : Int) : zfA a1 a2 =
 (zjp a2).bind fun y1 =>
 some (!(decide ((a1 &&& y1.1) = 0#64)), ()) := zl (by kernel_rfl)
theorem zpY (a1 : zr) (a2 : Int) : zg7 a1 a2 =
 (zcS a1.Marks a2).bind fun y1 =>
 bif decide (y1.1 = a1.Marks) then
  some (a1, false, ())
 else
  (zfA a1.Black a2).bind fun y2 =>
  bif y2.1 then
   some (a1, false, ())
  else
   some ({ a1 with Marks := y1.1 }, true, ()) := zl (by kernel_rfl)
theorem zg2 (a1 : zA) : wR a1 =
 (XA a1.s.P).bind fun y1 =>
 (YV a1.s.P).bind fun y2 =>
 (zci 2 y1.1 y2.1 0).bind fun y3 =>
 some ({ a1 with Grey := { a1.Grey with PC := 5, C := y3.1 } }, ()) := zl (by kernel_rfl)
theorem zgA (a1 : zA) : zbQ a1 =
 (zg7 a1.s.T a1.Grey.Obj).bind fun y1 =>
 bif !y1.2.1 then
  some (zA.mk { a1.Grey with PC := 2 } { a1.s with T := y1.1 }, ())
 else
  bif decide (a1.Grey.Mode = 1) then
   (Ud a1.s.P a1.Grey.Who).bind fun y2 =>
   (zcn 1 y2.1 a1.s.P.Cap a1.Grey.Obj).bind fun y3 =>
   some (zA.mk { a1.Grey with PC := 3, D := y3.1 } { a1.s with T := y1.1 }, ())
  else
   bif decide (a1.Grey.Mode = 2) then
    some (zA.mk { a1.Grey with PC := 4 } { a1.s with T := y1.1 }, ())
   else
    (wR ({ a1 with s := { a1.s with T := y1.1 } })).bind fun y4 =>
    some (y4.1, ()) := zl (by kernel_rfl)
theorem zgr (a1 : zA) : zb1 a1 =
 some (zA.mk { a1.Grey with Out := 1 } { a1.s with Work := w64 (a1.s.Work - 1) }, ()) := zl (by kernel_rfl)
theorem zgq (a1 : zA) : zb5 a1 =
 (zaq a1.s.M a1.Grey.D).bind fun y1 =>
 bif decide (y1.2.1.Out = 1) then
  some (zA.mk { a1.Grey with D := y1.2.1, Out := 1 } { a1.s with M := y1.1 }, ())
 else
  bif decide (y1.2.1.Out = 3) then
   (wR (zA.mk { a1.Grey with D := y1.2.1 } { a1.s with M := y1.1 })).bind fun y2 =>
   some (y2.1, ())
  else
   some (zA.mk { a1.Grey with D := y1.2.1 } { a1.s with M := y1.1 }, ()) := zl (by kernel_rfl)
theorem zgu (a1 : zA) : zcc a1 =
 (wR ({ a1 with s := { a1.s with Flag := true } })).bind fun y1 =>
 some (y1.1, ()) := zl (by kernel_rfl)
theorem zgf (a1 : zA) : zcd a1 =
 (zan a1.s.M a1.Grey.C).bind fun y1 =>
 bif decide (y1.2.1.Out = 1) then
  some (zA.mk { a1.Grey with PC := 6, C := y1.2.1, Bin := y1.2.1.X } { a1.s with M := y1.1 }, ())
 else
  bif decide (y1.2.1.Out = 2) then
   (wR (zA.mk { a1.Grey with C := y1.2.1 } { a1.s with M := y1.1 })).bind fun y2 =>
   some (y2.1, ())
  else
   some (zA.mk { a1.Grey with C := y1.2.1 } { a1.s with M := y1.1 }, ()) := zl (by kernel_rfl)
theorem zgx (a1 : zA) : zbU a1 =
 (uq a1.s.Bins).bind fun y1 =>
 (vd y1.1 a1.Grey.Bin).bind fun n2 =>
 (WY a1.s.P).bind fun y3 =>
 (YV a1.s.P).bind fun y4 =>
 (zci 1 y3.1 y4.1 a1.Grey.Bin).bind fun y5 =>
 some ({ a1.Grey with PC := 7, C := y5.1 }, a1.s.P, a1.s.H, a1.s.M, a1.s.T, a1.s.Work, a1.s.Epoch, a1.s.Flag, a1.s.Done, a1.s.Restarts, a1.s.Acks, a1.s.L, a1.s.Ws, a1.s.Ms, a1.s.D, y1.1.set n2 ([a1.Grey.Obj] : List Int), ()) := zl (by kernel_rfl)
theorem zd9 (a1 : zA) : UT a1 =
 (zan a1.s.M a1.Grey.C).bind fun y1 =>
 bif decide (y1.2.1.Out = 1) then
  some (zA.mk { a1.Grey with C := y1.2.1, Out := 1 } { a1.s with M := y1.1 }, ())
 else
  some (zA.mk { a1.Grey with C := y1.2.1 } { a1.s with M := y1.1 }, ()) := zl (by kernel_rfl)
theorem zse (a1 : zb) (a2 : zJ) : zeX a1 a2 =
 bif !(decide (a2.Out = 0)) then
  some (a1, a2, ())
 else
  bif decide (a2.Mode < 1) then
   some (a1, a2, ())
  else
   bif decide (3 < a2.Mode) then
    some (a1, a2, ())
   else
    bif decide (a2.PC < 0) then
     some (a1, a2, ())
    else
     bif decide (8 ≤ a2.PC) then
      some (a1, a2, ())
     else
      bif decide (a2.PC = 7) then
       (UT (zA.mk a2 a1)).bind fun y1 =>
       some (y1.1.s, y1.1.Grey, ())
      else
       bif decide (a2.PC = 6) then
        (zbU (zA.mk a2 a1)).bind fun y2 =>
        some (zb.mk y2.2.1 y2.2.2.1 y2.2.2.2.1 y2.2.2.2.2.2.2.2.2.2.2.2.2.2.2.2.1 y2.2.2.2.2.1 y2.2.2.2.2.2.1 y2.2.2.2.2.2.2.1 y2.2.2.2.2.2.2.2.1 y2.2.2.2.2.2.2.2.2.1 y2.2.2.2.2.2.2.2.2.2.1 y2.2.2.2.2.2.2.2.2.2.2.1 y2.2.2.2.2.2.2.2.2.2.2.2.1 y2.2.2.2.2.2.2.2.2.2.2.2.2.1 y2.2.2.2.2.2.2.2.2.2.2.2.2.2.1 y2.2.2.2.2.2.2.2.2.2.2.2.2.2.2.1, y2.1, ())
       else
        bif decide (a2.PC = 5) then
         (zcd (zA.mk a2 a1)).bind fun y3 =>
         some (y3.1.s, y3.1.Grey, ())
        else
         bif decide (a2.PC = 4) then
          (zcc (zA.mk a2 a1)).bind fun y4 =>
          some (y4.1.s, y4.1.Grey, ())
         else
          bif decide (a2.PC = 3) then
           (zb5 (zA.mk a2 a1)).bind fun y5 =>
           some (y5.1.s, y5.1.Grey, ())
          else
           bif decide (a2.PC = 2) then
            (zb1 (zA.mk a2 a1)).bind fun y6 =>
            some (y6.1.s, y6.1.Grey, ())
           else
            bif decide (a2.PC = 1) then
             (zbQ (zA.mk a2 a1)).bind fun y7 =>
             some (y7.1.s, y7.1.Grey, ())
            else
             bif decide (a2.PC = 0) then
              (UW (zA.mk a2 a1)).bind fun y8 =>
              some (y8.1.s, y8.1.Grey, ())
             else
              none := zl (by kernel_rfl)
theorem zuA (a1 : zr) (a2 : Int) : znf a1 a2 =
 (zfA (a1.Marks &&& a1.Black) a2).bind fun y1 =>
 bif y1.1 then
  some (2, ())
 else
  (zfA a1.Marks a2).bind fun y2 =>
  bif y2.1 then
   some (1, ())
  else
   some (0, ()) := zl (by kernel_rfl)
theorem zsg (a1 : zr) (a2 : Int) : ze0 a1 a2 =
 (znf a1 a2).bind fun y1 =>
 bif !(decide (y1.1 = 1)) then
  some (a1, false, ())
 else
  (zcS a1.Black a2).bind fun y2 =>
  some ({ a1 with Black := y2.1 }, true, ()) := zl (by kernel_rfl)
theorem zac (a1 : zq) (a2 : Int) : WL a1 a2 =
 bif decide (1 ≤ a2) then
  some (decide (a2 ≤ ((a1.Bal.length : Int))), ())
 else
  some (false, ()) := zl (by kernel_rfl)
theorem znV (a1 : Int) : zdm a1 =
 some (w64 (a1 + 1), ()) := zl (by kernel_rfl)
theorem zgB (a1 : zq) (a2 : Int) : zbZ a1 a2 =
 bif decide (((a1.Bal.length : Int)) = ((a1.Bal.length : Int))) then
  (UK ((a1.Bal.length : Int))).bind fun n1 =>
  bif decide (a1.Bal.length = ((List.replicate n1 ((0 : Int))).length)) then
   bif a1.Bal.isEmpty then
    (vd (List.replicate n1 ((0 : Int))) (w64 (a2 - 1))).bind fun n2 =>
    ((List.replicate n1 ((0 : Int)))[n2]?).bind fun x3 =>
    (zdm x3).bind fun y4 =>
    (vd (List.replicate n1 ((0 : Int))) (w64 (a2 - 1))).bind fun n5 =>
    some ({ a1 with Bal := (List.replicate n1 ((0 : Int))).set n5 y4.1 }, ())
   else
    (vd a1.Bal (w64 (a2 - 1))).bind fun n6 =>
    (a1.Bal[n6]?).bind fun x7 =>
    (zdm x7).bind fun y8 =>
    (vd a1.Bal (w64 (a2 - 1))).bind fun n9 =>
    some ({ a1 with Bal := a1.Bal.set n9 y8.1 }, ())
  else
   none
 else
  none := zl (by kernel_rfl)
theorem zpE (a1 : zq) (a2 : Int) : zcl a1 a2 =
 (WL ({ a1 with Scanned := w64 (a1.Scanned + 1) }) a2).bind fun y1 =>
 bif !y1.1 then
  some ({ a1 with Scanned := w64 (a1.Scanned + 1), Pool := w64 (a1.Pool + 1) }, ())
 else
  (zbZ ({ a1 with Scanned := w64 (a1.Scanned + 1) }) a2).bind fun y2 =>
  some (y2.1, ()) := zl (by kernel_rfl)
theorem ziH (a1 : zH) : Vx a1 =
 bif decide (a1.Worker.PC = 0) then
  bif decide (a1.Worker.PC = 0) then
   (Xa a1).bind fun y1 =>
   some (y1.1, ())
  else
   bif decide (a1.Worker.PC = 2) then
    (vh a1).bind fun y2 =>
    bif decide (y2.1 = 1) then
     some ({ y2.2.1 with Worker := { y2.2.1.Worker with PC := 3, Bin := y2.2.1.Worker.C.X } }, ())
    else
     bif decide (y2.1 = 2) then
      (wN y2.2.1).bind fun y3 =>
      some (y3.1, ())
     else
      some (y2.2.1, ())
   else
    bif decide (a1.Worker.PC = 3) then
     (Vv a1).bind fun y4 =>
     some (y4.1, ())
    else
     bif decide (a1.Worker.PC = 4) then
      (vh a1).bind fun y5 =>
      bif decide (y5.1 = 1) then
       some ({ y5.2.1 with Worker := { y5.2.1.Worker with PC := 7, Bin := 0 } }, ())
      else
       some (y5.2.1, ())
     else
      bif decide (a1.Worker.PC = 5) then
       (VE a1).bind fun y6 =>
       some (y6.1, ())
      else
       bif decide (a1.Worker.PC = 6) then
        (zeX a1.s a1.Worker.G).bind fun y7 =>
        bif decide (y7.2.1.Out = 1) then
         (XE (zH.mk { a1.Worker with G := y7.2.1 } y7.1 a1.w)).bind fun y8 =>
         some (zH.mk { a1.Worker with PC := y8.1, G := y7.2.1 } y7.1 a1.w, ())
        else
         some (zH.mk { a1.Worker with G := y7.2.1 } y7.1 a1.w, ())
       else
        bif decide (a1.Worker.PC = 7) then
         bif decide (((a1.Worker.Batch.length : Int)) = 0) then
          (wN a1).bind fun y9 =>
          some (y9.1, ())
         else
          (idx a1.Worker.Batch 0).bind fun x10 =>
          (Yk x10 a1).bind fun y11 =>
          (cut y11.1.Worker.Batch 1 ((y11.1.Worker.Batch.length : Int))).bind fun l12 =>
          some ({ y11.1 with Worker := { y11.1.Worker with Batch := l12 } }, ())
        else
         bif decide (a1.Worker.PC = 8) then
          (ze0 a1.s.T a1.Worker.Obj).bind fun y13 =>
          (zcl a1.s.L 0).bind fun y14 =>
          some (zH.mk { a1.Worker with PC := 9 } { a1.s with T := y13.1, L := y14.1 } a1.w, ())
         else
          bif decide (a1.Worker.PC = 9) then
           some (zH.mk { a1.Worker with PC := 7, Obj := 0 } { a1.s with Work := w64 (a1.s.Work - 1) } a1.w, ())
          else
           some (a1, ())
 else
  bif decide (a1.Worker.PC = 1) then
   (Xa a1).bind fun y15 =>
   some (y15.1, ())
  else
   bif decide (a1.Worker.PC = 2) then
    (vh a1).bind fun y16 =>
    bif decide (y16.1 = 1) then
     some ({ y16.2.1 with Worker := { y16.2.1.Worker with PC := 3, Bin := y16.2.1.Worker.C.X } }, ())
    else
     bif decide (y16.1 = 2) then
      (wN y16.2.1).bind fun y17 =>
      some (y17.1, ())
     else
      some (y16.2.1, ())
   else
    bif decide (a1.Worker.PC = 3) then
     (Vv a1).bind fun y18 =>
     some (y18.1, ())
    else
     bif decide (a1.Worker.PC = 4) then
      (vh a1).bind fun y19 =>
      bif decide (y19.1 = 1) then
       some ({ y19.2.1 with Worker := { y19.2.1.Worker with PC := 7, Bin := 0 } }, ())
      else
       some (y19.2.1, ())
     else
      bif decide (a1.Worker.PC = 5) then
       (VE a1).bind fun y20 =>
       some (y20.1, ())
      else
       bif decide (a1.Worker.PC = 6) then
        (zeX a1.s a1.Worker.G).bind fun y21 =>
        bif decide (y21.2.1.Out = 1) then
         (XE (zH.mk { a1.Worker with G := y21.2.1 } y21.1 a1.w)).bind fun y22 =>
         some (zH.mk { a1.Worker with PC := y22.1, G := y21.2.1 } y21.1 a1.w, ())
        else
         some (zH.mk { a1.Worker with G := y21.2.1 } y21.1 a1.w, ())
       else
        bif decide (a1.Worker.PC = 7) then
         bif decide (((a1.Worker.Batch.length : Int)) = 0) then
          (wN a1).bind fun y23 =>
          some (y23.1, ())
         else
          (idx a1.Worker.Batch 0).bind fun x24 =>
          (Yk x24 a1).bind fun y25 =>
          (cut y25.1.Worker.Batch 1 ((y25.1.Worker.Batch.length : Int))).bind fun l26 =>
          some ({ y25.1 with Worker := { y25.1.Worker with Batch := l26 } }, ())
        else
         bif decide (a1.Worker.PC = 8) then
          (ze0 a1.s.T a1.Worker.Obj).bind fun y27 =>
          (zcl a1.s.L 0).bind fun y28 =>
          some (zH.mk { a1.Worker with PC := 9 } { a1.s with T := y27.1, L := y28.1 } a1.w, ())
         else
          bif decide (a1.Worker.PC = 9) then
           some (zH.mk { a1.Worker with PC := 7, Obj := 0 } { a1.s with Work := w64 (a1.s.Work - 1) } a1.w, ())
          else
           some (a1, ()) := zl (by kernel_rfl)
theorem Wf (a1 : List zg) : xX a1 =
 bif a1.isEmpty then
  zlo (
   some (([] : List zg), ())) (
   (yZ (([] : List zg) ++ a1)).bind fun l1 =>
   some (l1, ()))
 else
  (yZ (([] : List zg) ++ a1)).bind fun l2 =>
  some (l2, ()) := zl (by kernel_rfl)
theorem zpp (a1 : zb) (a2 : Int) : ZZ a1 a2 =
 bif a1.Done then
  some (a1, ())
 else
  bif decide (a2 < 1) then
   some (a1, ())
  else
   bif decide (((a1.Ws.length : Int)) < a2) then
    some (a1, ())
   else
    (idx a1.Ws (w64 (a2 - 1))).bind fun x1 =>
    (Vx (zH.mk x1 a1 a2)).bind fun y2 =>
    (xX y2.1.s.Ws).bind fun y3 =>
    (vd y3.1 (w64 (a2 - 1))).bind fun n4 =>
    some ({ y2.1.s with Ws := y3.1.set n4 y2.1.Worker }, ()) := zl (by kernel_rfl)
theorem Wo (s1 : List Int) (s2 : List Int) (s3 : Int) (s4 : Int) : V4 (s1, s2, s3, s4, ()) =
 bif decide (s4 < s3) then
  (idx s1 s4).bind fun x1 =>
  (idx s2 s4).bind fun x2 =>
  bif !(decide (x1 = x2)) then
   some (.ret (false, ()))
  else
   some (.again (s1, s2, s3, w64 (s4 + 1), ()))
 else
  some (.brk (())) := by kernel_rfl
theorem zf4 (a1 : List Int) (a2 : List Int) : z6 a1 a2 =
 bif !(decide (((a1.length : Int)) = ((a2.length : Int)))) then
  some (false, ())
 else
  (zU V4 (a1, a2, (a1.length : Int), 0, ())).bind fun st => match st with
    | .again _ => none
    | .brk y1 =>
    some (true, ())
    | .ret y1 =>
    some (y1.1, ()) := zl (by kernel_rfl)
theorem vu (s1 : List (List Int)) (s2 : List (List Int)) (s3 : Int) (s4 : Int) : vO (s1, s2, s3, s4, ()) =
 bif decide (s4 < s3) then
  (idx s2 s4).bind fun x1 =>
  (idx s1 s4).bind fun x2 =>
  (z6 x1 x2).bind fun y3 =>
  bif !y3.1 then
   some (.ret (false, ()))
  else
   some (.again (s1, s2, s3, w64 (s4 + 1), ()))
 else
  some (.brk (())) := by kernel_rfl
theorem Wt (a1 : List (List Int)) (a2 : List (List Int)) : zM a1 a2 =
 bif !(decide (((a1.length : Int)) = ((a2.length : Int)))) then
  some (false, ())
 else
  (zU vO (a2, a1, (a1.length : Int), 0, ())).bind fun st => match st with
    | .again _ => none
    | .brk y1 =>
    some (true, ())
    | .ret y1 =>
    some (y1.1, ()) := zl (by kernel_rfl)
theorem zsh (a1 : zF) (a2 : zF) : uE a1 a2 =
 bif decide (a1.Slots = a2.Slots) then
  (zM a1.Objs a2.Objs).bind fun y1 =>
  some (y1.1, ())
 else
  some (false, ()) := zl (by kernel_rfl)
theorem zj6 (a1 : zd) : Uu a1 =
 some (znb.mk a1.Workers a1.Mutators a1.Cap a1.Buf a1.Bin a1.Most a1.Price a1.Limit, ()) := zl (by kernel_rfl)
theorem Zu (s1 : List zi) (s2 : List zi) (s3 : Int) (s4 : Int) : Ya (s1, s2, s3, s4, ()) =
 bif decide (s4 < s3) then
  (idx s1 s4).bind fun x1 =>
  (idx s2 s4).bind fun x2 =>
  bif !((decide (x1.Kind = x2.Kind)) && ((decide (x1.R = x2.R)) && ((decide (x1.A = x2.A)) && (decide (x1.S = x2.S))))) then
   some (.ret (false, ()))
  else
   some (.again (s1, s2, s3, w64 (s4 + 1), ()))
 else
  some (.brk (())) := by kernel_rfl
theorem zbi (a1 : List zi) (a2 : List zi) : uy a1 a2 =
 bif !(decide (((a1.length : Int)) = ((a2.length : Int)))) then
  some (false, ())
 else
  (zU Ya (a1, a2, (a1.length : Int), 0, ())).bind fun st => match st with
    | .again _ => none
    | .brk y1 =>
    some (true, ())
    | .ret y1 =>
    some (y1.1, ()) := zl (by kernel_rfl)
theorem xy (s1 : List (List zi)) (s2 : List (List zi)) (s3 : Int) (s4 : Int) : xL (s1, s2, s3, s4, ()) =
 bif decide (s4 < s3) then
  (idx s2 s4).bind fun x1 =>
  (idx s1 s4).bind fun x2 =>
  (uy x1 x2).bind fun y3 =>
  bif !y3.1 then
   some (.ret (false, ()))
  else
   some (.again (s1, s2, s3, w64 (s4 + 1), ()))
 else
  some (.brk (())) := by kernel_rfl
theorem u6 (a1 : List (List zi)) (a2 : List (List zi)) : yV a1 a2 =
 bif !(decide (((a1.length : Int)) = ((a2.length : Int)))) then
  some (false, ())
 else
  (zU xL (a2, a1, (a1.length : Int), 0, ())).bind fun st => match st with
    | .again _ => none
    | .brk y1 =>
    some (true, ())
    | .ret y1 =>
    some (y1.1, ()) := zl (by kernel_rfl)
theorem uC (s1 : List zj) (s2 : List zj) (s3 : Int) (s4 : Int) : Zi (s1, s2, s3, s4, ()) =
 bif decide (s4 < s3) then
  (idx s1 s4).bind fun x1 =>
  (idx s2 s4).bind fun x2 =>
  bif !((decide (x1.Kind = x2.Kind)) && (decide (x1.N = x2.N))) then
   some (.ret (false, ()))
  else
   some (.again (s1, s2, s3, w64 (s4 + 1), ()))
 else
  some (.brk (())) := by kernel_rfl
theorem Ur (a1 : List zj) (a2 : List zj) : vf a1 a2 =
 bif !(decide (((a1.length : Int)) = ((a2.length : Int)))) then
  some (false, ())
 else
  (zU Zi (a1, a2, (a1.length : Int), 0, ())).bind fun st => match st with
    | .again _ => none
    | .brk y1 =>
    some (true, ())
    | .ret y1 =>
    some (y1.1, ()) := zl (by kernel_rfl)
end Go.Pe.G
namespace Go.Pe.G
open Go.Pe
theorem zsb (a1 : zd) (a2 : zd) : Zy a1 a2 =
 (Uu a1).bind fun y1 =>
 (Uu a2).bind fun y2 =>
 bif (decide (y1.1.a0 = y2.1.a0)) && ((decide (y1.1.a1 = y2.1.a1)) && ((decide (y1.1.a2 = y2.1.a2)) && ((decide (y1.1.a3 = y2.1.a3)) && ((decide (y1.1.a4 = y2.1.a4)) && ((decide (y1.1.a5 = y2.1.a5)) && ((decide (y1.1.a6 = y2.1.a6)) && (decide (y1.1.a7 = y2.1.a7)))))))) then
  bif decide (a1.Roots = a2.Roots) then
   (uE a1.H a2.H).bind fun y3 =>
   bif y3.1 then
    (zM a1.Regs a2.Regs).bind fun y4 =>
    bif y4.1 then
     (yV a1.Progs a2.Progs).bind fun y5 =>
     bif y5.1 then
      (vf a1.Picks a2.Picks).bind fun y6 =>
      some (y6.1, ())
     else
      some (false, ())
    else
     some (false, ())
   else
    some (false, ())
  else
   some (false, ())
 else
  some (false, ()) := zl (by kernel_rfl)
theorem ZU (s1 : List (BitVec 64)) (s2 : List (BitVec 64)) (s3 : Int) (s4 : Int) : YJ (s1, s2, s3, s4, ()) =
 bif decide (s4 < s3) then
  (idx s1 s4).bind fun x1 =>
  (idx s2 s4).bind fun x2 =>
  bif !(decide (x1 = x2)) then
   some (.ret (false, ()))
  else
   some (.again (s1, s2, s3, w64 (s4 + 1), ()))
 else
  some (.brk (())) := by kernel_rfl
theorem zcs (a1 : List (BitVec 64)) (a2 : List (BitVec 64)) : Zd a1 a2 =
 bif !(decide (((a1.length : Int)) = ((a2.length : Int)))) then
  some (false, ())
 else
  (zU YJ (a1, a2, (a1.length : Int), 0, ())).bind fun st => match st with
    | .again _ => none
    | .brk y1 =>
    some (true, ())
    | .ret y1 =>
    some (y1.1, ()) := zl (by kernel_rfl)
theorem zs8 (a1 : List (BitVec 64)) (a2 : List (BitVec 64)) : Yr a1 a2 =
 (Zd a1 a2).bind fun y1 =>
 some (y1.1, ()) := zl (by kernel_rfl)
theorem YB (s1 : List Int) (s2 : List Int) (s3 : Int) (s4 : Int) : XG (s1, s2, s3, s4, ()) =
 bif decide (s4 < s3) then
  (idx s1 s4).bind fun x1 =>
  (idx s2 s4).bind fun x2 =>
  bif !(decide (x1 = x2)) then
   some (.ret (false, ()))
  else
   some (.again (s1, s2, s3, w64 (s4 + 1), ()))
 else
  some (.brk (())) := by kernel_rfl
theorem zdM (a1 : List Int) (a2 : List Int) : ZE a1 a2 =
 bif !(decide (((a1.length : Int)) = ((a2.length : Int)))) then
  some (false, ())
 else
  (zU XG (a1, a2, (a1.length : Int), 0, ())).bind fun st => match st with
    | .again _ => none
    | .brk y1 =>
    some (true, ())
    | .ret y1 =>
    some (y1.1, ()) := zl (by kernel_rfl)
theorem zpa (a1 : zq) (a2 : zq) : vK a1 a2 =
 bif decide (a1.Scanned = a2.Scanned) then
  bif decide (a1.Spent = a2.Spent) then
   bif decide (a1.Pool = a2.Pool) then
    (ZE a1.Bal a2.Bal).bind fun y1 =>
    some (y1.1, ())
   else
    some (false, ())
  else
   some (false, ())
 else
  some (false, ()) := zl (by kernel_rfl)
theorem zju (a1 : zg) (a2 : zg) : UE a1 a2 =
 (z6 a1.Batch a2.Batch).bind fun y1 =>
 bif !y1.1 then
  some (false, ())
 else
  some (((decide (a1.PC = a2.PC)) && ((decide (a1.Obj = a2.Obj)) && ((decide (a1.Slot = a2.Slot)) && ((decide (a1.Victim = a2.Victim)) && (decide (a1.Bin = a2.Bin)))))) && (((decide (a1.D.Kind = a2.D.Kind)) && ((decide (a1.D.PC = a2.D.PC)) && ((decide (a1.D.Base = a2.D.Base)) && ((decide (a1.D.Cap = a2.D.Cap)) && ((decide (a1.D.B = a2.D.B)) && ((decide (a1.D.T = a2.D.T)) && ((decide (a1.D.X = a2.D.X)) && (decide (a1.D.Out = a2.D.Out))))))))) && (((decide (a1.C.Kind = a2.C.Kind)) && ((decide (a1.C.PC = a2.C.PC)) && ((decide (a1.C.Head = a2.C.Head)) && ((decide (a1.C.Next = a2.C.Next)) && ((decide (a1.C.H = a2.C.H)) && ((decide (a1.C.X = a2.C.X)) && ((decide (a1.C.Y = a2.C.Y)) && (decide (a1.C.Out = a2.C.Out))))))))) && ((decide (a1.G.PC = a2.G.PC)) && ((decide (a1.G.Mode = a2.G.Mode)) && ((decide (a1.G.Obj = a2.G.Obj)) && ((decide (a1.G.Who = a2.G.Who)) && (((decide (a1.G.D.Kind = a2.G.D.Kind)) && ((decide (a1.G.D.PC = a2.G.D.PC)) && ((decide (a1.G.D.Base = a2.G.D.Base)) && ((decide (a1.G.D.Cap = a2.G.D.Cap)) && ((decide (a1.G.D.B = a2.G.D.B)) && ((decide (a1.G.D.T = a2.G.D.T)) && ((decide (a1.G.D.X = a2.G.D.X)) && (decide (a1.G.D.Out = a2.G.D.Out))))))))) && (((decide (a1.G.C.Kind = a2.G.C.Kind)) && ((decide (a1.G.C.PC = a2.G.C.PC)) && ((decide (a1.G.C.Head = a2.G.C.Head)) && ((decide (a1.G.C.Next = a2.G.C.Next)) && ((decide (a1.G.C.H = a2.G.C.H)) && ((decide (a1.G.C.X = a2.G.C.X)) && ((decide (a1.G.C.Y = a2.G.C.Y)) && (decide (a1.G.C.Out = a2.G.C.Out))))))))) && ((decide (a1.G.Bin = a2.G.Bin)) && (decide (a1.G.Out = a2.G.Out))))))))))), ()) := zl (by kernel_rfl)
theorem yO (s1 : List zg) (s2 : List zg) (s3 : Int) (s4 : Int) : yT (s1, s2, s3, s4, ()) =
 bif decide (s4 < s3) then
  (idx s2 s4).bind fun x1 =>
  (idx s1 s4).bind fun x2 =>
  (UE x1 x2).bind fun y3 =>
  bif !y3.1 then
   some (.ret (false, ()))
  else
   some (.again (s1, s2, s3, w64 (s4 + 1), ()))
 else
  some (.brk (())) := by kernel_rfl
theorem wF (a1 : List zg) (a2 : List zg) : yw a1 a2 =
 bif !(decide (((a1.length : Int)) = ((a2.length : Int)))) then
  some (false, ())
 else
  (zU yT (a2, a1, (a1.length : Int), 0, ())).bind fun st => match st with
    | .again _ => none
    | .brk y1 =>
    some (true, ())
    | .ret y1 =>
    some (y1.1, ()) := zl (by kernel_rfl)
theorem zgk (a1 : zc) : Wj a1 =
 some (znb.mk a1.PC a1.IP a1.Ret a1.Want a1.Old a1.Obj a1.Slot a1.Bin, ()) := zl (by kernel_rfl)
theorem zio (a1 : zc) (a2 : zc) : VH a1 a2 =
 (z6 a1.Regs a2.Regs).bind fun y1 =>
 bif y1.1 then
  (z6 a1.Buf a2.Buf).bind fun y2 =>
  bif y2.1 then
   (z6 a1.Batch a2.Batch).bind fun y3 =>
   bif y3.1 then
    (Wj a1).bind fun y4 =>
    (Wj a2).bind fun y5 =>
    bif (decide (y4.1.a0 = y5.1.a0)) && ((decide (y4.1.a1 = y5.1.a1)) && ((decide (y4.1.a2 = y5.1.a2)) && ((decide (y4.1.a3 = y5.1.a3)) && ((decide (y4.1.a4 = y5.1.a4)) && ((decide (y4.1.a5 = y5.1.a5)) && ((decide (y4.1.a6 = y5.1.a6)) && (decide (y4.1.a7 = y5.1.a7)))))))) then
     bif (decide (a1.C.Kind = a2.C.Kind)) && ((decide (a1.C.PC = a2.C.PC)) && ((decide (a1.C.Head = a2.C.Head)) && ((decide (a1.C.Next = a2.C.Next)) && ((decide (a1.C.H = a2.C.H)) && ((decide (a1.C.X = a2.C.X)) && ((decide (a1.C.Y = a2.C.Y)) && (decide (a1.C.Out = a2.C.Out)))))))) then
      some ((decide (a1.G.PC = a2.G.PC)) && ((decide (a1.G.Mode = a2.G.Mode)) && ((decide (a1.G.Obj = a2.G.Obj)) && ((decide (a1.G.Who = a2.G.Who)) && (((decide (a1.G.D.Kind = a2.G.D.Kind)) && ((decide (a1.G.D.PC = a2.G.D.PC)) && ((decide (a1.G.D.Base = a2.G.D.Base)) && ((decide (a1.G.D.Cap = a2.G.D.Cap)) && ((decide (a1.G.D.B = a2.G.D.B)) && ((decide (a1.G.D.T = a2.G.D.T)) && ((decide (a1.G.D.X = a2.G.D.X)) && (decide (a1.G.D.Out = a2.G.D.Out))))))))) && (((decide (a1.G.C.Kind = a2.G.C.Kind)) && ((decide (a1.G.C.PC = a2.G.C.PC)) && ((decide (a1.G.C.Head = a2.G.C.Head)) && ((decide (a1.G.C.Next = a2.G.C.Next)) && ((decide (a1.G.C.H = a2.G.C.H)) && ((decide (a1.G.C.X = a2.G.C.X)) && ((decide (a1.G.C.Y = a2.G.C.Y)) && (decide (a1.G.C.Out = a2.G.C.Out))))))))) && ((decide (a1.G.Bin = a2.G.Bin)) && (decide (a1.G.Out = a2.G.Out)))))))), ())
     else
      some (false, ())
    else
     some (false, ())
   else
    some (false, ())
  else
   some (false, ())
 else
  some (false, ()) := zl (by kernel_rfl)
theorem yF (s1 : List zc) (s2 : List zc) (s3 : Int) (s4 : Int) : yM (s1, s2, s3, s4, ()) =
 bif decide (s4 < s3) then
  (idx s2 s4).bind fun x1 =>
  (idx s1 s4).bind fun x2 =>
  (VH x1 x2).bind fun y3 =>
  bif !y3.1 then
   some (.ret (false, ()))
  else
   some (.again (s1, s2, s3, w64 (s4 + 1), ()))
 else
  some (.brk (())) := by kernel_rfl
theorem wm (a1 : List zc) (a2 : List zc) : yr a1 a2 =
 bif !(decide (((a1.length : Int)) = ((a2.length : Int)))) then
  some (false, ())
 else
  (zU yM (a2, a1, (a1.length : Int), 0, ())).bind fun st => match st with
    | .again _ => none
    | .brk y1 =>
    some (true, ())
    | .ret y1 =>
    some (y1.1, ()) := zl (by kernel_rfl)
theorem zqF (a1 : zb) (a2 : zb) : zdI a1 a2 =
 bif (decide (a1.T.Marks = a2.T.Marks)) && (decide (a1.T.Black = a2.T.Black)) then
  bif decide (a1.Work = a2.Work) then
   bif decide (a1.Epoch = a2.Epoch) then
    bif decide (a1.Flag = a2.Flag) then
     bif decide (a1.Done = a2.Done) then
      bif decide (a1.Restarts = a2.Restarts) then
       (Zy a1.P a2.P).bind fun y1 =>
       bif y1.1 then
        (uE a1.H a2.H).bind fun y2 =>
        bif y2.1 then
         (Yr a1.M a2.M).bind fun y3 =>
         bif y3.1 then
          (zM a1.Bins a2.Bins).bind fun y4 =>
          bif y4.1 then
           (z6 a1.Acks a2.Acks).bind fun y5 =>
           bif y5.1 then
            (vK a1.L a2.L).bind fun y6 =>
            bif (decide (a1.D.PC = a2.D.PC)) && (decide (a1.D.I = a2.D.I)) then
             bif y6.1 then
              (yw a1.Ws a2.Ws).bind fun y7 =>
              bif y7.1 then
               (yr a1.Ms a2.Ms).bind fun y8 =>
               some (y8.1, ())
              else
               some (false, ())
             else
              some (false, ())
            else
             some (false, ())
           else
            bif (decide (a1.D.PC = a2.D.PC)) && (decide (a1.D.I = a2.D.I)) then
             some (false, ())
            else
             some (false, ())
          else
           bif (decide (a1.D.PC = a2.D.PC)) && (decide (a1.D.I = a2.D.I)) then
            some (false, ())
           else
            some (false, ())
         else
          bif (decide (a1.D.PC = a2.D.PC)) && (decide (a1.D.I = a2.D.I)) then
           some (false, ())
          else
           some (false, ())
        else
         bif (decide (a1.D.PC = a2.D.PC)) && (decide (a1.D.I = a2.D.I)) then
          some (false, ())
         else
          some (false, ())
       else
        bif (decide (a1.D.PC = a2.D.PC)) && (decide (a1.D.I = a2.D.I)) then
         some (false, ())
        else
         some (false, ())
      else
       (Zy a1.P a2.P).bind fun y9 =>
       bif y9.1 then
        (uE a1.H a2.H).bind fun y10 =>
        bif y10.1 then
         (Yr a1.M a2.M).bind fun y11 =>
         bif y11.1 then
          (zM a1.Bins a2.Bins).bind fun y12 =>
          bif y12.1 then
           (z6 a1.Acks a2.Acks).bind fun y13 =>
           bif y13.1 then
            (vK a1.L a2.L).bind fun y14 =>
            some (false, ())
           else
            some (false, ())
          else
           some (false, ())
         else
          some (false, ())
        else
         some (false, ())
       else
        some (false, ())
     else
      (Zy a1.P a2.P).bind fun y15 =>
      bif y15.1 then
       (uE a1.H a2.H).bind fun y16 =>
       bif y16.1 then
        (Yr a1.M a2.M).bind fun y17 =>
        bif y17.1 then
         (zM a1.Bins a2.Bins).bind fun y18 =>
         bif y18.1 then
          (z6 a1.Acks a2.Acks).bind fun y19 =>
          bif y19.1 then
           (vK a1.L a2.L).bind fun y20 =>
           some (false, ())
          else
           some (false, ())
         else
          some (false, ())
        else
         some (false, ())
       else
        some (false, ())
      else
       some (false, ())
    else
     (Zy a1.P a2.P).bind fun y21 =>
     bif y21.1 then
      (uE a1.H a2.H).bind fun y22 =>
      bif y22.1 then
       (Yr a1.M a2.M).bind fun y23 =>
       bif y23.1 then
        (zM a1.Bins a2.Bins).bind fun y24 =>
        bif y24.1 then
         (z6 a1.Acks a2.Acks).bind fun y25 =>
         bif y25.1 then
          (vK a1.L a2.L).bind fun y26 =>
          some (false, ())
         else
          some (false, ())
        else
         some (false, ())
       else
        some (false, ())
      else
       some (false, ())
     else
      some (false, ())
   else
    (Zy a1.P a2.P).bind fun y27 =>
    bif y27.1 then
     (uE a1.H a2.H).bind fun y28 =>
     bif y28.1 then
      (Yr a1.M a2.M).bind fun y29 =>
      bif y29.1 then
       (zM a1.Bins a2.Bins).bind fun y30 =>
       bif y30.1 then
        (z6 a1.Acks a2.Acks).bind fun y31 =>
        bif y31.1 then
         (vK a1.L a2.L).bind fun y32 =>
         some (false, ())
        else
         some (false, ())
       else
        some (false, ())
      else
       some (false, ())
     else
      some (false, ())
    else
     some (false, ())
  else
   (Zy a1.P a2.P).bind fun y33 =>
   bif y33.1 then
    (uE a1.H a2.H).bind fun y34 =>
    bif y34.1 then
     (Yr a1.M a2.M).bind fun y35 =>
     bif y35.1 then
      (zM a1.Bins a2.Bins).bind fun y36 =>
      bif y36.1 then
       (z6 a1.Acks a2.Acks).bind fun y37 =>
       bif y37.1 then
        (vK a1.L a2.L).bind fun y38 =>
        some (false, ())
       else
        some (false, ())
      else
       some (false, ())
     else
      some (false, ())
    else
     some (false, ())
   else
    some (false, ())
 else
  (Zy a1.P a2.P).bind fun y39 =>
  bif y39.1 then
   (uE a1.H a2.H).bind fun y40 =>
   bif y40.1 then
    (Yr a1.M a2.M).bind fun y41 =>
    bif y41.1 then
     (zM a1.Bins a2.Bins).bind fun y42 =>
     bif y42.1 then
      (z6 a1.Acks a2.Acks).bind fun y43 =>
      bif y43.1 then
       (vK a1.L a2.L).bind fun y44 =>
       some (false, ())
      else
       some (false, ())
     else
      some (false, ())
    else
     some (false, ())
   else
    some (false, ())
  else
   some (false, ()) := zl (by kernel_rfl)
theorem zhA (s1 : List (List zi)) (s2 : Int) (s3 : Int) (s4 : Int) (s5 : Int) (s6 : Int) (s7 : Int) (s8 : Int) (s9 : Int) (s10 : Int) (s11 : Int) (s12 : BitVec 64) (s13 : Int) (s14 : Int) (s15 : Int) (s16 : Int) (s17 : Int) (s18 : Int) (s19 : Int) (s20 : Int) (s21 : Int) (s22 : BitVec 64) (s23 : List (List Int)) (s24 : List (List Int)) (s25 : List (List zi)) (s26 : List zj) (s27 : List (List Int)) (s28 : List (List Int)) (s29 : List (List zi)) (s30 : List zj) : zcI (s1, s2, s3, s4, s5, s6, s7, s8, s9, s10, s11, s12, s13, s14, s15, s16, s17, s18, s19, s20, s21, s22, s23, s24, s25, s26, s27, s28, s29, s30, ()) =
 bif decide (s2 < ((s1.length : Int))) then
  (yZ (s28 ++ (([([1, 0] : List Int)] : List (List Int))))).bind fun l1 =>
  (idx s1 s2).bind fun x2 =>
  (yZ (s29 ++ (([x2] : List (List zi))))).bind fun l3 =>
  some (.again (s1, w64 (s2 + 1), s3, s4, s5, s6, s7, s8, s9, s10, s11, s12, s13, s14, s15, s16, s17, s18, s19, s20, s21, s22, s23, s24, s25, s26, s27, l1, l3, s30, ()))
 else
  some (.brk (s3, s4, s5, s6, s7, s8, s9, s10, s11, s12, s13, s14, s15, s16, s17, s18, s19, s20, s21, s22, s23, s24, s25, s26, s27, s28, s29, s30, ())) := by kernel_rfl
theorem zkd (a1 : List (List zi)) : zaa a1 =
 (zU zcI (a1, 0, 0, 0, 0, 0, 0, 0, 0, 0, 0, 0#64, 1, (a1.length : Int), 2, 1, 1, 4, 2, 2, 1, 1#64, ([] : List (List Int)), ([] : List (List Int)), ([] : List (List zi)), ([] : List zj), ([([2] : List Int), ([0] : List Int), ([0] : List Int)] : List (List Int)), ([] : List (List Int)), ([] : List (List zi)), ([] : List zj), ())).bind fun st => match st with
   | .again _ => none
   | .brk y1 =>
   some (zd.mk y1.2.2.2.2.2.2.2.2.2.2.1 y1.2.2.2.2.2.2.2.2.2.2.2.1 y1.2.2.2.2.2.2.2.2.2.2.2.2.1 y1.2.2.2.2.2.2.2.2.2.2.2.2.2.1 y1.2.2.2.2.2.2.2.2.2.2.2.2.2.2.1 y1.2.2.2.2.2.2.2.2.2.2.2.2.2.2.2.1 y1.2.2.2.2.2.2.2.2.2.2.2.2.2.2.2.2.1 y1.2.2.2.2.2.2.2.2.2.2.2.2.2.2.2.2.2.1 (zF.mk y1.2.2.2.2.2.2.2.2.2.2.2.2.2.2.2.2.2.2.1 y1.2.2.2.2.2.2.2.2.2.2.2.2.2.2.2.2.2.2.2.2.2.2.2.2.1) y1.2.2.2.2.2.2.2.2.2.2.2.2.2.2.2.2.2.2.2.1 y1.2.2.2.2.2.2.2.2.2.2.2.2.2.2.2.2.2.2.2.2.2.2.2.2.2.1 y1.2.2.2.2.2.2.2.2.2.2.2.2.2.2.2.2.2.2.2.2.2.2.2.2.2.2.1 y1.2.2.2.2.2.2.2.2.2.2.2.2.2.2.2.2.2.2.2.2.2.2.2.2.2.2.2.1, ())
   | .ret y1 =>
   none := zl (by kernel_rfl)
theorem zad (s1 : Int) (s2 : Int) (s3 : Int) (s4 : zb) (s5 : Int) (s6 : Int) (s7 : Int) (s8 : Int) (s9 : Int) (s10 : Int) (s11 : Int) (s12 : Int) (s13 : Int) (s14 : BitVec 64) (s15 : Int) (s16 : zr) (s17 : Int) (s18 : Int) (s19 : Bool) (s20 : Bool) (s21 : Int) (s22 : Int) (s23 : Int) (s24 : Int) (s25 : zu) (s26 : List (List Int)) (s27 : List (List Int)) (s28 : List (List zi)) (s29 : List zj) (s30 : List (List Int)) (s31 : List (BitVec 64)) (s32 : List (List Int)) (s33 : List Int) (s34 : List Int) (s35 : List zg) (s36 : List zc) : vX (s1, s2, s3, s4, s5, s6, s7, s8, s9, s10, s11, s12, s13, s14, s15, s16, s17, s18, s19, s20, s21, s22, s23, s24, s25, s26, s27, s28, s29, s30, s31, s32, s33, s34, s35, s36, ()) =
 bif decide (s3 < s2) then
  (ZZ s4 s1).bind fun y1 =>
  some (.again (s1, s2, w64 (s3 + 1), y1.1, s5, s6, s7, s8, s9, s10, s11, s12, s13, s14, s15, s16, s17, s18, s19, s20, s21, s22, s23, s24, s25, s26, s27, s28, s29, s30, s31, s32, s33, s34, s35, s36, ()))
 else
  some (.brk (s4, s5, s6, s7, s8, s9, s10, s11, s12, s13, s14, s15, s16, s17, s18, s19, s20, s21, s22, s23, s24, s25, s26, s27, s28, s29, s30, s31, s32, s33, s34, s35, s36, ())) := by kernel_rfl
theorem zkQ (a1 : zb) (a2 : Int) (a3 : Int) : wb a1 a2 a3 =
 (zU vX (a2, a3, 0, a1, 0, 0, 0, 0, 0, 0, 0, 0, 0, 0#64, 0, zr.mk 0#64 0#64, 0, 0, false, false, 0, 0, 0, 0, zu.mk 0 0, ([] : List (List Int)), ([] : List (List Int)), ([] : List (List zi)), ([] : List zj), ([] : List (List Int)), ([] : List (BitVec 64)), ([] : List (List Int)), ([] : List Int), ([] : List Int), ([] : List zg), ([] : List zc), ())).bind fun st => match st with
   | .again _ => none
   | .brk y1 =>
   some (y1.1, ())
   | .ret y1 =>
   none := zl (by kernel_rfl)
theorem zhl  : WT  =
 (zaa (([] : List (List zi)))).bind fun y1 =>
 (ze1 y1.1).bind fun y2 =>
 (wb y2.1 1 4).bind fun y3 =>
 (wb y2.1 1 11).bind fun y4 =>
 (wb y2.1 1 100).bind fun y5 =>
 bif !(decide (((y2.1.Ws.length : Int)) = 1)) then
  some (false, ())
 else
  bif !(decide (((y3.1.Ws.length : Int)) = 1)) then
   some (false, ())
  else
   bif !(decide (((y4.1.Ws.length : Int)) = 1)) then
    some (false, ())
   else
    bif !(decide (((y5.1.Ws.length : Int)) = 1)) then
     some (false, ())
    else
     (idx y3.1.Ws 0).bind fun x6 =>
     bif decide (x6.PC = 2) then
      (idx y3.1.Ws 0).bind fun x7 =>
      bif decide (x7.C.Kind = 2) then
       (idx y4.1.Ws 0).bind fun x8 =>
       bif decide (x8.PC = 7) then
        (idx y4.1.Ws 0).bind fun x9 =>
        bif decide (((x9.Batch.length : Int)) = 1) then
         (idx y4.1.Ws 0).bind fun x10 =>
         bif decide (x10.Bin = 0) then
          bif decide (y5.1.Work = 0) then
           bif (decide (y5.1.T.Marks = 3#64)) && (decide (y5.1.T.Black = 3#64)) then
            bif decide (y5.1.L.Pool = 2) then
             bif decide (y5.1.L.Scanned = 2) then
              (ZZ y2.1 2).bind fun y11 =>
              (zdI y11.1 y2.1).bind fun y12 =>
              bif y12.1 then
               (ZZ y2.1 0).bind fun y13 =>
               (zdI y13.1 y2.1).bind fun y14 =>
               bif y14.1 then
                some (!y5.1.Flag, ())
               else
                some (false, ())
              else
               some (false, ())
             else
              some (false, ())
            else
             some (false, ())
           else
            some (false, ())
          else
           some (false, ())
         else
          some (false, ())
        else
         some (false, ())
       else
        some (false, ())
      else
       some (false, ())
     else
      some (false, ()) := zl (by kernel_rfl)
theorem zdP (a1 : zE) : zv a1 =
 bif decide (((a1.L.length : Int)) ≤ a1.At) then
  some (0, a1, ())
 else
  (idx a1.L (w64 ((w64 (a1.At + 1)) - 1))).bind fun x1 =>
  some ((x1.toNat : Int), { a1 with At := w64 (a1.At + 1) }, ()) := zl (by kernel_rfl)
theorem zfq (a1 : Int) (a2 : Int) (a3 : zE) : Y2 a1 a2 a3 =
 (zv a3).bind fun y1 =>
 (vd ([1, 1, 2, 2, 2, 3, 4, 5] : List Int) (y1.1.tmod 8)).bind fun n2 =>
 (([1, 1, 2, 2, 2, 3, 4, 5] : List Int)[n2]?).bind fun x3 =>
 (zv y1.2.1).bind fun y4 =>
 bif decide (a1 = 0) then
  none
 else
  bif decide (x3 = 1) then
   (zv y4.2.1).bind fun y5 =>
   bif decide (a1 = 0) then
    none
   else
    bif decide (x3 < 3) then
     (zv y5.2.1).bind fun y6 =>
     bif decide (a2 = 0) then
      none
     else
      some (zi.mk x3 (y4.1.tmod a1) (y5.1.tmod a1) (y6.1.tmod a2), y6.2.1, ())
    else
     some (zi.mk x3 (y4.1.tmod a1) (y5.1.tmod a1) 0, y5.2.1, ())
  else
   bif decide (x3 = 2) then
    (zv y4.2.1).bind fun y7 =>
    bif decide (a1 = 0) then
     none
    else
     bif decide (x3 < 3) then
      (zv y7.2.1).bind fun y8 =>
      bif decide (a2 = 0) then
       none
      else
       some (zi.mk x3 (y4.1.tmod a1) (y7.1.tmod a1) (y8.1.tmod a2), y8.2.1, ())
     else
      some (zi.mk x3 (y4.1.tmod a1) (y7.1.tmod a1) 0, y7.2.1, ())
   else
    bif decide (x3 = 4) then
     (zv y4.2.1).bind fun y9 =>
     bif decide (a1 = 0) then
      none
     else
      bif decide (x3 < 3) then
       (zv y9.2.1).bind fun y10 =>
       bif decide (a2 = 0) then
        none
       else
        some (zi.mk x3 (y4.1.tmod a1) (y9.1.tmod a1) (y10.1.tmod a2), y10.2.1, ())
      else
       some (zi.mk x3 (y4.1.tmod a1) (y9.1.tmod a1) 0, y9.2.1, ())
    else
     bif decide (x3 < 3) then
      (zv y4.2.1).bind fun y11 =>
      bif decide (a2 = 0) then
       none
      else
       some (zi.mk x3 (y4.1.tmod a1) 0 (y11.1.tmod a2), y11.2.1, ())
     else
      some (zi.mk x3 (y4.1.tmod a1) 0 0, y4.2.1, ()) := zl (by kernel_rfl)
end Go.Pe.G
namespace Go.Pe.G
open Go.Pe
theorem ziq (s1 : Int) (s2 : Int) (s3 : Int) (s4 : Int) (s5 : Int) (s6 : Int) (s7 : Int) (s8 : Int) (s9 : Int) (s10 : Int) (s11 : Int) (s12 : BitVec 64) (s13 : zE) (s14 : Int) (s15 : Int) (s16 : Int) (s17 : Int) (s18 : Int) (s19 : Int) (s20 : Int) (s21 : Int) (s22 : Int) (s23 : BitVec 64) (s24 : List (List Int)) (s25 : List (List Int)) (s26 : List (List zi)) (s27 : List zj) (s28 : List (List Int)) (s29 : List (List Int)) (s30 : List (List zi)) (s31 : List zj) : Yx (s1, s2, s3, s4, s5, s6, s7, s8, s9, s10, s11, s12, s13, s14, s15, s16, s17, s18, s19, s20, s21, s22, s23, s24, s25, s26, s27, s28, s29, s30, s31, ()) =
 bif decide (s2 < s1) then
  (zU ZR (s1, s2, 0, s3, s4, s5, s6, s7, s8, s9, s10, s11, s12, s13, s14, s15, s16, s17, s18, s19, s20, s21, s22, s23, ([] : List Int), s24, s25, s26, s27, s28, s29, s30, s31, ())).bind fun st => match st with
    | .again _ => none
    | .brk y1 =>
    (yZ (y1.2.2.2.2.2.2.2.2.2.2.2.2.2.2.2.2.2.2.2.2.2.2.2.2.2.2.2.2.1 ++ (([y1.2.2.2.2.2.2.2.2.2.2.2.2.2.2.2.2.2.2.2.2.2.2.2.1] : List (List Int))))).bind fun l2 =>
    some (.again (y1.1, w64 (y1.2.1 + 1), y1.2.2.1, y1.2.2.2.1, y1.2.2.2.2.1, y1.2.2.2.2.2.1, y1.2.2.2.2.2.2.1, y1.2.2.2.2.2.2.2.1, y1.2.2.2.2.2.2.2.2.1, y1.2.2.2.2.2.2.2.2.2.1, y1.2.2.2.2.2.2.2.2.2.2.1, y1.2.2.2.2.2.2.2.2.2.2.2.1, y1.2.2.2.2.2.2.2.2.2.2.2.2.1, y1.2.2.2.2.2.2.2.2.2.2.2.2.2.1, y1.2.2.2.2.2.2.2.2.2.2.2.2.2.2.1, y1.2.2.2.2.2.2.2.2.2.2.2.2.2.2.2.1, y1.2.2.2.2.2.2.2.2.2.2.2.2.2.2.2.2.1, y1.2.2.2.2.2.2.2.2.2.2.2.2.2.2.2.2.2.1, y1.2.2.2.2.2.2.2.2.2.2.2.2.2.2.2.2.2.2.1, y1.2.2.2.2.2.2.2.2.2.2.2.2.2.2.2.2.2.2.2.1, y1.2.2.2.2.2.2.2.2.2.2.2.2.2.2.2.2.2.2.2.2.1, y1.2.2.2.2.2.2.2.2.2.2.2.2.2.2.2.2.2.2.2.2.2.1, y1.2.2.2.2.2.2.2.2.2.2.2.2.2.2.2.2.2.2.2.2.2.2.1, y1.2.2.2.2.2.2.2.2.2.2.2.2.2.2.2.2.2.2.2.2.2.2.2.2.1, y1.2.2.2.2.2.2.2.2.2.2.2.2.2.2.2.2.2.2.2.2.2.2.2.2.2.1, y1.2.2.2.2.2.2.2.2.2.2.2.2.2.2.2.2.2.2.2.2.2.2.2.2.2.2.1, y1.2.2.2.2.2.2.2.2.2.2.2.2.2.2.2.2.2.2.2.2.2.2.2.2.2.2.2.1, l2, y1.2.2.2.2.2.2.2.2.2.2.2.2.2.2.2.2.2.2.2.2.2.2.2.2.2.2.2.2.2.1, y1.2.2.2.2.2.2.2.2.2.2.2.2.2.2.2.2.2.2.2.2.2.2.2.2.2.2.2.2.2.2.1, y1.2.2.2.2.2.2.2.2.2.2.2.2.2.2.2.2.2.2.2.2.2.2.2.2.2.2.2.2.2.2.2.1, ()))
    | .ret y1 =>
    some (.ret (()))
 else
  some (.brk (s1, s3, s4, s5, s6, s7, s8, s9, s10, s11, s12, s13, s14, s15, s16, s17, s18, s19, s20, s21, s22, s23, s24, s25, s26, s27, s28, s29, s30, s31, ())) := by kernel_rfl
theorem zhE (s1 : Int) (s2 : Int) (s3 : Int) (s4 : Int) (s5 : Int) (s6 : Int) (s7 : Int) (s8 : Int) (s9 : Int) (s10 : Int) (s11 : Int) (s12 : Int) (s13 : BitVec 64) (s14 : zE) (s15 : Int) (s16 : Int) (s17 : Int) (s18 : Int) (s19 : Int) (s20 : Int) (s21 : Int) (s22 : Int) (s23 : Int) (s24 : BitVec 64) (s25 : List Int) (s26 : List (List Int)) (s27 : List (List Int)) (s28 : List (List zi)) (s29 : List zj) (s30 : List (List Int)) (s31 : List (List Int)) (s32 : List (List zi)) (s33 : List zj) : ZR (s1, s2, s3, s4, s5, s6, s7, s8, s9, s10, s11, s12, s13, s14, s15, s16, s17, s18, s19, s20, s21, s22, s23, s24, s25, s26, s27, s28, s29, s30, s31, s32, s33, ()) =
 bif decide (s3 < s23) then
  (zv s14).bind fun y1 =>
  bif decide ((w64 (s1 + 1)) = 0) then
   none
  else
   (yZ (s25 ++ (([(y1.1.tmod (w64 (s1 + 1)))] : List Int)))).bind fun l2 =>
   some (.again (s1, s2, w64 (s3 + 1), s4, s5, s6, s7, s8, s9, s10, s11, s12, s13, y1.2.1, s15, s16, s17, s18, s19, s20, s21, s22, s23, s24, l2, s26, s27, s28, s29, s30, s31, s32, s33, ()))
 else
  some (.brk (s1, s2, s4, s5, s6, s7, s8, s9, s10, s11, s12, s13, s14, s15, s16, s17, s18, s19, s20, s21, s22, s23, s24, s25, s26, s27, s28, s29, s30, s31, s32, s33, ())) := by kernel_rfl
theorem zg0 (s1 : Int) (s2 : Int) (s3 : Int) (s4 : Int) (s5 : Int) (s6 : Int) (s7 : Int) (s8 : Int) (s9 : Int) (s10 : Int) (s11 : Int) (s12 : BitVec 64) (s13 : zE) (s14 : Int) (s15 : Int) (s16 : Int) (s17 : Int) (s18 : Int) (s19 : Int) (s20 : Int) (s21 : Int) (s22 : Int) (s23 : BitVec 64) (s24 : List (List Int)) (s25 : List (List Int)) (s26 : List (List zi)) (s27 : List zj) (s28 : List (List Int)) (s29 : List (List Int)) (s30 : List (List zi)) (s31 : List zj) : ZN (s1, s2, s3, s4, s5, s6, s7, s8, s9, s10, s11, s12, s13, s14, s15, s16, s17, s18, s19, s20, s21, s22, s23, s24, s25, s26, s27, s28, s29, s30, s31, ()) =
 bif decide (s2 < s15) then
  (zU ZM (s1, s2, 0, s3, s4, s5, s6, s7, s8, s9, s10, s11, s12, s13, s14, s15, s16, s17, s18, s19, s20, s21, s22, s23, ([] : List Int), s24, s25, s26, s27, s28, s29, s30, s31, ())).bind fun st => match st with
    | .again _ => none
    | .brk y1 =>
    bif decide (((y1.2.2.2.2.2.2.2.2.2.2.2.2.2.2.2.2.2.2.2.2.2.2.2.1.length : Int)) = 0) then
     (zv y1.2.2.2.2.2.2.2.2.2.2.2.2.1).bind fun y2 =>
     (zU v8 (y1.1, y1.2.1, y2.1.tmod 8, y1.2.2.1, y1.2.2.2.1, y1.2.2.2.2.1, y1.2.2.2.2.2.1, y1.2.2.2.2.2.2.1, y1.2.2.2.2.2.2.2.1, y1.2.2.2.2.2.2.2.2.1, y1.2.2.2.2.2.2.2.2.2.1, y1.2.2.2.2.2.2.2.2.2.2.1, y1.2.2.2.2.2.2.2.2.2.2.2.1, y2.2.1, y1.2.2.2.2.2.2.2.2.2.2.2.2.2.1, y1.2.2.2.2.2.2.2.2.2.2.2.2.2.2.1, y1.2.2.2.2.2.2.2.2.2.2.2.2.2.2.2.1, y1.2.2.2.2.2.2.2.2.2.2.2.2.2.2.2.2.1, y1.2.2.2.2.2.2.2.2.2.2.2.2.2.2.2.2.2.1, y1.2.2.2.2.2.2.2.2.2.2.2.2.2.2.2.2.2.2.1, y1.2.2.2.2.2.2.2.2.2.2.2.2.2.2.2.2.2.2.2.1, y1.2.2.2.2.2.2.2.2.2.2.2.2.2.2.2.2.2.2.2.2.1, y1.2.2.2.2.2.2.2.2.2.2.2.2.2.2.2.2.2.2.2.2.2.1, y1.2.2.2.2.2.2.2.2.2.2.2.2.2.2.2.2.2.2.2.2.2.2.1, ([0] : List Int), ([] : List zi), y1.2.2.2.2.2.2.2.2.2.2.2.2.2.2.2.2.2.2.2.2.2.2.2.2.1, y1.2.2.2.2.2.2.2.2.2.2.2.2.2.2.2.2.2.2.2.2.2.2.2.2.2.1, y1.2.2.2.2.2.2.2.2.2.2.2.2.2.2.2.2.2.2.2.2.2.2.2.2.2.2.1, y1.2.2.2.2.2.2.2.2.2.2.2.2.2.2.2.2.2.2.2.2.2.2.2.2.2.2.2.1, y1.2.2.2.2.2.2.2.2.2.2.2.2.2.2.2.2.2.2.2.2.2.2.2.2.2.2.2.2.1, y1.2.2.2.2.2.2.2.2.2.2.2.2.2.2.2.2.2.2.2.2.2.2.2.2.2.2.2.2.2.1, y1.2.2.2.2.2.2.2.2.2.2.2.2.2.2.2.2.2.2.2.2.2.2.2.2.2.2.2.2.2.2.1, y1.2.2.2.2.2.2.2.2.2.2.2.2.2.2.2.2.2.2.2.2.2.2.2.2.2.2.2.2.2.2.2.1, ())).bind fun st => match st with
       | .again _ => none
       | .brk y3 =>
       (yZ (y3.2.2.2.2.2.2.2.2.2.2.2.2.2.2.2.2.2.2.2.2.2.2.2.2.2.2.2.2.2.2.1 ++ (([y3.2.2.2.2.2.2.2.2.2.2.2.2.2.2.2.2.2.2.2.2.2.2.2.1] : List (List Int))))).bind fun l4 =>
       (yZ (y3.2.2.2.2.2.2.2.2.2.2.2.2.2.2.2.2.2.2.2.2.2.2.2.2.2.2.2.2.2.2.2.1 ++ (([y3.2.2.2.2.2.2.2.2.2.2.2.2.2.2.2.2.2.2.2.2.2.2.2.2.1] : List (List zi))))).bind fun l5 =>
       some (.again (y3.1, w64 (y3.2.1 + 1), y3.2.2.1, y3.2.2.2.1, y3.2.2.2.2.1, y3.2.2.2.2.2.1, y3.2.2.2.2.2.2.1, y3.2.2.2.2.2.2.2.1, y3.2.2.2.2.2.2.2.2.1, y3.2.2.2.2.2.2.2.2.2.1, y3.2.2.2.2.2.2.2.2.2.2.1, y3.2.2.2.2.2.2.2.2.2.2.2.1, y3.2.2.2.2.2.2.2.2.2.2.2.2.1, y3.2.2.2.2.2.2.2.2.2.2.2.2.2.1, y3.2.2.2.2.2.2.2.2.2.2.2.2.2.2.1, y3.2.2.2.2.2.2.2.2.2.2.2.2.2.2.2.1, y3.2.2.2.2.2.2.2.2.2.2.2.2.2.2.2.2.1, y3.2.2.2.2.2.2.2.2.2.2.2.2.2.2.2.2.2.1, y3.2.2.2.2.2.2.2.2.2.2.2.2.2.2.2.2.2.2.1, y3.2.2.2.2.2.2.2.2.2.2.2.2.2.2.2.2.2.2.2.1, y3.2.2.2.2.2.2.2.2.2.2.2.2.2.2.2.2.2.2.2.2.1, y3.2.2.2.2.2.2.2.2.2.2.2.2.2.2.2.2.2.2.2.2.2.1, y3.2.2.2.2.2.2.2.2.2.2.2.2.2.2.2.2.2.2.2.2.2.2.1, y3.2.2.2.2.2.2.2.2.2.2.2.2.2.2.2.2.2.2.2.2.2.2.2.2.2.1, y3.2.2.2.2.2.2.2.2.2.2.2.2.2.2.2.2.2.2.2.2.2.2.2.2.2.2.1, y3.2.2.2.2.2.2.2.2.2.2.2.2.2.2.2.2.2.2.2.2.2.2.2.2.2.2.2.1, y3.2.2.2.2.2.2.2.2.2.2.2.2.2.2.2.2.2.2.2.2.2.2.2.2.2.2.2.2.1, y3.2.2.2.2.2.2.2.2.2.2.2.2.2.2.2.2.2.2.2.2.2.2.2.2.2.2.2.2.2.1, l4, l5, y3.2.2.2.2.2.2.2.2.2.2.2.2.2.2.2.2.2.2.2.2.2.2.2.2.2.2.2.2.2.2.2.2.1, ()))
       | .ret y3 =>
       some (.ret (()))
    else
     (zv y1.2.2.2.2.2.2.2.2.2.2.2.2.1).bind fun y6 =>
     (zU v8 (y1.1, y1.2.1, y6.1.tmod 8, y1.2.2.1, y1.2.2.2.1, y1.2.2.2.2.1, y1.2.2.2.2.2.1, y1.2.2.2.2.2.2.1, y1.2.2.2.2.2.2.2.1, y1.2.2.2.2.2.2.2.2.1, y1.2.2.2.2.2.2.2.2.2.1, y1.2.2.2.2.2.2.2.2.2.2.1, y1.2.2.2.2.2.2.2.2.2.2.2.1, y6.2.1, y1.2.2.2.2.2.2.2.2.2.2.2.2.2.1, y1.2.2.2.2.2.2.2.2.2.2.2.2.2.2.1, y1.2.2.2.2.2.2.2.2.2.2.2.2.2.2.2.1, y1.2.2.2.2.2.2.2.2.2.2.2.2.2.2.2.2.1, y1.2.2.2.2.2.2.2.2.2.2.2.2.2.2.2.2.2.1, y1.2.2.2.2.2.2.2.2.2.2.2.2.2.2.2.2.2.2.1, y1.2.2.2.2.2.2.2.2.2.2.2.2.2.2.2.2.2.2.2.1, y1.2.2.2.2.2.2.2.2.2.2.2.2.2.2.2.2.2.2.2.2.1, y1.2.2.2.2.2.2.2.2.2.2.2.2.2.2.2.2.2.2.2.2.2.1, y1.2.2.2.2.2.2.2.2.2.2.2.2.2.2.2.2.2.2.2.2.2.2.1, y1.2.2.2.2.2.2.2.2.2.2.2.2.2.2.2.2.2.2.2.2.2.2.2.1, ([] : List zi), y1.2.2.2.2.2.2.2.2.2.2.2.2.2.2.2.2.2.2.2.2.2.2.2.2.1, y1.2.2.2.2.2.2.2.2.2.2.2.2.2.2.2.2.2.2.2.2.2.2.2.2.2.1, y1.2.2.2.2.2.2.2.2.2.2.2.2.2.2.2.2.2.2.2.2.2.2.2.2.2.2.1, y1.2.2.2.2.2.2.2.2.2.2.2.2.2.2.2.2.2.2.2.2.2.2.2.2.2.2.2.1, y1.2.2.2.2.2.2.2.2.2.2.2.2.2.2.2.2.2.2.2.2.2.2.2.2.2.2.2.2.1, y1.2.2.2.2.2.2.2.2.2.2.2.2.2.2.2.2.2.2.2.2.2.2.2.2.2.2.2.2.2.1, y1.2.2.2.2.2.2.2.2.2.2.2.2.2.2.2.2.2.2.2.2.2.2.2.2.2.2.2.2.2.2.1, y1.2.2.2.2.2.2.2.2.2.2.2.2.2.2.2.2.2.2.2.2.2.2.2.2.2.2.2.2.2.2.2.1, ())).bind fun st => match st with
       | .again _ => none
       | .brk y7 =>
       (yZ (y7.2.2.2.2.2.2.2.2.2.2.2.2.2.2.2.2.2.2.2.2.2.2.2.2.2.2.2.2.2.2.1 ++ (([y7.2.2.2.2.2.2.2.2.2.2.2.2.2.2.2.2.2.2.2.2.2.2.2.1] : List (List Int))))).bind fun l8 =>
       (yZ (y7.2.2.2.2.2.2.2.2.2.2.2.2.2.2.2.2.2.2.2.2.2.2.2.2.2.2.2.2.2.2.2.1 ++ (([y7.2.2.2.2.2.2.2.2.2.2.2.2.2.2.2.2.2.2.2.2.2.2.2.2.1] : List (List zi))))).bind fun l9 =>
       some (.again (y7.1, w64 (y7.2.1 + 1), y7.2.2.1, y7.2.2.2.1, y7.2.2.2.2.1, y7.2.2.2.2.2.1, y7.2.2.2.2.2.2.1, y7.2.2.2.2.2.2.2.1, y7.2.2.2.2.2.2.2.2.1, y7.2.2.2.2.2.2.2.2.2.1, y7.2.2.2.2.2.2.2.2.2.2.1, y7.2.2.2.2.2.2.2.2.2.2.2.1, y7.2.2.2.2.2.2.2.2.2.2.2.2.1, y7.2.2.2.2.2.2.2.2.2.2.2.2.2.1, y7.2.2.2.2.2.2.2.2.2.2.2.2.2.2.1, y7.2.2.2.2.2.2.2.2.2.2.2.2.2.2.2.1, y7.2.2.2.2.2.2.2.2.2.2.2.2.2.2.2.2.1, y7.2.2.2.2.2.2.2.2.2.2.2.2.2.2.2.2.2.1, y7.2.2.2.2.2.2.2.2.2.2.2.2.2.2.2.2.2.2.1, y7.2.2.2.2.2.2.2.2.2.2.2.2.2.2.2.2.2.2.2.1, y7.2.2.2.2.2.2.2.2.2.2.2.2.2.2.2.2.2.2.2.2.1, y7.2.2.2.2.2.2.2.2.2.2.2.2.2.2.2.2.2.2.2.2.2.1, y7.2.2.2.2.2.2.2.2.2.2.2.2.2.2.2.2.2.2.2.2.2.2.1, y7.2.2.2.2.2.2.2.2.2.2.2.2.2.2.2.2.2.2.2.2.2.2.2.2.2.1, y7.2.2.2.2.2.2.2.2.2.2.2.2.2.2.2.2.2.2.2.2.2.2.2.2.2.2.1, y7.2.2.2.2.2.2.2.2.2.2.2.2.2.2.2.2.2.2.2.2.2.2.2.2.2.2.2.1, y7.2.2.2.2.2.2.2.2.2.2.2.2.2.2.2.2.2.2.2.2.2.2.2.2.2.2.2.2.1, y7.2.2.2.2.2.2.2.2.2.2.2.2.2.2.2.2.2.2.2.2.2.2.2.2.2.2.2.2.2.1, l8, l9, y7.2.2.2.2.2.2.2.2.2.2.2.2.2.2.2.2.2.2.2.2.2.2.2.2.2.2.2.2.2.2.2.2.1, ()))
       | .ret y7 =>
       some (.ret (()))
    | .ret y1 =>
    some (.ret (()))
 else
  some (.brk (s3, s4, s5, s6, s7, s8, s9, s10, s11, s12, s14, s15, s16, s17, s18, s19, s20, s21, s22, s23, s24, s25, s26, s27, s28, s29, s30, s31, ())) := by kernel_rfl
theorem zhZ (s1 : Int) (s2 : Int) (s3 : Int) (s4 : Int) (s5 : Int) (s6 : Int) (s7 : Int) (s8 : Int) (s9 : Int) (s10 : Int) (s11 : Int) (s12 : Int) (s13 : BitVec 64) (s14 : zE) (s15 : Int) (s16 : Int) (s17 : Int) (s18 : Int) (s19 : Int) (s20 : Int) (s21 : Int) (s22 : Int) (s23 : Int) (s24 : BitVec 64) (s25 : List Int) (s26 : List (List Int)) (s27 : List (List Int)) (s28 : List (List zi)) (s29 : List zj) (s30 : List (List Int)) (s31 : List (List Int)) (s32 : List (List zi)) (s33 : List zj) : ZM (s1, s2, s3, s4, s5, s6, s7, s8, s9, s10, s11, s12, s13, s14, s15, s16, s17, s18, s19, s20, s21, s22, s23, s24, s25, s26, s27, s28, s29, s30, s31, s32, s33, ()) =
 (zv s14).bind fun y1 =>
 bif decide (s3 < (w64 (1 + (y1.1.tmod 3)))) then
  (zv y1.2.1).bind fun y2 =>
  bif decide ((w64 (s1 + 1)) = 0) then
   none
  else
   (yZ (s25 ++ (([(y2.1.tmod (w64 (s1 + 1)))] : List Int)))).bind fun l3 =>
   some (.again (s1, s2, w64 (s3 + 1), s4, s5, s6, s7, s8, s9, s10, s11, s12, s13, y2.2.1, s15, s16, s17, s18, s19, s20, s21, s22, s23, s24, l3, s26, s27, s28, s29, s30, s31, s32, s33, ()))
 else
  some (.brk (s1, s2, s4, s5, s6, s7, s8, s9, s10, s11, s12, s13, y1.2.1, s15, s16, s17, s18, s19, s20, s21, s22, s23, s24, s25, s26, s27, s28, s29, s30, s31, s32, s33, ())) := by kernel_rfl
theorem zhI (s1 : Int) (s2 : Int) (s3 : Int) (s4 : Int) (s5 : Int) (s6 : Int) (s7 : Int) (s8 : Int) (s9 : Int) (s10 : Int) (s11 : Int) (s12 : Int) (s13 : BitVec 64) (s14 : zE) (s15 : Int) (s16 : Int) (s17 : Int) (s18 : Int) (s19 : Int) (s20 : Int) (s21 : Int) (s22 : Int) (s23 : Int) (s24 : BitVec 64) (s25 : List Int) (s26 : List zi) (s27 : List (List Int)) (s28 : List (List Int)) (s29 : List (List zi)) (s30 : List zj) (s31 : List (List Int)) (s32 : List (List Int)) (s33 : List (List zi)) (s34 : List zj) : v8 (s1, s2, s3, s4, s5, s6, s7, s8, s9, s10, s11, s12, s13, s14, s15, s16, s17, s18, s19, s20, s21, s22, s23, s24, s25, s26, s27, s28, s29, s30, s31, s32, s33, s34, ()) =
 bif decide (0 < s3) then
  (Y2 ((s25.length : Int)) s23 s14).bind fun y1 =>
  (yZ (s26 ++ ([y1.1] : List zi))).bind fun l2 =>
  some (.again (s1, s2, w64 (s3 - 1), s4, s5, s6, s7, s8, s9, s10, s11, s12, s13, y1.2.1, s15, s16, s17, s18, s19, s20, s21, s22, s23, s24, s25, l2, s27, s28, s29, s30, s31, s32, s33, s34, ()))
 else
  some (.brk (s1, s2, s4, s5, s6, s7, s8, s9, s10, s11, s12, s13, s14, s15, s16, s17, s18, s19, s20, s21, s22, s23, s24, s25, s26, s27, s28, s29, s30, s31, s32, s33, s34, ())) := by kernel_rfl
theorem zlE (a1 : List (BitVec 8)) : zbI a1 =
 (cut a1 0 (bif decide (90 < ((a1.length : Int))) then 90 else ((a1.length : Int)))).bind fun l1 =>
 (zv (zE.mk l1 0)).bind fun y2 =>
 (zv y2.2.1).bind fun y3 =>
 (zv y3.2.1).bind fun y4 =>
 (zv y4.2.1).bind fun y5 =>
 (zv y5.2.1).bind fun y6 =>
 (zv y6.2.1).bind fun y7 =>
 (zv y7.2.1).bind fun y8 =>
 (zv y8.2.1).bind fun y9 =>
 (zv y9.2.1).bind fun y10 =>
 (zv y10.2.1).bind fun y11 =>
 (zU Yx (w64 (1 + (y10.1.tmod 6)), 0, 0, 0, 0, 0, 0, 0, 0, 0, 0, 0#64, y11.2.1, w64 (1 + (y2.1.tmod 3)), y3.1.tmod 3, w64 (1 + (y4.1.tmod 3)), w64 (1 + (y5.1.tmod 2)), w64 (1 + (y6.1.tmod 3)), w64 ((w64 (1 + (y10.1.tmod 6))) + (y11.1.tmod 4)), y7.1.tmod 4, y8.1.tmod 4, w64 (1 + (y9.1.tmod 2)), 0#64, ([] : List (List Int)), ([] : List (List Int)), ([] : List (List zi)), ([] : List zj), ([] : List (List Int)), ([] : List (List Int)), ([] : List (List zi)), ([] : List zj), ())).bind fun st => match st with
   | .again _ => none
   | .brk y12 =>
   (zv y12.2.2.2.2.2.2.2.2.2.2.2.1).bind fun y13 =>
   bif decide ((w64 (y12.1 + 1)) = 0) then
    none
   else
    (zcS 0#64 (y13.1.tmod (w64 (y12.1 + 1)))).bind fun y14 =>
    (zU ZN (y12.1, 0, y12.2.1, y12.2.2.1, y12.2.2.2.1, y12.2.2.2.2.1, y12.2.2.2.2.2.1, y12.2.2.2.2.2.2.1, y12.2.2.2.2.2.2.2.1, y12.2.2.2.2.2.2.2.2.1, y12.2.2.2.2.2.2.2.2.2.1, y12.2.2.2.2.2.2.2.2.2.2.1, y13.2.1, y12.2.2.2.2.2.2.2.2.2.2.2.2.1, y12.2.2.2.2.2.2.2.2.2.2.2.2.2.1, y12.2.2.2.2.2.2.2.2.2.2.2.2.2.2.1, y12.2.2.2.2.2.2.2.2.2.2.2.2.2.2.2.1, y12.2.2.2.2.2.2.2.2.2.2.2.2.2.2.2.2.1, y12.2.2.2.2.2.2.2.2.2.2.2.2.2.2.2.2.2.1, y12.2.2.2.2.2.2.2.2.2.2.2.2.2.2.2.2.2.2.1, y12.2.2.2.2.2.2.2.2.2.2.2.2.2.2.2.2.2.2.2.1, y12.2.2.2.2.2.2.2.2.2.2.2.2.2.2.2.2.2.2.2.2.1, y14.1, y12.2.2.2.2.2.2.2.2.2.2.2.2.2.2.2.2.2.2.2.2.2.2.1, y12.2.2.2.2.2.2.2.2.2.2.2.2.2.2.2.2.2.2.2.2.2.2.2.1, y12.2.2.2.2.2.2.2.2.2.2.2.2.2.2.2.2.2.2.2.2.2.2.2.2.1, y12.2.2.2.2.2.2.2.2.2.2.2.2.2.2.2.2.2.2.2.2.2.2.2.2.2.1, y12.2.2.2.2.2.2.2.2.2.2.2.2.2.2.2.2.2.2.2.2.2.2.2.2.2.2.1, y12.2.2.2.2.2.2.2.2.2.2.2.2.2.2.2.2.2.2.2.2.2.2.2.2.2.2.2.1, y12.2.2.2.2.2.2.2.2.2.2.2.2.2.2.2.2.2.2.2.2.2.2.2.2.2.2.2.2.1, y12.2.2.2.2.2.2.2.2.2.2.2.2.2.2.2.2.2.2.2.2.2.2.2.2.2.2.2.2.2.1, ())).bind fun st => match st with
      | .again _ => none
      | .brk y15 =>
      some (zd.mk y15.2.2.2.2.2.2.2.2.2.2.1 y15.2.2.2.2.2.2.2.2.2.2.2.1 y15.2.2.2.2.2.2.2.2.2.2.2.2.1 y15.2.2.2.2.2.2.2.2.2.2.2.2.2.1 y15.2.2.2.2.2.2.2.2.2.2.2.2.2.2.1 y15.2.2.2.2.2.2.2.2.2.2.2.2.2.2.2.1 y15.2.2.2.2.2.2.2.2.2.2.2.2.2.2.2.2.1 y15.2.2.2.2.2.2.2.2.2.2.2.2.2.2.2.2.2.1 (zF.mk y15.2.2.2.2.2.2.2.2.2.2.2.2.2.2.2.2.2.2.1 y15.2.2.2.2.2.2.2.2.2.2.2.2.2.2.2.2.2.2.2.2.2.2.2.2.1) y15.2.2.2.2.2.2.2.2.2.2.2.2.2.2.2.2.2.2.2.1 y15.2.2.2.2.2.2.2.2.2.2.2.2.2.2.2.2.2.2.2.2.2.2.2.2.2.1 y15.2.2.2.2.2.2.2.2.2.2.2.2.2.2.2.2.2.2.2.2.2.2.2.2.2.2.1 y15.2.2.2.2.2.2.2.2.2.2.2.2.2.2.2.2.2.2.2.2.2.2.2.2.2.2.2.1, ())
      | .ret y15 =>
      none
   | .ret y12 =>
   none := zl (by kernel_rfl)
theorem za8 (a1 : zF) : VQ a1 =
 some (zw.mk a1.Slots a1.Objs, ()) := zl (by kernel_rfl)
theorem Vg (s1 : List zj) (s2 : Int) (s3 : List zx) : wY (s1, s2, s3, ()) =
 bif decide (s2 < ((s1.length : Int))) then
  (idx s1 s2).bind fun x1 =>
  (idx s1 s2).bind fun x2 =>
  (yZ (s3 ++ (([(zx.mk x1.Kind x2.N)] : List zx)))).bind fun l3 =>
  some (.again (s1, w64 (s2 + 1), l3, ()))
 else
  some (.brk (s3, ())) := by kernel_rfl
theorem zhj (a1 : List zj) : W3 a1 =
 (zU wY (a1, 0, ([] : List zx), ())).bind fun st => match st with
   | .again _ => none
   | .brk y1 =>
   some (y1.1, ())
   | .ret y1 =>
   none := zl (by kernel_rfl)
theorem UY (s1 : List zi) (s2 : Int) (s3 : List zC) : vD (s1, s2, s3, ()) =
 bif decide (s2 < ((s1.length : Int))) then
  (idx s1 s2).bind fun x1 =>
  (idx s1 s2).bind fun x2 =>
  (idx s1 s2).bind fun x3 =>
  (idx s1 s2).bind fun x4 =>
  (yZ (s3 ++ (([(zC.mk x1.Kind x2.R x3.A x4.S)] : List zC)))).bind fun l5 =>
  some (.again (s1, w64 (s2 + 1), l5, ()))
 else
  some (.brk (s3, ())) := by kernel_rfl
theorem zjL (a1 : List zi) : Ut a1 =
 (zU vD (a1, 0, ([] : List zC), ())).bind fun st => match st with
   | .again _ => none
   | .brk y1 =>
   some (y1.1, ())
   | .ret y1 =>
   none := zl (by kernel_rfl)
theorem Ua (s1 : Int) (s2 : zd) (s3 : Int) (s4 : Int) (s5 : Int) (s6 : Int) (s7 : Int) (s8 : Int) (s9 : Int) (s10 : Int) (s11 : Int) (s12 : BitVec 64) (s13 : Int) (s14 : Int) (s15 : Int) (s16 : Int) (s17 : Int) (s18 : Int) (s19 : Int) (s20 : Int) (s21 : zw) (s22 : BitVec 64) (s23 : List (List Int)) (s24 : List (List Int)) (s25 : List (List Int)) (s26 : List (List zC)) (s27 : List zx) (s28 : List (List zC)) (s29 : List zx) : vr (s1, s2, s3, s4, s5, s6, s7, s8, s9, s10, s11, s12, s13, s14, s15, s16, s17, s18, s19, s20, s21, s22, s23, s24, s25, s26, s27, s28, s29, ()) =
 bif decide (s1 < ((s2.Progs.length : Int))) then
  (idx s2.Progs s1).bind fun x1 =>
  (Ut x1).bind fun y2 =>
  (yZ (s28 ++ (([y2.1] : List (List zC))))).bind fun l3 =>
  some (.again (w64 (s1 + 1), s2, s3, s4, s5, s6, s7, s8, s9, s10, s11, s12, s13, s14, s15, s16, s17, s18, s19, s20, s21, s22, s23, s24, s25, s26, s27, l3, s29, ()))
 else
  some (.brk (s3, s4, s5, s6, s7, s8, s9, s10, s11, s12, s13, s14, s15, s16, s17, s18, s19, s20, s21, s22, s23, s24, s25, s26, s27, s28, s29, ())) := by kernel_rfl
theorem ziA (a1 : zd) : VK a1 =
 (VQ a1.H).bind fun y1 =>
 (W3 a1.Picks).bind fun y2 =>
 (zU vr (0, a1, 0, 0, 0, 0, 0, 0, 0, 0, 0, 0#64, a1.Workers, a1.Mutators, a1.Cap, a1.Buf, a1.Bin, a1.Most, a1.Price, a1.Limit, y1.1, a1.Roots, a1.Regs, ([] : List (List Int)), ([] : List (List Int)), ([] : List (List zC)), ([] : List zx), ([] : List (List zC)), y2.1, ())).bind fun st => match st with
   | .again _ => none
   | .brk y3 =>
   some (zn.mk y3.2.2.2.2.2.2.2.2.2.2.1 y3.2.2.2.2.2.2.2.2.2.2.2.1 y3.2.2.2.2.2.2.2.2.2.2.2.2.1 y3.2.2.2.2.2.2.2.2.2.2.2.2.2.1 y3.2.2.2.2.2.2.2.2.2.2.2.2.2.2.1 y3.2.2.2.2.2.2.2.2.2.2.2.2.2.2.2.1 y3.2.2.2.2.2.2.2.2.2.2.2.2.2.2.2.2.1 y3.2.2.2.2.2.2.2.2.2.2.2.2.2.2.2.2.2.1 y3.2.2.2.2.2.2.2.2.2.2.2.2.2.2.2.2.2.2.1 y3.2.2.2.2.2.2.2.2.2.2.2.2.2.2.2.2.2.2.2.1 y3.2.2.2.2.2.2.2.2.2.2.2.2.2.2.2.2.2.2.2.2.1 y3.2.2.2.2.2.2.2.2.2.2.2.2.2.2.2.2.2.2.2.2.2.2.2.2.2.1 y3.2.2.2.2.2.2.2.2.2.2.2.2.2.2.2.2.2.2.2.2.2.2.2.2.2.2.1, ())
   | .ret y3 =>
   none := zl (by kernel_rfl)
theorem zie (a1 : zr) : zc1 a1 =
 some (zB.mk a1.Marks a1.Black, ()) := zl (by kernel_rfl)
theorem zgs (a1 : zq) : zb6 a1 =
 some (zG.mk a1.Scanned a1.Spent a1.Pool a1.Bal, ()) := zl (by kernel_rfl)
theorem zhn (a1 : zh) : ZT a1 =
 some (zQ.mk a1.Kind a1.PC a1.Base a1.Cap a1.B a1.T a1.X a1.Out, ()) := zl (by kernel_rfl)
theorem zh8 (a1 : zD) : ub a1 =
 some (yi.mk a1.Kind a1.PC a1.Head a1.Next a1.H a1.X a1.Y a1.Out, ()) := zl (by kernel_rfl)
theorem zii (a1 : zJ) : Yf a1 =
 (ZT a1.D).bind fun y1 =>
 (ub a1.C).bind fun y2 =>
 some (yI.mk a1.PC a1.Mode a1.Obj a1.Who y1.1 y2.1 a1.Bin a1.Out, ()) := zl (by kernel_rfl)
theorem zgF (a1 : zg) : We a1 =
 (ZT a1.D).bind fun y1 =>
 (ub a1.C).bind fun y2 =>
 (Yf a1.G).bind fun y3 =>
 some (zm.mk a1.PC a1.Obj a1.Slot a1.Victim a1.Bin a1.Batch y1.1 y2.1 y3.1, ()) := zl (by kernel_rfl)
theorem zfV (a1 : zc) : Xr a1 =
 (ub a1.C).bind fun y1 =>
 (Yf a1.G).bind fun y2 =>
 some (zt.mk a1.PC a1.IP a1.Ret a1.Want a1.Old a1.Obj a1.Slot a1.Bin a1.Regs a1.Buf a1.Batch y1.1 y2.1, ()) := zl (by kernel_rfl)
theorem Vh (s1 : Int) (s2 : zb) (s3 : Int) (s4 : Int) (s5 : Int) (s6 : Int) (s7 : Int) (s8 : Int) (s9 : Int) (s10 : Int) (s11 : Int) (s12 : BitVec 64) (s13 : Int) (s14 : zB) (s15 : Int) (s16 : Int) (s17 : Bool) (s18 : Bool) (s19 : Int) (s20 : Int) (s21 : Int) (s22 : Int) (s23 : zy) (s24 : zn) (s25 : zw) (s26 : List (BitVec 64)) (s27 : List (List Int)) (s28 : zB) (s29 : Int) (s30 : Int) (s31 : Bool) (s32 : Bool) (s33 : Int) (s34 : List Int) (s35 : zG) (s36 : zy) (s37 : List (List Int)) (s38 : List (List Int)) (s39 : List (List zC)) (s40 : List zx) (s41 : List (List Int)) (s42 : List (BitVec 64)) (s43 : List (List Int)) (s44 : List Int) (s45 : List Int) (s46 : List zm) (s47 : List zt) (s48 : List zm) (s49 : List zt) : w8 (s1, s2, s3, s4, s5, s6, s7, s8, s9, s10, s11, s12, s13, s14, s15, s16, s17, s18, s19, s20, s21, s22, s23, s24, s25, s26, s27, s28, s29, s30, s31, s32, s33, s34, s35, s36, s37, s38, s39, s40, s41, s42, s43, s44, s45, s46, s47, s48, s49, ()) =
 bif decide (s1 < ((s2.Ws.length : Int))) then
  (idx s2.Ws s1).bind fun x1 =>
  (We x1).bind fun y2 =>
  (yZ (s48 ++ ([y2.1] : List zm))).bind fun l3 =>
  some (.again (w64 (s1 + 1), s2, s3, s4, s5, s6, s7, s8, s9, s10, s11, s12, s13, s14, s15, s16, s17, s18, s19, s20, s21, s22, s23, s24, s25, s26, s27, s28, s29, s30, s31, s32, s33, s34, s35, s36, s37, s38, s39, s40, s41, s42, s43, s44, s45, s46, s47, l3, s49, ()))
 else
  some (.brk (s2, s3, s4, s5, s6, s7, s8, s9, s10, s11, s12, s13, s14, s15, s16, s17, s18, s19, s20, s21, s22, s23, s24, s25, s26, s27, s28, s29, s30, s31, s32, s33, s34, s35, s36, s37, s38, s39, s40, s41, s42, s43, s44, s45, s46, s47, s48, s49, ())) := by kernel_rfl
theorem Vk (s1 : Int) (s2 : zb) (s3 : Int) (s4 : Int) (s5 : Int) (s6 : Int) (s7 : Int) (s8 : Int) (s9 : Int) (s10 : Int) (s11 : Int) (s12 : BitVec 64) (s13 : Int) (s14 : zB) (s15 : Int) (s16 : Int) (s17 : Bool) (s18 : Bool) (s19 : Int) (s20 : Int) (s21 : Int) (s22 : Int) (s23 : zy) (s24 : zn) (s25 : zw) (s26 : List (BitVec 64)) (s27 : List (List Int)) (s28 : zB) (s29 : Int) (s30 : Int) (s31 : Bool) (s32 : Bool) (s33 : Int) (s34 : List Int) (s35 : zG) (s36 : zy) (s37 : List (List Int)) (s38 : List (List Int)) (s39 : List (List zC)) (s40 : List zx) (s41 : List (List Int)) (s42 : List (BitVec 64)) (s43 : List (List Int)) (s44 : List Int) (s45 : List Int) (s46 : List zm) (s47 : List zt) (s48 : List zm) (s49 : List zt) : wV (s1, s2, s3, s4, s5, s6, s7, s8, s9, s10, s11, s12, s13, s14, s15, s16, s17, s18, s19, s20, s21, s22, s23, s24, s25, s26, s27, s28, s29, s30, s31, s32, s33, s34, s35, s36, s37, s38, s39, s40, s41, s42, s43, s44, s45, s46, s47, s48, s49, ()) =
 bif decide (s1 < ((s2.Ms.length : Int))) then
  (idx s2.Ms s1).bind fun x1 =>
  (Xr x1).bind fun y2 =>
  (yZ (s49 ++ ([y2.1] : List zt))).bind fun l3 =>
  some (.again (w64 (s1 + 1), s2, s3, s4, s5, s6, s7, s8, s9, s10, s11, s12, s13, s14, s15, s16, s17, s18, s19, s20, s21, s22, s23, s24, s25, s26, s27, s28, s29, s30, s31, s32, s33, s34, s35, s36, s37, s38, s39, s40, s41, s42, s43, s44, s45, s46, s47, s48, l3, ()))
 else
  some (.brk (s3, s4, s5, s6, s7, s8, s9, s10, s11, s12, s13, s14, s15, s16, s17, s18, s19, s20, s21, s22, s23, s24, s25, s26, s27, s28, s29, s30, s31, s32, s33, s34, s35, s36, s37, s38, s39, s40, s41, s42, s43, s44, s45, s46, s47, s48, s49, ())) := by kernel_rfl
theorem zhC (a1 : zb) : ug a1 =
 (VK a1.P).bind fun y1 =>
 (VQ a1.H).bind fun y2 =>
 (zc1 a1.T).bind fun y3 =>
 (zb6 a1.L).bind fun y4 =>
 (zU w8 (0, a1, 0, 0, 0, 0, 0, 0, 0, 0, 0, 0#64, 0, zB.mk 0#64 0#64, 0, 0, false, false, 0, 0, 0, 0, zy.mk 0 0, y1.1, y2.1, a1.M, a1.Bins, y3.1, a1.Work, a1.Epoch, a1.Flag, a1.Done, a1.Restarts, a1.Acks, y4.1, zy.mk a1.D.PC a1.D.I, ([] : List (List Int)), ([] : List (List Int)), ([] : List (List zC)), ([] : List zx), ([] : List (List Int)), ([] : List (BitVec 64)), ([] : List (List Int)), ([] : List Int), ([] : List Int), ([] : List zm), ([] : List zt), ([] : List zm), ([] : List zt), ())).bind fun st => match st with
   | .again _ => none
   | .brk y5 =>
   (zU wV (0, y5.1, y5.2.1, y5.2.2.1, y5.2.2.2.1, y5.2.2.2.2.1, y5.2.2.2.2.2.1, y5.2.2.2.2.2.2.1, y5.2.2.2.2.2.2.2.1, y5.2.2.2.2.2.2.2.2.1, y5.2.2.2.2.2.2.2.2.2.1, y5.2.2.2.2.2.2.2.2.2.2.1, y5.2.2.2.2.2.2.2.2.2.2.2.1, y5.2.2.2.2.2.2.2.2.2.2.2.2.1, y5.2.2.2.2.2.2.2.2.2.2.2.2.2.1, y5.2.2.2.2.2.2.2.2.2.2.2.2.2.2.1, y5.2.2.2.2.2.2.2.2.2.2.2.2.2.2.2.1, y5.2.2.2.2.2.2.2.2.2.2.2.2.2.2.2.2.1, y5.2.2.2.2.2.2.2.2.2.2.2.2.2.2.2.2.2.1, y5.2.2.2.2.2.2.2.2.2.2.2.2.2.2.2.2.2.2.1, y5.2.2.2.2.2.2.2.2.2.2.2.2.2.2.2.2.2.2.2.1, y5.2.2.2.2.2.2.2.2.2.2.2.2.2.2.2.2.2.2.2.2.1, y5.2.2.2.2.2.2.2.2.2.2.2.2.2.2.2.2.2.2.2.2.2.1, y5.2.2.2.2.2.2.2.2.2.2.2.2.2.2.2.2.2.2.2.2.2.2.1, y5.2.2.2.2.2.2.2.2.2.2.2.2.2.2.2.2.2.2.2.2.2.2.2.1, y5.2.2.2.2.2.2.2.2.2.2.2.2.2.2.2.2.2.2.2.2.2.2.2.2.1, y5.2.2.2.2.2.2.2.2.2.2.2.2.2.2.2.2.2.2.2.2.2.2.2.2.2.1, y5.2.2.2.2.2.2.2.2.2.2.2.2.2.2.2.2.2.2.2.2.2.2.2.2.2.2.1, y5.2.2.2.2.2.2.2.2.2.2.2.2.2.2.2.2.2.2.2.2.2.2.2.2.2.2.2.1, y5.2.2.2.2.2.2.2.2.2.2.2.2.2.2.2.2.2.2.2.2.2.2.2.2.2.2.2.2.1, y5.2.2.2.2.2.2.2.2.2.2.2.2.2.2.2.2.2.2.2.2.2.2.2.2.2.2.2.2.2.1, y5.2.2.2.2.2.2.2.2.2.2.2.2.2.2.2.2.2.2.2.2.2.2.2.2.2.2.2.2.2.2.1, y5.2.2.2.2.2.2.2.2.2.2.2.2.2.2.2.2.2.2.2.2.2.2.2.2.2.2.2.2.2.2.2.1, y5.2.2.2.2.2.2.2.2.2.2.2.2.2.2.2.2.2.2.2.2.2.2.2.2.2.2.2.2.2.2.2.2.1, y5.2.2.2.2.2.2.2.2.2.2.2.2.2.2.2.2.2.2.2.2.2.2.2.2.2.2.2.2.2.2.2.2.2.1, y5.2.2.2.2.2.2.2.2.2.2.2.2.2.2.2.2.2.2.2.2.2.2.2.2.2.2.2.2.2.2.2.2.2.2.1, y5.2.2.2.2.2.2.2.2.2.2.2.2.2.2.2.2.2.2.2.2.2.2.2.2.2.2.2.2.2.2.2.2.2.2.2.1, y5.2.2.2.2.2.2.2.2.2.2.2.2.2.2.2.2.2.2.2.2.2.2.2.2.2.2.2.2.2.2.2.2.2.2.2.2.1, y5.2.2.2.2.2.2.2.2.2.2.2.2.2.2.2.2.2.2.2.2.2.2.2.2.2.2.2.2.2.2.2.2.2.2.2.2.2.1, y5.2.2.2.2.2.2.2.2.2.2.2.2.2.2.2.2.2.2.2.2.2.2.2.2.2.2.2.2.2.2.2.2.2.2.2.2.2.2.1, y5.2.2.2.2.2.2.2.2.2.2.2.2.2.2.2.2.2.2.2.2.2.2.2.2.2.2.2.2.2.2.2.2.2.2.2.2.2.2.2.1, y5.2.2.2.2.2.2.2.2.2.2.2.2.2.2.2.2.2.2.2.2.2.2.2.2.2.2.2.2.2.2.2.2.2.2.2.2.2.2.2.2.1, y5.2.2.2.2.2.2.2.2.2.2.2.2.2.2.2.2.2.2.2.2.2.2.2.2.2.2.2.2.2.2.2.2.2.2.2.2.2.2.2.2.2.1, y5.2.2.2.2.2.2.2.2.2.2.2.2.2.2.2.2.2.2.2.2.2.2.2.2.2.2.2.2.2.2.2.2.2.2.2.2.2.2.2.2.2.2.1, y5.2.2.2.2.2.2.2.2.2.2.2.2.2.2.2.2.2.2.2.2.2.2.2.2.2.2.2.2.2.2.2.2.2.2.2.2.2.2.2.2.2.2.2.1, y5.2.2.2.2.2.2.2.2.2.2.2.2.2.2.2.2.2.2.2.2.2.2.2.2.2.2.2.2.2.2.2.2.2.2.2.2.2.2.2.2.2.2.2.2.1, y5.2.2.2.2.2.2.2.2.2.2.2.2.2.2.2.2.2.2.2.2.2.2.2.2.2.2.2.2.2.2.2.2.2.2.2.2.2.2.2.2.2.2.2.2.2.1, y5.2.2.2.2.2.2.2.2.2.2.2.2.2.2.2.2.2.2.2.2.2.2.2.2.2.2.2.2.2.2.2.2.2.2.2.2.2.2.2.2.2.2.2.2.2.2.1, y5.2.2.2.2.2.2.2.2.2.2.2.2.2.2.2.2.2.2.2.2.2.2.2.2.2.2.2.2.2.2.2.2.2.2.2.2.2.2.2.2.2.2.2.2.2.2.2.1, ())).bind fun st => match st with
     | .again _ => none
     | .brk y6 =>
     some (zo.mk y6.2.2.2.2.2.2.2.2.2.2.2.2.2.2.2.2.2.2.2.2.2.1 y6.2.2.2.2.2.2.2.2.2.2.2.2.2.2.2.2.2.2.2.2.2.2.1 y6.2.2.2.2.2.2.2.2.2.2.2.2.2.2.2.2.2.2.2.2.2.2.2.1 y6.2.2.2.2.2.2.2.2.2.2.2.2.2.2.2.2.2.2.2.2.2.2.2.2.1 y6.2.2.2.2.2.2.2.2.2.2.2.2.2.2.2.2.2.2.2.2.2.2.2.2.2.1 y6.2.2.2.2.2.2.2.2.2.2.2.2.2.2.2.2.2.2.2.2.2.2.2.2.2.2.1 y6.2.2.2.2.2.2.2.2.2.2.2.2.2.2.2.2.2.2.2.2.2.2.2.2.2.2.2.1 y6.2.2.2.2.2.2.2.2.2.2.2.2.2.2.2.2.2.2.2.2.2.2.2.2.2.2.2.2.1 y6.2.2.2.2.2.2.2.2.2.2.2.2.2.2.2.2.2.2.2.2.2.2.2.2.2.2.2.2.2.1 y6.2.2.2.2.2.2.2.2.2.2.2.2.2.2.2.2.2.2.2.2.2.2.2.2.2.2.2.2.2.2.1 y6.2.2.2.2.2.2.2.2.2.2.2.2.2.2.2.2.2.2.2.2.2.2.2.2.2.2.2.2.2.2.2.1 y6.2.2.2.2.2.2.2.2.2.2.2.2.2.2.2.2.2.2.2.2.2.2.2.2.2.2.2.2.2.2.2.2.1 y6.2.2.2.2.2.2.2.2.2.2.2.2.2.2.2.2.2.2.2.2.2.2.2.2.2.2.2.2.2.2.2.2.2.2.2.2.2.2.2.2.2.2.2.2.2.1 y6.2.2.2.2.2.2.2.2.2.2.2.2.2.2.2.2.2.2.2.2.2.2.2.2.2.2.2.2.2.2.2.2.2.2.2.2.2.2.2.2.2.2.2.2.2.2.1 y6.2.2.2.2.2.2.2.2.2.2.2.2.2.2.2.2.2.2.2.2.2.2.2.2.2.2.2.2.2.2.2.2.2.1, ())
     | .ret y6 =>
     none
   | .ret y5 =>
   none := zl (by kernel_rfl)
end Go.Pe.G
namespace Go.Pe.G
open Go.Pe
theorem zae (a1 : List (BitVec 64)) (a2 : ve) : xI a1 a2 =
 bif decide (a2.At < 0) then
  some (a1, 0#64, false, ())
 else
  bif decide (((a1.length : Int)) ≤ a2.At) then
   some (a1, 0#64, false, ())
  else
   bif decide (a2.Kind < 1) then
    some (a1, 0#64, false, ())
   else
    bif decide (4 < a2.Kind) then
     some (a1, 0#64, false, ())
    else
     (idx a1 a2.At).bind fun x1 =>
     bif decide (a2.Kind = 1) then
      some (a1, x1, true, ())
     else
      bif decide (a2.Kind = 3) then
       bif !(decide (x1 = a2.A)) then
        some (a1, x1, false, ())
       else
        (yZ a1).bind fun l2 =>
        bif decide (a2.Kind = 2) then
         (vd l2 a2.At).bind fun n3 =>
         some (l2.set n3 a2.A, x1, true, ())
        else
         bif decide (a2.Kind = 3) then
          (vd l2 a2.At).bind fun n4 =>
          some (l2.set n4 a2.B, x1, true, ())
         else
          bif decide (a2.Kind = 4) then
           (vd l2 a2.At).bind fun n5 =>
           some (l2.set n5 (x1 + a2.A), x1, true, ())
          else
           some (l2, x1, true, ())
      else
       (yZ a1).bind fun l6 =>
       bif decide (a2.Kind = 2) then
        (vd l6 a2.At).bind fun n7 =>
        some (l6.set n7 a2.A, x1, true, ())
       else
        bif decide (a2.Kind = 3) then
         (vd l6 a2.At).bind fun n8 =>
         some (l6.set n8 a2.B, x1, true, ())
        else
         bif decide (a2.Kind = 4) then
          (vd l6 a2.At).bind fun n9 =>
          some (l6.set n9 (x1 + a2.A), x1, true, ())
         else
          some (l6, x1, true, ()) := zl (by kernel_rfl)
theorem zl5 (a1 : List (BitVec 64)) (a2 : Int) : xx a1 a2 =
 (xI a1 (ve.mk 1 a2 0#64 0#64)).bind fun y1 =>
 some (y1.2.1, ()) := zl (by kernel_rfl)
theorem zkD (a1 : List (BitVec 64)) (a2 : Int) (a3 : BitVec 64) : w9 a1 a2 a3 =
 (xI a1 (ve.mk 2 a2 a3 0#64)).bind fun y1 =>
 some (y1.1, ()) := zl (by kernel_rfl)
theorem zkl (a1 : zQ) (a2 : BitVec 64) : vY a1 a2 =
 bif decide ((BitVec.ofInt 64 (bif decide (a1.Cap < 1) then 1 else a1.Cap)) = 0#64) then
  none
 else
  some (w64 ((w64 (a1.Base + 2)) + ((a2 % (BitVec.ofInt 64 (bif decide (a1.Cap < 1) then 1 else a1.Cap))).toInt)), ()) := zl (by kernel_rfl)
theorem zk6 (a1 : List (BitVec 64)) (a2 : zQ) : zgb a1 a2 =
 bif decide (a2.PC = 0) then
  (xx a1 (w64 (a2.Base + 1))).bind fun y1 =>
  some (a1, { a2 with PC := w64 (a2.PC + 1), B := y1.1 }, ())
 else
  bif decide (a2.PC = 1) then
   (xx a1 a2.Base).bind fun y2 =>
   bif decide ((BitVec.ofInt 64 (bif decide (a2.Cap < 1) then 1 else a2.Cap)) ≤ (a2.B - y2.1)) then
    some (a1, { a2 with PC := w64 (a2.PC + 1), T := y2.1, Out := 3 }, ())
   else
    some (a1, { a2 with PC := w64 (a2.PC + 1), T := y2.1 }, ())
  else
   bif decide (a2.PC = 2) then
    (vY a2 a2.B).bind fun y3 =>
    (w9 a1 y3.1 (BitVec.ofInt 64 a2.X)).bind fun y4 =>
    some (y4.1, { a2 with PC := w64 (a2.PC + 1) }, ())
   else
    bif decide (a2.PC = 3) then
     (w9 a1 (w64 (a2.Base + 1)) (a2.B + 1#64)).bind fun y5 =>
     some (y5.1, { a2 with PC := w64 (a2.PC + 1), Out := 1 }, ())
    else
     some (a1, a2, ()) := zl (by kernel_rfl)
theorem zlz (a1 : List (BitVec 64)) (a2 : Int) (a3 : BitVec 64) (a4 : BitVec 64) : WB a1 a2 a3 a4 =
 (xI a1 (ve.mk 3 a2 a3 a4)).bind fun y1 =>
 some (y1.1, y1.2.2.1, ()) := zl (by kernel_rfl)
theorem zmA (a1 : List (BitVec 64)) (a2 : zQ) : zgZ a1 a2 =
 bif decide (a2.PC = 0) then
  (xx a1 (w64 (a2.Base + 1))).bind fun y1 =>
  some (a1, { a2 with PC := w64 (a2.PC + 1), B := y1.1 }, ())
 else
  bif decide (a2.PC = 1) then
   (w9 a1 (w64 (a2.Base + 1)) (a2.B - 1#64)).bind fun y2 =>
   some (y2.1, { a2 with PC := w64 (a2.PC + 1) }, ())
  else
   bif decide (a2.PC = 2) then
    (xx a1 a2.Base).bind fun y3 =>
    bif decide (0 < ((y3.1 - (a2.B - 1#64)).toInt)) then
     some (a1, { a2 with PC := 5, T := y3.1 }, ())
    else
     some (a1, { a2 with PC := w64 (a2.PC + 1), T := y3.1 }, ())
   else
    bif decide (a2.PC = 3) then
     (vY a2 (a2.B - 1#64)).bind fun y4 =>
     (xx a1 y4.1).bind fun y5 =>
     bif !(decide (a2.T = (a2.B - 1#64))) then
      some (a1, { a2 with PC := w64 (a2.PC + 1), X := y5.1.toInt, Out := 1 }, ())
     else
      some (a1, { a2 with PC := w64 (a2.PC + 1), X := y5.1.toInt }, ())
    else
     bif decide (a2.PC = 4) then
      (WB a1 a2.Base a2.T (a2.T + 1#64)).bind fun y6 =>
      bif y6.2.1 then
       some (y6.1, { a2 with PC := 6 }, ())
      else
       some (y6.1, { a2 with PC := w64 (a2.PC + 1) }, ())
     else
      bif decide (a2.PC = 5) then
       (w9 a1 (w64 (a2.Base + 1)) a2.B).bind fun y7 =>
       some (y7.1, { a2 with PC := w64 (a2.PC + 1), X := 0, Out := 2 }, ())
      else
       bif decide (a2.PC = 6) then
        (w9 a1 (w64 (a2.Base + 1)) a2.B).bind fun y8 =>
        some (y8.1, { a2 with PC := w64 (a2.PC + 1), Out := 1 }, ())
       else
        some (a1, a2, ()) := zl (by kernel_rfl)
theorem zkJ (a1 : List (BitVec 64)) (a2 : zQ) : zft a1 a2 =
 bif decide (a2.PC = 0) then
  (xx a1 a2.Base).bind fun y1 =>
  some (a1, { a2 with PC := w64 (a2.PC + 1), T := y1.1 }, ())
 else
  bif decide (a2.PC = 1) then
   (xx a1 (w64 (a2.Base + 1))).bind fun y2 =>
   bif decide (((y2.1 - a2.T).toInt) ≤ 0) then
    some (a1, { a2 with PC := w64 (a2.PC + 1), B := y2.1, Out := 2 }, ())
   else
    some (a1, { a2 with PC := w64 (a2.PC + 1), B := y2.1 }, ())
  else
   bif decide (a2.PC = 2) then
    (vY a2 a2.T).bind fun y3 =>
    (xx a1 y3.1).bind fun y4 =>
    some (a1, { a2 with PC := w64 (a2.PC + 1), X := y4.1.toInt }, ())
   else
    bif decide (a2.PC = 3) then
     (WB a1 a2.Base a2.T (a2.T + 1#64)).bind fun y5 =>
     bif !y5.2.1 then
      some (y5.1, { a2 with PC := w64 (a2.PC + 1), X := 0, Out := 4 }, ())
     else
      some (y5.1, { a2 with PC := w64 (a2.PC + 1), Out := 1 }, ())
    else
     some (a1, a2, ()) := zl (by kernel_rfl)
theorem zdl (a1 : List (BitVec 64)) (a2 : zQ) : xR a1 a2 =
 bif !(decide (a2.Out = 0)) then
  some (a1, a2, ())
 else
  bif decide (a2.Kind = 1) then
   (zgb a1 a2).bind fun y1 =>
   some (y1.1, y1.2.1, ())
  else
   bif decide (a2.Kind = 2) then
    (zgZ a1 a2).bind fun y2 =>
    some (y2.1, y2.2.1, ())
   else
    bif decide (a2.Kind = 3) then
     (zft a1 a2).bind fun y3 =>
     some (y3.1, y3.2.1, ())
    else
     some (a1, a2, ()) := zl (by kernel_rfl)
theorem WV (a1 : Int) (a2 : Int) (a3 : Int) (a4 : Int) : wZ a1 a2 a3 a4 =
 some (yi.mk a1 0 a2 a3 0#64 a4 0 0, ()) := zl (by kernel_rfl)
theorem zkA (a1 : zn) (a2 : Int) : xF a1 a2 =
 some (w64 ((w64 (a2 - 1)) * (w64 (a1.Cap + 2))), ()) := zl (by kernel_rfl)
theorem zlA (a1 : zn) : uZ a1 =
 (xF a1 (w64 (a1.Workers + 1))).bind fun y1 =>
 some (y1.1, ()) := zl (by kernel_rfl)
theorem zkM (a1 : zn) : uc a1 =
 (uZ a1).bind fun y1 =>
 some (w64 (y1.1 + 1), ()) := zl (by kernel_rfl)
theorem zk1 (a1 : zn) : wB a1 =
 (uc a1).bind fun y1 =>
 some (y1.1, ()) := zl (by kernel_rfl)
theorem W1 (a1 : Int) (a2 : Int) (a3 : Int) (a4 : Int) : ZI a1 a2 a3 a4 =
 some (zQ.mk a1 0 a2 a3 0#64 0#64 a4 0, ()) := zl (by kernel_rfl)
theorem zlV (a1 : zo) (a2 : zm) (a3 : Int) : yD a1 a2 a3 =
 bif decide (((a1.Ws.length : Int)) < (w64 (a2.Victim + 1))) then
  bif decide (1 = a3) then
   (uZ a1.P).bind fun y1 =>
   (wB a1.P).bind fun y2 =>
   (wZ 2 y1.1 y2.1 0).bind fun y3 =>
   some ({ a2 with PC := 2, Victim := 1, C := y3.1 }, ())
  else
   (xF a1.P 1).bind fun y4 =>
   (ZI 3 y4.1 a1.P.Cap 0).bind fun y5 =>
   some ({ a2 with PC := 1, Victim := 1, D := y5.1 }, ())
 else
  bif decide ((w64 (a2.Victim + 1)) = a3) then
   (uZ a1.P).bind fun y6 =>
   (wB a1.P).bind fun y7 =>
   (wZ 2 y6.1 y7.1 0).bind fun y8 =>
   some ({ a2 with PC := 2, Victim := w64 (a2.Victim + 1), C := y8.1 }, ())
  else
   (xF a1.P (w64 (a2.Victim + 1))).bind fun y9 =>
   (ZI 3 y9.1 a1.P.Cap 0).bind fun y10 =>
   some ({ a2 with PC := 1, Victim := w64 (a2.Victim + 1), D := y10.1 }, ()) := zl (by kernel_rfl)
theorem zl6 (a1 : List (BitVec 64)) (a2 : Int) : wC a1 a2 =
 (xI a1 (ve.mk 1 a2 0#64 0#64)).bind fun y1 =>
 some (y1.2.1, ()) := zl (by kernel_rfl)
theorem zlT (a1 : BitVec 64) : yj a1 =
 some ((a1 % 4294967296#64).toInt, ()) := zl (by kernel_rfl)
theorem zkG (a1 : List (BitVec 64)) (a2 : Int) (a3 : BitVec 64) : XV a1 a2 a3 =
 (xI a1 (ve.mk 2 a2 a3 0#64)).bind fun y1 =>
 some (y1.1, ()) := zl (by kernel_rfl)
theorem zlx (a1 : BitVec 64) (a2 : Int) : zbo a1 a2 =
 some (((a1 % 4294967296#64) <<< 32) + ((BitVec.ofInt 64 a2) % 4294967296#64), ()) := zl (by kernel_rfl)
theorem zlO (a1 : List (BitVec 64)) (a2 : yi) (a3 : Int) : xw a1 a2 a3 =
 (zbo ((a2.H >>> 32) + 1#64) a3).bind fun y1 =>
 (xI a1 (ve.mk 3 a2.Head a2.H y1.1)).bind fun y2 =>
 some (y2.1, y2.2.2.1, ()) := zl (by kernel_rfl)
theorem zli (a1 : List (BitVec 64)) (a2 : yi) : yW a1 a2 =
 bif !(decide (a2.Out = 0)) then
  some (a1, a2, ())
 else
  bif decide (a2.PC < 0) then
   some (a1, a2, ())
  else
   bif decide (2 < a2.PC) then
    some (a1, a2, ())
   else
    bif !(decide (a2.Kind = 1)) then
     bif !(decide (a2.Kind = 2)) then
      some (a1, a2, ())
     else
      bif decide (a2.PC = 0) then
       (wC a1 a2.Head).bind fun y1 =>
       bif !(decide (a2.Kind = 1)) then
        (yj y1.1).bind fun y2 =>
        bif decide (y2.1 = 0) then
         some (a1, { a2 with PC := w64 (a2.PC + 1), H := y1.1, Out := 2 }, ())
        else
         some (a1, { a2 with PC := w64 (a2.PC + 1), H := y1.1 }, ())
       else
        some (a1, { a2 with PC := w64 (a2.PC + 1), H := y1.1 }, ())
      else
       bif decide (a2.PC = 1) then
        bif decide (a2.Kind = 1) then
         (yj a2.H).bind fun y3 =>
         (XV a1 (w64 (a2.Next + a2.X)) (BitVec.ofInt 64 y3.1)).bind fun y4 =>
         some (y4.1, { a2 with PC := w64 (a2.PC + 1) }, ())
        else
         bif decide (a2.PC = 1) then
          (yj a2.H).bind fun y5 =>
          (wC a1 (w64 (a2.Next + y5.1))).bind fun y6 =>
          some (a1, { a2 with PC := w64 (a2.PC + 1), Y := y6.1.toInt }, ())
         else
          bif decide (a2.Kind = 1) then
           (xw a1 a2 a2.X).bind fun y7 =>
           bif !y7.2.1 then
            some (y7.1, { a2 with PC := 0 }, ())
           else
            bif !(decide (a2.Kind = 1)) then
             (yj a2.H).bind fun y8 =>
             some (y7.1, { a2 with PC := w64 (a2.PC + 1), X := y8.1, Out := 1 }, ())
            else
             some (y7.1, { a2 with PC := w64 (a2.PC + 1), Out := 1 }, ())
          else
           (xw a1 a2 a2.Y).bind fun y9 =>
           bif !y9.2.1 then
            some (y9.1, { a2 with PC := 0 }, ())
           else
            bif !(decide (a2.Kind = 1)) then
             (yj a2.H).bind fun y10 =>
             some (y9.1, { a2 with PC := w64 (a2.PC + 1), X := y10.1, Out := 1 }, ())
            else
             some (y9.1, { a2 with PC := w64 (a2.PC + 1), Out := 1 }, ())
       else
        bif decide (a2.PC = 1) then
         (yj a2.H).bind fun y11 =>
         (wC a1 (w64 (a2.Next + y11.1))).bind fun y12 =>
         some (a1, { a2 with PC := w64 (a2.PC + 1), Y := y12.1.toInt }, ())
        else
         bif decide (a2.Kind = 1) then
          (xw a1 a2 a2.X).bind fun y13 =>
          bif !y13.2.1 then
           some (y13.1, { a2 with PC := 0 }, ())
          else
           bif !(decide (a2.Kind = 1)) then
            (yj a2.H).bind fun y14 =>
            some (y13.1, { a2 with PC := w64 (a2.PC + 1), X := y14.1, Out := 1 }, ())
           else
            some (y13.1, { a2 with PC := w64 (a2.PC + 1), Out := 1 }, ())
         else
          (xw a1 a2 a2.Y).bind fun y15 =>
          bif !y15.2.1 then
           some (y15.1, { a2 with PC := 0 }, ())
          else
           bif !(decide (a2.Kind = 1)) then
            (yj a2.H).bind fun y16 =>
            some (y15.1, { a2 with PC := w64 (a2.PC + 1), X := y16.1, Out := 1 }, ())
           else
            some (y15.1, { a2 with PC := w64 (a2.PC + 1), Out := 1 }, ())
    else
     bif decide (a2.PC = 0) then
      (wC a1 a2.Head).bind fun y17 =>
      bif !(decide (a2.Kind = 1)) then
       (yj y17.1).bind fun y18 =>
       bif decide (y18.1 = 0) then
        some (a1, { a2 with PC := w64 (a2.PC + 1), H := y17.1, Out := 2 }, ())
       else
        some (a1, { a2 with PC := w64 (a2.PC + 1), H := y17.1 }, ())
      else
       some (a1, { a2 with PC := w64 (a2.PC + 1), H := y17.1 }, ())
     else
      bif decide (a2.PC = 1) then
       bif decide (a2.Kind = 1) then
        (yj a2.H).bind fun y19 =>
        (XV a1 (w64 (a2.Next + a2.X)) (BitVec.ofInt 64 y19.1)).bind fun y20 =>
        some (y20.1, { a2 with PC := w64 (a2.PC + 1) }, ())
       else
        bif decide (a2.PC = 1) then
         (yj a2.H).bind fun y21 =>
         (wC a1 (w64 (a2.Next + y21.1))).bind fun y22 =>
         some (a1, { a2 with PC := w64 (a2.PC + 1), Y := y22.1.toInt }, ())
        else
         bif decide (a2.Kind = 1) then
          (xw a1 a2 a2.X).bind fun y23 =>
          bif !y23.2.1 then
           some (y23.1, { a2 with PC := 0 }, ())
          else
           bif !(decide (a2.Kind = 1)) then
            (yj a2.H).bind fun y24 =>
            some (y23.1, { a2 with PC := w64 (a2.PC + 1), X := y24.1, Out := 1 }, ())
           else
            some (y23.1, { a2 with PC := w64 (a2.PC + 1), Out := 1 }, ())
         else
          (xw a1 a2 a2.Y).bind fun y25 =>
          bif !y25.2.1 then
           some (y25.1, { a2 with PC := 0 }, ())
          else
           bif !(decide (a2.Kind = 1)) then
            (yj a2.H).bind fun y26 =>
            some (y25.1, { a2 with PC := w64 (a2.PC + 1), X := y26.1, Out := 1 }, ())
           else
            some (y25.1, { a2 with PC := w64 (a2.PC + 1), Out := 1 }, ())
      else
       bif decide (a2.PC = 1) then
        (yj a2.H).bind fun y27 =>
        (wC a1 (w64 (a2.Next + y27.1))).bind fun y28 =>
        some (a1, { a2 with PC := w64 (a2.PC + 1), Y := y28.1.toInt }, ())
       else
        bif decide (a2.Kind = 1) then
         (xw a1 a2 a2.X).bind fun y29 =>
         bif !y29.2.1 then
          some (y29.1, { a2 with PC := 0 }, ())
         else
          bif !(decide (a2.Kind = 1)) then
           (yj a2.H).bind fun y30 =>
           some (y29.1, { a2 with PC := w64 (a2.PC + 1), X := y30.1, Out := 1 }, ())
          else
           some (y29.1, { a2 with PC := w64 (a2.PC + 1), Out := 1 }, ())
        else
         (xw a1 a2 a2.Y).bind fun y31 =>
         bif !y31.2.1 then
          some (y31.1, { a2 with PC := 0 }, ())
         else
          bif !(decide (a2.Kind = 1)) then
           (yj a2.H).bind fun y32 =>
           some (y31.1, { a2 with PC := w64 (a2.PC + 1), X := y32.1, Out := 1 }, ())
          else
           some (y31.1, { a2 with PC := w64 (a2.PC + 1), Out := 1 }, ()) := zl (by kernel_rfl)
theorem zkp (a1 : zo) (a2 : zm) (a3 : Int) : xH a1 a2 a3 =
 (xF a1.P a3).bind fun y1 =>
 (ZI 2 y1.1 a1.P.Cap 0).bind fun y2 =>
 some ({ a2 with PC := 0, Victim := a3, D := y2.1 }, ()) := zl (by kernel_rfl)
theorem zd4 (a1 : zo) (a2 : Int) (a3 : List Int) : Zr a1 a2 a3 =
 (yZ a1.Bins).bind fun l1 =>
 (vd l1 a2).bind fun n2 =>
 some ({ a1 with Bins := l1.set n2 a3 }, ()) := zl (by kernel_rfl)
theorem zkr (a1 : zw) (a2 : Int) (a3 : Int) : zax a1 a2 a3 =
 bif decide (1 ≤ a2) then
  bif decide (a2 ≤ ((a1.Objs.length : Int))) then
   bif decide (0 ≤ a3) then
    (idx a1.Objs (w64 (a2 - 1))).bind fun x1 =>
    some (decide (a3 < ((x1.length : Int))), ())
   else
    some (false, ())
  else
   some (false, ())
 else
  some (false, ()) := zl (by kernel_rfl)
theorem zmC (a1 : zw) (a2 : Int) (a3 : Int) : Y4 a1 a2 a3 =
 (zax a1 a2 a3).bind fun y1 =>
 bif !y1.1 then
  some (0, false, ())
 else
  (idx a1.Objs (w64 (a2 - 1))).bind fun x2 =>
  (idx x2 a3).bind fun x3 =>
  some (x3, true, ()) := zl (by kernel_rfl)
theorem zkv (a1 : Int) (a2 : Int) (a3 : Int) : zap a1 a2 a3 =
 some (yI.mk 0 a1 a2 a3 (zQ.mk 0 0 0 0 0#64 0#64 0 0) (yi.mk 0 0 0 0 0#64 0 0 0) 0 0, ()) := zl (by kernel_rfl)
theorem ziN (a1 : zo) (a2 : Int) (a3 : Int) (a4 : Int) : vp a1 a2 a3 a4 =
 bif decide (a2 = a1.H.Slots) then
  some (a4, ())
 else
  some (a3, ()) := zl (by kernel_rfl)
theorem zlg (a1 : zo) (a2 : Int) : xQ a1 a2 =
 bif decide (a2 = 0) then
  (uc a1.P).bind fun y1 =>
  (wB a1.P).bind fun y2 =>
  (wZ 2 y1.1 y2.1 0).bind fun y3 =>
  some (y3.1, ())
 else
  (uZ a1.P).bind fun y4 =>
  (wB a1.P).bind fun y5 =>
  (wZ 1 y4.1 y5.1 a2).bind fun y6 =>
  some (y6.1, ()) := zl (by kernel_rfl)
theorem Zw (a1 : Int) : Uz a1 =
 bif decide (1 ≤ a1) then
  some (decide (a1 ≤ 64), ())
 else
  some (false, ()) := zl (by kernel_rfl)
theorem zd3 (a1 : BitVec 64) (a2 : Int) : YZ a1 a2 =
 (Uz a2).bind fun y1 =>
 bif !y1.1 then
  some (a1, ())
 else
  bif decide ((w64 (a2 - 1)) < 0) then
   none
  else
   some (a1 ||| (1#64 <<< min (w64 (a2 - 1)).toNat 64), ()) := zl (by kernel_rfl)
theorem zd6 (a1 : BitVec 64) (a2 : Int) : vQ a1 a2 =
 (Uz a2).bind fun y1 =>
 bif y1.1 then
  bif decide ((w64 (a2 - 1)) < 0) then
   none
  else
   some (decide (((a1 >>> min (w64 (a2 - 1)).toNat 64) % 2#64) = 1#64), ())
 else
  some (false, ()) := zl (by kernel_rfl)
theorem zkx (a1 : zB) (a2 : Int) : XI a1 a2 =
 bif decide (a2 < 1) then
  some (a1, false, ())
 else
  bif decide (64 < a2) then
   some (a1, false, ())
  else
   (vQ a1.Marks a2).bind fun y1 =>
   bif y1.1 then
    some (a1, false, ())
   else
    (vQ a1.Black a2).bind fun y2 =>
    bif y2.1 then
     some (a1, false, ())
    else
     (YZ a1.Marks a2).bind fun y3 =>
     some ({ a1 with Marks := y3.1 }, true, ()) := zl (by kernel_rfl)
theorem zkY (a1 : zo) (a2 : yI) : zbB a1 a2 =
 (XI a1.T a2.Obj).bind fun y1 =>
 bif !y1.2.1 then
  some (a1, { a2 with PC := 2 }, ())
 else
  bif decide (a2.Mode = 1) then
   (xF a1.P a2.Who).bind fun y2 =>
   (ZI 1 y2.1 a1.P.Cap a2.Obj).bind fun y3 =>
   some ({ a1 with T := y1.1 }, { a2 with PC := 3, D := y3.1 }, ())
  else
   bif decide (a2.Mode = 2) then
    some ({ a1 with T := y1.1 }, { a2 with PC := 4 }, ())
   else
    (xQ ({ a1 with T := y1.1 }) 0).bind fun y4 =>
    some ({ a1 with T := y1.1 }, { a2 with PC := 5, C := y4.1 }, ()) := zl (by kernel_rfl)
theorem zlu (a1 : zo) (a2 : yI) : Ye a1 a2 =
 bif !(decide (a2.Out = 0)) then
  some (a1, a2, ())
 else
  bif decide (a2.Mode < 1) then
   some (a1, a2, ())
  else
   bif decide (3 < a2.Mode) then
    some (a1, a2, ())
   else
    bif decide (a2.PC = 0) then
     some ({ a1 with Work := w64 (a1.Work + 1) }, { a2 with PC := 1 }, ())
    else
     bif decide (a2.PC = 1) then
      (zbB a1 a2).bind fun y1 =>
      some (y1.1, y1.2.1, ())
     else
      bif decide (a2.PC = 2) then
       some ({ a1 with Work := w64 (a1.Work - 1) }, { a2 with Out := 1 }, ())
      else
       bif decide (a2.PC = 3) then
        (xR a1.M a2.D).bind fun y2 =>
        bif decide (y2.2.1.Out = 1) then
         bif decide (y2.2.1.Out = 3) then
          (xQ ({ a1 with M := y2.1 }) 0).bind fun y3 =>
          some ({ a1 with M := y2.1 }, { a2 with PC := 5, D := y2.2.1, C := y3.1, Out := 1 }, ())
         else
          some ({ a1 with M := y2.1 }, { a2 with D := y2.2.1, Out := 1 }, ())
        else
         bif decide (y2.2.1.Out = 3) then
          (xQ ({ a1 with M := y2.1 }) 0).bind fun y4 =>
          some ({ a1 with M := y2.1 }, { a2 with PC := 5, D := y2.2.1, C := y4.1 }, ())
         else
          some ({ a1 with M := y2.1 }, { a2 with D := y2.2.1 }, ())
       else
        bif decide (a2.PC = 4) then
         (xQ ({ a1 with Flag := true }) 0).bind fun y5 =>
         some ({ a1 with Flag := true }, { a2 with PC := 5, C := y5.1 }, ())
        else
         bif decide (a2.PC = 5) then
          (yW a1.M a2.C).bind fun y6 =>
          bif decide (y6.2.1.Out = 1) then
           bif decide (y6.2.1.Out = 2) then
            (xQ ({ a1 with M := y6.1 }) 0).bind fun y7 =>
            some ({ a1 with M := y6.1 }, { a2 with PC := 6, C := y7.1, Bin := y6.2.1.X }, ())
           else
            some ({ a1 with M := y6.1 }, { a2 with PC := 6, C := y6.2.1, Bin := y6.2.1.X }, ())
          else
           bif decide (y6.2.1.Out = 2) then
            (xQ ({ a1 with M := y6.1 }) 0).bind fun y8 =>
            some ({ a1 with M := y6.1 }, { a2 with C := y8.1 }, ())
           else
            some ({ a1 with M := y6.1 }, { a2 with C := y6.2.1 }, ())
         else
          bif decide (a2.PC = 6) then
           (Zr a1 a2.Bin ([a2.Obj] : List Int)).bind fun y9 =>
           (xQ y9.1 a2.Bin).bind fun y10 =>
           some (y9.1, { a2 with PC := 7, C := y10.1 }, ())
          else
           bif decide (a2.PC = 7) then
            (yW a1.M a2.C).bind fun y11 =>
            bif decide (y11.2.1.Out = 1) then
             some ({ a1 with M := y11.1 }, { a2 with C := y11.2.1, Out := 1 }, ())
            else
             some ({ a1 with M := y11.1 }, { a2 with C := y11.2.1 }, ())
           else
            some (a1, a2, ()) := zl (by kernel_rfl)
theorem znj (a1 : zB) (a2 : Int) : zdH a1 a2 =
 (vQ a1.Marks a2).bind fun y1 =>
 bif !y1.1 then
  some (0, ())
 else
  (vQ a1.Black a2).bind fun y2 =>
  bif y2.1 then
   some (2, ())
  else
   some (1, ()) := zl (by kernel_rfl)
theorem zk7 (a1 : zB) (a2 : Int) : Yb a1 a2 =
 (zdH a1 a2).bind fun y1 =>
 bif !(decide (y1.1 = 1)) then
  some (a1, false, ())
 else
  (YZ a1.Black a2).bind fun y2 =>
  some ({ a1 with Black := y2.1 }, true, ()) := zl (by kernel_rfl)
theorem zkK (a1 : zG) (a2 : Int) : XN a1 a2 =
 bif decide (1 ≤ a2) then
  some (decide (a2 ≤ ((a1.Bal.length : Int))), ())
 else
  some (false, ()) := zl (by kernel_rfl)
theorem zlZ (a1 : zG) (a2 : Int) (a3 : Int) : Ww a1 a2 a3 =
 (yZ a1.Bal).bind fun l1 =>
 (vd l1 (w64 (a2 - 1))).bind fun n2 =>
 (l1[n2]?).bind fun x3 =>
 (vd l1 (w64 (a2 - 1))).bind fun n4 =>
 some ({ a1 with Bal := l1.set n4 (w64 (x3 + a3)) }, ()) := zl (by kernel_rfl)
theorem zmj (a1 : zG) (a2 : Int) : Z9 a1 a2 =
 (XN ({ a1 with Scanned := w64 (a1.Scanned + 1) }) a2).bind fun y1 =>
 bif y1.1 then
  (Ww ({ a1 with Scanned := w64 (a1.Scanned + 1) }) a2 1).bind fun y2 =>
  some (y2.1, ())
 else
  some ({ a1 with Scanned := w64 (a1.Scanned + 1), Pool := w64 (a1.Pool + 1) }, ()) := zl (by kernel_rfl)
end Go.Pe.G
namespace Go.Pe.G
open Go.Pe
theorem zlY (a1 : zo) (a2 : zm) (a3 : Int) : zbD a1 a2 a3 =
 bif decide (a2.PC = 0) then
  bif decide (a2.PC = 0) then
   (xR a1.M a2.D).bind fun y1 =>
   bif decide (y1.2.1.Out = 1) then
    bif decide (y1.2.1.Out = 2) then
     (yD ({ a1 with M := y1.1 }) (zm.mk 5 y1.2.1.X 0 a3 a2.Bin a2.Batch y1.2.1 a2.C a2.G) a3).bind fun y2 =>
     some ({ a1 with M := y1.1 }, y2.1, ())
    else
     bif decide (y1.2.1.Out = 4) then
      (yD ({ a1 with M := y1.1 }) (zm.mk 5 y1.2.1.X 0 a3 a2.Bin a2.Batch y1.2.1 a2.C a2.G) a3).bind fun y3 =>
      some ({ a1 with M := y1.1 }, y3.1, ())
     else
      some ({ a1 with M := y1.1 }, zm.mk 5 y1.2.1.X 0 a3 a2.Bin a2.Batch y1.2.1 a2.C a2.G, ())
   else
    bif decide (y1.2.1.Out = 2) then
     (yD ({ a1 with M := y1.1 }) ({ a2 with D := y1.2.1 }) a3).bind fun y4 =>
     some ({ a1 with M := y1.1 }, y4.1, ())
    else
     bif decide (y1.2.1.Out = 4) then
      (yD ({ a1 with M := y1.1 }) ({ a2 with D := y1.2.1 }) a3).bind fun y5 =>
      some ({ a1 with M := y1.1 }, y5.1, ())
     else
      some ({ a1 with M := y1.1 }, { a2 with D := y1.2.1 }, ())
  else
   bif decide (a2.PC = 2) then
    (yW a1.M a2.C).bind fun y6 =>
    bif decide (y6.2.1.Out = 1) then
     bif decide (y6.2.1.Out = 2) then
      (xH ({ a1 with M := y6.1 }) ({ a2 with PC := 3, Bin := y6.2.1.X, C := y6.2.1 }) a3).bind fun y7 =>
      some ({ a1 with M := y6.1 }, y7.1, ())
     else
      some ({ a1 with M := y6.1 }, { a2 with PC := 3, Bin := y6.2.1.X, C := y6.2.1 }, ())
    else
     bif decide (y6.2.1.Out = 2) then
      (xH ({ a1 with M := y6.1 }) ({ a2 with C := y6.2.1 }) a3).bind fun y8 =>
      some ({ a1 with M := y6.1 }, y8.1, ())
     else
      some ({ a1 with M := y6.1 }, { a2 with C := y6.2.1 }, ())
   else
    bif decide (a2.PC = 3) then
     (idx a1.Bins a2.Bin).bind fun x9 =>
     (Zr a1 a2.Bin ([] : List Int)).bind fun y10 =>
     (uc y10.1.P).bind fun y11 =>
     (wB y10.1.P).bind fun y12 =>
     (wZ 1 y11.1 y12.1 a2.Bin).bind fun y13 =>
     some (y10.1, { a2 with PC := 4, Batch := x9, C := y13.1 }, ())
    else
     bif decide (a2.PC = 4) then
      (yW a1.M a2.C).bind fun y14 =>
      bif decide (y14.2.1.Out = 1) then
       some ({ a1 with M := y14.1 }, { a2 with PC := 7, Bin := 0, C := y14.2.1 }, ())
      else
       some ({ a1 with M := y14.1 }, { a2 with C := y14.2.1 }, ())
     else
      bif decide (a2.PC = 5) then
       (Y4 a1.H a2.Obj a2.Slot).bind fun y15 =>
       bif !(decide (y15.1 = 0)) then
        (zap 1 y15.1 a3).bind fun y16 =>
        some (a1, { a2 with PC := 6, Slot := w64 (a2.Slot + 1), G := y16.1 }, ())
       else
        (vp a1 (w64 (a2.Slot + 1)) 5 8).bind fun y17 =>
        some (a1, { a2 with PC := y17.1, Slot := w64 (a2.Slot + 1) }, ())
      else
       bif decide (a2.PC = 6) then
        (Ye a1 a2.G).bind fun y18 =>
        bif decide (y18.2.1.Out = 1) then
         (vp y18.1 a2.Slot 5 8).bind fun y19 =>
         some (y18.1, { a2 with PC := y19.1, G := y18.2.1 }, ())
        else
         some (y18.1, { a2 with G := y18.2.1 }, ())
       else
        bif decide (a2.PC = 7) then
         bif decide (((a2.Batch.length : Int)) = 0) then
          (xH a1 a2 a3).bind fun y20 =>
          some (a1, y20.1, ())
         else
          (idx a2.Batch 0).bind fun x21 =>
          (cut a2.Batch 1 ((a2.Batch.length : Int))).bind fun l22 =>
          some (a1, { a2 with PC := 5, Obj := x21, Slot := 0, Batch := l22 }, ())
        else
         bif decide (a2.PC = 8) then
          (Yb a1.T a2.Obj).bind fun y23 =>
          (Z9 a1.L 0).bind fun y24 =>
          some ({ a1 with T := y23.1, L := y24.1 }, { a2 with PC := 9 }, ())
         else
          bif decide (a2.PC = 9) then
           some ({ a1 with Work := w64 (a1.Work - 1) }, { a2 with PC := 7, Obj := 0 }, ())
          else
           some (a1, a2, ())
 else
  bif decide (a2.PC = 1) then
   (xR a1.M a2.D).bind fun y25 =>
   bif decide (y25.2.1.Out = 1) then
    bif decide (y25.2.1.Out = 2) then
     (yD ({ a1 with M := y25.1 }) (zm.mk 5 y25.2.1.X 0 a3 a2.Bin a2.Batch y25.2.1 a2.C a2.G) a3).bind fun y26 =>
     some ({ a1 with M := y25.1 }, y26.1, ())
    else
     bif decide (y25.2.1.Out = 4) then
      (yD ({ a1 with M := y25.1 }) (zm.mk 5 y25.2.1.X 0 a3 a2.Bin a2.Batch y25.2.1 a2.C a2.G) a3).bind fun y27 =>
      some ({ a1 with M := y25.1 }, y27.1, ())
     else
      some ({ a1 with M := y25.1 }, zm.mk 5 y25.2.1.X 0 a3 a2.Bin a2.Batch y25.2.1 a2.C a2.G, ())
   else
    bif decide (y25.2.1.Out = 2) then
     (yD ({ a1 with M := y25.1 }) ({ a2 with D := y25.2.1 }) a3).bind fun y28 =>
     some ({ a1 with M := y25.1 }, y28.1, ())
    else
     bif decide (y25.2.1.Out = 4) then
      (yD ({ a1 with M := y25.1 }) ({ a2 with D := y25.2.1 }) a3).bind fun y29 =>
      some ({ a1 with M := y25.1 }, y29.1, ())
     else
      some ({ a1 with M := y25.1 }, { a2 with D := y25.2.1 }, ())
  else
   bif decide (a2.PC = 2) then
    (yW a1.M a2.C).bind fun y30 =>
    bif decide (y30.2.1.Out = 1) then
     bif decide (y30.2.1.Out = 2) then
      (xH ({ a1 with M := y30.1 }) ({ a2 with PC := 3, Bin := y30.2.1.X, C := y30.2.1 }) a3).bind fun y31 =>
      some ({ a1 with M := y30.1 }, y31.1, ())
     else
      some ({ a1 with M := y30.1 }, { a2 with PC := 3, Bin := y30.2.1.X, C := y30.2.1 }, ())
    else
     bif decide (y30.2.1.Out = 2) then
      (xH ({ a1 with M := y30.1 }) ({ a2 with C := y30.2.1 }) a3).bind fun y32 =>
      some ({ a1 with M := y30.1 }, y32.1, ())
     else
      some ({ a1 with M := y30.1 }, { a2 with C := y30.2.1 }, ())
   else
    bif decide (a2.PC = 3) then
     (idx a1.Bins a2.Bin).bind fun x33 =>
     (Zr a1 a2.Bin ([] : List Int)).bind fun y34 =>
     (uc y34.1.P).bind fun y35 =>
     (wB y34.1.P).bind fun y36 =>
     (wZ 1 y35.1 y36.1 a2.Bin).bind fun y37 =>
     some (y34.1, { a2 with PC := 4, Batch := x33, C := y37.1 }, ())
    else
     bif decide (a2.PC = 4) then
      (yW a1.M a2.C).bind fun y38 =>
      bif decide (y38.2.1.Out = 1) then
       some ({ a1 with M := y38.1 }, { a2 with PC := 7, Bin := 0, C := y38.2.1 }, ())
      else
       some ({ a1 with M := y38.1 }, { a2 with C := y38.2.1 }, ())
     else
      bif decide (a2.PC = 5) then
       (Y4 a1.H a2.Obj a2.Slot).bind fun y39 =>
       bif !(decide (y39.1 = 0)) then
        (zap 1 y39.1 a3).bind fun y40 =>
        some (a1, { a2 with PC := 6, Slot := w64 (a2.Slot + 1), G := y40.1 }, ())
       else
        (vp a1 (w64 (a2.Slot + 1)) 5 8).bind fun y41 =>
        some (a1, { a2 with PC := y41.1, Slot := w64 (a2.Slot + 1) }, ())
      else
       bif decide (a2.PC = 6) then
        (Ye a1 a2.G).bind fun y42 =>
        bif decide (y42.2.1.Out = 1) then
         (vp y42.1 a2.Slot 5 8).bind fun y43 =>
         some (y42.1, { a2 with PC := y43.1, G := y42.2.1 }, ())
        else
         some (y42.1, { a2 with G := y42.2.1 }, ())
       else
        bif decide (a2.PC = 7) then
         bif decide (((a2.Batch.length : Int)) = 0) then
          (xH a1 a2 a3).bind fun y44 =>
          some (a1, y44.1, ())
         else
          (idx a2.Batch 0).bind fun x45 =>
          (cut a2.Batch 1 ((a2.Batch.length : Int))).bind fun l46 =>
          some (a1, { a2 with PC := 5, Obj := x45, Slot := 0, Batch := l46 }, ())
        else
         bif decide (a2.PC = 8) then
          (Yb a1.T a2.Obj).bind fun y47 =>
          (Z9 a1.L 0).bind fun y48 =>
          some ({ a1 with T := y47.1, L := y48.1 }, { a2 with PC := 9 }, ())
         else
          bif decide (a2.PC = 9) then
           some ({ a1 with Work := w64 (a1.Work - 1) }, { a2 with PC := 7, Obj := 0 }, ())
          else
           some (a1, a2, ()) := zl (by kernel_rfl)
theorem zk2 (a1 : zo) (a2 : Int) : WH a1 a2 =
 bif a1.Done then
  some (a1, ())
 else
  bif decide (a2 < 1) then
   some (a1, ())
  else
   bif decide (((a1.Ws.length : Int)) < a2) then
    some (a1, ())
   else
    (idx a1.Ws (w64 (a2 - 1))).bind fun x1 =>
    (zbD a1 x1 a2).bind fun y2 =>
    (yZ y2.1.Ws).bind fun l3 =>
    (vd l3 (w64 (a2 - 1))).bind fun n4 =>
    some ({ y2.1 with Ws := l3.set n4 y2.2.1 }, ()) := zl (by kernel_rfl)
theorem za0 (s1 : Int) (s2 : zw) (s3 : zw) : vl (s1, s2, s3, ()) =
 bif decide (s1 < ((s2.Objs.length : Int))) then
  (idx s2.Objs s1).bind fun x1 =>
  (idx s3.Objs s1).bind fun x2 =>
  bif !(decide (((x1.length : Int)) = ((x2.length : Int)))) then
   some (.ret (false, ()))
  else
   (zU vo (s1, 0, s2, s3, ())).bind fun st => match st with
     | .again _ => none
     | .brk y3 =>
     some (.again (w64 (y3.1 + 1), y3.2.1, y3.2.2.1, ()))
     | .ret y3 =>
     some (.ret (y3.1, ()))
 else
  some (.brk (())) := by kernel_rfl
theorem zaT (s1 : Int) (s2 : Int) (s3 : zw) (s4 : zw) : vo (s1, s2, s3, s4, ()) =
 (idx s3.Objs s1).bind fun x1 =>
 bif decide (s2 < ((x1.length : Int))) then
  (idx s3.Objs s1).bind fun x2 =>
  (idx x2 s2).bind fun x3 =>
  (idx s4.Objs s1).bind fun x4 =>
  (idx x4 s2).bind fun x5 =>
  bif !(decide (x3 = x5)) then
   some (.ret (false, ()))
  else
   some (.again (s1, w64 (s2 + 1), s3, s4, ()))
 else
  some (.brk (s1, s3, s4, ())) := by kernel_rfl
theorem zma (a1 : zw) (a2 : zw) : Z5 a1 a2 =
 bif !(decide (a1.Slots = a2.Slots)) then
  some (false, ())
 else
  bif !(decide (((a1.Objs.length : Int)) = ((a2.Objs.length : Int)))) then
   some (false, ())
  else
   (zU vl (0, a1, a2, ())).bind fun st => match st with
     | .again _ => none
     | .brk y1 =>
     some (true, ())
     | .ret y1 =>
     some (y1.1, ()) := zl (by kernel_rfl)
theorem za7 (s1 : Int) (s2 : zn) (s3 : zn) : vg (s1, s2, s3, ()) =
 bif decide (s1 < ((s2.Regs.length : Int))) then
  (idx s2.Regs s1).bind fun x1 =>
  (idx s3.Regs s1).bind fun x2 =>
  bif !(decide (((x1.length : Int)) = ((x2.length : Int)))) then
   some (.ret (false, ()))
  else
   (zU vn (s1, 0, s2, s3, ())).bind fun st => match st with
     | .again _ => none
     | .brk y3 =>
     some (.again (w64 (y3.1 + 1), y3.2.1, y3.2.2.1, ()))
     | .ret y3 =>
     some (.ret (y3.1, ()))
 else
  some (.brk (s2, s3, ())) := by kernel_rfl
theorem za6 (s1 : Int) (s2 : Int) (s3 : zn) (s4 : zn) : vn (s1, s2, s3, s4, ()) =
 (idx s3.Regs s1).bind fun x1 =>
 bif decide (s2 < ((x1.length : Int))) then
  (idx s3.Regs s1).bind fun x2 =>
  (idx x2 s2).bind fun x3 =>
  (idx s4.Regs s1).bind fun x4 =>
  (idx x4 s2).bind fun x5 =>
  bif !(decide (x3 = x5)) then
   some (.ret (false, ()))
  else
   some (.again (s1, w64 (s2 + 1), s3, s4, ()))
 else
  some (.brk (s1, s3, s4, ())) := by kernel_rfl
theorem zao (s1 : Int) (s2 : zn) (s3 : zn) : xU (s1, s2, s3, ()) =
 bif decide (s1 < ((s2.Progs.length : Int))) then
  (idx s2.Progs s1).bind fun x1 =>
  (idx s3.Progs s1).bind fun x2 =>
  bif !(decide (((x1.length : Int)) = ((x2.length : Int)))) then
   some (.ret (false, ()))
  else
   (zU wP (s1, 0, s2, s3, ())).bind fun st => match st with
     | .again _ => none
     | .brk y3 =>
     some (.again (w64 (y3.1 + 1), y3.2.1, y3.2.2.1, ()))
     | .ret y3 =>
     some (.ret (y3.1, ()))
 else
  some (.brk (s2, s3, ())) := by kernel_rfl
theorem U5 (s1 : Int) (s2 : Int) (s3 : zn) (s4 : zn) : wP (s1, s2, s3, s4, ()) =
 (idx s3.Progs s1).bind fun x1 =>
 bif decide (s2 < ((x1.length : Int))) then
  (idx s3.Progs s1).bind fun x2 =>
  (idx x2 s2).bind fun x3 =>
  (idx s4.Progs s1).bind fun x4 =>
  (idx x4 s2).bind fun x5 =>
  bif !((decide (x3.Kind = x5.Kind)) && ((decide (x3.R = x5.R)) && ((decide (x3.A = x5.A)) && (decide (x3.S = x5.S))))) then
   some (.ret (false, ()))
  else
   some (.again (s1, w64 (s2 + 1), s3, s4, ()))
 else
  some (.brk (s1, s3, s4, ())) := by kernel_rfl
theorem zau (s1 : Int) (s2 : zn) (s3 : zn) : wQ (s1, s2, s3, ()) =
 bif decide (s1 < ((s2.Picks.length : Int))) then
  (idx s2.Picks s1).bind fun x1 =>
  (idx s3.Picks s1).bind fun x2 =>
  bif !((decide (x1.Kind = x2.Kind)) && (decide (x1.N = x2.N))) then
   some (.ret (false, ()))
  else
   some (.again (w64 (s1 + 1), s2, s3, ()))
 else
  some (.brk (())) := by kernel_rfl
theorem zk3 (a1 : zn) (a2 : zn) : Wy a1 a2 =
 bif !(decide (a1.Workers = a2.Workers)) then
  some (false, ())
 else
  bif !(decide (a1.Mutators = a2.Mutators)) then
   some (false, ())
  else
   bif !(decide (a1.Cap = a2.Cap)) then
    some (false, ())
   else
    bif !(decide (a1.Buf = a2.Buf)) then
     some (false, ())
    else
     bif !(decide (a1.Bin = a2.Bin)) then
      some (false, ())
     else
      bif !(decide (a1.Most = a2.Most)) then
       some (false, ())
      else
       bif !(decide (a1.Price = a2.Price)) then
        some (false, ())
       else
        bif !(decide (a1.Limit = a2.Limit)) then
         some (false, ())
        else
         bif !(decide (a1.Roots = a2.Roots)) then
          some (false, ())
         else
          (Z5 a1.H a2.H).bind fun y1 =>
          bif !y1.1 then
           some (false, ())
          else
           bif !(decide (((a1.Regs.length : Int)) = ((a2.Regs.length : Int)))) then
            some (false, ())
           else
            bif !(decide (((a1.Progs.length : Int)) = ((a2.Progs.length : Int)))) then
             some (false, ())
            else
             bif !(decide (((a1.Picks.length : Int)) = ((a2.Picks.length : Int)))) then
              some (false, ())
             else
              (zU vg (0, a1, a2, ())).bind fun st => match st with
                | .again _ => none
                | .brk y2 =>
                (zU xU (0, y2.1, y2.2.1, ())).bind fun st => match st with
                  | .again _ => none
                  | .brk y3 =>
                  (zU wQ (0, y3.1, y3.2.1, ())).bind fun st => match st with
                    | .again _ => none
                    | .brk y4 =>
                    some (true, ())
                    | .ret y4 =>
                    some (y4.1, ())
                  | .ret y3 =>
                  some (y3.1, ())
                | .ret y2 =>
                some (y2.1, ()) := zl (by kernel_rfl)
theorem za3 (s1 : List (BitVec 64)) (s2 : List (BitVec 64)) (s3 : Int) : uK (s1, s2, s3, ()) =
 bif decide (s3 < ((s1.length : Int))) then
  (idx s1 s3).bind fun x1 =>
  (idx s2 s3).bind fun x2 =>
  bif !(decide (x1 = x2)) then
   some (.ret (false, ()))
  else
   some (.again (s1, s2, w64 (s3 + 1), ()))
 else
  some (.brk (())) := by kernel_rfl
theorem zk8 (a1 : List (BitVec 64)) (a2 : List (BitVec 64)) : WJ a1 a2 =
 bif !(decide (((a1.length : Int)) = ((a2.length : Int)))) then
  some (false, ())
 else
  (zU uK (a1, a2, 0, ())).bind fun st => match st with
    | .again _ => none
    | .brk y1 =>
    some (true, ())
    | .ret y1 =>
    some (y1.1, ()) := zl (by kernel_rfl)
theorem Vj (s1 : List Int) (s2 : List Int) (s3 : Int) : wU (s1, s2, s3, ()) =
 bif decide (s3 < ((s1.length : Int))) then
  (idx s1 s3).bind fun x1 =>
  (idx s2 s3).bind fun x2 =>
  bif !(decide (x1 = x2)) then
   some (.ret (false, ()))
  else
   some (.again (s1, s2, w64 (s3 + 1), ()))
 else
  some (.brk (())) := by kernel_rfl
theorem zha (a1 : List Int) (a2 : List Int) : xe a1 a2 =
 bif !(decide (((a1.length : Int)) = ((a2.length : Int)))) then
  some (false, ())
 else
  (zU wU (a1, a2, 0, ())).bind fun st => match st with
    | .again _ => none
    | .brk y1 =>
    some (true, ())
    | .ret y1 =>
    some (y1.1, ()) := zl (by kernel_rfl)
theorem zaX (s1 : Int) (s2 : zG) (s3 : zG) : uI (s1, s2, s3, ()) =
 bif decide (s1 < ((s2.Bal.length : Int))) then
  (idx s2.Bal s1).bind fun x1 =>
  (idx s3.Bal s1).bind fun x2 =>
  bif !(decide (x1 = x2)) then
   some (.ret (false, ()))
  else
   some (.again (w64 (s1 + 1), s2, s3, ()))
 else
  some (.brk (())) := by kernel_rfl
theorem zl2 (a1 : zG) (a2 : zG) : Wx a1 a2 =
 bif !(decide (a1.Scanned = a2.Scanned)) then
  some (false, ())
 else
  bif !(decide (a1.Spent = a2.Spent)) then
   some (false, ())
  else
   bif !(decide (a1.Pool = a2.Pool)) then
    some (false, ())
   else
    bif !(decide (((a1.Bal.length : Int)) = ((a2.Bal.length : Int)))) then
     some (false, ())
    else
     (zU uI (0, a1, a2, ())).bind fun st => match st with
       | .again _ => none
       | .brk y1 =>
       some (true, ())
       | .ret y1 =>
       some (y1.1, ()) := zl (by kernel_rfl)
theorem zfT (a1 : zm) (a2 : zm) : Xi a1 a2 =
 bif decide (a1.PC = a2.PC) then
  bif decide (a1.Obj = a2.Obj) then
   bif decide (a1.Slot = a2.Slot) then
    bif decide (a1.Victim = a2.Victim) then
     bif decide (a1.Bin = a2.Bin) then
      (xe a1.Batch a2.Batch).bind fun y1 =>
      bif y1.1 then
       bif (decide (a1.D.Kind = a2.D.Kind)) && ((decide (a1.D.PC = a2.D.PC)) && ((decide (a1.D.Base = a2.D.Base)) && ((decide (a1.D.Cap = a2.D.Cap)) && ((decide (a1.D.B = a2.D.B)) && ((decide (a1.D.T = a2.D.T)) && ((decide (a1.D.X = a2.D.X)) && (decide (a1.D.Out = a2.D.Out)))))))) then
        bif (decide (a1.C.Kind = a2.C.Kind)) && ((decide (a1.C.PC = a2.C.PC)) && ((decide (a1.C.Head = a2.C.Head)) && ((decide (a1.C.Next = a2.C.Next)) && ((decide (a1.C.H = a2.C.H)) && ((decide (a1.C.X = a2.C.X)) && ((decide (a1.C.Y = a2.C.Y)) && (decide (a1.C.Out = a2.C.Out)))))))) then
         some ((decide (a1.G.PC = a2.G.PC)) && ((decide (a1.G.Mode = a2.G.Mode)) && ((decide (a1.G.Obj = a2.G.Obj)) && ((decide (a1.G.Who = a2.G.Who)) && (((decide (a1.G.D.Kind = a2.G.D.Kind)) && ((decide (a1.G.D.PC = a2.G.D.PC)) && ((decide (a1.G.D.Base = a2.G.D.Base)) && ((decide (a1.G.D.Cap = a2.G.D.Cap)) && ((decide (a1.G.D.B = a2.G.D.B)) && ((decide (a1.G.D.T = a2.G.D.T)) && ((decide (a1.G.D.X = a2.G.D.X)) && (decide (a1.G.D.Out = a2.G.D.Out))))))))) && (((decide (a1.G.C.Kind = a2.G.C.Kind)) && ((decide (a1.G.C.PC = a2.G.C.PC)) && ((decide (a1.G.C.Head = a2.G.C.Head)) && ((decide (a1.G.C.Next = a2.G.C.Next)) && ((decide (a1.G.C.H = a2.G.C.H)) && ((decide (a1.G.C.X = a2.G.C.X)) && ((decide (a1.G.C.Y = a2.G.C.Y)) && (decide (a1.G.C.Out = a2.G.C.Out))))))))) && ((decide (a1.G.Bin = a2.G.Bin)) && (decide (a1.G.Out = a2.G.Out)))))))), ())
        else
         some (false, ())
       else
        some (false, ())
      else
       some (false, ())
     else
      some (false, ())
    else
     some (false, ())
   else
    some (false, ())
  else
   some (false, ())
 else
  some (false, ()) := zl (by kernel_rfl)
theorem zfr (a1 : zt) (a2 : zt) : YL a1 a2 =
 bif decide (a1.PC = a2.PC) then
  bif decide (a1.IP = a2.IP) then
   bif decide (a1.Ret = a2.Ret) then
    bif decide (a1.Want = a2.Want) then
     bif decide (a1.Old = a2.Old) then
      bif decide (a1.Obj = a2.Obj) then
       bif decide (a1.Slot = a2.Slot) then
        bif decide (a1.Bin = a2.Bin) then
         (xe a1.Regs a2.Regs).bind fun y1 =>
         bif y1.1 then
          (xe a1.Buf a2.Buf).bind fun y2 =>
          bif y2.1 then
           (xe a1.Batch a2.Batch).bind fun y3 =>
           bif y3.1 then
            bif (decide (a1.C.Kind = a2.C.Kind)) && ((decide (a1.C.PC = a2.C.PC)) && ((decide (a1.C.Head = a2.C.Head)) && ((decide (a1.C.Next = a2.C.Next)) && ((decide (a1.C.H = a2.C.H)) && ((decide (a1.C.X = a2.C.X)) && ((decide (a1.C.Y = a2.C.Y)) && (decide (a1.C.Out = a2.C.Out)))))))) then
             some ((decide (a1.G.PC = a2.G.PC)) && ((decide (a1.G.Mode = a2.G.Mode)) && ((decide (a1.G.Obj = a2.G.Obj)) && ((decide (a1.G.Who = a2.G.Who)) && (((decide (a1.G.D.Kind = a2.G.D.Kind)) && ((decide (a1.G.D.PC = a2.G.D.PC)) && ((decide (a1.G.D.Base = a2.G.D.Base)) && ((decide (a1.G.D.Cap = a2.G.D.Cap)) && ((decide (a1.G.D.B = a2.G.D.B)) && ((decide (a1.G.D.T = a2.G.D.T)) && ((decide (a1.G.D.X = a2.G.D.X)) && (decide (a1.G.D.Out = a2.G.D.Out))))))))) && (((decide (a1.G.C.Kind = a2.G.C.Kind)) && ((decide (a1.G.C.PC = a2.G.C.PC)) && ((decide (a1.G.C.Head = a2.G.C.Head)) && ((decide (a1.G.C.Next = a2.G.C.Next)) && ((decide (a1.G.C.H = a2.G.C.H)) && ((decide (a1.G.C.X = a2.G.C.X)) && ((decide (a1.G.C.Y = a2.G.C.Y)) && (decide (a1.G.C.Out = a2.G.C.Out))))))))) && ((decide (a1.G.Bin = a2.G.Bin)) && (decide (a1.G.Out = a2.G.Out)))))))), ())
            else
             some (false, ())
           else
            some (false, ())
          else
           some (false, ())
         else
          some (false, ())
        else
         some (false, ())
       else
        some (false, ())
      else
       some (false, ())
     else
      some (false, ())
    else
     some (false, ())
   else
    some (false, ())
  else
   some (false, ())
 else
  some (false, ()) := zl (by kernel_rfl)
theorem za2 (s1 : Int) (s2 : zo) (s3 : zo) : uP (s1, s2, s3, ()) =
 bif decide (s1 < ((s2.Bins.length : Int))) then
  (idx s2.Bins s1).bind fun x1 =>
  (idx s3.Bins s1).bind fun x2 =>
  (xe x1 x2).bind fun y3 =>
  bif !y3.1 then
   some (.ret (false, ()))
  else
   some (.again (w64 (s1 + 1), s2, s3, ()))
 else
  some (.brk (s2, s3, ())) := by kernel_rfl
theorem zaY (s1 : Int) (s2 : zo) (s3 : zo) : uN (s1, s2, s3, ()) =
 bif decide (s1 < ((s2.Ws.length : Int))) then
  (idx s2.Ws s1).bind fun x1 =>
  (idx s3.Ws s1).bind fun x2 =>
  (Xi x1 x2).bind fun y3 =>
  bif !y3.1 then
   some (.ret (false, ()))
  else
   some (.again (w64 (s1 + 1), s2, s3, ()))
 else
  some (.brk (s2, s3, ())) := by kernel_rfl
theorem U4 (s1 : Int) (s2 : zo) (s3 : zo) : um (s1, s2, s3, ()) =
 bif decide (s1 < ((s2.Ms.length : Int))) then
  (idx s2.Ms s1).bind fun x1 =>
  (idx s3.Ms s1).bind fun x2 =>
  (YL x1 x2).bind fun y3 =>
  bif !y3.1 then
   some (.ret (false, ()))
  else
   some (.again (w64 (s1 + 1), s2, s3, ()))
 else
  some (.brk (())) := by kernel_rfl
theorem zlj (a1 : zo) (a2 : zo) : WF a1 a2 =
 (Wy a1.P a2.P).bind fun y1 =>
 bif !y1.1 then
  some (false, ())
 else
  (Z5 a1.H a2.H).bind fun y2 =>
  bif !y2.1 then
   some (false, ())
  else
   (WJ a1.M a2.M).bind fun y3 =>
   bif !y3.1 then
    some (false, ())
   else
    bif !((decide (a1.T.Marks = a2.T.Marks)) && (decide (a1.T.Black = a2.T.Black))) then
     some (false, ())
    else
     bif !(decide (a1.Work = a2.Work)) then
      some (false, ())
     else
      bif !(decide (a1.Epoch = a2.Epoch)) then
       some (false, ())
      else
       bif !(decide (a1.Flag = a2.Flag)) then
        some (false, ())
       else
        bif !(decide (a1.Done = a2.Done)) then
         some (false, ())
        else
         bif !(decide (a1.Restarts = a2.Restarts)) then
          some (false, ())
         else
          (xe a1.Acks a2.Acks).bind fun y4 =>
          bif !y4.1 then
           some (false, ())
          else
           (Wx a1.L a2.L).bind fun y5 =>
           bif !y5.1 then
            some (false, ())
           else
            bif !((decide (a1.D.PC = a2.D.PC)) && (decide (a1.D.I = a2.D.I))) then
             some (false, ())
            else
             bif !(decide (((a1.Bins.length : Int)) = ((a2.Bins.length : Int)))) then
              some (false, ())
             else
              bif !(decide (((a1.Ws.length : Int)) = ((a2.Ws.length : Int)))) then
               some (false, ())
              else
               bif !(decide (((a1.Ms.length : Int)) = ((a2.Ms.length : Int)))) then
                some (false, ())
               else
                (zU uP (0, a1, a2, ())).bind fun st => match st with
                  | .again _ => none
                  | .brk y6 =>
                  (zU uN (0, y6.1, y6.2.1, ())).bind fun st => match st with
                    | .again _ => none
                    | .brk y7 =>
                    (zU um (0, y7.1, y7.2.1, ())).bind fun st => match st with
                      | .again _ => none
                      | .brk y8 =>
                      some (true, ())
                      | .ret y8 =>
                      some (y8.1, ())
                    | .ret y7 =>
                    some (y7.1, ())
                  | .ret y6 =>
                  some (y6.1, ()) := zl (by kernel_rfl)
theorem XD (s1 : List (BitVec 8)) (s2 : Int) (s3 : Bool) (s4 : Int) (s5 : zb) (s6 : zo) : wg (s1, s2, s3, s4, s5, s6, ()) =
 bif decide (s4 < ((s1.length : Int))) then
  bif decide (s4 < 250) then
   (idx s1 s4).bind fun x1 =>
   bif decide (((s5.Ws.length : Int)) = 0) then
    none
   else
    (ZZ s5 (w64 (1 + (((x1.toNat : Int)).tmod ((s5.Ws.length : Int)))))).bind fun y2 =>
    (WH s6 (w64 (1 + (((x1.toNat : Int)).tmod ((s5.Ws.length : Int)))))).bind fun y3 =>
    (ug y2.1).bind fun y4 =>
    (WF y4.1 y3.1).bind fun y5 =>
    bif !y5.1 then
     some (.ret (false, ()))
    else
     some (.again (s1, s2, s3, w64 (s4 + 1), y2.1, y3.1, ()))
  else
   some (.brk (s2, s3, s5, s6, ()))
 else
  some (.brk (s2, s3, s5, s6, ())) := by kernel_rfl
theorem zfs (a1 : List (BitVec 8)) (a2 : List (BitVec 8)) (a3 : Int) : wW a1 a2 a3 =
 (WT).bind fun y1 =>
 bif !y1.1 then
  some (false, ())
 else
  (zbI a1).bind fun y2 =>
  (ze1 y2.1).bind fun y3 =>
  (ug y3.1).bind fun y4 =>
  (zU wg (a2, a3, y1.1, 0, y3.1, y4.1, ())).bind fun st => match st with
    | .again _ => none
    | .brk y5 =>
    bif y5.2.1 then
     (ZZ y5.2.2.1 y5.1).bind fun y6 =>
     (ug y6.1).bind fun y7 =>
     (WH y5.2.2.2.1 y5.1).bind fun y8 =>
     (WF y7.1 y8.1).bind fun y9 =>
     some (y9.1, ())
    else
     some (false, ())
    | .ret y5 =>
    some (y5.1, ()) := zl (by kernel_rfl)
end Go.Pe.G

namespace Go.Pe.G
open Go.Pe
theorem zAr : Go.Proofs.Tryz.prog.funcs[170]? = some Go.Proofs.Tryz.f170 := by kernel_rfl
theorem zy7 : Go.Proofs.Tryz.f170.body.isSome = true := by kernel_rfl
theorem zy5 : ZW Go.Proofs.Tryz.prog 170 = true := by kernel_rfl
theorem zAw : Go.Proofs.Tryz.prog.funcs[260]? = some Go.Proofs.Tryz.f260 := by kernel_rfl
theorem zzf : Go.Proofs.Tryz.f260.body.isSome = true := by kernel_rfl
theorem zzD : ZW Go.Proofs.Tryz.prog 260 = true := by kernel_rfl
theorem zna (ys : List Int) (s1 : Int) (s2 : Int) (s3 : BitVec 64) : UR ys (s1, s2, s3, ()) =
 bif !(decide (s3 = 0#64)) then
  (qTZ s3).bind fun y1 =>
  (zbO ys s2 (w64 (y1.1 + 1))).bind fun _ =>
  some (.again (s1, s2 + 1, s3 &&& (s3 - 1#64), ()))
 else
  some (.brk (s1, s2, ())) := by kernel_rfl
theorem zqe (n : Int) (ys : List Int) (a1 : BitVec 64) : zp1 (zaN ys) Go.Proofs.Tryz.f260 zkn n ((a1, ()) : (BitVec 64) × Unit) =
 (zU (UR ys) (n, 0, a1, ())).bind fun st => match st with
   | .again _ => none
   | .brk y1 =>
   some y1.2.1
   | .ret y1 =>
   some y1.2.1 := by kernel_rfl
theorem YF (ys : List (List Int)) (s1 : Int) (s2 : Int) (s3 : Int) (s4 : List Int) (s5 : Int) : wT ys (s1, s2, s3, s4, s5, ()) =
 bif decide (s3 < ((s4.length : Int))) then
  (cut s4 s3 ((s4.length : Int))).bind fun l1 =>
  bif decide (s3 = 0) && decide ((w64 (s3 + (bif decide (((l1.length : Int)) < s5) then ((l1.length : Int)) else s5))) = 0) && decide ((w64 (s3 + (bif decide (((l1.length : Int)) < s5) then ((l1.length : Int)) else s5))) = 0) then
   (zbO ys s2 ([] : List Int)).bind fun _ =>
   some (.again (s1, s2 + 1, w64 (s3 + s5), s4, s5, ()))
  else
   bif decide (s3 = 0) && decide ((w64 (s3 + (bif decide (((l1.length : Int)) < s5) then ((l1.length : Int)) else s5))) = ((s4.length : Int))) && decide ((w64 (s3 + (bif decide (((l1.length : Int)) < s5) then ((l1.length : Int)) else s5))) = ((s4.length : Int))) then
    (zbO ys s2 s4).bind fun _ =>
    some (.again (s1, s2 + 1, w64 (s3 + s5), s4, s5, ()))
   else
    bif decide ((w64 (s3 + (bif decide (((l1.length : Int)) < s5) then ((l1.length : Int)) else s5))) = (w64 (s3 + (bif decide (((l1.length : Int)) < s5) then ((l1.length : Int)) else s5)))) then
     (cut s4 s3 (w64 (s3 + (bif decide (((l1.length : Int)) < s5) then ((l1.length : Int)) else s5)))).bind fun l2 =>
     (zbO ys s2 l2).bind fun _ =>
     some (.again (s1, s2 + 1, w64 (s3 + s5), s4, s5, ()))
    else
     none
 else
  some (.brk (s1, s2, ())) := by kernel_rfl
theorem zdU (n : Int) (ys : List (List Int)) (a1 : List Int) (a2 : Int) : zp1 (vc ys) Go.Proofs.Tryz.f170 WU n ((a1, a2, ()) : (List Int) × Int × Unit) =
 (zU (wT ys) (n, 0, 0, a1, a2, ())).bind fun st => match st with
   | .again _ => none
   | .brk y1 =>
   some y1.2.1
   | .ret y1 =>
   some y1.2.1 := by kernel_rfl
end Go.Pe.G
namespace Go.Pe.G
open Go.Pe
theorem zns {A B D : Type} (g : A → Option (yx A B D)) {o : yx Unit B D} : ∀ (k m : Nat) (x : A), vG g k x = some o → k ≤ m → vG g m x = some o
  | 0, m, x, h, _ => by cases h
  | k + 1, 0, x, h, hm => by omega
  | k + 1, m + 1, x, h, hm => by
    simp only [vG, Option.bind_eq_some_iff] at h ⊢
    obtain ⟨s, h1, h2⟩ := h
    refine ⟨s, h1, ?_⟩
    cases s with
    | again y => exact zns g k m y h2 (by omega)
    | brk b => exact h2
    | ret c => exact h2
theorem zst {α : Type} (pre post : List α) (z : α) : zbO (pre ++ z :: post) (pre.length : Int) z = some () := by
  unfold zbO
  rw [if_pos]
  refine ⟨by omega, ?_⟩
  simp
theorem zga (n : Int) (ys : List Int) : ∀ (f : Nat) (s : BitVec 64) (l pre : List Int), zcQ f s = some l → ys = pre ++ l → vG (UR ys) f (n, (pre.length : Int), s, ()) = some (.brk (n, (ys.length : Int), ()))
  | 0, s, l, pre, h, _ => by cases h
  | f + 1, s, l, pre, h, e => by
    simp only [zcQ] at h
    simp only [vG, zna]
    cases hz : decide (s = 0#64) with
    | true =>
      simp only [hz, cond_true, Option.some.injEq] at h
      subst h
      simp only [List.append_nil] at e
      subst e
      rfl
    | false =>
      simp only [hz, cond_false, Option.map_eq_some_iff] at h
      obtain ⟨l', h1, rfl⟩ := h
      have hn : zbO ys (pre.length : Int) (w64 (tz s + 1)) = some () := by rw [e]; exact zst pre l' _
      simp only [Bool.not_false, cond_true, zz9, Option.bind_some, hn]
      have := zga n ys f (s &&& (s - 1#64)) l' (pre ++ [w64 (tz s + 1)]) h1 (by rw [e]; simp)
      simpa using this
theorem zph (G : Nat → Prop) (W0 : World) (hG : zwG G W0) : Z4 Go.Proofs.Tryz.prog G W0 260 zal := by
  obtain ⟨c, hc⟩ := Option.isSome_iff_exists.1 zzf
  refine zq0 (Cg := zaN []) rfl zt3 (fun f s hs => Oks.at (.cons _ _ _ _ zzu (zxj hG) (.skip _ _ .nil)) f s hs) rfl zwx (fun g it h => by cases h) zzD zAw hc zal (Nat.le_of_ble_eq_true (by kernel_rfl)) rfl ?_
  rintro n ⟨a, ⟨⟩⟩ ys h
  have h : zcQ 66 a = some ys := h
  have e := zqe n ys a
  have k := zns _ 66 Y1 _ (zga n ys 66 a ys [] h rfl) (by decide)
  refine Eq.trans e ?_
  have k' : vG (UR ys) Y1 (n, 0, a, ()) = some (.brk (n, (ys.length : Int), ())) := k
  rw [VR, k']
  rfl
theorem zxx {a : Int} (h : -9223372036854775808 ≤ a) (h2 : a < 9223372036854775808) : w64 a = a := by
  rw [zks]
  omega
theorem zcZ (n : Int) (ys : List (List Int)) (l : List Int) (sz : Nat) (h1 : 1 ≤ sz) (h2 : sz < 1000000) (h3 : l.length < 1000000) : ∀ (f p : Nat) (pre : List (List Int)), (l.drop p).length ≤ f → ys = pre ++ ZF sz f (l.drop p) → p < 2000000 →
    vG (wT ys) (f + 1) (n, (pre.length : Int), (p : Int), l, (sz : Int), ()) = some (.brk (n, (ys.length : Int), ())) := by
  intro f
  induction f with
  | zero =>
    intro p pre hf e hp
    simp only [vG, YF]
    simp only [List.length_drop] at hf
    have : ¬ (p : Int) < (l.length : Int) := by omega
    simp only [this, decide_false, cond_false, Option.bind_some]
    simp only [ZF, List.append_nil] at e
    rw [e]
  | succ f ih =>
    intro p pre hf e hp
    rw [vG, YF]
    by_cases hlt : p < l.length
    · have hlt' : (p : Int) < (l.length : Int) := by omega
      have hcut : cut l (p : Int) (l.length : Int) = some (l.drop p) := by
        unfold cut
        have : (decide (0 ≤ (p : Int)) && decide ((p : Int) ≤ (l.length : Int)) && decide ((l.length : Int) ≤ (l.length : Int))) = true := by simp; omega
        simp only [this, cond_true]
        simp
      obtain ⟨x, r, hxr⟩ : ∃ x r, l.drop p = x :: r := by
        cases hd : l.drop p with
        | nil => have := congrArg List.length hd; simp at this; omega
        | cons x r => exact ⟨x, r, rfl⟩
      have hch : ZF sz (f + 1) (l.drop p) = (l.drop p).take sz :: ZF sz f (l.drop (p + sz)) := by
        rw [hxr]; simp only [ZF]; rw [← hxr, List.drop_drop]
      have hm : ∃ m : Nat, (bif decide (((l.drop p).length : Int) < (sz : Int)) then (((l.drop p).length : Int)) else (sz : Int)) = (m : Int) ∧ m = min sz (l.length - p) := by
        simp only [List.length_drop]
        by_cases hs : ((l.length - p : Nat) : Int) < (sz : Int)
        · exact ⟨l.length - p, by simp only [hs, decide_true, cond_true], by omega⟩
        · exact ⟨sz, by simp only [hs, decide_false, cond_false], by omega⟩
      obtain ⟨m, hm1, hm2⟩ := hm
      have hw : w64 ((p : Int) + (m : Int)) = ((p + m : Nat) : Int) := by rw [zxx (by omega) (by omega)]; omega
      have hw2 : w64 ((p : Int) + (sz : Int)) = ((p + sz : Nat) : Int) := by rw [zxx (by omega) (by omega)]; omega
      have hne : ¬ ((p + m : Nat) : Int) = 0 := by omega
      simp only [hlt', decide_true, cond_true, hcut, Option.bind_some, hm1, hw, hw2, hne, decide_false, Bool.and_false, cond_false]
      have hn : zbO ys (pre.length : Int) ((l.drop p).take sz) = some () := by rw [e, hch]; exact zst pre _ _
      have hcut2 : cut l (p : Int) ((p + m : Nat) : Int) = some ((l.drop p).take sz) := by
        unfold cut
        have : (decide (0 ≤ (p : Int)) && decide ((p : Int) ≤ ((p + m : Nat) : Int)) && decide (((p + m : Nat) : Int) ≤ (l.length : Int))) = true := by simp; omega
        simp only [this, cond_true]
        refine congrArg some ?_
        simp only [Int.toNat_natCast]
        rw [List.drop_take, Nat.add_sub_cancel_left, hm2]
        by_cases hs : sz ≤ l.length - p
        · rw [Nat.min_eq_left hs]
        · rw [Nat.min_eq_right (by omega), List.take_of_length_le (l := l.drop p) (by simp), List.take_of_length_le (l := l.drop p) (by simp; omega)]
      have hnext := ih (p + sz) (pre ++ [(l.drop p).take sz]) (by simp only [List.length_drop] at hf ⊢; omega) (by rw [e, hch]; simp) (by omega)
      have hlen : ((pre ++ [(l.drop p).take sz]).length : Int) = (pre.length : Int) + 1 := by simp
      rw [hlen] at hnext
      cases hfull : (decide ((p : Int) = 0) && decide (((p + m : Nat) : Int) = (l.length : Int)) && decide (((p + m : Nat) : Int) = (l.length : Int))) with
      | true =>
        simp only [cond_true]
        have hl : l = (l.drop p).take sz := ?_
        · rw [← hl] at hn
          rw [hn]
          exact hnext
        simp only [Bool.and_eq_true, decide_eq_true_eq] at hfull
        obtain ⟨⟨hp0, hpl⟩, _⟩ := hfull
        have hp00 : p = 0 := by omega
        rw [hp00, List.drop_zero, List.take_of_length_le (by omega)]
      | false =>
        simp only [cond_false, hcut2, Option.bind_some, decide_true, cond_true]
        rw [hn]
        exact hnext
    · have hnl : ¬ (p : Int) < (l.length : Int) := by omega
      have hd : l.drop p = [] := List.drop_eq_nil_of_le (by omega)
      simp only [hnl, decide_false, cond_false, Option.bind_some]
      rw [hd] at e
      simp only [ZF, List.append_nil] at e
      rw [e]
theorem zdO (n : Int) (ys : List (List Int)) (l : List Int) (sz : Int) (h : zg8 l sz = some ys) : vG (wT ys) Y1 (n, 0, 0, l, sz, ()) = some (.brk (n, (ys.length : Int), ())) := by
  unfold zg8 at h
  cases hc : (decide (1 ≤ sz) && decide (sz < 1000000) && decide ((l.length : Int) < 1000000)) with
  | false => simp [hc] at h
  | true =>
    simp only [hc, cond_true] at h
    injection h with h
    simp only [Bool.and_eq_true, decide_eq_true_eq] at hc
    obtain ⟨⟨c1, c2⟩, c3⟩ := hc
    have k := zns _ (l.length + 1) Y1 _ (zcZ n ys l sz.toNat (by omega) (by omega) (by omega) l.length 0 [] (by simp) (by simpa using h.symm) (by omega)) (by unfold Y1; omega)
    have hs : ((sz.toNat : Nat) : Int) = sz := by omega
    rw [hs] at k
    exact k
theorem zde (G : Nat → Prop) (W0 : World) (hG : zwG G W0) : Z4 Go.Proofs.Tryz.prog G W0 170 wu := by
  obtain ⟨c, hc⟩ := Option.isSome_iff_exists.1 zy7
  refine zq0 (Cg := vc []) rfl zt3 (fun f s hs => Oks.at .nil f s hs) rfl zwx (fun g it h => by cases h) zy5 zAr hc wu (Nat.le_of_ble_eq_true (by kernel_rfl)) rfl (fun n x ys h => ?_)
  refine Eq.trans (zdU n ys x.1 x.2.1) ?_
  rw [VR, zdO n ys x.1 x.2.1 h]
  rfl
end Go.Pe.G
namespace Go.Pe.G
open Go.Pe
theorem k2 {G : Nat → Prop} {W0 : World} {f : Nat} {s : zp E} {ss r} (hs : Vq Go.Proofs.Tryz.prog G W0 f s) (h : Oks Go.Proofs.Tryz.prog G W0 ((f, ss) :: r)) (hc : ZW Go.Proofs.Tryz.prog f = true := by kernel_rfl) : Oks Go.Proofs.Tryz.prog G W0 ((f, s :: ss) :: r) := .cons _ _ _ _ hc hs h
theorem k1 {G : Nat → Prop} {W0 : World} {f : Nat} {s : zp E} {r} (hs : Vq Go.Proofs.Tryz.prog G W0 f s) (h : Oks Go.Proofs.Tryz.prog G W0 r) (hc : ZW Go.Proofs.Tryz.prog f = true := by kernel_rfl) : Oks Go.Proofs.Tryz.prog G W0 ((f, [s]) :: r) := .cons _ _ _ _ hc hs (.skip _ _ h)
abbrev Sd (G : Nat → Prop) (W0 : World) := Vq (E := E) Go.Proofs.Tryz.prog G W0
theorem gs {G : Nat → Prop} {W0 : World} {l : List (Nat × List (zp E))} {loops mv kept pk its} {f : FuncId} {fn : Func} {inn out : xj} {gi go : List Grp} {hi : ut E gi = inn.holes} {ho : ut E go = out.holes} (h : Oks Go.Proofs.Tryz.prog G W0 l) (h2 : Its Go.Proofs.Tryz.prog G W0 its) (hf : Go.Proofs.Tryz.prog.funcs[f]? = some fn := by kernel_rfl) (hb : fn.body.isSome = true := by kernel_rfl)
    (hk : (cf l loops mv kept pk its).kept = zgp inn.blks 0 := by kernel_rfl) (hn : Nat.ble inn.vals.length fn.ntmps = true := by kernel_rfl) : Vq Go.Proofs.Tryz.prog G W0 f (sp (cf l loops mv kept pk its) fn inn out gi go hi ho) := zxe (C := cf l loops mv kept pk its) zt3 (zv0 h) rfl (zyE h2) zwx hf hb hk hn
variable {G : Nat → Prop} {W0 : World} (hG : zwG G W0)
include hG
theorem zjK : Sd G W0 160 zcz := gs .nil .nil
theorem zcf : Sd G W0 253 ZD := gs (k1 (zjK hG) .nil) .nil
theorem U1 : Sd G W0 159 uH := gs (k1 (zcf hG) .nil) .nil
theorem zlF : Sd G W0 158 zeB := gs (k1 (U1 hG) .nil) .nil
theorem zaQ : Sd G W0 254 u9 := gs (k1 (zlF hG) .nil) .nil
theorem UB : Sd G W0 161 vR := gs (k1 (zaQ hG) .nil) .nil
theorem znd : Sd G W0 57 zhk := gs (k1 (UB hG) .nil) .nil
theorem zoH : Sd G W0 145 zjG := gs .nil .nil
theorem zoF : Sd G W0 146 zj3 := gs .nil .nil
theorem Uq : Sd G W0 164 VY := gs .nil .nil
theorem zl0 : Sd G W0 165 zeH := gs (k1 (Uq hG) .nil) .nil
theorem U9 : Sd G W0 253 uM := gs (k1 (zl0 hG) .nil) .nil
theorem V9 : Sd G W0 159 vF := gs (k1 (U9 hG) .nil) .nil
theorem ziw : Sd G W0 163 zbM := gs (k1 (Uq hG) .nil) .nil
theorem zk9 : Sd G W0 329 zel := gs .nil .nil
theorem znn : Sd G W0 257 zh9 := gs (k1 (zk9 hG) .nil) .nil
theorem zmz : Sd G W0 256 zfZ := gs (k1 (znn hG) .nil) .nil
theorem Vd : Sd G W0 328 vj := gs (k1 (zmz hG) .nil) .nil
theorem Wg : Sd G W0 255 wE := gs (k1 (Vd hG) .nil) .nil
theorem zoG : Sd G W0 166 zjU := gs (k1 (Wg hG) .nil) .nil
theorem znc : Sd G W0 135 zg3 := gs .nil .nil
theorem zmc : Sd G W0 259 zd7 := gs (k1 (znc hG) .nil) .nil
theorem XK : Sd G W0 330 wv := gs (k1 (zmc hG) .nil) .nil
theorem YO : Sd G W0 258 xV := gs (k1 (XK hG) .nil) .nil
theorem znM : Sd G W0 167 zhy := gs (k1 (YO hG) .nil) .nil
theorem znE : Sd G W0 62 zhe := gs (k1 (znd hG) (k1 (zoH hG) (k1 (zoF hG) (k1 (V9 hG) (k1 (ziw hG) (k1 (Uq hG) (k1 (zoG hG) (k1 (znM hG) .nil)))))))) .nil
theorem zjc : Sd G W0 174 zi0 := gs .nil .nil
theorem US : Sd G W0 79 zcR := gs (k1 (zjc hG) .nil) .nil
theorem zrU : Sd G W0 168 zpg := gs (k1 (US hG) .nil) .nil
theorem znH : Sd G W0 63 zhf := gs (k1 (zrU hG) .nil) .nil
theorem zhK : Sd G W0 169 U3 := gs .nil .nil
theorem zoJ : Sd G W0 64 zjx := gs (k1 (zhK hG) .nil) .nil
theorem znr : Sd G W0 65 zhb := gs .nil .nil
theorem Wp : Sd G W0 67 Zf := gs .nil .nil
theorem ziM : Sd G W0 66 zbC := gs (k1 (Wp hG) .nil) .nil
theorem zm0 : Sd G W0 68 zfQ := gs .nil .nil
theorem UJ : Sd G W0 69 V7 := gs .nil .nil
theorem Uy : Sd G W0 70 VV := gs .nil .nil
theorem zos : Sd G W0 71 zjw := gs .nil .nil
theorem zdX : Sd G W0 72 Xs := gs .nil .nil
theorem zpd : Sd G W0 171 zmd := gs .nil .nil
theorem zp2 : Z4 Go.Proofs.Tryz.prog G W0 260 zal := zph G W0 hG
theorem zpJ : Sd G W0 73 zlN := gs (k1 (zpd hG) .nil) (.cons _ _ _ (zp2 hG) (.nil))
theorem zaC : Sd G W0 97 Za := gs .nil .nil
theorem zpL : Sd G W0 331 zmf := gs .nil .nil
theorem zpP : Sd G W0 332 zl7 := gs .nil .nil
theorem zpH : Sd G W0 333 zlH := gs .nil .nil
theorem zo7 : Sd G W0 334 zlv := gs .nil .nil
theorem YE : Sd G W0 262 zai := gs (k1 (zaC hG) (k1 (zpL hG) (k1 (zpP hG) (k1 (zpH hG) (k1 (zo7 hG) .nil))))) .nil
theorem zd5 : Sd G W0 172 zcj := gs (k1 (YE hG) .nil) .nil
theorem zfn : Sd G W0 173 zdk := gs .nil .nil
theorem zox : Sd G W0 74 zka := gs (k1 (zd5 hG) (k1 (zfn hG) .nil)) .nil
theorem XF : Sd G W0 75 W9 := gs .nil .nil
theorem Xc : Sd G W0 77 XB := gs (k1 (XF hG) .nil) .nil
theorem XS : Sd G W0 76 W6 := gs (k1 (Xc hG) .nil) .nil
theorem zd1 : Z4 Go.Proofs.Tryz.prog G W0 170 wu := zde G W0 hG
theorem zge : Sd G W0 16 zeO := gs (k1 (znE hG) (k1 (znH hG) (k1 (zoJ hG) (k1 (znr hG) (k1 (ziM hG) (k1 (Wp hG) (k1 (zm0 hG) (k1 (UJ hG) (k1 (Uy hG) (k1 (zos hG) (k1 (zdX hG) (k1 (zpJ hG) (k1 (zox hG) (k1 (XF hG) (k1 (XS hG) (k1 (Xc hG) .nil)))))))))))))))) (.cons _ _ _ (zd1 hG) (.nil))
theorem zfb : Sd G W0 364 zdw := gs (k1 (YE hG) .nil) .nil
theorem XX : Sd G W0 365 W4 := gs .nil .nil
theorem zep : Sd G W0 335 Wl := gs (k1 (zfb hG) (k1 (XX hG) .nil)) .nil
theorem zfL : Sd G W0 336 Vu := gs (k1 (zd5 hG) (k1 (XX hG) .nil)) .nil
theorem zd0 : Sd G W0 337 Xy := gs (k1 (zfn hG) (k1 (YE hG) (k1 (XX hG) .nil))) .nil
theorem zcU : Sd G W0 338 Yv := gs (k1 (zfb hG) (k1 (XX hG) .nil)) .nil
theorem U8 : Sd G W0 263 zaz := gs (k1 (zep hG) (k1 (zfL hG) (k1 (zd0 hG) (k1 (zcU hG) .nil)))) .nil
theorem zf2 : Sd G W0 180 Vy := gs (k1 (U8 hG) .nil) .nil
theorem VU : Sd G W0 187 Ym := gs .nil .nil
theorem zll : Sd G W0 339 zeC := gs .nil .nil
theorem zlM : Sd G W0 339 zef := gs .nil .nil
theorem zlC : Sd G W0 339 zed := gs .nil .nil
theorem zl1 : Sd G W0 339 zd8 := gs .nil .nil
theorem wX : Sd G W0 386 uT := gs (k1 (YE hG) .nil) .nil
theorem xt : Sd G W0 387 xp := gs .nil .nil
theorem zbL : Sd G W0 366 Zp := gs (k1 (wX hG) (k1 (xt hG) .nil)) .nil
theorem uu : Sd G W0 388 vA := gs .nil .nil
theorem Uc : Sd G W0 389 Yu := gs .nil .nil
theorem xq : Sd G W0 390 xn := gs .nil .nil
theorem zdY : Sd G W0 367 Xv := gs (k1 (wX hG) (k1 (uu hG) (k1 (Uc hG) (k1 (xq hG) .nil)))) .nil
theorem Zl : Sd G W0 391 Z3 := gs (k1 (YE hG) .nil) .nil
theorem ZA : Sd G W0 392 vZ := gs (k1 (Uc hG) .nil) .nil
theorem zgC : Sd G W0 368 Un := gs (k1 (Zl hG) (k1 (ZA hG) .nil)) .nil
theorem zcy : Sd G W0 369 ZY := gs (k1 (xt hG) (k1 (xq hG) (k1 (Zl hG) .nil))) .nil
theorem zfz : Sd G W0 370 WM := gs (k1 (xt hG) (k1 (Zl hG) .nil)) .nil
theorem zd2 : Sd G W0 393 zch := gs .nil .nil
theorem zcW : Sd G W0 371 Yn := gs (k1 (wX hG) (k1 (uu hG) (k1 (zd2 hG) .nil))) .nil
theorem zeh : Sd G W0 372 X8 := gs (k1 (wX hG) (k1 (xq hG) (k1 (ZA hG) .nil))) .nil
theorem V0 : Sd G W0 394 Yj := gs (k1 (YE hG) (k1 (uu hG) .nil)) .nil
theorem zdT : Sd G W0 373 Xn := gs (k1 (V0 hG) .nil) .nil
theorem zdS : Sd G W0 374 Xh := gs (k1 (xt hG) (k1 (xq hG) (k1 (Zl hG) .nil))) .nil
theorem zeE : Sd G W0 375 Wn := gs (k1 (xt hG) (k1 (xq hG) (k1 (Zl hG) .nil))) .nil
theorem zeu : Sd G W0 376 X7 := gs (k1 (wX hG) (k1 (uu hG) .nil)) .nil
theorem zee : Sd G W0 377 Wc := gs (k1 (wX hG) (k1 (xt hG) (k1 (zd2 hG) .nil))) .nil
theorem zdR : Sd G W0 378 Xp := gs (k1 (wX hG) (k1 (ZA hG) .nil)) .nil
theorem zcX : Sd G W0 379 Yi := gs (k1 (xq hG) (k1 (V0 hG) .nil)) .nil
theorem zfl : Sd G W0 264 zdv := gs (k2 (zll hG) (k2 (zlM hG) (k2 (zlC hG) (k2 (zl1 hG) (.skip _ _ (k1 (zbL hG) (k1 (zdY hG) (k1 (zgC hG) (k1 (zcy hG) (k1 (zfz hG) (k1 (zcW hG) (k1 (zeh hG) (k1 (zdT hG) (k1 (zdS hG) (k1 (zeE hG) (k1 (zeu hG) (k1 (zee hG) (k1 (zdR hG) (k1 (zcX hG) .nil))))))))))))))))))) .nil
theorem zcL : Sd G W0 266 UU := gs (k1 (UJ hG) (k1 (Uy hG) .nil)) .nil
theorem UG : Sd G W0 340 V2 := gs .nil .nil
theorem zaW : Sd G W0 268 Wv := gs (k1 (XS hG) (k1 (UG hG) .nil)) .nil
theorem zfE : Sd G W0 265 VT := gs (k1 (XF hG) (k1 (zcL hG) (k1 (zaW hG) .nil))) .nil
theorem zgK : Sd G W0 181 UI := gs (k1 (VU hG) (k1 (zfl hG) (k1 (zfE hG) .nil))) .nil
theorem zfx : Sd G W0 182 WX := gs (k1 (zcL hG) .nil) .nil
theorem Xf : Sd G W0 267 uv := gs .nil .nil
theorem zfW : Sd G W0 183 VJ := gs (k1 (Xc hG) (k1 (Xf hG) (k1 (zaW hG) .nil))) .nil
theorem zcJ : Sd G W0 186 UO := gs .nil .nil
theorem zif : Sd G W0 341 zbx := gs .nil .nil
theorem zpc : Sd G W0 269 zle := gs (k1 (zif hG) .nil) .nil
theorem znt : Sd G W0 270 zhu := gs .nil .nil
theorem zfY : Sd G W0 184 VG := gs (k1 (zcJ hG) (k1 (zpc hG) (k1 (znt hG) .nil))) .nil
theorem zcY : Sd G W0 271 Yg := gs .nil .nil
theorem ziX : Sd G W0 162 zjn := gs (k1 (zjc hG) .nil) .nil
theorem znI : Sd G W0 342 zhs := gs (k1 (US hG) (k1 (ziX hG) .nil)) .nil
theorem vy : Sd G W0 343 wM := gs (k1 (XS hG) (k1 (Xc hG) (k1 (UG hG) .nil))) .nil
theorem zeD : Sd G W0 272 Wh := gs (k1 (UJ hG) (k1 (Uy hG) (k1 (znI hG) (k1 (vy hG) .nil)))) .nil
theorem zex : Sd G W0 273 Wi := gs .nil .nil
theorem zea : Sd G W0 274 XZ := gs (k1 (zfl hG) (k1 (vy hG) .nil)) .nil
theorem zeM : Sd G W0 275 X5 := gs (k1 (vy hG) .nil) .nil
theorem zew : Sd G W0 276 Wa := gs (k1 (U8 hG) (k1 (vy hG) .nil)) .nil
theorem zes : Sd G W0 277 Wk := gs (k1 (XF hG) (k1 (XS hG) (k1 (Xf hG) (k1 (UG hG) .nil)))) .nil
theorem zc0 : Sd G W0 278 Yy := gs (k1 (U8 hG) .nil) .nil
theorem zoj : Sd G W0 185 zjP := gs (k1 (zcY hG) (k1 (zeD hG) (k1 (zex hG) (k1 (zea hG) (k1 (zeM hG) (k1 (zew hG) (k1 (zes hG) (k1 (zc0 hG) .nil)))))))) .nil
theorem zqn : Sd G W0 59 zne := gs (k1 (ziX hG) .nil) .nil
theorem zoq : Sd G W0 188 zjA := gs (k1 (zqn hG) (k1 (US hG) .nil)) .nil
theorem zfg : Sd G W0 279 W8 := gs .nil .nil
theorem zky : Sd G W0 281 zdh := gs .nil .nil
theorem zeb : Sd G W0 280 X1 := gs (k1 (zky hG) .nil) .nil
theorem zmM : Sd G W0 189 zfX := gs (k1 (zfg hG) (k1 (zeb hG) .nil)) .nil
theorem zfG : Sd G W0 87 Vt := gs (k1 (zf2 hG) (k1 (zgK hG) (k1 (zfx hG) (k1 (zfW hG) (k1 (zfY hG) (k1 (zoj hG) (k1 (zcJ hG) (k1 (VU hG) (k1 (zoq hG) (k1 (zmM hG) .nil)))))))))) .nil
theorem Xd : Sd G W0 88 wa := gs .nil .nil
theorem UF : Sd G W0 19 V5 := gs (k1 (zfG hG) (k1 (Xd hG) .nil)) .nil
theorem wS : Sd G W0 105 wh := gs .nil .nil
theorem xC : Sd G W0 104 yJ := gs (k1 (wS hG) .nil) .nil
theorem zgc : Sd G W0 56 zeY := gs (k1 (xC hG) .nil) .nil
theorem zgQ : Sd G W0 141 Ux := gs .nil .nil
theorem UZ : Sd G W0 143 uA := gs .nil .nil
theorem uB : Sd G W0 142 yU := gs (k1 (UZ hG) .nil) .nil
theorem Ve : Sd G W0 144 vk := gs .nil .nil
theorem zov : Sd G W0 48 zjF := gs (k1 (zgc hG) (k1 (xC hG) (k1 (zgQ hG) (k1 (uB hG) (k1 (Ve hG) .nil))))) .nil
theorem zaJ : Sd G W0 204 Zb := gs .nil .nil
theorem zpu : Sd G W0 103 zlq := gs (k1 (zaJ hG) .nil) .nil
theorem zcb : Sd G W0 205 Zz := gs .nil .nil
theorem zmP : Sd G W0 106 zfM := gs (k1 (zcb hG) .nil) .nil
theorem zgG : Sd G W0 108 Ul := gs (k1 (wS hG) .nil) .nil
theorem wq : Sd G W0 107 yv := gs (k1 (zgG hG) .nil) .nil
theorem zez : Sd G W0 206 X9 := gs .nil .nil
theorem zfO : Sd G W0 110 VP := gs (k1 (wS hG) (k1 (zez hG) .nil)) .nil
theorem xY : Sd G W0 109 yq := gs (k1 (zfO hG) .nil) .nil
theorem znT : Sd G W0 24 zhO := gs (k1 (zov hG) (k1 (zgc hG) (k1 (zpu hG) (k1 (xC hG) (k1 (wS hG) (k1 (zmP hG) (k1 (wq hG) (k1 (xY hG) .nil)))))))) .nil
theorem zh2 : Sd G W0 60 U7 := gs .nil .nil
theorem zh6 : Sd G W0 61 zar := gs (k1 (UF hG) .nil) .nil
theorem zfc : Sd G W0 15 W2 := gs (k1 (zge hG) (k1 (UF hG) (k1 (znT hG) (k1 (zh2 hG) (k1 (zh6 hG) .nil))))) .nil
theorem YX : Sd G W0 78 vJ := gs .nil .nil
theorem zdc : Sd G W0 80 YY := gs (k1 (YX hG) .nil) .nil
theorem zim : Sd G W0 17 zbv := gs (k1 (YX hG) (k1 (US hG) (k1 (zdc hG) .nil))) .nil
theorem VX : Sd G W0 82 Yq := gs .nil .nil
theorem zfy : Sd G W0 175 W7 := gs .nil .nil
theorem zgh : Sd G W0 176 UD := gs .nil .nil
theorem zfU : Sd G W0 81 Vo := gs (k1 (VX hG) (k1 (zfy hG) (k1 (zgh hG) .nil))) .nil
theorem zfN : Sd G W0 83 VC := gs .nil .nil
theorem zeg : Sd G W0 84 Wm := gs .nil .nil
theorem Vm : Sd G W0 177 ZS := gs .nil .nil
theorem ZB : Sd G W0 178 uj := gs .nil .nil
theorem VZ : Sd G W0 179 Yo := gs (k1 (Vm hG) (k1 (ZB hG) .nil)) .nil
theorem zeA : Sd G W0 85 X2 := gs (k1 (Vm hG) (k1 (ZB hG) (k1 (VZ hG) .nil))) .nil
theorem zdV : Sd G W0 86 Xq := gs (k1 (ZB hG) (k1 (VZ hG) .nil)) .nil
theorem zfd : Sd G W0 18 WQ := gs (k1 (zfU hG) (k1 (VX hG) (k1 (zfN hG) (k1 (zeg hG) (k1 (zeA hG) (k1 (zdV hG) .nil)))))) .nil
theorem wK : Sd G W0 348 vw := gs .nil .nil
theorem Xu : Sd G W0 344 Yc := gs (k1 (wK hG) .nil) .nil
theorem zak : Sd G W0 345 XO := gs (k1 (wK hG) .nil) .nil
theorem YS : Sd G W0 346 ZJ := gs .nil .nil
theorem ziB : Sd G W0 282 zbh := gs (k1 (Xu hG) (k1 (zak hG) (k1 (YS hG) .nil))) .nil
theorem zba : Sd G W0 347 WK := gs (k1 (wK hG) .nil) .nil
theorem zjs : Sd G W0 283 zcp := gs (k1 (Xu hG) (k1 (zak hG) (k1 (YS hG) (k1 (zba hG) .nil)))) .nil
theorem zhg : Sd G W0 284 U6 := gs (k1 (Xu hG) (k1 (YS hG) (k1 (zba hG) .nil))) .nil
theorem zaV : Sd G W0 190 WD := gs (k1 (ziB hG) (k1 (zjs hG) (k1 (zhg hG) .nil))) .nil
theorem Y6 : Sd G W0 195 ZH := gs .nil .nil
theorem uJ : Sd G W0 287 ul := gs .nil .nil
theorem Xw : Sd G W0 285 Z6 := gs (k1 (uJ hG) .nil) .nil
theorem Y0 : Sd G W0 196 ZK := gs (k1 (Xw hG) .nil) .nil
theorem Xg : Sd G W0 197 Z7 := gs (k1 (Y0 hG) .nil) .nil
theorem YI : Sd G W0 286 ZC := gs .nil .nil
theorem ziV : Sd G W0 191 zby := gs (k1 (Y6 hG) (k1 (Xg hG) (k1 (Xw hG) (k1 (YI hG) (k1 (uJ hG) .nil))))) .nil
theorem ziz : Sd G W0 288 zbn := gs (k1 (wK hG) .nil) .nil
theorem ziu : Sd G W0 289 zbJ := gs .nil .nil
theorem zhm : Sd G W0 290 U2 := gs (k1 (wK hG) .nil) .nil
theorem ziF : Sd G W0 349 zbG := gs .nil .nil
theorem ziS : Sd G W0 291 zbm := gs (k1 (wK hG) (k1 (ziF hG) .nil)) .nil
theorem zaZ : Sd G W0 192 WI := gs (k1 (ziz hG) (k1 (ziu hG) (k1 (zhm hG) (k1 (ziS hG) .nil)))) .nil
theorem zhX : Sd G W0 193 zam := gs (k1 (YI hG) (k1 (uJ hG) .nil)) .nil
theorem zb9 : Sd G W0 194 Vz := gs .nil .nil
theorem zh7 : Sd G W0 292 zay := gs .nil .nil
theorem zjI : Sd G W0 198 zcr := gs (k1 (zh7 hG) .nil) .nil
theorem zhw : Sd G W0 199 zah := gs .nil .nil
theorem zfB : Sd G W0 200 VI := gs .nil .nil
theorem za1 : Sd G W0 294 WE := gs (k1 (Y6 hG) (k1 (Y0 hG) (k1 (Xg hG) (k1 (Xw hG) .nil)))) .nil
theorem UV : Sd G W0 352 Xb := gs .nil .nil
theorem zb7 : Sd G W0 296 VB := gs (k1 (UV hG) .nil) .nil
theorem zbX : Sd G W0 351 VO := gs (k1 (UV hG) .nil) .nil
theorem zhL : Sd G W0 350 zat := gs (k1 (zb7 hG) (k1 (zbX hG) .nil)) .nil
theorem ziU : Sd G W0 293 zbs := gs (k1 (YI hG) (k1 (uJ hG) (k1 (za1 hG) (k1 (zhL hG) .nil)))) .nil
theorem ziE : Sd G W0 201 zbA := gs (k1 (zaV hG) (k1 (zaZ hG) (k1 (zb9 hG) (k1 (ziU hG) (k1 (za1 hG) .nil))))) .nil
theorem zki : Sd G W0 295 zdN := gs (k1 (zbX hG) .nil) .nil
theorem zir : Sd G W0 202 zbl := gs (k1 (zki hG) (k1 (zb7 hG) .nil)) .nil
theorem zhP : Sd G W0 297 zaw := gs .nil .nil
theorem zik : Sd G W0 298 zbH := gs .nil .nil
theorem ziJ : Sd G W0 203 zbz := gs (k1 (zhP hG) (k1 (zik hG) .nil)) .nil
theorem ziL : Sd G W0 89 zbr := gs (k1 (zaV hG) (k1 (ziV hG) (k1 (zaZ hG) (k1 (zhX hG) (k1 (zb9 hG) (k1 (Y6 hG) (k1 (Y0 hG) (k1 (Xg hG) (k1 (zjI hG) (k1 (zhw hG) (k1 (zfB hG) (k1 (ziE hG) (k1 (zir hG) (k1 (ziJ hG) .nil)))))))))))))) .nil
theorem ziG : Sd G W0 20 zbf := gs (k1 (ziL hG) .nil) .nil
theorem za4 : Sd G W0 91 Wz := gs .nil .nil
theorem zig : Sd G W0 90 zbe := gs (k1 (za4 hG) .nil) .nil
theorem ziC : Sd G W0 92 zbg := gs .nil .nil
theorem ZL : Sd G W0 93 uk := gs .nil .nil
theorem ziO : Sd G W0 94 zbt := gs .nil .nil
theorem zdW : Sd G W0 95 Xo := gs (k1 (ZL hG) .nil) .nil
theorem zdf : Sd G W0 96 YT := gs (k1 (ZL hG) .nil) .nil
theorem ziD : Sd G W0 21 zbk := gs (k1 (zig hG) (k1 (za4 hG) (k1 (ziC hG) (k1 (ZL hG) (k1 (ziO hG) (k1 (zdW hG) (k1 (zdf hG) .nil))))))) .nil
theorem zdC : Sd G W0 3 YQ := gs (k1 (zfc hG) (k1 (zge hG) (k1 (zim hG) (k1 (zfd hG) (k1 (UF hG) (k1 (ziG hG) (k1 (ziD hG) .nil))))))) .nil
end Go.Pe.G
