/- Own work of this seat: G4d, G4e, EQ, G2i, GH, G3. -/
import Derived.Test.YtodhlecdfgklaaaGreatDoorDWGa
set_option linter.unusedVariables false
set_option linter.unusedSectionVars false
set_option linter.unusedSimpArgs false
set_option linter.unnecessarySimpa false
set_option linter.deprecated false
set_option maxRecDepth 100000
namespace Go.Pe.G
open Go.Pe
theorem zds (a1 : List (BitVec 64)) (a2 : zw) : xJ a1 a2 =
 (U3 a1 a2.Head).bind fun y1 =>
 bif decide (a2.Kind = 2) then
  (ZC y1.1).bind fun y2 =>
  bif decide (y2.1 = 0) then
   some (a1, { a2 with H := y1.1, Out := 2 }, ())
  else
   some (a1, { a2 with H := y1.1 }, ())
 else
  some (a1, { a2 with H := y1.1 }, ()) := zm (by kernel_rfl)
theorem zfs (a1 : List (BitVec 64)) (a2 : zw) : Zi a1 a2 =
 (ZC a2.H).bind fun y1 =>
 (uT a1 (w64 (a2.Next + a2.X)) (BitVec.ofInt 64 y1.1)).bind fun y2 =>
 some (y2.1, ()) := zm (by kernel_rfl)
theorem zcU (a1 : List (BitVec 64)) (a2 : zw) : xw a1 a2 =
 bif decide (a2.Kind = 2) then
  (Xe ((a2.H >>> 32) + 1#64) a2.Y).bind fun y1 =>
  (ZI a1 (vO.mk 3 a2.Head a2.H y1.1)).bind fun y2 =>
  bif !y2.2.2.1 then
   some (y2.1, { a2 with PC := -1 }, ())
  else
   bif decide (a2.Kind = 2) then
    (ZC a2.H).bind fun y3 =>
    some (y2.1, { a2 with X := y3.1, Out := 1 }, ())
   else
    some (y2.1, { a2 with Out := 1 }, ())
 else
  (Xe ((a2.H >>> 32) + 1#64) a2.X).bind fun y4 =>
  (ZI a1 (vO.mk 3 a2.Head a2.H y4.1)).bind fun y5 =>
  bif !y5.2.2.1 then
   some (y5.1, { a2 with PC := -1 }, ())
  else
   bif decide (a2.Kind = 2) then
    (ZC a2.H).bind fun y6 =>
    some (y5.1, { a2 with X := y6.1, Out := 1 }, ())
   else
    some (y5.1, { a2 with Out := 1 }, ()) := zm (by kernel_rfl)
theorem zbe (a1 : List (BitVec 64)) (a2 : zw) : vg a1 a2 =
 (ZC a2.H).bind fun y1 =>
 (U3 a1 (w64 (a2.Next + y1.1))).bind fun y2 =>
 some (a1, { a2 with Y := y2.1.toInt }, ()) := zm (by kernel_rfl)
theorem zmx (a1 : List (BitVec 64)) (a2 : zw) : Xd a1 a2 =
 bif decide (a2.Kind = 2) then
  bif !(decide (a2.Out = 0)) then
   some (a1, a2, ())
  else
   bif !(decide (a2.Kind = 1)) then
    bif !(decide (a2.Kind = 2)) then
     some (a1, a2, ())
    else
     bif decide (a2.PC < 0) then
      some (a1, a2, ())
     else
      bif decide (3 ≤ a2.PC) then
       some (a1, a2, ())
      else
       bif decide (a2.PC = 2) then
        (xw a1 a2).bind fun y1 =>
        some (y1.1, { y1.2.1 with PC := w64 (y1.2.1.PC + 1) }, ())
       else
        bif decide (a2.PC = 1) then
         (vg a1 a2).bind fun y2 =>
         some (y2.1, { y2.2.1 with PC := w64 (y2.2.1.PC + 1) }, ())
        else
         bif decide (a2.PC = 0) then
          (xJ a1 a2).bind fun y3 =>
          some (y3.1, { y3.2.1 with PC := w64 (y3.2.1.PC + 1) }, ())
         else
          none
   else
    bif decide (a2.PC < 0) then
     some (a1, a2, ())
    else
     bif decide (3 ≤ a2.PC) then
      some (a1, a2, ())
     else
      bif decide (a2.PC = 2) then
       (xw a1 a2).bind fun y4 =>
       some (y4.1, { y4.2.1 with PC := w64 (y4.2.1.PC + 1) }, ())
      else
       bif decide (a2.PC = 1) then
        (vg a1 a2).bind fun y5 =>
        some (y5.1, { y5.2.1 with PC := w64 (y5.2.1.PC + 1) }, ())
       else
        bif decide (a2.PC = 0) then
         (xJ a1 a2).bind fun y6 =>
         some (y6.1, { y6.2.1 with PC := w64 (y6.2.1.PC + 1) }, ())
        else
         none
 else
  bif !(decide (a2.Out = 0)) then
   some (a1, a2, ())
  else
   bif !(decide (a2.Kind = 1)) then
    bif !(decide (a2.Kind = 2)) then
     some (a1, a2, ())
    else
     bif decide (a2.PC < 0) then
      some (a1, a2, ())
     else
      bif decide (3 ≤ a2.PC) then
       some (a1, a2, ())
      else
       bif decide (a2.PC = 2) then
        (xw a1 a2).bind fun y7 =>
        some (y7.1, { y7.2.1 with PC := w64 (y7.2.1.PC + 1) }, ())
       else
        bif decide (a2.PC = 1) then
         (Zi a1 a2).bind fun y8 =>
         some (y8.1, { a2 with PC := w64 (a2.PC + 1) }, ())
        else
         bif decide (a2.PC = 0) then
          (xJ a1 a2).bind fun y9 =>
          some (y9.1, { y9.2.1 with PC := w64 (y9.2.1.PC + 1) }, ())
         else
          none
   else
    bif decide (a2.PC < 0) then
     some (a1, a2, ())
    else
     bif decide (3 ≤ a2.PC) then
      some (a1, a2, ())
     else
      bif decide (a2.PC = 2) then
       (xw a1 a2).bind fun y10 =>
       some (y10.1, { y10.2.1 with PC := w64 (y10.2.1.PC + 1) }, ())
      else
       bif decide (a2.PC = 1) then
        (Zi a1 a2).bind fun y11 =>
        some (y11.1, { a2 with PC := w64 (a2.PC + 1) }, ())
       else
        bif decide (a2.PC = 0) then
         (xJ a1 a2).bind fun y12 =>
         some (y12.1, { y12.2.1 with PC := w64 (y12.2.1.PC + 1) }, ())
        else
         none := zm (by kernel_rfl)
theorem zdM (a1 : zt) : VS a1 =
 (Xd a1.s.M a1.Grey.C).bind fun y1 =>
 bif decide (y1.2.1.Out = 1) then
  some (zt.mk { a1.Grey with PC := 6, C := y1.2.1, Bin := y1.2.1.X } { a1.s with M := y1.1 }, ())
 else
  bif decide (y1.2.1.Out = 2) then
   (x6 (zt.mk { a1.Grey with C := y1.2.1 } { a1.s with M := y1.1 })).bind fun y2 =>
   some (y2.1, ())
  else
   some (zt.mk { a1.Grey with C := y1.2.1 } { a1.s with M := y1.1 }, ()) := zm (by kernel_rfl)
theorem zbo (a1 : List (List Int)) : xR a1 =
 bif a1.isEmpty then
  zh7 (
   some (([] : List (List Int)), ())) (
   (xy ((([] : List (List Int))) ++ a1)).bind fun l1 =>
   some (l1, ()))
 else
  (xy ((([] : List (List Int))) ++ a1)).bind fun l2 =>
  some (l2, ()) := zm (by kernel_rfl)
theorem zdU (a1 : zt) : VW a1 =
 (xR a1.s.Bins).bind fun y1 =>
 (xU y1.1 a1.Grey.Bin).bind fun n2 =>
 (Xf a1.s.P).bind fun y3 =>
 (ZG a1.s.P).bind fun y4 =>
 (V6 1 y3.1 y4.1 a1.Grey.Bin).bind fun y5 =>
 some ({ a1.Grey with PC := 7, C := y5.1 }, a1.s.P, a1.s.H, a1.s.M, a1.s.T, a1.s.Work, a1.s.Epoch, a1.s.Flag, a1.s.Done, a1.s.Restarts, a1.s.Acks, a1.s.L, a1.s.Ws, a1.s.Ms, a1.s.D, y1.1.set n2 ([a1.Grey.Obj] : List Int), ()) := zm (by kernel_rfl)
theorem zbL (a1 : zt) : Wx a1 =
 (Xd a1.s.M a1.Grey.C).bind fun y1 =>
 bif decide (y1.2.1.Out = 1) then
  some (zt.mk { a1.Grey with C := y1.2.1, Out := 1 } { a1.s with M := y1.1 }, ())
 else
  some (zt.mk { a1.Grey with C := y1.2.1 } { a1.s with M := y1.1 }, ()) := zm (by kernel_rfl)
theorem zmW (a1 : zc) (a2 : zC) : zgq a1 a2 =
 bif !(decide (a2.Out = 0)) then
  some (a1, a2, ())
 else
  bif decide (a2.Mode < 1) then
   some (a1, a2, ())
  else
   bif decide (3 < a2.Mode) then
    some (a1, a2, ())
   else
    bif decide (a2.PC < 0) then
     some (a1, a2, ())
    else
     bif decide (8 ≤ a2.PC) then
      some (a1, a2, ())
     else
      bif decide (a2.PC = 7) then
       (Wx (zt.mk a2 a1)).bind fun y1 =>
       some (y1.1.s, y1.1.Grey, ())
      else
       bif decide (a2.PC = 6) then
        (VW (zt.mk a2 a1)).bind fun y2 =>
        some (zc.mk y2.2.1 y2.2.2.1 y2.2.2.2.1 y2.2.2.2.2.2.2.2.2.2.2.2.2.2.2.2.1 y2.2.2.2.2.1 y2.2.2.2.2.2.1 y2.2.2.2.2.2.2.1 y2.2.2.2.2.2.2.2.1 y2.2.2.2.2.2.2.2.2.1 y2.2.2.2.2.2.2.2.2.2.1 y2.2.2.2.2.2.2.2.2.2.2.1 y2.2.2.2.2.2.2.2.2.2.2.2.1 y2.2.2.2.2.2.2.2.2.2.2.2.2.1 y2.2.2.2.2.2.2.2.2.2.2.2.2.2.1 y2.2.2.2.2.2.2.2.2.2.2.2.2.2.2.1, y2.1, ())
       else
        bif decide (a2.PC = 5) then
         (VS (zt.mk a2 a1)).bind fun y3 =>
         some (y3.1.s, y3.1.Grey, ())
        else
         bif decide (a2.PC = 4) then
          (VK (zt.mk a2 a1)).bind fun y4 =>
          some (y4.1.s, y4.1.Grey, ())
         else
          bif decide (a2.PC = 3) then
           (VH (zt.mk a2 a1)).bind fun y5 =>
           some (y5.1.s, y5.1.Grey, ())
          else
           bif decide (a2.PC = 2) then
            (VT (zt.mk a2 a1)).bind fun y6 =>
            some (y6.1.s, y6.1.Grey, ())
           else
            bif decide (a2.PC = 1) then
             (VF (zt.mk a2 a1)).bind fun y7 =>
             some (y7.1.s, y7.1.Grey, ())
            else
             bif decide (a2.PC = 0) then
              (Wz (zt.mk a2 a1)).bind fun y8 =>
              some (y8.1.s, y8.1.Grey, ())
             else
              none := zm (by kernel_rfl)
theorem zc8 (a1 : Int) (a2 : zk) : v9 a1 a2 =
 (zgq a2.s a2.Mutator.G).bind fun y1 =>
 bif decide (y1.2.1.Out = 1) then
  some (zk.mk { a2.Mutator with PC := a1, G := y1.2.1 } y1.1 a2.m, ())
 else
  some (zk.mk { a2.Mutator with G := y1.2.1 } y1.1 a2.m, ()) := zm (by kernel_rfl)
theorem zo2 (a1 : zk) : VV a1 =
 (v9 1 a1).bind fun y1 =>
 some (y1.1, ()) := zm (by kernel_rfl)
theorem zh1 (a1 : zu) (a2 : Int) (a3 : Int) : Y2 a1 a2 a3 =
 bif decide (1 ≤ a2) then
  bif decide (a2 ≤ ((a1.Objs.length : Int))) then
   bif decide (0 ≤ a3) then
    (idx a1.Objs (w64 (a2 - 1))).bind fun x1 =>
    some (decide (a3 < ((x1.length : Int))), ())
   else
    some (false, ())
  else
   some (false, ())
 else
  some (false, ()) := zm (by kernel_rfl)
theorem zoN (a1 : zu) (a2 : Int) (a3 : Int) : zdR a1 a2 a3 =
 (Y2 a1 a2 a3).bind fun y1 =>
 bif !y1.1 then
  some (0, false, ())
 else
  (idx a1.Objs (w64 (a2 - 1))).bind fun x2 =>
  (idx x2 a3).bind fun x3 =>
  some (x3, true, ()) := zm (by kernel_rfl)
theorem zg4 (a1 : zk) : Yq a1 =
 (xA a1).bind fun y1 =>
 (idx a1.Mutator.Regs y1.1.A).bind fun x2 =>
 (xA a1).bind fun y3 =>
 (zdR a1.s.H x2 y3.1.S).bind fun y4 =>
 some (y4.1, ()) := zm (by kernel_rfl)
theorem zpf (a1 : zk) : UH a1 =
 (xA a1).bind fun y1 =>
 (Yq a1).bind fun y2 =>
 (wq y1.1.R y2.1 a1).bind fun y3 =>
 some (y3.1, ()) := zm (by kernel_rfl)
theorem zqv (a1 : zk) : zaz a1 =
 (xA a1).bind fun y1 =>
 (idx a1.Mutator.Regs y1.1.A).bind fun x2 =>
 bif decide (x2 = 0) then
  (wX a1).bind fun y3 =>
  some (y3.1, ())
 else
  (Yq a1).bind fun y4 =>
  some ({ a1 with Mutator := { a1.Mutator with PC := 21, Old := y4.1 } }, ()) := zm (by kernel_rfl)
theorem zpu (a1 : zp) (a2 : Int) : zfN a1 a2 =
 (zcg (a1.Marks &&& a1.Black) a2).bind fun y1 =>
 bif y1.1 then
  some (2, ())
 else
  (zcg a1.Marks a2).bind fun y2 =>
  bif y2.1 then
   some (1, ())
  else
   some (0, ()) := zm (by kernel_rfl)
theorem zoU (a1 : zk) : VZ a1 =
 bif decide (a1.Mutator.Old = 0) then
  some ({ a1 with Mutator := { a1.Mutator with PC := 23, Old := 0 } }, ())
 else
  (zfN a1.s.T a1.Mutator.Old).bind fun y1 =>
  bif !(decide (y1.1 = 0)) then
   some ({ a1 with Mutator := { a1.Mutator with PC := 23, Old := 0 } }, ())
  else
   some ({ a1 with Mutator := { a1.Mutator with PC := 22 } }, ()) := zm (by kernel_rfl)
theorem zm1 (a1 : zk) : WC a1 =
 bif decide (a1.s.P.Buf ≤ ((a1.Mutator.Buf.length : Int))) then
  some ({ a1 with Mutator := { a1.Mutator with PC := 1, Ret := 22 } }, ())
 else
  (yr a1.Mutator.Buf).bind fun y1 =>
  (xy (y1.1 ++ ([a1.Mutator.Old] : List Int))).bind fun l2 =>
  some ({ a1 with Mutator := { a1.Mutator with PC := 23, Old := 0, Buf := l2 } }, ()) := zm (by kernel_rfl)
theorem zvb (a1 : zu) (a2 : Int) (a3 : Int) (a4 : Int) : zl4 a1 a2 a3 a4 =
 (Y2 a1 a2 a3).bind fun y1 =>
 bif !y1.1 then
  some (a1, false, ())
 else
  bif decide (a4 < 0) then
   some (a1, false, ())
  else
   bif decide (((a1.Objs.length : Int)) < a4) then
    some (a1, false, ())
   else
    (xR a1.Objs).bind fun y2 =>
    (xU y2.1 (w64 (a2 - 1))).bind fun n3 =>
    (y2.1[n3]?).bind fun x4 =>
    (yr x4).bind fun y5 =>
    (xU y2.1 (w64 (a2 - 1))).bind fun n6 =>
    (xU (y2.1.set n6 y5.1) (w64 (a2 - 1))).bind fun n7 =>
    ((y2.1.set n6 y5.1)[n7]?).bind fun x8 =>
    (idx x8 a3).bind fun x9 =>
    none := zm (by kernel_rfl)
theorem zo8 (a1 : zk) : V3 a1 =
 (xA a1).bind fun y1 =>
 (idx a1.Mutator.Regs y1.1.A).bind fun x2 =>
 (idx a1.Mutator.Regs y1.1.R).bind fun x3 =>
 (zl4 a1.s.H x2 y1.1.S x3).bind fun y4 =>
 (wX ({ a1 with s := { a1.s with H := y4.1 } })).bind fun y5 =>
 some (y5.1, ()) := zm (by kernel_rfl)
theorem zsm (a1 : Int) (a2 : Int) : Ui a1 a2 =
 some (w64 (a1 - a2), ()) := zm (by kernel_rfl)
theorem zns (a1 : zl) (a2 : Int) (a3 : Int) : WE a1 a2 a3 =
 bif decide (((a1.Bal.length : Int)) = ((a1.Bal.length : Int))) then
  (Yh ((a1.Bal.length : Int))).bind fun n1 =>
  bif decide (a1.Bal.length = ((List.replicate n1 ((0 : Int))).length)) then
   bif a1.Bal.isEmpty then
    (xU (List.replicate n1 ((0 : Int))) (w64 (a2 - 1))).bind fun n2 =>
    ((List.replicate n1 ((0 : Int)))[n2]?).bind fun x3 =>
    (Ui x3 a3).bind fun y4 =>
    (xU (List.replicate n1 ((0 : Int))) (w64 (a2 - 1))).bind fun n5 =>
    some ({ a1 with Bal := (List.replicate n1 ((0 : Int))).set n5 y4.1 }, ())
   else
    (xU a1.Bal (w64 (a2 - 1))).bind fun n6 =>
    (a1.Bal[n6]?).bind fun x7 =>
    (Ui x7 a3).bind fun y8 =>
    (xU a1.Bal (w64 (a2 - 1))).bind fun n9 =>
    some ({ a1 with Bal := a1.Bal.set n9 y8.1 }, ())
  else
   none
 else
  none := zm (by kernel_rfl)
theorem zef (a1 : zl) (a2 : Int) : wT a1 a2 =
 bif decide (1 ≤ a2) then
  some (decide (a2 ≤ ((a1.Bal.length : Int))), ())
 else
  some (false, ()) := zm (by kernel_rfl)
theorem zoT (a1 : zl) (a2 : Int) (a3 : Int) (a4 : Int) : Yx a1 a2 a3 a4 =
 (wT a1 a2).bind fun y1 =>
 bif y1.1 then
  bif decide (0 ≤ (bif decide (a4 < a3) then a4 else a3)) then
   some (decide ((bif decide (a3 < a4) then a4 else a3) ≤ 1000000), ())
  else
   some (false, ())
 else
  some (false, ()) := zm (by kernel_rfl)
theorem zuu (a1 : zl) (a2 : Int) (a3 : Int) (a4 : Int) : zed a1 a2 a3 a4 =
 (Yx a1 a2 a3 a4).bind fun y1 =>
 bif y1.1 then
  (idx a1.Bal (w64 (a2 - 1))).bind fun x2 =>
  some (decide ((w64 (0 - a4)) ≤ (w64 (x2 - a3))), ())
 else
  some (false, ()) := zm (by kernel_rfl)
theorem ztt (a1 : zl) (a2 : Int) (a3 : Int) (a4 : Int) : zg5 a1 a2 a3 a4 =
 (zed a1 a2 a3 a4).bind fun y1 =>
 bif !y1.1 then
  some (a1, false, ())
 else
  (WE ({ a1 with Spent := w64 (a1.Spent + a3) }) a2 a3).bind fun y2 =>
  some (y2.1, true, ()) := zm (by kernel_rfl)
theorem zoe (a1 : List (List Int)) : WM a1 =
 bif decide (0 = 0) && decide (((a1.length : Int)) = 0) && decide (((a1.length : Int)) = 0) then
  some (([] : List (List Int)), ())
 else
  bif decide (0 = 0) && decide (((a1.length : Int)) = ((a1.length : Int))) && decide (((a1.length : Int)) = ((a1.length : Int))) then
   some (a1, ())
  else
   bif decide (((a1.length : Int)) = ((a1.length : Int))) then
    (cut a1 0 ((a1.length : Int))).bind fun l1 =>
    some (l1, ())
   else
    none := zm (by kernel_rfl)
theorem zuv (a1 : zu) (a2 : Int) : ziT a1 a2 =
 (UZ a1).bind fun y1 =>
 bif !y1.1 then
  some (a1, 0, 1, ())
 else
  bif decide ((bif decide (64 < a2) then 64 else a2) ≤ ((a1.Objs.length : Int))) then
   some (a1, 0, 4, ())
  else
   (WM a1.Objs).bind fun y2 =>
   bif decide (a1.Slots = a1.Slots) then
    (Yh a1.Slots).bind fun n3 =>
    none
   else
    none := zm (by kernel_rfl)
theorem znY (a1 : zp) (a2 : Int) : zbU a1 a2 =
 (zfN a1 a2).bind fun y1 =>
 bif !(decide (y1.1 = 1)) then
  some (a1, false, ())
 else
  (UG a1.Black a2).bind fun y2 =>
  some ({ a1 with Black := y2.1 }, true, ()) := zm (by kernel_rfl)
theorem zuq (a1 : zp) (a2 : Int) : zjy a1 a2 =
 (U2 a1 a2).bind fun y1 =>
 bif !y1.2.1 then
  some (a1, false, ())
 else
  (zbU y1.1 a2).bind fun y2 =>
  some (y2.1, y2.2.1, ()) := zm (by kernel_rfl)
theorem zo7 (a1 : zk) : VC a1 =
 (zg5 a1.s.L a1.m a1.s.P.Price a1.s.P.Limit).bind fun y1 =>
 bif !y1.2.1 then
  some ({ a1 with Mutator := { a1.Mutator with PC := 31 } }, ())
 else
  (ziT a1.s.H a1.s.P.Most).bind fun y2 =>
  bif !(decide (y2.2.2.1 = 0)) then
   (wX a1).bind fun y3 =>
   some (y3.1, ())
  else
   (zjy a1.s.T y2.2.1).bind fun y4 =>
   (xA ({ a1 with s := { a1.s with H := y2.1, T := y4.1, L := y1.1 } })).bind fun y5 =>
   (wq y5.1.R y2.2.1 ({ a1 with s := { a1.s with H := y2.1, T := y4.1, L := y1.1 } })).bind fun y6 =>
   some (y6.1, ()) := zm (by kernel_rfl)
theorem zsA (a1 : Int) (a2 : Int) : zaf a1 a2 =
 some (w64 (a1 + a2), ()) := zm (by kernel_rfl)
theorem znE (a1 : zl) (a2 : Int) (a3 : Int) : WA a1 a2 a3 =
 bif decide (((a1.Bal.length : Int)) = ((a1.Bal.length : Int))) then
  (Yh ((a1.Bal.length : Int))).bind fun n1 =>
  bif decide (a1.Bal.length = ((List.replicate n1 ((0 : Int))).length)) then
   bif a1.Bal.isEmpty then
    (xU (List.replicate n1 ((0 : Int))) (w64 (a2 - 1))).bind fun n2 =>
    ((List.replicate n1 ((0 : Int)))[n2]?).bind fun x3 =>
    (zaf x3 a3).bind fun y4 =>
    (xU (List.replicate n1 ((0 : Int))) (w64 (a2 - 1))).bind fun n5 =>
    some ({ a1 with Bal := (List.replicate n1 ((0 : Int))).set n5 y4.1 }, ())
   else
    (xU a1.Bal (w64 (a2 - 1))).bind fun n6 =>
    (a1.Bal[n6]?).bind fun x7 =>
    (zaf x7 a3).bind fun y8 =>
    (xU a1.Bal (w64 (a2 - 1))).bind fun n9 =>
    some ({ a1 with Bal := a1.Bal.set n9 y8.1 }, ())
  else
   none
 else
  none := zm (by kernel_rfl)
theorem zum (a1 : zl) (a2 : Int) (a3 : Int) : zir a1 a2 a3 =
 (wT a1 a2).bind fun y1 =>
 bif !y1.1 then
  some (a1, 0, ())
 else
  bif decide ((bif decide (a1.Pool < a3) then a1.Pool else a3) ≤ 0) then
   some (a1, 0, ())
  else
   (WA ({ a1 with Pool := w64 (a1.Pool - (bif decide (a1.Pool < a3) then a1.Pool else a3)) }) a2 (bif decide (a1.Pool < a3) then a1.Pool else a3)).bind fun y2 =>
   some (y2.1, bif decide (a1.Pool < a3) then a1.Pool else a3, ()) := zm (by kernel_rfl)
theorem zts (a1 : zl) (a2 : Int) (a3 : Int) (a4 : Int) : zhf a1 a2 a3 a4 =
 (Yx a1 a2 a3 a4).bind fun y1 =>
 bif !y1.1 then
  some (-1, ())
 else
  (zed a1 a2 a3 a4).bind fun y2 =>
  bif y2.1 then
   some (0, ())
  else
   (idx a1.Bal (w64 (a2 - 1))).bind fun x3 =>
   some (w64 ((w64 (a3 - a4)) - x3), ()) := zm (by kernel_rfl)
theorem zfa (a1 : Int) (a2 : Int) (a3 : Int) (a4 : zk) : uD a1 a2 a3 a4 =
 (ZG a4.s.P).bind fun y1 =>
 (V6 a1 a2 y1.1 a4.Mutator.Bin).bind fun y2 =>
 some ({ a4 with Mutator := { a4.Mutator with PC := a3, C := y2.1 } }, ()) := zm (by kernel_rfl)
theorem zpb (a1 : zk) : Ux a1 =
 (zhf a1.s.L a1.m a1.s.P.Price a1.s.P.Limit).bind fun y1 =>
 (zir a1.s.L a1.m y1.1).bind fun y2 =>
 bif decide (y2.2.1 = 0) then
  (Xf a1.s.P).bind fun y3 =>
  (uD 2 y3.1 32 (zk.mk { a1.Mutator with PC := 0 } { a1.s with L := y2.1 } a1.m)).bind fun y4 =>
  some (y4.1, ())
 else
  some (zk.mk { a1.Mutator with PC := 0 } { a1.s with L := y2.1 } a1.m, ()) := zm (by kernel_rfl)
theorem zqu (a1 : zk) : zaI a1 =
 (Xd a1.s.M a1.Mutator.C).bind fun y1 =>
 bif decide (y1.2.1.Out = 1) then
  some (zk.mk { a1.Mutator with PC := 33, Bin := y1.2.1.X, C := y1.2.1 } { a1.s with M := y1.1 } a1.m, ())
 else
  bif decide (y1.2.1.Out = 2) then
   some (zk.mk { a1.Mutator with PC := 0, C := y1.2.1 } { a1.s with M := y1.1 } a1.m, ())
  else
   some (zk.mk { a1.Mutator with C := y1.2.1 } { a1.s with M := y1.1 } a1.m, ()) := zm (by kernel_rfl)
theorem zoZ (a1 : zk) : VM a1 =
 (idx a1.s.Bins a1.Mutator.Bin).bind fun x1 =>
 (xR a1.s.Bins).bind fun y2 =>
 (xU y2.1 a1.Mutator.Bin).bind fun n3 =>
 (Z8 a1.s.P).bind fun y4 =>
 (uD 1 y4.1 34 (zk.mk { a1.Mutator with Batch := x1 } { a1.s with Bins := y2.1.set n3 ([] : List Int) } a1.m)).bind fun y5 =>
 some (y5.1, ()) := zm (by kernel_rfl)
theorem zo9 (a1 : zk) : Uu a1 =
 (Xd a1.s.M a1.Mutator.C).bind fun y1 =>
 bif decide (y1.2.1.Out = 1) then
  some (zk.mk { a1.Mutator with PC := 35, Bin := 0, C := y1.2.1 } { a1.s with M := y1.1 } a1.m, ())
 else
  some (zk.mk { a1.Mutator with C := y1.2.1 } { a1.s with M := y1.1 } a1.m, ()) := zm (by kernel_rfl)
theorem zo5 (a1 : zk) : V1 a1 =
 bif decide (0 < ((a1.Mutator.Batch.length : Int))) then
  (idx a1.Mutator.Batch 0).bind fun x1 =>
  (cut a1.Mutator.Batch 1 ((a1.Mutator.Batch.length : Int))).bind fun l2 =>
  some ({ a1 with Mutator := { a1.Mutator with PC := 36, Obj := x1, Slot := 0, Batch := l2 } }, ())
 else
  some ({ a1 with Mutator := { a1.Mutator with PC := 0 } }, ()) := zm (by kernel_rfl)
theorem ziz (a1 : zk) : XJ a1 =
 bif decide (a1.Mutator.Slot = a1.s.H.Slots) then
  some (38, ())
 else
  some (36, ()) := zm (by kernel_rfl)
theorem zpk (a1 : zk) : UE a1 =
 (zdR a1.s.H a1.Mutator.Obj a1.Mutator.Slot).bind fun y1 =>
 (XJ ({ a1 with Mutator := { a1.Mutator with Slot := w64 (a1.Mutator.Slot + 1) } })).bind fun y2 =>
 bif !(decide (y1.1 = 0)) then
  (zaj 3 y1.1 a1.m).bind fun y3 =>
  some ({ a1 with Mutator := { a1.Mutator with PC := 37, Slot := w64 (a1.Mutator.Slot + 1), G := y3.1 } }, ())
 else
  some ({ a1 with Mutator := { a1.Mutator with PC := y2.1, Slot := w64 (a1.Mutator.Slot + 1) } }, ()) := zm (by kernel_rfl)
theorem zqw (a1 : zk) : zan a1 =
 (XJ a1).bind fun y1 =>
 (v9 y1.1 a1).bind fun y2 =>
 some (y2.1, ()) := zm (by kernel_rfl)
theorem ziR (a1 : Int) : zao a1 =
 some (w64 (a1 + 1), ()) := zm (by kernel_rfl)
theorem zdZ (a1 : zl) (a2 : Int) : VU a1 a2 =
 bif decide (((a1.Bal.length : Int)) = ((a1.Bal.length : Int))) then
  (Yh ((a1.Bal.length : Int))).bind fun n1 =>
  bif decide (a1.Bal.length = ((List.replicate n1 ((0 : Int))).length)) then
   bif a1.Bal.isEmpty then
    (xU (List.replicate n1 ((0 : Int))) (w64 (a2 - 1))).bind fun n2 =>
    ((List.replicate n1 ((0 : Int)))[n2]?).bind fun x3 =>
    (zao x3).bind fun y4 =>
    (xU (List.replicate n1 ((0 : Int))) (w64 (a2 - 1))).bind fun n5 =>
    some ({ a1 with Bal := (List.replicate n1 ((0 : Int))).set n5 y4.1 }, ())
   else
    (xU a1.Bal (w64 (a2 - 1))).bind fun n6 =>
    (a1.Bal[n6]?).bind fun x7 =>
    (zao x7).bind fun y8 =>
    (xU a1.Bal (w64 (a2 - 1))).bind fun n9 =>
    some ({ a1 with Bal := a1.Bal.set n9 y8.1 }, ())
  else
   none
 else
  none := zm (by kernel_rfl)
theorem zk0 (a1 : zl) (a2 : Int) : zdc a1 a2 =
 (wT ({ a1 with Scanned := w64 (a1.Scanned + 1) }) a2).bind fun y1 =>
 bif !y1.1 then
  some ({ a1 with Scanned := w64 (a1.Scanned + 1), Pool := w64 (a1.Pool + 1) }, ())
 else
  (VU ({ a1 with Scanned := w64 (a1.Scanned + 1) }) a2).bind fun y2 =>
  some (y2.1, ()) := zm (by kernel_rfl)
theorem zon (a1 : zk) : WL a1 =
 (zbU a1.s.T a1.Mutator.Obj).bind fun y1 =>
 (zdc a1.s.L a1.m).bind fun y2 =>
 some (zk.mk { a1.Mutator with PC := 39 } { a1.s with T := y1.1, L := y2.1 } a1.m, ()) := zm (by kernel_rfl)
theorem zn8 (a1 : zk) : WY a1 =
 some (zk.mk { a1.Mutator with PC := 35, Obj := 0 } { a1.s with Work := w64 (a1.s.Work - 1) } a1.m, ()) := zm (by kernel_rfl)
theorem zeB (a1 : zk) : Xk a1 =
 bif decide (a1.Mutator.PC = 0) then
  (YB a1).bind fun y1 =>
  some (y1.1, ())
 else
  bif decide (a1.Mutator.PC = 1) then
   (VO a1).bind fun y2 =>
   some (y2.1, ())
  else
   bif decide (a1.Mutator.PC = 2) then
    (zaw a1).bind fun y3 =>
    some (zk.mk y3.1 (zc.mk y3.2.1 y3.2.2.1 y3.2.2.2.1 y3.2.2.2.2.1 y3.2.2.2.2.2.1 y3.2.2.2.2.2.2.1 y3.2.2.2.2.2.2.2.1 y3.2.2.2.2.2.2.2.2.1 y3.2.2.2.2.2.2.2.2.2.1 y3.2.2.2.2.2.2.2.2.2.2.1 y3.2.2.2.2.2.2.2.2.2.2.2.2.2.2.2.2.1 y3.2.2.2.2.2.2.2.2.2.2.2.1 y3.2.2.2.2.2.2.2.2.2.2.2.2.1 y3.2.2.2.2.2.2.2.2.2.2.2.2.2.1 y3.2.2.2.2.2.2.2.2.2.2.2.2.2.2.1) y3.2.2.2.2.2.2.2.2.2.2.2.2.2.2.2.1, ())
   else
    bif decide (a1.Mutator.PC = 3) then
     (VV a1).bind fun y4 =>
     some (y4.1, ())
    else
     bif decide (a1.Mutator.PC = 10) then
      (UH a1).bind fun y5 =>
      some (y5.1, ())
     else
      bif decide (a1.Mutator.PC = 20) then
       (zaz a1).bind fun y6 =>
       some (y6.1, ())
      else
       bif decide (a1.Mutator.PC = 21) then
        (VZ a1).bind fun y7 =>
        some (y7.1, ())
       else
        bif decide (a1.Mutator.PC = 22) then
         (WC a1).bind fun y8 =>
         some (y8.1, ())
        else
         bif decide (a1.Mutator.PC = 23) then
          (V3 a1).bind fun y9 =>
          some (y9.1, ())
         else
          bif decide (a1.Mutator.PC = 30) then
           (VC a1).bind fun y10 =>
           some (y10.1, ())
          else
           bif decide (a1.Mutator.PC = 31) then
            (Ux a1).bind fun y11 =>
            some (y11.1, ())
           else
            bif decide (a1.Mutator.PC = 32) then
             (zaI a1).bind fun y12 =>
             some (y12.1, ())
            else
             bif decide (a1.Mutator.PC = 33) then
              (VM a1).bind fun y13 =>
              some (y13.1, ())
             else
              bif decide (a1.Mutator.PC = 34) then
               (Uu a1).bind fun y14 =>
               some (y14.1, ())
              else
               bif decide (a1.Mutator.PC = 35) then
                (V1 a1).bind fun y15 =>
                some (y15.1, ())
               else
                bif decide (a1.Mutator.PC = 36) then
                 (UE a1).bind fun y16 =>
                 some (y16.1, ())
                else
                 bif decide (a1.Mutator.PC = 37) then
                  (zan a1).bind fun y17 =>
                  some (y17.1, ())
                 else
                  bif decide (a1.Mutator.PC = 38) then
                   (WL a1).bind fun y18 =>
                   some (y18.1, ())
                  else
                   bif decide (a1.Mutator.PC = 39) then
                    (WY a1).bind fun y19 =>
                    some (y19.1, ())
                   else
                    some (a1, ()) := zm (by kernel_rfl)
theorem Z2 (a1 : List zb) : xi a1 =
 bif a1.isEmpty then
  zh7 (
   some (([] : List zb), ())) (
   (xy (([] : List zb) ++ a1)).bind fun l1 =>
   some (l1, ()))
 else
  (xy (([] : List zb) ++ a1)).bind fun l2 =>
  some (l2, ()) := zm (by kernel_rfl)
theorem zj2 (a1 : zc) (a2 : Int) : Xh a1 a2 =
 bif a1.Done then
  some (a1, ())
 else
  bif decide (a2 < 1) then
   some (a1, ())
  else
   bif decide (((a1.Ms.length : Int)) < a2) then
    some (a1, ())
   else
    (idx a1.Ms (w64 (a2 - 1))).bind fun x1 =>
    (Xk (zk.mk x1 a1 a2)).bind fun y2 =>
    (xi y2.1.s.Ms).bind fun y3 =>
    (xU y3.1 (w64 (a2 - 1))).bind fun n4 =>
    some ({ y2.1.s with Ms := y3.1.set n4 y2.1.Mutator }, ()) := zm (by kernel_rfl)
end Go.Pe.G
namespace Go.Pe.G
open Go.Pe
theorem ZK (s1 : List (List zg)) (s2 : Int) (s3 : Int) (s4 : Int) (s5 : Int) (s6 : Int) (s7 : Int) (s8 : Int) (s9 : Int) (s10 : Int) (s11 : Int) (s12 : BitVec 64) (s13 : Int) (s14 : Int) (s15 : Int) (s16 : Int) (s17 : Int) (s18 : Int) (s19 : Int) (s20 : Int) (s21 : Int) (s22 : BitVec 64) (s23 : List (List Int)) (s24 : List (List Int)) (s25 : List (List zg)) (s26 : List zi) (s27 : List (List Int)) (s28 : List (List Int)) (s29 : List (List zg)) (s30 : List zi) : UI (s1, s2, s3, s4, s5, s6, s7, s8, s9, s10, s11, s12, s13, s14, s15, s16, s17, s18, s19, s20, s21, s22, s23, s24, s25, s26, s27, s28, s29, s30, ()) =
 bif decide (s2 < ((s1.length : Int))) then
  (xy (s28 ++ (([([1, 0] : List Int)] : List (List Int))))).bind fun l1 =>
  (idx s1 s2).bind fun x2 =>
  (xy (s29 ++ (([x2] : List (List zg))))).bind fun l3 =>
  some (.again (s1, w64 (s2 + 1), s3, s4, s5, s6, s7, s8, s9, s10, s11, s12, s13, s14, s15, s16, s17, s18, s19, s20, s21, s22, s23, s24, s25, s26, s27, l1, l3, s30, ()))
 else
  some (.brk (s3, s4, s5, s6, s7, s8, s9, s10, s11, s12, s13, s14, s15, s16, s17, s18, s19, s20, s21, s22, s23, s24, s25, s26, s27, s28, s29, s30, ())) := by kernel_rfl
theorem UD (a1 : List (List zg)) : uv a1 =
 (ya UI (a1, 0, 0, 0, 0, 0, 0, 0, 0, 0, 0, 0#64, 1, (a1.length : Int), 2, 1, 1, 4, 2, 2, 1, 1#64, ([] : List (List Int)), ([] : List (List Int)), ([] : List (List zg)), ([] : List zi), ([([2] : List Int), ([0] : List Int), ([0] : List Int)] : List (List Int)), ([] : List (List Int)), ([] : List (List zg)), ([] : List zi), ())).bind fun st => match st with
   | .again _ => none
   | .brk y1 =>
   some (zd.mk y1.2.2.2.2.2.2.2.2.2.2.1 y1.2.2.2.2.2.2.2.2.2.2.2.1 y1.2.2.2.2.2.2.2.2.2.2.2.2.1 y1.2.2.2.2.2.2.2.2.2.2.2.2.2.1 y1.2.2.2.2.2.2.2.2.2.2.2.2.2.2.1 y1.2.2.2.2.2.2.2.2.2.2.2.2.2.2.2.1 y1.2.2.2.2.2.2.2.2.2.2.2.2.2.2.2.2.1 y1.2.2.2.2.2.2.2.2.2.2.2.2.2.2.2.2.2.1 (zu.mk y1.2.2.2.2.2.2.2.2.2.2.2.2.2.2.2.2.2.2.1 y1.2.2.2.2.2.2.2.2.2.2.2.2.2.2.2.2.2.2.2.2.2.2.2.2.1) y1.2.2.2.2.2.2.2.2.2.2.2.2.2.2.2.2.2.2.2.1 y1.2.2.2.2.2.2.2.2.2.2.2.2.2.2.2.2.2.2.2.2.2.2.2.2.2.1 y1.2.2.2.2.2.2.2.2.2.2.2.2.2.2.2.2.2.2.2.2.2.2.2.2.2.2.1 y1.2.2.2.2.2.2.2.2.2.2.2.2.2.2.2.2.2.2.2.2.2.2.2.2.2.2.2.1, ())
   | .ret y1 =>
   none := zm (by kernel_rfl)
theorem zeu  : Y9  =
 (uv (([] : List (List zg)))).bind fun y1 =>
 (Zm y1.1).bind fun y2 =>
 (Zm ({ y1.1 with Roots := 0#64 })).bind fun y3 =>
 (zT y2.1 9).bind fun y4 =>
 (zT y3.1 5).bind fun y5 =>
 (zT y3.1 6).bind fun y6 =>
 (uv (([([] : List zg)] : List (List zg)))).bind fun y7 =>
 (Zm ({ y7.1 with Roots := 0#64, Regs := ([([0] : List Int)] : List (List Int)) })).bind fun y8 =>
 (zT y8.1 9).bind fun y9 =>
 (Xh y9.1 1).bind fun y10 =>
 (Xh y10.1 1).bind fun y11 =>
 (Xh y11.1 1).bind fun y12 =>
 bif !y4.1.Done then
  bif decide (y4.1.D.PC = 1) then
   bif decide (y4.1.Epoch = 0) then
    bif !y5.1.Done then
     bif decide (y5.1.D.PC = 6) then
      bif decide (y5.1.Epoch = 1) then
       bif y6.1.Done then
        (zT y6.1 3).bind fun y13 =>
        (zeq y13.1 y6.1).bind fun y14 =>
        bif y14.1 then
         bif decide (y9.1.D.PC = 3) then
          bif decide (y9.1.Epoch = 1) then
           (zT y12.1 4).bind fun y15 =>
           bif y15.1.Done then
            (zT y9.1 4).bind fun y16 =>
            some (!y16.1.Done, ())
           else
            some (false, ())
          else
           some (false, ())
         else
          some (false, ())
        else
         some (false, ())
       else
        some (false, ())
      else
       some (false, ())
     else
      some (false, ())
    else
     some (false, ())
   else
    some (false, ())
  else
   some (false, ())
 else
  some (false, ()) := zm (by kernel_rfl)
theorem zaM (a1 : zv) : zq a1 =
 bif decide (((a1.L.length : Int)) ≤ a1.At) then
  some (0, a1, ())
 else
  (idx a1.L (w64 ((w64 (a1.At + 1)) - 1))).bind fun x1 =>
  some ((x1.toNat : Int), { a1 with At := w64 (a1.At + 1) }, ()) := zm (by kernel_rfl)
theorem zcm (a1 : Int) (a2 : Int) (a3 : zv) : ZJ a1 a2 a3 =
 (zq a3).bind fun y1 =>
 (xU ([1, 1, 2, 2, 2, 3, 4, 5] : List Int) (y1.1.tmod 8)).bind fun n2 =>
 (([1, 1, 2, 2, 2, 3, 4, 5] : List Int)[n2]?).bind fun x3 =>
 (zq y1.2.1).bind fun y4 =>
 bif decide (a1 = 0) then
  none
 else
  bif decide (x3 = 1) then
   (zq y4.2.1).bind fun y5 =>
   bif decide (a1 = 0) then
    none
   else
    bif decide (x3 < 3) then
     (zq y5.2.1).bind fun y6 =>
     bif decide (a2 = 0) then
      none
     else
      some (zg.mk x3 (y4.1.tmod a1) (y5.1.tmod a1) (y6.1.tmod a2), y6.2.1, ())
    else
     some (zg.mk x3 (y4.1.tmod a1) (y5.1.tmod a1) 0, y5.2.1, ())
  else
   bif decide (x3 = 2) then
    (zq y4.2.1).bind fun y7 =>
    bif decide (a1 = 0) then
     none
    else
     bif decide (x3 < 3) then
      (zq y7.2.1).bind fun y8 =>
      bif decide (a2 = 0) then
       none
      else
       some (zg.mk x3 (y4.1.tmod a1) (y7.1.tmod a1) (y8.1.tmod a2), y8.2.1, ())
     else
      some (zg.mk x3 (y4.1.tmod a1) (y7.1.tmod a1) 0, y7.2.1, ())
   else
    bif decide (x3 = 4) then
     (zq y4.2.1).bind fun y9 =>
     bif decide (a1 = 0) then
      none
     else
      bif decide (x3 < 3) then
       (zq y9.2.1).bind fun y10 =>
       bif decide (a2 = 0) then
        none
       else
        some (zg.mk x3 (y4.1.tmod a1) (y9.1.tmod a1) (y10.1.tmod a2), y10.2.1, ())
      else
       some (zg.mk x3 (y4.1.tmod a1) (y9.1.tmod a1) 0, y9.2.1, ())
    else
     bif decide (x3 < 3) then
      (zq y4.2.1).bind fun y11 =>
      bif decide (a2 = 0) then
       none
      else
       some (zg.mk x3 (y4.1.tmod a1) 0 (y11.1.tmod a2), y11.2.1, ())
     else
      some (zg.mk x3 (y4.1.tmod a1) 0 0, y4.2.1, ()) := zm (by kernel_rfl)
theorem zfl (s1 : Int) (s2 : Int) (s3 : Int) (s4 : Int) (s5 : Int) (s6 : Int) (s7 : Int) (s8 : Int) (s9 : Int) (s10 : Int) (s11 : Int) (s12 : BitVec 64) (s13 : zv) (s14 : Int) (s15 : Int) (s16 : Int) (s17 : Int) (s18 : Int) (s19 : Int) (s20 : Int) (s21 : Int) (s22 : Int) (s23 : BitVec 64) (s24 : List (List Int)) (s25 : List (List Int)) (s26 : List (List zg)) (s27 : List zi) (s28 : List (List Int)) (s29 : List (List Int)) (s30 : List (List zg)) (s31 : List zi) : u0 (s1, s2, s3, s4, s5, s6, s7, s8, s9, s10, s11, s12, s13, s14, s15, s16, s17, s18, s19, s20, s21, s22, s23, s24, s25, s26, s27, s28, s29, s30, s31, ()) =
 bif decide (s2 < s1) then
  (ya uK (s1, s2, 0, s3, s4, s5, s6, s7, s8, s9, s10, s11, s12, s13, s14, s15, s16, s17, s18, s19, s20, s21, s22, s23, ([] : List Int), s24, s25, s26, s27, s28, s29, s30, s31, ())).bind fun st => match st with
    | .again _ => none
    | .brk y1 =>
    (xy (y1.2.2.2.2.2.2.2.2.2.2.2.2.2.2.2.2.2.2.2.2.2.2.2.2.2.2.2.2.1 ++ (([y1.2.2.2.2.2.2.2.2.2.2.2.2.2.2.2.2.2.2.2.2.2.2.2.1] : List (List Int))))).bind fun l2 =>
    some (.again (y1.1, w64 (y1.2.1 + 1), y1.2.2.1, y1.2.2.2.1, y1.2.2.2.2.1, y1.2.2.2.2.2.1, y1.2.2.2.2.2.2.1, y1.2.2.2.2.2.2.2.1, y1.2.2.2.2.2.2.2.2.1, y1.2.2.2.2.2.2.2.2.2.1, y1.2.2.2.2.2.2.2.2.2.2.1, y1.2.2.2.2.2.2.2.2.2.2.2.1, y1.2.2.2.2.2.2.2.2.2.2.2.2.1, y1.2.2.2.2.2.2.2.2.2.2.2.2.2.1, y1.2.2.2.2.2.2.2.2.2.2.2.2.2.2.1, y1.2.2.2.2.2.2.2.2.2.2.2.2.2.2.2.1, y1.2.2.2.2.2.2.2.2.2.2.2.2.2.2.2.2.1, y1.2.2.2.2.2.2.2.2.2.2.2.2.2.2.2.2.2.1, y1.2.2.2.2.2.2.2.2.2.2.2.2.2.2.2.2.2.2.1, y1.2.2.2.2.2.2.2.2.2.2.2.2.2.2.2.2.2.2.2.1, y1.2.2.2.2.2.2.2.2.2.2.2.2.2.2.2.2.2.2.2.2.1, y1.2.2.2.2.2.2.2.2.2.2.2.2.2.2.2.2.2.2.2.2.2.1, y1.2.2.2.2.2.2.2.2.2.2.2.2.2.2.2.2.2.2.2.2.2.2.1, y1.2.2.2.2.2.2.2.2.2.2.2.2.2.2.2.2.2.2.2.2.2.2.2.2.1, y1.2.2.2.2.2.2.2.2.2.2.2.2.2.2.2.2.2.2.2.2.2.2.2.2.2.1, y1.2.2.2.2.2.2.2.2.2.2.2.2.2.2.2.2.2.2.2.2.2.2.2.2.2.2.1, y1.2.2.2.2.2.2.2.2.2.2.2.2.2.2.2.2.2.2.2.2.2.2.2.2.2.2.2.1, l2, y1.2.2.2.2.2.2.2.2.2.2.2.2.2.2.2.2.2.2.2.2.2.2.2.2.2.2.2.2.2.1, y1.2.2.2.2.2.2.2.2.2.2.2.2.2.2.2.2.2.2.2.2.2.2.2.2.2.2.2.2.2.2.1, y1.2.2.2.2.2.2.2.2.2.2.2.2.2.2.2.2.2.2.2.2.2.2.2.2.2.2.2.2.2.2.2.1, ()))
    | .ret y1 =>
    some (.ret (()))
 else
  some (.brk (s1, s3, s4, s5, s6, s7, s8, s9, s10, s11, s12, s13, s14, s15, s16, s17, s18, s19, s20, s21, s22, s23, s24, s25, s26, s27, s28, s29, s30, s31, ())) := by kernel_rfl
theorem zes (s1 : Int) (s2 : Int) (s3 : Int) (s4 : Int) (s5 : Int) (s6 : Int) (s7 : Int) (s8 : Int) (s9 : Int) (s10 : Int) (s11 : Int) (s12 : Int) (s13 : BitVec 64) (s14 : zv) (s15 : Int) (s16 : Int) (s17 : Int) (s18 : Int) (s19 : Int) (s20 : Int) (s21 : Int) (s22 : Int) (s23 : Int) (s24 : BitVec 64) (s25 : List Int) (s26 : List (List Int)) (s27 : List (List Int)) (s28 : List (List zg)) (s29 : List zi) (s30 : List (List Int)) (s31 : List (List Int)) (s32 : List (List zg)) (s33 : List zi) : uK (s1, s2, s3, s4, s5, s6, s7, s8, s9, s10, s11, s12, s13, s14, s15, s16, s17, s18, s19, s20, s21, s22, s23, s24, s25, s26, s27, s28, s29, s30, s31, s32, s33, ()) =
 bif decide (s3 < s23) then
  (zq s14).bind fun y1 =>
  bif decide ((w64 (s1 + 1)) = 0) then
   none
  else
   (xy (s25 ++ (([(y1.1.tmod (w64 (s1 + 1)))] : List Int)))).bind fun l2 =>
   some (.again (s1, s2, w64 (s3 + 1), s4, s5, s6, s7, s8, s9, s10, s11, s12, s13, y1.2.1, s15, s16, s17, s18, s19, s20, s21, s22, s23, s24, l2, s26, s27, s28, s29, s30, s31, s32, s33, ()))
 else
  some (.brk (s1, s2, s4, s5, s6, s7, s8, s9, s10, s11, s12, s13, s14, s15, s16, s17, s18, s19, s20, s21, s22, s23, s24, s25, s26, s27, s28, s29, s30, s31, s32, s33, ())) := by kernel_rfl
theorem zeV (s1 : Int) (s2 : Int) (s3 : Int) (s4 : Int) (s5 : Int) (s6 : Int) (s7 : Int) (s8 : Int) (s9 : Int) (s10 : Int) (s11 : Int) (s12 : BitVec 64) (s13 : zv) (s14 : Int) (s15 : Int) (s16 : Int) (s17 : Int) (s18 : Int) (s19 : Int) (s20 : Int) (s21 : Int) (s22 : Int) (s23 : BitVec 64) (s24 : List (List Int)) (s25 : List (List Int)) (s26 : List (List zg)) (s27 : List zi) (s28 : List (List Int)) (s29 : List (List Int)) (s30 : List (List zg)) (s31 : List zi) : uH (s1, s2, s3, s4, s5, s6, s7, s8, s9, s10, s11, s12, s13, s14, s15, s16, s17, s18, s19, s20, s21, s22, s23, s24, s25, s26, s27, s28, s29, s30, s31, ()) =
 bif decide (s2 < s15) then
  (ya uF (s1, s2, 0, s3, s4, s5, s6, s7, s8, s9, s10, s11, s12, s13, s14, s15, s16, s17, s18, s19, s20, s21, s22, s23, ([] : List Int), s24, s25, s26, s27, s28, s29, s30, s31, ())).bind fun st => match st with
    | .again _ => none
    | .brk y1 =>
    bif decide (((y1.2.2.2.2.2.2.2.2.2.2.2.2.2.2.2.2.2.2.2.2.2.2.2.1.length : Int)) = 0) then
     (zq y1.2.2.2.2.2.2.2.2.2.2.2.2.1).bind fun y2 =>
     (ya wV (y1.1, y1.2.1, y2.1.tmod 8, y1.2.2.1, y1.2.2.2.1, y1.2.2.2.2.1, y1.2.2.2.2.2.1, y1.2.2.2.2.2.2.1, y1.2.2.2.2.2.2.2.1, y1.2.2.2.2.2.2.2.2.1, y1.2.2.2.2.2.2.2.2.2.1, y1.2.2.2.2.2.2.2.2.2.2.1, y1.2.2.2.2.2.2.2.2.2.2.2.1, y2.2.1, y1.2.2.2.2.2.2.2.2.2.2.2.2.2.1, y1.2.2.2.2.2.2.2.2.2.2.2.2.2.2.1, y1.2.2.2.2.2.2.2.2.2.2.2.2.2.2.2.1, y1.2.2.2.2.2.2.2.2.2.2.2.2.2.2.2.2.1, y1.2.2.2.2.2.2.2.2.2.2.2.2.2.2.2.2.2.1, y1.2.2.2.2.2.2.2.2.2.2.2.2.2.2.2.2.2.2.1, y1.2.2.2.2.2.2.2.2.2.2.2.2.2.2.2.2.2.2.2.1, y1.2.2.2.2.2.2.2.2.2.2.2.2.2.2.2.2.2.2.2.2.1, y1.2.2.2.2.2.2.2.2.2.2.2.2.2.2.2.2.2.2.2.2.2.1, y1.2.2.2.2.2.2.2.2.2.2.2.2.2.2.2.2.2.2.2.2.2.2.1, ([0] : List Int), ([] : List zg), y1.2.2.2.2.2.2.2.2.2.2.2.2.2.2.2.2.2.2.2.2.2.2.2.2.1, y1.2.2.2.2.2.2.2.2.2.2.2.2.2.2.2.2.2.2.2.2.2.2.2.2.2.1, y1.2.2.2.2.2.2.2.2.2.2.2.2.2.2.2.2.2.2.2.2.2.2.2.2.2.2.1, y1.2.2.2.2.2.2.2.2.2.2.2.2.2.2.2.2.2.2.2.2.2.2.2.2.2.2.2.1, y1.2.2.2.2.2.2.2.2.2.2.2.2.2.2.2.2.2.2.2.2.2.2.2.2.2.2.2.2.1, y1.2.2.2.2.2.2.2.2.2.2.2.2.2.2.2.2.2.2.2.2.2.2.2.2.2.2.2.2.2.1, y1.2.2.2.2.2.2.2.2.2.2.2.2.2.2.2.2.2.2.2.2.2.2.2.2.2.2.2.2.2.2.1, y1.2.2.2.2.2.2.2.2.2.2.2.2.2.2.2.2.2.2.2.2.2.2.2.2.2.2.2.2.2.2.2.1, ())).bind fun st => match st with
       | .again _ => none
       | .brk y3 =>
       (xy (y3.2.2.2.2.2.2.2.2.2.2.2.2.2.2.2.2.2.2.2.2.2.2.2.2.2.2.2.2.2.2.1 ++ (([y3.2.2.2.2.2.2.2.2.2.2.2.2.2.2.2.2.2.2.2.2.2.2.2.1] : List (List Int))))).bind fun l4 =>
       (xy (y3.2.2.2.2.2.2.2.2.2.2.2.2.2.2.2.2.2.2.2.2.2.2.2.2.2.2.2.2.2.2.2.1 ++ (([y3.2.2.2.2.2.2.2.2.2.2.2.2.2.2.2.2.2.2.2.2.2.2.2.2.1] : List (List zg))))).bind fun l5 =>
       some (.again (y3.1, w64 (y3.2.1 + 1), y3.2.2.1, y3.2.2.2.1, y3.2.2.2.2.1, y3.2.2.2.2.2.1, y3.2.2.2.2.2.2.1, y3.2.2.2.2.2.2.2.1, y3.2.2.2.2.2.2.2.2.1, y3.2.2.2.2.2.2.2.2.2.1, y3.2.2.2.2.2.2.2.2.2.2.1, y3.2.2.2.2.2.2.2.2.2.2.2.1, y3.2.2.2.2.2.2.2.2.2.2.2.2.1, y3.2.2.2.2.2.2.2.2.2.2.2.2.2.1, y3.2.2.2.2.2.2.2.2.2.2.2.2.2.2.1, y3.2.2.2.2.2.2.2.2.2.2.2.2.2.2.2.1, y3.2.2.2.2.2.2.2.2.2.2.2.2.2.2.2.2.1, y3.2.2.2.2.2.2.2.2.2.2.2.2.2.2.2.2.2.1, y3.2.2.2.2.2.2.2.2.2.2.2.2.2.2.2.2.2.2.1, y3.2.2.2.2.2.2.2.2.2.2.2.2.2.2.2.2.2.2.2.1, y3.2.2.2.2.2.2.2.2.2.2.2.2.2.2.2.2.2.2.2.2.1, y3.2.2.2.2.2.2.2.2.2.2.2.2.2.2.2.2.2.2.2.2.2.1, y3.2.2.2.2.2.2.2.2.2.2.2.2.2.2.2.2.2.2.2.2.2.2.1, y3.2.2.2.2.2.2.2.2.2.2.2.2.2.2.2.2.2.2.2.2.2.2.2.2.2.1, y3.2.2.2.2.2.2.2.2.2.2.2.2.2.2.2.2.2.2.2.2.2.2.2.2.2.2.1, y3.2.2.2.2.2.2.2.2.2.2.2.2.2.2.2.2.2.2.2.2.2.2.2.2.2.2.2.1, y3.2.2.2.2.2.2.2.2.2.2.2.2.2.2.2.2.2.2.2.2.2.2.2.2.2.2.2.2.1, y3.2.2.2.2.2.2.2.2.2.2.2.2.2.2.2.2.2.2.2.2.2.2.2.2.2.2.2.2.2.1, l4, l5, y3.2.2.2.2.2.2.2.2.2.2.2.2.2.2.2.2.2.2.2.2.2.2.2.2.2.2.2.2.2.2.2.2.1, ()))
       | .ret y3 =>
       some (.ret (()))
    else
     (zq y1.2.2.2.2.2.2.2.2.2.2.2.2.1).bind fun y6 =>
     (ya wV (y1.1, y1.2.1, y6.1.tmod 8, y1.2.2.1, y1.2.2.2.1, y1.2.2.2.2.1, y1.2.2.2.2.2.1, y1.2.2.2.2.2.2.1, y1.2.2.2.2.2.2.2.1, y1.2.2.2.2.2.2.2.2.1, y1.2.2.2.2.2.2.2.2.2.1, y1.2.2.2.2.2.2.2.2.2.2.1, y1.2.2.2.2.2.2.2.2.2.2.2.1, y6.2.1, y1.2.2.2.2.2.2.2.2.2.2.2.2.2.1, y1.2.2.2.2.2.2.2.2.2.2.2.2.2.2.1, y1.2.2.2.2.2.2.2.2.2.2.2.2.2.2.2.1, y1.2.2.2.2.2.2.2.2.2.2.2.2.2.2.2.2.1, y1.2.2.2.2.2.2.2.2.2.2.2.2.2.2.2.2.2.1, y1.2.2.2.2.2.2.2.2.2.2.2.2.2.2.2.2.2.2.1, y1.2.2.2.2.2.2.2.2.2.2.2.2.2.2.2.2.2.2.2.1, y1.2.2.2.2.2.2.2.2.2.2.2.2.2.2.2.2.2.2.2.2.1, y1.2.2.2.2.2.2.2.2.2.2.2.2.2.2.2.2.2.2.2.2.2.1, y1.2.2.2.2.2.2.2.2.2.2.2.2.2.2.2.2.2.2.2.2.2.2.1, y1.2.2.2.2.2.2.2.2.2.2.2.2.2.2.2.2.2.2.2.2.2.2.2.1, ([] : List zg), y1.2.2.2.2.2.2.2.2.2.2.2.2.2.2.2.2.2.2.2.2.2.2.2.2.1, y1.2.2.2.2.2.2.2.2.2.2.2.2.2.2.2.2.2.2.2.2.2.2.2.2.2.1, y1.2.2.2.2.2.2.2.2.2.2.2.2.2.2.2.2.2.2.2.2.2.2.2.2.2.2.1, y1.2.2.2.2.2.2.2.2.2.2.2.2.2.2.2.2.2.2.2.2.2.2.2.2.2.2.2.1, y1.2.2.2.2.2.2.2.2.2.2.2.2.2.2.2.2.2.2.2.2.2.2.2.2.2.2.2.2.1, y1.2.2.2.2.2.2.2.2.2.2.2.2.2.2.2.2.2.2.2.2.2.2.2.2.2.2.2.2.2.1, y1.2.2.2.2.2.2.2.2.2.2.2.2.2.2.2.2.2.2.2.2.2.2.2.2.2.2.2.2.2.2.1, y1.2.2.2.2.2.2.2.2.2.2.2.2.2.2.2.2.2.2.2.2.2.2.2.2.2.2.2.2.2.2.2.1, ())).bind fun st => match st with
       | .again _ => none
       | .brk y7 =>
       (xy (y7.2.2.2.2.2.2.2.2.2.2.2.2.2.2.2.2.2.2.2.2.2.2.2.2.2.2.2.2.2.2.1 ++ (([y7.2.2.2.2.2.2.2.2.2.2.2.2.2.2.2.2.2.2.2.2.2.2.2.1] : List (List Int))))).bind fun l8 =>
       (xy (y7.2.2.2.2.2.2.2.2.2.2.2.2.2.2.2.2.2.2.2.2.2.2.2.2.2.2.2.2.2.2.2.1 ++ (([y7.2.2.2.2.2.2.2.2.2.2.2.2.2.2.2.2.2.2.2.2.2.2.2.2.1] : List (List zg))))).bind fun l9 =>
       some (.again (y7.1, w64 (y7.2.1 + 1), y7.2.2.1, y7.2.2.2.1, y7.2.2.2.2.1, y7.2.2.2.2.2.1, y7.2.2.2.2.2.2.1, y7.2.2.2.2.2.2.2.1, y7.2.2.2.2.2.2.2.2.1, y7.2.2.2.2.2.2.2.2.2.1, y7.2.2.2.2.2.2.2.2.2.2.1, y7.2.2.2.2.2.2.2.2.2.2.2.1, y7.2.2.2.2.2.2.2.2.2.2.2.2.1, y7.2.2.2.2.2.2.2.2.2.2.2.2.2.1, y7.2.2.2.2.2.2.2.2.2.2.2.2.2.2.1, y7.2.2.2.2.2.2.2.2.2.2.2.2.2.2.2.1, y7.2.2.2.2.2.2.2.2.2.2.2.2.2.2.2.2.1, y7.2.2.2.2.2.2.2.2.2.2.2.2.2.2.2.2.2.1, y7.2.2.2.2.2.2.2.2.2.2.2.2.2.2.2.2.2.2.1, y7.2.2.2.2.2.2.2.2.2.2.2.2.2.2.2.2.2.2.2.1, y7.2.2.2.2.2.2.2.2.2.2.2.2.2.2.2.2.2.2.2.2.1, y7.2.2.2.2.2.2.2.2.2.2.2.2.2.2.2.2.2.2.2.2.2.1, y7.2.2.2.2.2.2.2.2.2.2.2.2.2.2.2.2.2.2.2.2.2.2.1, y7.2.2.2.2.2.2.2.2.2.2.2.2.2.2.2.2.2.2.2.2.2.2.2.2.2.1, y7.2.2.2.2.2.2.2.2.2.2.2.2.2.2.2.2.2.2.2.2.2.2.2.2.2.2.1, y7.2.2.2.2.2.2.2.2.2.2.2.2.2.2.2.2.2.2.2.2.2.2.2.2.2.2.2.1, y7.2.2.2.2.2.2.2.2.2.2.2.2.2.2.2.2.2.2.2.2.2.2.2.2.2.2.2.2.1, y7.2.2.2.2.2.2.2.2.2.2.2.2.2.2.2.2.2.2.2.2.2.2.2.2.2.2.2.2.2.1, l8, l9, y7.2.2.2.2.2.2.2.2.2.2.2.2.2.2.2.2.2.2.2.2.2.2.2.2.2.2.2.2.2.2.2.2.1, ()))
       | .ret y7 =>
       some (.ret (()))
    | .ret y1 =>
    some (.ret (()))
 else
  some (.brk (s3, s4, s5, s6, s7, s8, s9, s10, s11, s12, s14, s15, s16, s17, s18, s19, s20, s21, s22, s23, s24, s25, s26, s27, s28, s29, s30, s31, ())) := by kernel_rfl
theorem zeG (s1 : Int) (s2 : Int) (s3 : Int) (s4 : Int) (s5 : Int) (s6 : Int) (s7 : Int) (s8 : Int) (s9 : Int) (s10 : Int) (s11 : Int) (s12 : Int) (s13 : BitVec 64) (s14 : zv) (s15 : Int) (s16 : Int) (s17 : Int) (s18 : Int) (s19 : Int) (s20 : Int) (s21 : Int) (s22 : Int) (s23 : Int) (s24 : BitVec 64) (s25 : List Int) (s26 : List (List Int)) (s27 : List (List Int)) (s28 : List (List zg)) (s29 : List zi) (s30 : List (List Int)) (s31 : List (List Int)) (s32 : List (List zg)) (s33 : List zi) : uF (s1, s2, s3, s4, s5, s6, s7, s8, s9, s10, s11, s12, s13, s14, s15, s16, s17, s18, s19, s20, s21, s22, s23, s24, s25, s26, s27, s28, s29, s30, s31, s32, s33, ()) =
 (zq s14).bind fun y1 =>
 bif decide (s3 < (w64 (1 + (y1.1.tmod 3)))) then
  (zq y1.2.1).bind fun y2 =>
  bif decide ((w64 (s1 + 1)) = 0) then
   none
  else
   (xy (s25 ++ (([(y2.1.tmod (w64 (s1 + 1)))] : List Int)))).bind fun l3 =>
   some (.again (s1, s2, w64 (s3 + 1), s4, s5, s6, s7, s8, s9, s10, s11, s12, s13, y2.2.1, s15, s16, s17, s18, s19, s20, s21, s22, s23, s24, l3, s26, s27, s28, s29, s30, s31, s32, s33, ()))
 else
  some (.brk (s1, s2, s4, s5, s6, s7, s8, s9, s10, s11, s12, s13, y1.2.1, s15, s16, s17, s18, s19, s20, s21, s22, s23, s24, s25, s26, s27, s28, s29, s30, s31, s32, s33, ())) := by kernel_rfl
theorem zeA (s1 : Int) (s2 : Int) (s3 : Int) (s4 : Int) (s5 : Int) (s6 : Int) (s7 : Int) (s8 : Int) (s9 : Int) (s10 : Int) (s11 : Int) (s12 : Int) (s13 : BitVec 64) (s14 : zv) (s15 : Int) (s16 : Int) (s17 : Int) (s18 : Int) (s19 : Int) (s20 : Int) (s21 : Int) (s22 : Int) (s23 : Int) (s24 : BitVec 64) (s25 : List Int) (s26 : List zg) (s27 : List (List Int)) (s28 : List (List Int)) (s29 : List (List zg)) (s30 : List zi) (s31 : List (List Int)) (s32 : List (List Int)) (s33 : List (List zg)) (s34 : List zi) : wV (s1, s2, s3, s4, s5, s6, s7, s8, s9, s10, s11, s12, s13, s14, s15, s16, s17, s18, s19, s20, s21, s22, s23, s24, s25, s26, s27, s28, s29, s30, s31, s32, s33, s34, ()) =
 bif decide (0 < s3) then
  (ZJ ((s25.length : Int)) s23 s14).bind fun y1 =>
  (xy (s26 ++ ([y1.1] : List zg))).bind fun l2 =>
  some (.again (s1, s2, w64 (s3 - 1), s4, s5, s6, s7, s8, s9, s10, s11, s12, s13, y1.2.1, s15, s16, s17, s18, s19, s20, s21, s22, s23, s24, s25, l2, s27, s28, s29, s30, s31, s32, s33, s34, ()))
 else
  some (.brk (s1, s2, s4, s5, s6, s7, s8, s9, s10, s11, s12, s13, s14, s15, s16, s17, s18, s19, s20, s21, s22, s23, s24, s25, s26, s27, s28, s29, s30, s31, s32, s33, s34, ())) := by kernel_rfl
theorem zib (a1 : List (BitVec 8)) : Vy a1 =
 (cut a1 0 (bif decide (90 < ((a1.length : Int))) then 90 else ((a1.length : Int)))).bind fun l1 =>
 (zq (zv.mk l1 0)).bind fun y2 =>
 (zq y2.2.1).bind fun y3 =>
 (zq y3.2.1).bind fun y4 =>
 (zq y4.2.1).bind fun y5 =>
 (zq y5.2.1).bind fun y6 =>
 (zq y6.2.1).bind fun y7 =>
 (zq y7.2.1).bind fun y8 =>
 (zq y8.2.1).bind fun y9 =>
 (zq y9.2.1).bind fun y10 =>
 (zq y10.2.1).bind fun y11 =>
 (ya u0 (w64 (1 + (y10.1.tmod 6)), 0, 0, 0, 0, 0, 0, 0, 0, 0, 0, 0#64, y11.2.1, w64 (1 + (y2.1.tmod 3)), y3.1.tmod 3, w64 (1 + (y4.1.tmod 3)), w64 (1 + (y5.1.tmod 2)), w64 (1 + (y6.1.tmod 3)), w64 ((w64 (1 + (y10.1.tmod 6))) + (y11.1.tmod 4)), y7.1.tmod 4, y8.1.tmod 4, w64 (1 + (y9.1.tmod 2)), 0#64, ([] : List (List Int)), ([] : List (List Int)), ([] : List (List zg)), ([] : List zi), ([] : List (List Int)), ([] : List (List Int)), ([] : List (List zg)), ([] : List zi), ())).bind fun st => match st with
   | .again _ => none
   | .brk y12 =>
   (zq y12.2.2.2.2.2.2.2.2.2.2.2.1).bind fun y13 =>
   bif decide ((w64 (y12.1 + 1)) = 0) then
    none
   else
    (UG 0#64 (y13.1.tmod (w64 (y12.1 + 1)))).bind fun y14 =>
    (ya uH (y12.1, 0, y12.2.1, y12.2.2.1, y12.2.2.2.1, y12.2.2.2.2.1, y12.2.2.2.2.2.1, y12.2.2.2.2.2.2.1, y12.2.2.2.2.2.2.2.1, y12.2.2.2.2.2.2.2.2.1, y12.2.2.2.2.2.2.2.2.2.1, y12.2.2.2.2.2.2.2.2.2.2.1, y13.2.1, y12.2.2.2.2.2.2.2.2.2.2.2.2.1, y12.2.2.2.2.2.2.2.2.2.2.2.2.2.1, y12.2.2.2.2.2.2.2.2.2.2.2.2.2.2.1, y12.2.2.2.2.2.2.2.2.2.2.2.2.2.2.2.1, y12.2.2.2.2.2.2.2.2.2.2.2.2.2.2.2.2.1, y12.2.2.2.2.2.2.2.2.2.2.2.2.2.2.2.2.2.1, y12.2.2.2.2.2.2.2.2.2.2.2.2.2.2.2.2.2.2.1, y12.2.2.2.2.2.2.2.2.2.2.2.2.2.2.2.2.2.2.2.1, y12.2.2.2.2.2.2.2.2.2.2.2.2.2.2.2.2.2.2.2.2.1, y14.1, y12.2.2.2.2.2.2.2.2.2.2.2.2.2.2.2.2.2.2.2.2.2.2.1, y12.2.2.2.2.2.2.2.2.2.2.2.2.2.2.2.2.2.2.2.2.2.2.2.1, y12.2.2.2.2.2.2.2.2.2.2.2.2.2.2.2.2.2.2.2.2.2.2.2.2.1, y12.2.2.2.2.2.2.2.2.2.2.2.2.2.2.2.2.2.2.2.2.2.2.2.2.2.1, y12.2.2.2.2.2.2.2.2.2.2.2.2.2.2.2.2.2.2.2.2.2.2.2.2.2.2.1, y12.2.2.2.2.2.2.2.2.2.2.2.2.2.2.2.2.2.2.2.2.2.2.2.2.2.2.2.1, y12.2.2.2.2.2.2.2.2.2.2.2.2.2.2.2.2.2.2.2.2.2.2.2.2.2.2.2.2.1, y12.2.2.2.2.2.2.2.2.2.2.2.2.2.2.2.2.2.2.2.2.2.2.2.2.2.2.2.2.2.1, ())).bind fun st => match st with
      | .again _ => none
      | .brk y15 =>
      some (zd.mk y15.2.2.2.2.2.2.2.2.2.2.1 y15.2.2.2.2.2.2.2.2.2.2.2.1 y15.2.2.2.2.2.2.2.2.2.2.2.2.1 y15.2.2.2.2.2.2.2.2.2.2.2.2.2.1 y15.2.2.2.2.2.2.2.2.2.2.2.2.2.2.1 y15.2.2.2.2.2.2.2.2.2.2.2.2.2.2.2.1 y15.2.2.2.2.2.2.2.2.2.2.2.2.2.2.2.2.1 y15.2.2.2.2.2.2.2.2.2.2.2.2.2.2.2.2.2.1 (zu.mk y15.2.2.2.2.2.2.2.2.2.2.2.2.2.2.2.2.2.2.1 y15.2.2.2.2.2.2.2.2.2.2.2.2.2.2.2.2.2.2.2.2.2.2.2.2.1) y15.2.2.2.2.2.2.2.2.2.2.2.2.2.2.2.2.2.2.2.1 y15.2.2.2.2.2.2.2.2.2.2.2.2.2.2.2.2.2.2.2.2.2.2.2.2.2.1 y15.2.2.2.2.2.2.2.2.2.2.2.2.2.2.2.2.2.2.2.2.2.2.2.2.2.2.1 y15.2.2.2.2.2.2.2.2.2.2.2.2.2.2.2.2.2.2.2.2.2.2.2.2.2.2.2.1, ())
      | .ret y15 =>
      none
   | .ret y12 =>
   none := zm (by kernel_rfl)
theorem zce (a1 : List (BitVec 8)) (a2 : BitVec 8) : wg a1 a2 =
 (Y9).bind fun y1 =>
 bif !y1.1 then
  some (false, ())
 else
  (Vy a1).bind fun y2 =>
  (Zm y2.1).bind fun y3 =>
  (zT y3.1 ((a2.toNat : Int))).bind fun y4 =>
  bif decide (0 < y3.1.Work) then
   bif y1.1 then
    bif decide (y4.1.Epoch = 0) then
     bif !y4.1.Done then
      some (decide (y4.1.D.PC ≤ 1), ())
     else
      some (false, ())
    else
     some (false, ())
   else
    some (false, ())
  else
   bif decide (0 < y2.1.Mutators) then
    bif y1.1 then
     bif !y4.1.Done then
      bif decide (y4.1.D.PC ≤ 3) then
       some (decide (y4.1.Epoch ≤ 1), ())
      else
       some (false, ())
     else
      some (false, ())
    else
     some (false, ())
   else
    bif y1.1 then
     bif decide (y4.1.Done = (decide (6#8 ≤ a2))) then
      some (decide (y4.1.Restarts = 0), ())
     else
      some (false, ())
    else
     some (false, ()) := zm (by kernel_rfl)
end Go.Pe.G

namespace Go.Pe.G
open Go.Pe
theorem zwd : Go.Proofs.Tryz.prog.funcs[170]? = some Go.Proofs.Tryz.f170 := by kernel_rfl
theorem zuN : Go.Proofs.Tryz.f170.body.isSome = true := by kernel_rfl
theorem zuK : uR Go.Proofs.Tryz.prog 170 = true := by kernel_rfl
theorem zv2 : Go.Proofs.Tryz.prog.funcs[260]? = some Go.Proofs.Tryz.f260 := by kernel_rfl
theorem zuB : Go.Proofs.Tryz.f260.body.isSome = true := by kernel_rfl
theorem zuZ : uR Go.Proofs.Tryz.prog 260 = true := by kernel_rfl
theorem zjg (ys : List Int) (s1 : Int) (s2 : Int) (s3 : BitVec 64) : WF ys (s1, s2, s3, ()) =
 bif !(decide (s3 = 0#64)) then
  (qTZ s3).bind fun y1 =>
  (VG ys s2 (w64 (y1.1 + 1))).bind fun _ =>
  some (.again (s1, s2 + 1, s3 &&& (s3 - 1#64), ()))
 else
  some (.brk (s1, s2, ())) := by kernel_rfl
theorem zln (n : Int) (ys : List Int) (a1 : BitVec 64) : zlY (Vi ys) Go.Proofs.Tryz.f260 zg0 n ((a1, ()) : (BitVec 64) × Unit) =
 (ya (WF ys) (n, 0, a1, ())).bind fun st => match st with
   | .again _ => none
   | .brk y1 =>
   some y1.2.1
   | .ret y1 =>
   some y1.2.1 := by kernel_rfl
theorem ZD (ys : List (List Int)) (s1 : Int) (s2 : Int) (s3 : Int) (s4 : List Int) (s5 : Int) : wb ys (s1, s2, s3, s4, s5, ()) =
 bif decide (s3 < ((s4.length : Int))) then
  (cut s4 s3 ((s4.length : Int))).bind fun l1 =>
  bif decide (s3 = 0) && decide ((w64 (s3 + (bif decide (((l1.length : Int)) < s5) then ((l1.length : Int)) else s5))) = 0) && decide ((w64 (s3 + (bif decide (((l1.length : Int)) < s5) then ((l1.length : Int)) else s5))) = 0) then
   (VG ys s2 ([] : List Int)).bind fun _ =>
   some (.again (s1, s2 + 1, w64 (s3 + s5), s4, s5, ()))
  else
   bif decide (s3 = 0) && decide ((w64 (s3 + (bif decide (((l1.length : Int)) < s5) then ((l1.length : Int)) else s5))) = ((s4.length : Int))) && decide ((w64 (s3 + (bif decide (((l1.length : Int)) < s5) then ((l1.length : Int)) else s5))) = ((s4.length : Int))) then
    (VG ys s2 s4).bind fun _ =>
    some (.again (s1, s2 + 1, w64 (s3 + s5), s4, s5, ()))
   else
    bif decide ((w64 (s3 + (bif decide (((l1.length : Int)) < s5) then ((l1.length : Int)) else s5))) = (w64 (s3 + (bif decide (((l1.length : Int)) < s5) then ((l1.length : Int)) else s5)))) then
     (cut s4 s3 (w64 (s3 + (bif decide (((l1.length : Int)) < s5) then ((l1.length : Int)) else s5)))).bind fun l2 =>
     (VG ys s2 l2).bind fun _ =>
     some (.again (s1, s2 + 1, w64 (s3 + s5), s4, s5, ()))
    else
     none
 else
  some (.brk (s1, s2, ())) := by kernel_rfl
theorem zaL (n : Int) (ys : List (List Int)) (a1 : List Int) (a2 : Int) : zlY (wn ys) Go.Proofs.Tryz.f170 Xx n ((a1, a2, ()) : (List Int) × Int × Unit) =
 (ya (wb ys) (n, 0, 0, a1, a2, ())).bind fun st => match st with
   | .again _ => none
   | .brk y1 =>
   some y1.2.1
   | .ret y1 =>
   some y1.2.1 := by kernel_rfl
end Go.Pe.G
namespace Go.Pe.G
open Go.Pe
theorem zji {A B D : Type} (g : A → Option (yQ A B D)) {o : yQ Unit B D} : ∀ (k m : Nat) (x : A), vH g k x = some o → k ≤ m → vH g m x = some o
  | 0, m, x, h, _ => by cases h
  | k + 1, 0, x, h, hm => by omega
  | k + 1, m + 1, x, h, hm => by
    simp only [vH, Option.bind_eq_some_iff] at h ⊢
    obtain ⟨s, h1, h2⟩ := h
    refine ⟨s, h1, ?_⟩
    cases s with
    | again y => exact zji g k m y h2 (by omega)
    | brk b => exact h2
    | ret c => exact h2
theorem zof {α : Type} (pre post : List α) (z : α) : VG (pre ++ z :: post) (pre.length : Int) z = some () := by
  unfold VG
  rw [if_pos]
  refine ⟨by omega, ?_⟩
  simp
theorem zdk (n : Int) (ys : List Int) : ∀ (f : Nat) (s : BitVec 64) (l pre : List Int), UK f s = some l → ys = pre ++ l → vH (WF ys) f (n, (pre.length : Int), s, ()) = some (.brk (n, (ys.length : Int), ()))
  | 0, s, l, pre, h, _ => by cases h
  | f + 1, s, l, pre, h, e => by
    simp only [UK] at h
    simp only [vH, zjg]
    cases hz : decide (s = 0#64) with
    | true =>
      simp only [hz, cond_true, Option.some.injEq] at h
      subst h
      simp only [List.append_nil] at e
      subst e
      rfl
    | false =>
      simp only [hz, cond_false, Option.map_eq_some_iff] at h
      obtain ⟨l', h1, rfl⟩ := h
      have hn : VG ys (pre.length : Int) (w64 (tz s + 1)) = some () := by rw [e]; exact zof pre l' _
      simp only [Bool.not_false, cond_true, zvo, Option.bind_some, hn]
      have := zdk n ys f (s &&& (s - 1#64)) l' (pre ++ [w64 (tz s + 1)]) h1 (by rw [e]; simp)
      simpa using this
theorem zkx (G : Nat → Prop) (W0 : World) (hG : zr0 G W0) : uY Go.Proofs.Tryz.prog G W0 260 WN := by
  obtain ⟨c, hc⟩ := Option.isSome_iff_exists.1 zuB
  refine zlO (Cg := Vi []) rfl zpz (fun f s hs => Oks.at (.cons _ _ _ _ zuz (ztd hG) (.skip _ _ .nil)) f s hs) rfl zsc (fun g it h => by cases h) zuZ zv2 hc WN (Nat.le_of_ble_eq_true (by kernel_rfl)) rfl ?_
  rintro n ⟨a, ⟨⟩⟩ ys h
  have h : UK 66 a = some ys := h
  have e := zln n ys a
  have k := zji _ 66 Y7 _ (zdk n ys 66 a ys [] h rfl) (by decide)
  refine Eq.trans e ?_
  have k' : vH (WF ys) Y7 (n, 0, a, ()) = some (.brk (n, (ys.length : Int), ())) := k
  rw [WP, k']
  rfl
theorem zsJ {a : Int} (h : -9223372036854775808 ≤ a) (h2 : a < 9223372036854775808) : w64 a = a := by
  rw [zg3]
  omega
theorem UR (n : Int) (ys : List (List Int)) (l : List Int) (sz : Nat) (h1 : 1 ≤ sz) (h2 : sz < 1000000) (h3 : l.length < 1000000) : ∀ (f p : Nat) (pre : List (List Int)), (l.drop p).length ≤ f → ys = pre ++ uu sz f (l.drop p) → p < 2000000 →
    vH (wb ys) (f + 1) (n, (pre.length : Int), (p : Int), l, (sz : Int), ()) = some (.brk (n, (ys.length : Int), ())) := by
  intro f
  induction f with
  | zero =>
    intro p pre hf e hp
    simp only [vH, ZD]
    simp only [List.length_drop] at hf
    have : ¬ (p : Int) < (l.length : Int) := by omega
    simp only [this, decide_false, cond_false, Option.bind_some]
    simp only [uu, List.append_nil] at e
    rw [e]
  | succ f ih =>
    intro p pre hf e hp
    rw [vH, ZD]
    by_cases hlt : p < l.length
    · have hlt' : (p : Int) < (l.length : Int) := by omega
      have hcut : cut l (p : Int) (l.length : Int) = some (l.drop p) := by
        unfold cut
        have : (decide (0 ≤ (p : Int)) && decide ((p : Int) ≤ (l.length : Int)) && decide ((l.length : Int) ≤ (l.length : Int))) = true := by simp; omega
        simp only [this, cond_true]
        simp
      obtain ⟨x, r, hxr⟩ : ∃ x r, l.drop p = x :: r := by
        cases hd : l.drop p with
        | nil => have := congrArg List.length hd; simp at this; omega
        | cons x r => exact ⟨x, r, rfl⟩
      have hch : uu sz (f + 1) (l.drop p) = (l.drop p).take sz :: uu sz f (l.drop (p + sz)) := by
        rw [hxr]; simp only [uu]; rw [← hxr, List.drop_drop]
      have hm : ∃ m : Nat, (bif decide (((l.drop p).length : Int) < (sz : Int)) then (((l.drop p).length : Int)) else (sz : Int)) = (m : Int) ∧ m = min sz (l.length - p) := by
        simp only [List.length_drop]
        by_cases hs : ((l.length - p : Nat) : Int) < (sz : Int)
        · exact ⟨l.length - p, by simp only [hs, decide_true, cond_true], by omega⟩
        · exact ⟨sz, by simp only [hs, decide_false, cond_false], by omega⟩
      obtain ⟨m, hm1, hm2⟩ := hm
      have hw : w64 ((p : Int) + (m : Int)) = ((p + m : Nat) : Int) := by rw [zsJ (by omega) (by omega)]; omega
      have hw2 : w64 ((p : Int) + (sz : Int)) = ((p + sz : Nat) : Int) := by rw [zsJ (by omega) (by omega)]; omega
      have hne : ¬ ((p + m : Nat) : Int) = 0 := by omega
      simp only [hlt', decide_true, cond_true, hcut, Option.bind_some, hm1, hw, hw2, hne, decide_false, Bool.and_false, cond_false]
      have hn : VG ys (pre.length : Int) ((l.drop p).take sz) = some () := by rw [e, hch]; exact zof pre _ _
      have hcut2 : cut l (p : Int) ((p + m : Nat) : Int) = some ((l.drop p).take sz) := by
        unfold cut
        have : (decide (0 ≤ (p : Int)) && decide ((p : Int) ≤ ((p + m : Nat) : Int)) && decide (((p + m : Nat) : Int) ≤ (l.length : Int))) = true := by simp; omega
        simp only [this, cond_true]
        refine congrArg some ?_
        simp only [Int.toNat_natCast]
        rw [List.drop_take, Nat.add_sub_cancel_left, hm2]
        by_cases hs : sz ≤ l.length - p
        · rw [Nat.min_eq_left hs]
        · rw [Nat.min_eq_right (by omega), List.take_of_length_le (l := l.drop p) (by simp), List.take_of_length_le (l := l.drop p) (by simp; omega)]
      have hnext := ih (p + sz) (pre ++ [(l.drop p).take sz]) (by simp only [List.length_drop] at hf ⊢; omega) (by rw [e, hch]; simp) (by omega)
      have hlen : ((pre ++ [(l.drop p).take sz]).length : Int) = (pre.length : Int) + 1 := by simp
      rw [hlen] at hnext
      cases hfull : (decide ((p : Int) = 0) && decide (((p + m : Nat) : Int) = (l.length : Int)) && decide (((p + m : Nat) : Int) = (l.length : Int))) with
      | true =>
        simp only [cond_true]
        have hl : l = (l.drop p).take sz := ?_
        · rw [← hl] at hn
          rw [hn]
          exact hnext
        simp only [Bool.and_eq_true, decide_eq_true_eq] at hfull
        obtain ⟨⟨hp0, hpl⟩, _⟩ := hfull
        have hp00 : p = 0 := by omega
        rw [hp00, List.drop_zero, List.take_of_length_le (by omega)]
      | false =>
        simp only [cond_false, hcut2, Option.bind_some, decide_true, cond_true]
        rw [hn]
        exact hnext
    · have hnl : ¬ (p : Int) < (l.length : Int) := by omega
      have hd : l.drop p = [] := List.drop_eq_nil_of_le (by omega)
      simp only [hnl, decide_false, cond_false, Option.bind_some]
      rw [hd] at e
      simp only [uu, List.append_nil] at e
      rw [e]
theorem U8 (n : Int) (ys : List (List Int)) (l : List Int) (sz : Int) (h : ze0 l sz = some ys) : vH (wb ys) Y7 (n, 0, 0, l, sz, ()) = some (.brk (n, (ys.length : Int), ())) := by
  unfold ze0 at h
  cases hc : (decide (1 ≤ sz) && decide (sz < 1000000) && decide ((l.length : Int) < 1000000)) with
  | false => simp [hc] at h
  | true =>
    simp only [hc, cond_true] at h
    injection h with h
    simp only [Bool.and_eq_true, decide_eq_true_eq] at hc
    obtain ⟨⟨c1, c2⟩, c3⟩ := hc
    have k := zji _ (l.length + 1) Y7 _ (UR n ys l sz.toNat (by omega) (by omega) (by omega) l.length 0 [] (by simp) (by simpa using h.symm) (by omega)) (by unfold Y7; omega)
    have hs : ((sz.toNat : Nat) : Int) = sz := by omega
    rw [hs] at k
    exact k
theorem zaJ (G : Nat → Prop) (W0 : World) (hG : zr0 G W0) : uY Go.Proofs.Tryz.prog G W0 170 xF := by
  obtain ⟨c, hc⟩ := Option.isSome_iff_exists.1 zuN
  refine zlO (Cg := wn []) rfl zpz (fun f s hs => Oks.at .nil f s hs) rfl zsc (fun g it h => by cases h) zuK zwd hc xF (Nat.le_of_ble_eq_true (by kernel_rfl)) rfl (fun n x ys h => ?_)
  refine Eq.trans (zaL n ys x.1 x.2.1) ?_
  rw [WP, U8 n ys x.1 x.2.1 h]
  rfl
end Go.Pe.G
namespace Go.Pe.G
open Go.Pe
theorem k2 {G : Nat → Prop} {W0 : World} {f : Nat} {s : zo E} {ss r} (hs : XM Go.Proofs.Tryz.prog G W0 f s) (h : Oks Go.Proofs.Tryz.prog G W0 ((f, ss) :: r)) (hc : uR Go.Proofs.Tryz.prog f = true := by kernel_rfl) : Oks Go.Proofs.Tryz.prog G W0 ((f, s :: ss) :: r) := .cons _ _ _ _ hc hs h
theorem k1 {G : Nat → Prop} {W0 : World} {f : Nat} {s : zo E} {r} (hs : XM Go.Proofs.Tryz.prog G W0 f s) (h : Oks Go.Proofs.Tryz.prog G W0 r) (hc : uR Go.Proofs.Tryz.prog f = true := by kernel_rfl) : Oks Go.Proofs.Tryz.prog G W0 ((f, [s]) :: r) := .cons _ _ _ _ hc hs (.skip _ _ h)
abbrev Sd (G : Nat → Prop) (W0 : World) := XM (E := E) Go.Proofs.Tryz.prog G W0
theorem gs {G : Nat → Prop} {W0 : World} {l : List (Nat × List (zo E))} {loops mv kept pk its} {f : FuncId} {fn : Func} {inn out : yH} {gi go : List Grp} {hi : vd E gi = inn.holes} {ho : vd E go = out.holes} (h : Oks Go.Proofs.Tryz.prog G W0 l) (h2 : Its Go.Proofs.Tryz.prog G W0 its) (hf : Go.Proofs.Tryz.prog.funcs[f]? = some fn := by kernel_rfl) (hb : fn.body.isSome = true := by kernel_rfl)
    (hk : (cf l loops mv kept pk its).kept = zdT inn.blks 0 := by kernel_rfl) (hn : Nat.ble inn.vals.length fn.ntmps = true := by kernel_rfl) : XM Go.Proofs.Tryz.prog G W0 f (sp (cf l loops mv kept pk its) fn inn out gi go hi ho) := zsG (C := cf l loops mv kept pk its) zpz (zr4 h) rfl (ztF h2) zsc hf hb hk hn
variable {G : Nat → Prop} {W0 : World} (hG : zr0 G W0)
include hG
theorem zgf : Sd G W0 160 Uh := gs .nil .nil
theorem VN : Sd G W0 253 uB := gs (k1 (zgf hG) .nil) .nil
theorem WT : Sd G W0 159 vD := gs (k1 (VN hG) .nil) .nil
theorem zhP : Sd G W0 158 zbK := gs (k1 (WT hG) .nil) .nil
theorem Va : Sd G W0 254 vT := gs (k1 (zhP hG) .nil) .nil
theorem Wl : Sd G W0 161 wQ := gs (k1 (Va hG) .nil) .nil
theorem zcp : Sd G W0 57 zak := gs (k1 (Wl hG) .nil) .nil
theorem zj9 : Sd G W0 145 zgo := gs .nil .nil
theorem zj3 : Sd G W0 146 zgn := gs .nil .nil
theorem Wn : Sd G W0 164 X1 := gs .nil .nil
theorem zhY : Sd G W0 165 zbu := gs (k1 (Wn hG) .nil) .nil
theorem WX : Sd G W0 253 vG := gs (k1 (zhY hG) .nil) .nil
theorem X4 : Sd G W0 159 wD := gs (k1 (WX hG) .nil) .nil
theorem zfA : Sd G W0 163 Vz := gs (k1 (Wn hG) .nil) .nil
theorem zhR : Sd G W0 329 zbb := gs .nil .nil
theorem ziP : Sd G W0 257 zeI := gs (k1 (zhR hG) .nil) .nil
theorem ziC : Sd G W0 256 zcK := gs (k1 (ziP hG) .nil) .nil
theorem XC : Sd G W0 328 wt := gs (k1 (ziC hG) .nil) .nil
theorem YM : Sd G W0 255 xO := gs (k1 (XC hG) .nil) .nil
theorem zkc : Sd G W0 166 zge := gs (k1 (YM hG) .nil) .nil
theorem zju : Sd G W0 135 zeL := gs .nil .nil
theorem zhB : Sd G W0 259 zbD := gs (k1 (zju hG) .nil) .nil
theorem Yc : Sd G W0 330 xE := gs (k1 (zhB hG) .nil) .nil
theorem ZH : Sd G W0 258 xn := gs (k1 (Yc hG) .nil) .nil
theorem zi6 : Sd G W0 167 ze8 := gs (k1 (ZH hG) .nil) .nil
theorem ziS : Sd G W0 62 zeF := gs (k1 (zcp hG) (k1 (zj9 hG) (k1 (zj3 hG) (k1 (X4 hG) (k1 (zfA hG) (k1 (Wn hG) (k1 (zkc hG) (k1 (zi6 hG) .nil)))))))) .nil
theorem zf4 : Sd G W0 174 zf2 := gs .nil .nil
theorem WG : Sd G W0 79 UB := gs (k1 (zf4 hG) .nil) .nil
theorem zny : Sd G W0 168 zkC := gs (k1 (WG hG) .nil) .nil
theorem zjl : Sd G W0 63 zea := gs (k1 (zny hG) .nil) .nil
theorem zeC : Sd G W0 169 WU := gs .nil .nil
theorem zj4 : Sd G W0 64 zgx := gs (k1 (zeC hG) .nil) .nil
theorem zjb : Sd G W0 65 zen := gs .nil .nil
theorem yC : Sd G W0 67 yA := gs .nil .nil
theorem zfm : Sd G W0 66 VA := gs (k1 (yC hG) .nil) .nil
theorem ziB : Sd G W0 68 zda := gs .nil .nil
theorem zaZ : Sd G W0 69 V8 := gs .nil .nil
theorem za0 : Sd G W0 70 Ub := gs .nil .nil
theorem zkb : Sd G W0 71 zgE := gs .nil .nil
theorem zaQ : Sd G W0 72 Z3 := gs .nil .nil
theorem zle : Sd G W0 171 zhv := gs .nil .nil
theorem zmC : uY Go.Proofs.Tryz.prog G W0 260 WN := zkx G W0 hG
theorem zk2 : Sd G W0 73 zhu := gs (k1 (zle hG) .nil) (.cons _ _ _ (zmC hG) (.nil))
theorem W3 : Sd G W0 97 vZ := gs .nil .nil
theorem zkP : Sd G W0 331 zhS := gs .nil .nil
theorem zkZ : Sd G W0 332 zhF := gs .nil .nil
theorem zkX : Sd G W0 333 zhy := gs .nil .nil
theorem zlf : Sd G W0 334 zhE := gs .nil .nil
theorem Zs : Sd G W0 262 WO := gs (k1 (W3 hG) (k1 (zkP hG) (k1 (zkZ hG) (k1 (zkX hG) (k1 (zlf hG) .nil))))) .nil
theorem zaW : Sd G W0 172 V7 := gs (k1 (Zs hG) .nil) .nil
theorem zcb : Sd G W0 173 zaH := gs .nil .nil
theorem zjW : Sd G W0 74 zgp := gs (k1 (zaW hG) (k1 (zcb hG) .nil)) .nil
theorem Yi : Sd G W0 75 Xl := gs .nil .nil
theorem ZS : Sd G W0 77 Z6 := gs (k1 (Yi hG) .nil) .nil
theorem Yk : Sd G W0 76 Y8 := gs (k1 (ZS hG) .nil) .nil
theorem zaT : uY Go.Proofs.Tryz.prog G W0 170 xF := zaJ G W0 hG
theorem zdl : Sd G W0 16 zbY := gs (k1 (ziS hG) (k1 (zjl hG) (k1 (zj4 hG) (k1 (zjb hG) (k1 (zfm hG) (k1 (yC hG) (k1 (ziB hG) (k1 (zaZ hG) (k1 (za0 hG) (k1 (zkb hG) (k1 (zaQ hG) (k1 (zk2 hG) (k1 (zjW hG) (k1 (Yi hG) (k1 (Yk hG) (k1 (ZS hG) .nil)))))))))))))))) (.cons _ _ _ (zaT hG) (.nil))
theorem we : Sd G W0 105 xx := gs .nil .nil
theorem yW : Sd G W0 104 yj := gs (k1 (we hG) .nil) .nil
theorem zdn : Sd G W0 56 zbZ := gs (k1 (yW hG) .nil) .nil
theorem zdP : Sd G W0 141 Wf := gs .nil .nil
theorem WI : Sd G W0 143 vm := gs .nil .nil
theorem vi : Sd G W0 142 yw := gs (k1 (WI hG) .nil) .nil
theorem XB : Sd G W0 144 wu := gs .nil .nil
theorem zjZ : Sd G W0 48 zgk := gs (k1 (zdn hG) (k1 (yW hG) (k1 (zdP hG) (k1 (vi hG) (k1 (XB hG) .nil))))) .nil
theorem Vb : Sd G W0 204 vW := gs .nil .nil
theorem zk1 : Sd G W0 103 zhx := gs (k1 (Vb hG) .nil) .nil
theorem VD : Sd G W0 205 uz := gs .nil .nil
theorem ziu : Sd G W0 106 zcZ := gs (k1 (VD hG) .nil) .nil
theorem zdK : Sd G W0 108 Wo := gs (k1 (we hG) .nil) .nil
theorem xI : Sd G W0 107 z6 := gs (k1 (zdK hG) .nil) .nil
theorem zbF : Sd G W0 206 YH := gs .nil .nil
theorem zcS : Sd G W0 110 XS := gs (k1 (we hG) (k1 (zbF hG) .nil)) .nil
theorem xr : Sd G W0 109 zY := gs (k1 (zcS hG) .nil) .nil
theorem zi2 : Sd G W0 24 ze3 := gs (k1 (zjZ hG) (k1 (zdn hG) (k1 (zk1 hG) (k1 (yW hG) (k1 (we hG) (k1 (ziu hG) (k1 (xI hG) (k1 (xr hG) .nil)))))))) .nil
theorem zfk : Sd G W0 120 Vw := gs .nil .nil
theorem ziE : Sd G W0 29 zde := gs (k1 (zfk hG) .nil) .nil
theorem WR : Sd G W0 27 Yt := gs (k1 (ziE hG) .nil) .nil
theorem xL : Sd G W0 299 wi := gs .nil .nil
theorem wB : Sd G W0 303 xY := gs .nil .nil
theorem uQ : Sd G W0 300 vz := gs (k1 (yC hG) (k1 (wB hG) .nil)) .nil
theorem za9 : Sd G W0 212 YE := gs (k1 (xL hG) (k1 (uQ hG) .nil)) .nil
theorem zct : Sd G W0 270 U0 := gs .nil .nil
theorem za7 : Sd G W0 213 YJ := gs (k1 (zct hG) .nil) .nil
theorem zc7 : Sd G W0 214 XI := gs (k1 (yC hG) .nil) .nil
theorem UT : Sd G W0 271 u5 := gs .nil .nil
theorem zfZ : Sd G W0 162 zf1 := gs (k1 (zf4 hG) .nil) .nil
theorem zcB : Sd G W0 342 zaF := gs (k1 (WG hG) (k1 (zfZ hG) .nil)) .nil
theorem Wj : Sd G W0 340 X6 := gs .nil .nil
theorem wy : Sd G W0 343 xX := gs (k1 (Yk hG) (k1 (ZS hG) (k1 (Wj hG) .nil))) .nil
theorem zbB : Sd G W0 272 YQ := gs (k1 (zaZ hG) (k1 (za0 hG) (k1 (zcB hG) (k1 (wy hG) .nil)))) .nil
theorem zbz : Sd G W0 273 YU := gs .nil .nil
theorem zhH : Sd G W0 339 zbM := gs .nil .nil
theorem zhU : Sd G W0 339 zbH := gs .nil .nil
theorem zhZ : Sd G W0 339 zbh := gs .nil .nil
theorem zh9 : Sd G W0 339 zbx := gs .nil .nil
theorem wh : Sd G W0 386 vA := gs (k1 (Zs hG) .nil) .nil
theorem yL : Sd G W0 387 yI := gs .nil .nil
theorem Vt : Sd G W0 366 uj := gs (k1 (wh hG) (k1 (yL hG) .nil)) .nil
theorem ve : Sd G W0 388 wC := gs .nil .nil
theorem X2 : Sd G W0 389 Za := gs .nil .nil
theorem yN : Sd G W0 390 yJ := gs .nil .nil
theorem zaR : Sd G W0 367 ZZ := gs (k1 (wh hG) (k1 (ve hG) (k1 (X2 hG) (k1 (yN hG) .nil)))) .nil
theorem ui : Sd G W0 391 uM := gs (k1 (Zs hG) .nil) .nil
theorem ux : Sd G W0 392 va := gs (k1 (X2 hG) .nil) .nil
theorem zdW : Sd G W0 368 Wh := gs (k1 (ui hG) (k1 (ux hG) .nil)) .nil
theorem Ut : Sd G W0 369 uS := gs (k1 (yL hG) (k1 (yN hG) (k1 (ui hG) .nil))) .nil
theorem zcf : Sd G W0 370 Xm := gs (k1 (yL hG) (k1 (ui hG) .nil)) .nil
theorem zaX : Sd G W0 393 Ua := gs .nil .nil
theorem US : Sd G W0 371 Zd := gs (k1 (wh hG) (k1 (ve hG) (k1 (zaX hG) .nil))) .nil
theorem zbG : Sd G W0 372 Yw := gs (k1 (wh hG) (k1 (yN hG) (k1 (ux hG) .nil))) .nil
theorem X3 : Sd G W0 394 Zf := gs (k1 (Zs hG) (k1 (ve hG) .nil)) .nil
theorem zaO : Sd G W0 373 Z4 := gs (k1 (X3 hG) .nil) .nil
theorem zaU : Sd G W0 374 Z1 := gs (k1 (yL hG) (k1 (yN hG) (k1 (ui hG) .nil))) .nil
theorem zbr : Sd G W0 375 YA := gs (k1 (yL hG) (k1 (yN hG) (k1 (ui hG) .nil))) .nil
theorem zbA : Sd G W0 376 YG := gs (k1 (wh hG) (k1 (ve hG) .nil)) .nil
theorem zbt : Sd G W0 377 YI := gs (k1 (wh hG) (k1 (yL hG) (k1 (zaX hG) .nil))) .nil
theorem zaP : Sd G W0 378 ZV := gs (k1 (wh hG) (k1 (ux hG) .nil)) .nil
theorem UQ : Sd G W0 379 Zb := gs (k1 (yN hG) (k1 (X3 hG) .nil)) .nil
theorem ziG : Sd G W0 264 zeK := gs (k2 (zhH hG) (k2 (zhU hG) (k2 (zhZ hG) (k2 (zh9 hG) (.skip _ _ (k1 (Vt hG) (k1 (zaR hG) (k1 (zdW hG) (k1 (Ut hG) (k1 (zcf hG) (k1 (US hG) (k1 (zbG hG) (k1 (zaO hG) (k1 (zaU hG) (k1 (zbr hG) (k1 (zbA hG) (k1 (zbt hG) (k1 (zaP hG) (k1 (UQ hG) .nil))))))))))))))))))) .nil
theorem zbd : Sd G W0 274 Yv := gs (k1 (ziG hG) (k1 (wy hG) .nil)) .nil
theorem za8 : Sd G W0 275 YV := gs (k1 (wy hG) .nil) .nil
theorem zcs : Sd G W0 364 zaK := gs (k1 (Zs hG) .nil) .nil
theorem Yg : Sd G W0 365 Xw := gs .nil .nil
theorem zbg : Sd G W0 335 YW := gs (k1 (zcs hG) (k1 (Yg hG) .nil)) .nil
theorem zcP : Sd G W0 336 XH := gs (k1 (zaW hG) (k1 (Yg hG) .nil)) .nil
theorem zaS : Sd G W0 337 ZY := gs (k1 (zcb hG) (k1 (Zs hG) (k1 (Yg hG) .nil))) .nil
theorem UY : Sd G W0 338 Zg := gs (k1 (zcs hG) (k1 (Yg hG) .nil)) .nil
theorem Ya : Sd G W0 263 Xv := gs (k1 (zbg hG) (k1 (zcP hG) (k1 (zaS hG) (k1 (UY hG) .nil)))) .nil
theorem zbf : Sd G W0 276 YF := gs (k1 (Ya hG) (k1 (wy hG) .nil)) .nil
theorem vh : Sd G W0 267 xP := gs .nil .nil
theorem za1 : Sd G W0 277 YL := gs (k1 (Yi hG) (k1 (Yk hG) (k1 (vh hG) (k1 (Wj hG) .nil)))) .nil
theorem UU : Sd G W0 278 u6 := gs (k1 (Ya hG) .nil) .nil
theorem zjT : Sd G W0 185 zgN := gs (k1 (UT hG) (k1 (zbB hG) (k1 (zbz hG) (k1 (zbd hG) (k1 (za8 hG) (k1 (zbf hG) (k1 (za1 hG) (k1 (UU hG) .nil)))))))) .nil
theorem YZ : Sd G W0 301 v8 := gs (k1 (zjT hG) .nil) .nil
theorem zba : Sd G W0 215 Yu := gs (k1 (YZ hG) .nil) .nil
theorem Vm : Sd G W0 341 Y4 := gs .nil .nil
theorem zey : Sd G W0 269 zdv := gs (k1 (Vm hG) .nil) .nil
theorem WW : Sd G W0 302 Yn := gs (k1 (zey hG) (k1 (xL hG) .nil)) .nil
theorem zcG : Sd G W0 216 Xi := gs (k1 (xL hG) (k1 (uQ hG) (k1 (WW hG) .nil))) .nil
theorem zc0 : Sd G W0 217 XO := gs (k1 (xL hG) (k1 (WW hG) (k1 (wB hG) .nil))) .nil
theorem zfX : Sd G W0 59 zfJ := gs (k1 (zfZ hG) .nil) .nil
theorem za5 : Sd G W0 218 YD := gs (k1 (zfX hG) .nil) .nil
theorem UV : Sd G W0 219 Zc := gs (k1 (yC hG) .nil) .nil
theorem zkW : Sd G W0 304 zhT := gs (k1 (yC hG) (k1 (vh hG) (k1 (Vm hG) .nil))) .nil
theorem zbw : Sd G W0 220 Yz := gs (k1 (xL hG) (k1 (wB hG) (k1 (zkW hG) .nil))) .nil
theorem zgC : Sd G W0 354 Uo := gs .nil .nil
theorem UX : Sd G W0 280 Zj := gs (k1 (zgC hG) .nil) .nil
theorem uy : Sd G W0 279 w8 := gs .nil .nil
theorem Xt : Sd G W0 357 uq := gs (k1 (uy hG) .nil) .nil
theorem zcu : Sd G W0 353 zah := gs (k1 (Xt hG) .nil) .nil
theorem zih : Sd G W0 305 zbp := gs (k1 (UX hG) (k1 (zcu hG) .nil)) .nil
theorem zaC : Sd G W0 355 ZA := gs .nil .nil
theorem ziN : Sd G W0 306 zfd := gs (k1 (zcp hG) (k1 (zaC hG) .nil)) .nil
theorem zdm : Sd G W0 188 zb8 := gs (k1 (zfX hG) (k1 (WG hG) .nil)) .nil
theorem zjk : Sd G W0 307 zec := gs (k1 (zdm hG) (k1 (zcB hG) .nil)) .nil
theorem zby : Sd G W0 221 YT := gs (k1 (xL hG) (k1 (uQ hG) (k1 (wB hG) (k1 (zih hG) (k1 (ziN hG) (k1 (zjk hG) .nil)))))) .nil
theorem zhp : Sd G W0 356 zac := gs .nil .nil
theorem UW : Sd G W0 280 u7 := gs (k1 (zhp hG) .nil) .nil
theorem ziD : Sd G W0 308 zdg := gs (k1 (uy hG) (k1 (UW hG) .nil)) .nil
theorem zhD : Sd G W0 309 zbJ := gs (k1 (zcu hG) (k1 (Xt hG) .nil)) .nil
theorem XF : Sd G W0 310 uC := gs (k1 (Yk hG) (k1 (Wj hG) .nil)) .nil
theorem zcl : Sd G W0 222 Xr := gs (k1 (Yi hG) (k1 (ziD hG) (k1 (zhD hG) (k1 (XF hG) .nil)))) .nil
theorem zcW : Sd G W0 223 XP := gs (k1 (Ya hG) .nil) .nil
theorem zbI : Sd G W0 224 YS := gs (k1 (ZS hG) (k1 (vh hG) (k1 (XF hG) .nil))) .nil
theorem zco : Sd G W0 225 Xc := gs (k1 (Ya hG) .nil) .nil
theorem zbO : Sd G W0 226 YC := gs .nil .nil
theorem VX : Sd G W0 311 XT := gs .nil .nil
theorem zck : Sd G W0 227 Xy := gs (k1 (zey hG) (k1 (zct hG) (k1 (VX hG) .nil))) .nil
theorem zcO : Sd G W0 228 XW := gs (k1 (YZ hG) (k1 (VX hG) .nil)) .nil
theorem zgZ : Sd G W0 281 zal := gs .nil .nil
theorem za2 : Sd G W0 280 YN := gs (k1 (zgZ hG) .nil) .nil
theorem zix : Sd G W0 189 zcT := gs (k1 (uy hG) (k1 (za2 hG) .nil)) .nil
theorem U9 : Sd G W0 229 Zx := gs (k1 (zdm hG) (k1 (zix hG) .nil)) .nil
theorem zai : Sd G W0 230 ZB := gs .nil .nil
theorem zcd : Sd G W0 122 Xa := gs (k1 (za9 hG) (k1 (za7 hG) (k1 (zc7 hG) (k1 (zba hG) (k1 (zcG hG) (k1 (zc0 hG) (k1 (za5 hG) (k1 (UV hG) (k1 (zbw hG) (k1 (zby hG) (k1 (zcl hG) (k1 (zcW hG) (k1 (zbI hG) (k1 (zco hG) (k1 (zbO hG) (k1 (zck hG) (k1 (zcO hG) (k1 (U9 hG) (k1 (zai hG) .nil))))))))))))))))))) .nil
theorem Zr : Sd G W0 123 xj := gs .nil .nil
theorem zie : Sd G W0 31 zbl := gs (k1 (zcd hG) (k1 (Zr hG) .nil)) .nil
theorem zeJ : Sd G W0 111 WZ := gs .nil .nil
theorem zcy : Sd G W0 25 Xz := gs (k1 (zdl hG) (k1 (zi2 hG) (k1 (WR hG) (k1 (zie hG) (k1 (zeJ hG) .nil))))) .nil
theorem ZO : Sd G W0 112 wI := gs .nil .nil
theorem zaq : Sd G W0 113 ZN := gs (k1 (ZO hG) .nil) .nil
theorem zfy : Sd G W0 26 Vu := gs (k1 (WG hG) (k1 (ZO hG) (k1 (zaq hG) .nil))) .nil
theorem zar : Sd G W0 5 ZL := gs (k1 (zdl hG) (k1 (zcy hG) (k1 (zfy hG) (k1 (WR hG) .nil)))) .nil
end Go.Pe.G
