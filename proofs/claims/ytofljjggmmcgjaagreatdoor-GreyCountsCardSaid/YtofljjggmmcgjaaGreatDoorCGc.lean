/- Own work of this seat: G4a, G4b, G4c, G4d, G4e, EQ. -/
import Derived.Test.YtofljjggmmcgjaaGreatDoorCGa
set_option linter.unusedVariables false
set_option linter.unusedSimpArgs false
set_option linter.unnecessarySimpa false
set_option linter.unusedSectionVars false
set_option linter.deprecated false
set_option maxRecDepth 100000
namespace Go.Pe.G
open Go.Pe
theorem q_bits_OnesCount64_eq (a1 : BitVec 64) : q_bits_OnesCount64 a1 =
  some (zand (((((((((((((a1 >>> 1) &&& 6148914691236517205#64) + (a1 &&& 6148914691236517205#64)) >>> 2) &&& 3689348814741910323#64) + ((((a1 >>> 1) &&& 6148914691236517205#64) + (a1 &&& 6148914691236517205#64)) &&& 3689348814741910323#64)) >>> 4) + ((((((a1 >>> 1) &&& 6148914691236517205#64) + (a1 &&& 6148914691236517205#64)) >>> 2) &&& 3689348814741910323#64) + ((((a1 >>> 1) &&& 6148914691236517205#64) + (a1 &&& 6148914691236517205#64)) &&& 3689348814741910323#64))) &&& 1085102592571150095#64) + ((((((((((a1 >>> 1) &&& 6148914691236517205#64) + (a1 &&& 6148914691236517205#64)) >>> 2) &&& 3689348814741910323#64) + ((((a1 >>> 1) &&& 6148914691236517205#64) + (a1 &&& 6148914691236517205#64)) &&& 3689348814741910323#64)) >>> 4) + ((((((a1 >>> 1) &&& 6148914691236517205#64) + (a1 &&& 6148914691236517205#64)) >>> 2) &&& 3689348814741910323#64) + ((((a1 >>> 1) &&& 6148914691236517205#64) + (a1 &&& 6148914691236517205#64)) &&& 3689348814741910323#64))) &&& 1085102592571150095#64) >>> 8)) + (((((((((((a1 >>> 1) &&& 6148914691236517205#64) + (a1 &&& 6148914691236517205#64)) >>> 2) &&& 3689348814741910323#64) + ((((a1 >>> 1) &&& 6148914691236517205#64) + (a1 &&& 6148914691236517205#64)) &&& 3689348814741910323#64)) >>> 4) + ((((((a1 >>> 1) &&& 6148914691236517205#64) + (a1 &&& 6148914691236517205#64)) >>> 2) &&& 3689348814741910323#64) + ((((a1 >>> 1) &&& 6148914691236517205#64) + (a1 &&& 6148914691236517205#64)) &&& 3689348814741910323#64))) &&& 1085102592571150095#64) + ((((((((((a1 >>> 1) &&& 6148914691236517205#64) + (a1 &&& 6148914691236517205#64)) >>> 2) &&& 3689348814741910323#64) + ((((a1 >>> 1) &&& 6148914691236517205#64) + (a1 &&& 6148914691236517205#64)) &&& 3689348814741910323#64)) >>> 4) + ((((((a1 >>> 1) &&& 6148914691236517205#64) + (a1 &&& 6148914691236517205#64)) >>> 2) &&& 3689348814741910323#64) + ((((a1 >>> 1) &&& 6148914691236517205#64) + (a1 &&& 6148914691236517205#64)) &&& 3689348814741910323#64))) &&& 1085102592571150095#64) >>> 8)) >>> 16)) + ((((((((((((a1 >>> 1) &&& 6148914691236517205#64) + (a1 &&& 6148914691236517205#64)) >>> 2) &&& 3689348814741910323#64) + ((((a1 >>> 1) &&& 6148914691236517205#64) + (a1 &&& 6148914691236517205#64)) &&& 3689348814741910323#64)) >>> 4) + ((((((a1 >>> 1) &&& 6148914691236517205#64) + (a1 &&& 6148914691236517205#64)) >>> 2) &&& 3689348814741910323#64) + ((((a1 >>> 1) &&& 6148914691236517205#64) + (a1 &&& 6148914691236517205#64)) &&& 3689348814741910323#64))) &&& 1085102592571150095#64) + ((((((((((a1 >>> 1) &&& 6148914691236517205#64) + (a1 &&& 6148914691236517205#64)) >>> 2) &&& 3689348814741910323#64) + ((((a1 >>> 1) &&& 6148914691236517205#64) + (a1 &&& 6148914691236517205#64)) &&& 3689348814741910323#64)) >>> 4) + ((((((a1 >>> 1) &&& 6148914691236517205#64) + (a1 &&& 6148914691236517205#64)) >>> 2) &&& 3689348814741910323#64) + ((((a1 >>> 1) &&& 6148914691236517205#64) + (a1 &&& 6148914691236517205#64)) &&& 3689348814741910323#64))) &&& 1085102592571150095#64) >>> 8)) + (((((((((((a1 >>> 1) &&& 6148914691236517205#64) + (a1 &&& 6148914691236517205#64)) >>> 2) &&& 3689348814741910323#64) + ((((a1 >>> 1) &&& 6148914691236517205#64) + (a1 &&& 6148914691236517205#64)) &&& 3689348814741910323#64)) >>> 4) + ((((((a1 >>> 1) &&& 6148914691236517205#64) + (a1 &&& 6148914691236517205#64)) >>> 2) &&& 3689348814741910323#64) + ((((a1 >>> 1) &&& 6148914691236517205#64) + (a1 &&& 6148914691236517205#64)) &&& 3689348814741910323#64))) &&& 1085102592571150095#64) + ((((((((((a1 >>> 1) &&& 6148914691236517205#64) + (a1 &&& 6148914691236517205#64)) >>> 2) &&& 3689348814741910323#64) + ((((a1 >>> 1) &&& 6148914691236517205#64) + (a1 &&& 6148914691236517205#64)) &&& 3689348814741910323#64)) >>> 4) + ((((((a1 >>> 1) &&& 6148914691236517205#64) + (a1 &&& 6148914691236517205#64)) >>> 2) &&& 3689348814741910323#64) + ((((a1 >>> 1) &&& 6148914691236517205#64) + (a1 &&& 6148914691236517205#64)) &&& 3689348814741910323#64))) &&& 1085102592571150095#64) >>> 8)) >>> 16)) >>> 32)).toInt) 127, ()) := mk_is (by kernel_rfl)
theorem q_set_Count_eq (a1 : BitVec 64) : q_set_Count a1 =
  (q_bits_OnesCount64 a1).bind fun (y1 : Int × Unit) =>
  some (y1.1, ()) := mk_is (by kernel_rfl)
theorem q_state_Deque_eq (a1 : Splan_Plan) (a2 : Int) : q_state_Deque a1 a2 =
  some (w64 ((w64 (a2 - 1)) * (w64 (a1.Cap + 2))), ()) := mk_is (by kernel_rfl)
theorem q_state_Full_eq (a1 : Splan_Plan) : q_state_Full a1 =
  some (w64 (a1.Workers * (w64 (a1.Cap + 2))), ()) := mk_is (by kernel_rfl)
theorem q_state_Empty_eq (a1 : Splan_Plan) : q_state_Empty a1 =
  (q_state_Full a1).bind fun (y1 : Int × Unit) =>
  some (w64 (y1.1 + 1), ()) := mk_is (by kernel_rfl)
theorem q_state_Next_eq (a1 : Splan_Plan) : q_state_Next a1 =
  (q_state_Empty a1).bind fun (y1 : Int × Unit) =>
  some (y1.1, ()) := mk_is (by kernel_rfl)
theorem q_plan_within_eq (a1 : Int) (a2 : Int) (a3 : Int) : q_plan_within a1 a2 a3 =
  bif decide (a2 ≤ a1) then
    some (decide (a1 ≤ a3), ())
  else
    some (false, ()) := mk_is (by kernel_rfl)
theorem q_plan_Plan_sized_eq (a1 : Splan_Plan) : q_plan_Plan_sized a1 =
  (q_plan_within a1.Workers 1 16).bind fun (y1 : Bool × Unit) =>
  bif y1.1 then
    (q_plan_within a1.Mutators 0 16).bind fun (y2 : Bool × Unit) =>
    bif y2.1 then
      (q_plan_within a1.Cap 1 16).bind fun (y3 : Bool × Unit) =>
      bif y3.1 then
        (q_plan_within a1.Buf 1 8).bind fun (y4 : Bool × Unit) =>
        bif y4.1 then
          (q_plan_within a1.Bin 1 8).bind fun (y5 : Bool × Unit) =>
          bif y5.1 then
            bif decide (0 ≤ (bif decide (a1.Limit < a1.Price) then a1.Limit else a1.Price)) then
              some (decide ((bif decide (a1.Price < a1.Limit) then a1.Limit else a1.Price) ≤ 1000000), ())
            else
              some (false, ())
          else
            some (false, ())
        else
          some (false, ())
      else
        some (false, ())
    else
      some (false, ())
  else
    some (false, ()) := mk_is (by kernel_rfl)
theorem q_heap_RightF1F1_eq (a1 : Int) (a2 : Sheap_Heap) : q_heap_RightF1F1 a1 a2 =
  bif decide (a1 < 0) then
    some (true, ())
  else
    some (decide (((a2.Objs.length : Int)) < a1), ()) := mk_is (by kernel_rfl)
theorem p_slices_IndexFunc_Lint_int_r2_eq (s1 : List Int) (s2 : Int) (s3 : Int) (s4 : Sheap_Heap) : p_slices_IndexFunc_Lint_int_r2 (s1, s2, s3, s4, ()) =
  bif decide (s3 < s2) then
    (idx s1 s3).bind fun x1 =>
    (q_heap_RightF1F1 x1 s4).bind fun (y2 : Bool × Unit) =>
    bif y2.1 then
      some (.ret (s3, ()))
    else
      some (.again (s1, s2, w64 (s3 + 1), s4, ()))
  else
    some (.brk (())) := by kernel_rfl
theorem q_slices_IndexFunc_Lint_int_eq (a1 : List Int) (a2 : Sheap_Heap) : q_slices_IndexFunc_Lint_int a1 a2 =
  (loopF p_slices_IndexFunc_Lint_int_r2 (a1, (a1.length : Int), 0, a2, ())).bind fun st => match st with
    | .again _ => none
    | .brk (y1 : Unit) =>
      some (-1, ())
    | .ret (y1 : Int × Unit) =>
      some (y1.1, ()) := mk_is (by kernel_rfl)
theorem q_slices_ContainsFunc_Lint_int_eq (a1 : List Int) (a2 : Sheap_Heap) : q_slices_ContainsFunc_Lint_int a1 a2 =
  (q_slices_IndexFunc_Lint_int a1 a2).bind fun (y1 : Int × Unit) =>
  some (decide (0 ≤ y1.1), ()) := mk_is (by kernel_rfl)
theorem q_heap_RightF1_eq (a1 : List Int) (a2 : Sheap_Heap) : q_heap_RightF1 a1 a2 =
  bif !(decide (((a1.length : Int)) = a2.Slots)) then
    some (true, ())
  else
    (q_slices_ContainsFunc_Lint_int a1 a2).bind fun (y1 : Bool × Unit) =>
    some (y1.1, ()) := mk_is (by kernel_rfl)
theorem p_slices_IndexFunc_LLint_Lint_r2_eq (s1 : List (List Int)) (s2 : Int) (s3 : Int) (s4 : Sheap_Heap) : p_slices_IndexFunc_LLint_Lint_r2 (s1, s2, s3, s4, ()) =
  bif decide (s3 < s2) then
    (idx s1 s3).bind fun x1 =>
    (q_heap_RightF1 x1 s4).bind fun (y2 : Bool × Unit) =>
    bif y2.1 then
      some (.ret (s3, ()))
    else
      some (.again (s1, s2, w64 (s3 + 1), s4, ()))
  else
    some (.brk (())) := by kernel_rfl
theorem q_slices_IndexFunc_LLint_Lint_eq (a1 : List (List Int)) (a2 : Sheap_Heap) : q_slices_IndexFunc_LLint_Lint a1 a2 =
  (loopF p_slices_IndexFunc_LLint_Lint_r2 (a1, (a1.length : Int), 0, a2, ())).bind fun st => match st with
    | .again _ => none
    | .brk (y1 : Unit) =>
      some (-1, ())
    | .ret (y1 : Int × Unit) =>
      some (y1.1, ()) := mk_is (by kernel_rfl)
theorem q_slices_ContainsFunc_LLint_Lint_eq (a1 : List (List Int)) (a2 : Sheap_Heap) : q_slices_ContainsFunc_LLint_Lint a1 a2 =
  (q_slices_IndexFunc_LLint_Lint a1 a2).bind fun (y1 : Int × Unit) =>
  some (decide (0 ≤ y1.1), ()) := mk_is (by kernel_rfl)
theorem q_heap_Right_eq (a1 : Sheap_Heap) : q_heap_Right a1 =
  bif decide (1 ≤ a1.Slots) then
    bif decide (a1.Slots ≤ 4) then
      bif decide (((a1.Objs.length : Int)) ≤ 64) then
        (q_slices_ContainsFunc_LLint_Lint a1.Objs a1).bind fun (y1 : Bool × Unit) =>
        some (!y1.1, ())
      else
        some (false, ())
    else
      some (false, ())
  else
    some (false, ()) := mk_is (by kernel_rfl)
theorem q_set_Under_eq (a1 : BitVec 64) (a2 : BitVec 64) : q_set_Under a1 a2 =
  some (decide ((a1 &&& ~~~a2) = 0#64), ()) := mk_is (by kernel_rfl)
theorem q_set_First_eq (a1 : Int) : q_set_First a1 =
  bif decide (a1 < 1) then
    some (0#64, ())
  else
    bif decide ((w64 (64 - (bif decide (64 < a1) then 64 else a1))) < 0) then
      none
    else
      some (18446744073709551615#64 >>> min (w64 (64 - (bif decide (64 < a1) then 64 else a1))).toNat 64, ()) := mk_is (by kernel_rfl)
theorem q_plan_RightF1_eq (a1 : Int) (a2 : Int) : q_plan_RightF1 a1 a2 =
  (q_plan_within a1 0 a2).bind fun (y1 : Bool × Unit) =>
  some (!y1.1, ()) := mk_is (by kernel_rfl)
theorem p_slices_IndexFunc_Lint_int_v1_r2_eq (s1 : List Int) (s2 : Int) (s3 : Int) (s4 : Int) : p_slices_IndexFunc_Lint_int_v1_r2 (s1, s2, s3, s4, ()) =
  bif decide (s3 < s2) then
    (idx s1 s3).bind fun x1 =>
    (q_plan_RightF1 x1 s4).bind fun (y2 : Bool × Unit) =>
    bif y2.1 then
      some (.ret (s3, ()))
    else
      some (.again (s1, s2, w64 (s3 + 1), s4, ()))
  else
    some (.brk (())) := by kernel_rfl
theorem q_slices_IndexFunc_Lint_int_v1_eq (a1 : List Int) (a2 : Int) : q_slices_IndexFunc_Lint_int_v1 a1 a2 =
  (loopF p_slices_IndexFunc_Lint_int_v1_r2 (a1, (a1.length : Int), 0, a2, ())).bind fun st => match st with
    | .again _ => none
    | .brk (y1 : Unit) =>
      some (-1, ())
    | .ret (y1 : Int × Unit) =>
      some (y1.1, ()) := mk_is (by kernel_rfl)
theorem q_slices_ContainsFunc_Lint_int_v1_eq (a1 : List Int) (a2 : Int) : q_slices_ContainsFunc_Lint_int_v1 a1 a2 =
  (q_slices_IndexFunc_Lint_int_v1 a1 a2).bind fun (y1 : Int × Unit) =>
  some (decide (0 ≤ y1.1), ()) := mk_is (by kernel_rfl)
theorem q_code_RightF1_eq (a1 : Int) (a2 : Int) : q_code_RightF1 a1 a2 =
  bif decide (0 ≤ a1) then
    some (decide (a1 < (bif decide (4 < a2) then 4 else a2)), ())
  else
    some (false, ()) := mk_is (by kernel_rfl)
theorem q_code_Right_eq (a1 : Scode_Op) (a2 : Int) (a3 : Int) : q_code_Right a1 a2 a3 =
  bif decide (0 ≤ a1.S) then
    bif decide (a1.Kind = 1) then
      bif decide (a1.Kind = 1) then
        (q_code_RightF1 a1.R a2).bind fun (y1 : Bool × Unit) =>
        bif y1.1 then
          (q_code_RightF1 a1.A a2).bind fun (y2 : Bool × Unit) =>
          bif y2.1 then
            some (decide (a1.S < (bif decide (4 < a3) then 4 else a3)), ())
          else
            some (false, ())
        else
          some (false, ())
      else
        bif decide (a1.Kind = 4) then
          (q_code_RightF1 a1.R a2).bind fun (y3 : Bool × Unit) =>
          bif y3.1 then
            (q_code_RightF1 a1.A a2).bind fun (y4 : Bool × Unit) =>
            bif y4.1 then
              some (decide (a1.S = 0), ())
            else
              some (false, ())
          else
            some (false, ())
        else
          bif decide (a1.Kind = 3) then
            bif decide (a1.Kind = 3) then
              (q_code_RightF1 a1.R a2).bind fun (y5 : Bool × Unit) =>
              bif y5.1 then
                bif decide (a1.A = 0) then
                  some (decide (a1.S = 0), ())
                else
                  some (false, ())
              else
                some (false, ())
            else
              some (false, ())
          else
            bif decide (a1.Kind = 5) then
              (q_code_RightF1 a1.R a2).bind fun (y6 : Bool × Unit) =>
              bif y6.1 then
                bif decide (a1.A = 0) then
                  some (decide (a1.S = 0), ())
                else
                  some (false, ())
              else
                some (false, ())
            else
              some (false, ())
    else
      bif decide (a1.Kind = 2) then
        (q_code_RightF1 a1.R a2).bind fun (y7 : Bool × Unit) =>
        bif y7.1 then
          (q_code_RightF1 a1.A a2).bind fun (y8 : Bool × Unit) =>
          bif y8.1 then
            some (decide (a1.S < (bif decide (4 < a3) then 4 else a3)), ())
          else
            some (false, ())
        else
          some (false, ())
      else
        bif decide (a1.Kind = 4) then
          (q_code_RightF1 a1.R a2).bind fun (y9 : Bool × Unit) =>
          bif y9.1 then
            (q_code_RightF1 a1.A a2).bind fun (y10 : Bool × Unit) =>
            bif y10.1 then
              some (decide (a1.S = 0), ())
            else
              some (false, ())
          else
            some (false, ())
        else
          bif decide (a1.Kind = 3) then
            bif decide (a1.Kind = 3) then
              (q_code_RightF1 a1.R a2).bind fun (y11 : Bool × Unit) =>
              bif y11.1 then
                bif decide (a1.A = 0) then
                  some (decide (a1.S = 0), ())
                else
                  some (false, ())
              else
                some (false, ())
            else
              some (false, ())
          else
            bif decide (a1.Kind = 5) then
              (q_code_RightF1 a1.R a2).bind fun (y12 : Bool × Unit) =>
              bif y12.1 then
                bif decide (a1.A = 0) then
                  some (decide (a1.S = 0), ())
                else
                  some (false, ())
              else
                some (false, ())
            else
              some (false, ())
  else
    bif decide (a1.Kind = 1) then
      bif decide (a1.Kind = 1) then
        (q_code_RightF1 a1.R a2).bind fun (y13 : Bool × Unit) =>
        bif y13.1 then
          (q_code_RightF1 a1.A a2).bind fun (y14 : Bool × Unit) =>
          bif y14.1 then
            some (false, ())
          else
            some (false, ())
        else
          some (false, ())
      else
        bif decide (a1.Kind = 4) then
          (q_code_RightF1 a1.R a2).bind fun (y15 : Bool × Unit) =>
          bif y15.1 then
            (q_code_RightF1 a1.A a2).bind fun (y16 : Bool × Unit) =>
            bif y16.1 then
              some (decide (a1.S = 0), ())
            else
              some (false, ())
          else
            some (false, ())
        else
          bif decide (a1.Kind = 3) then
            bif decide (a1.Kind = 3) then
              (q_code_RightF1 a1.R a2).bind fun (y17 : Bool × Unit) =>
              bif y17.1 then
                bif decide (a1.A = 0) then
                  some (decide (a1.S = 0), ())
                else
                  some (false, ())
              else
                some (false, ())
            else
              some (false, ())
          else
            bif decide (a1.Kind = 5) then
              (q_code_RightF1 a1.R a2).bind fun (y18 : Bool × Unit) =>
              bif y18.1 then
                bif decide (a1.A = 0) then
                  some (decide (a1.S = 0), ())
                else
                  some (false, ())
              else
                some (false, ())
            else
              some (false, ())
    else
      bif decide (a1.Kind = 2) then
        (q_code_RightF1 a1.R a2).bind fun (y19 : Bool × Unit) =>
        bif y19.1 then
          (q_code_RightF1 a1.A a2).bind fun (y20 : Bool × Unit) =>
          bif y20.1 then
            some (false, ())
          else
            some (false, ())
        else
          some (false, ())
      else
        bif decide (a1.Kind = 4) then
          (q_code_RightF1 a1.R a2).bind fun (y21 : Bool × Unit) =>
          bif y21.1 then
            (q_code_RightF1 a1.A a2).bind fun (y22 : Bool × Unit) =>
            bif y22.1 then
              some (decide (a1.S = 0), ())
            else
              some (false, ())
          else
            some (false, ())
        else
          bif decide (a1.Kind = 3) then
            bif decide (a1.Kind = 3) then
              (q_code_RightF1 a1.R a2).bind fun (y23 : Bool × Unit) =>
              bif y23.1 then
                bif decide (a1.A = 0) then
                  some (decide (a1.S = 0), ())
                else
                  some (false, ())
              else
                some (false, ())
            else
              some (false, ())
          else
            bif decide (a1.Kind = 5) then
              (q_code_RightF1 a1.R a2).bind fun (y24 : Bool × Unit) =>
              bif y24.1 then
                bif decide (a1.A = 0) then
                  some (decide (a1.S = 0), ())
                else
                  some (false, ())
              else
                some (false, ())
            else
              some (false, ()) := mk_is (by kernel_rfl)
theorem q_code_FitsF1_eq (a1 : Scode_Op) (a2 : Int) (a3 : Int) : q_code_FitsF1 a1 a2 a3 =
  (q_code_Right a1 a2 a3).bind fun (y1 : Bool × Unit) =>
  some (!y1.1, ()) := mk_is (by kernel_rfl)
theorem p_slices_IndexFunc_Lcode_Op_code_Op_r2_eq (s1 : List Scode_Op) (s2 : Int) (s3 : Int) (s4 : Int) (s5 : Int) : p_slices_IndexFunc_Lcode_Op_code_Op_r2 (s1, s2, s3, s4, s5, ()) =
  bif decide (s3 < s2) then
    (idx s1 s3).bind fun x1 =>
    (q_code_FitsF1 x1 s4 s5).bind fun (y2 : Bool × Unit) =>
    bif y2.1 then
      some (.ret (s3, ()))
    else
      some (.again (s1, s2, w64 (s3 + 1), s4, s5, ()))
  else
    some (.brk (())) := by kernel_rfl
theorem q_slices_IndexFunc_Lcode_Op_code_Op_eq (a1 : List Scode_Op) (a2 : Int) (a3 : Int) : q_slices_IndexFunc_Lcode_Op_code_Op a1 a2 a3 =
  (loopF p_slices_IndexFunc_Lcode_Op_code_Op_r2 (a1, (a1.length : Int), 0, a2, a3, ())).bind fun st => match st with
    | .again _ => none
    | .brk (y1 : Unit) =>
      some (-1, ())
    | .ret (y1 : Int × Unit) =>
      some (y1.1, ()) := mk_is (by kernel_rfl)
theorem q_slices_ContainsFunc_Lcode_Op_code_Op_eq (a1 : List Scode_Op) (a2 : Int) (a3 : Int) : q_slices_ContainsFunc_Lcode_Op_code_Op a1 a2 a3 =
  (q_slices_IndexFunc_Lcode_Op_code_Op a1 a2 a3).bind fun (y1 : Int × Unit) =>
  some (decide (0 ≤ y1.1), ()) := mk_is (by kernel_rfl)
theorem q_code_Fits_eq (a1 : List Scode_Op) (a2 : Int) (a3 : Int) : q_code_Fits a1 a2 a3 =
  bif decide (((a1.length : Int)) ≤ 64) then
    (q_slices_ContainsFunc_Lcode_Op_code_Op a1 a2 a3).bind fun (y1 : Bool × Unit) =>
    some (!y1.1, ())
  else
    some (false, ()) := mk_is (by kernel_rfl)
theorem q_pick_Right_eq (a1 : Spick_Pick) : q_pick_Right a1 =
  bif decide (a1.Kind = 0) then
    some (decide (a1.N = 0), ())
  else
    bif decide (a1.Kind = 1) then
      bif decide (1 ≤ a1.N) then
        some (decide (a1.N ≤ 16), ())
      else
        some (false, ())
    else
      bif decide (a1.Kind = 2) then
        bif decide (1 ≤ a1.N) then
          some (decide (a1.N ≤ 16), ())
        else
          some (false, ())
      else
        some (false, ()) := mk_is (by kernel_rfl)
theorem q_pick_KnownF1_eq (a1 : Spick_Pick) (a2 : Int) (a3 : Int) : q_pick_KnownF1 a1 a2 a3 =
  (q_pick_Right a1).bind fun (y1 : Bool × Unit) =>
  bif !y1.1 then
    some (true, ())
  else
    bif decide (a1.Kind = 1) then
      some (decide (a2 < a1.N), ())
    else
      bif decide (a1.Kind = 2) then
        some (decide (a3 < a1.N), ())
      else
        some (decide (0 < a1.N), ()) := mk_is (by kernel_rfl)
theorem p_slices_IndexFunc_Lpick_Pick_pick_Pick_r2_eq (s1 : List Spick_Pick) (s2 : Int) (s3 : Int) (s4 : Int) (s5 : Int) : p_slices_IndexFunc_Lpick_Pick_pick_Pick_r2 (s1, s2, s3, s4, s5, ()) =
  bif decide (s3 < s2) then
    (idx s1 s3).bind fun x1 =>
    (q_pick_KnownF1 x1 s4 s5).bind fun (y2 : Bool × Unit) =>
    bif y2.1 then
      some (.ret (s3, ()))
    else
      some (.again (s1, s2, w64 (s3 + 1), s4, s5, ()))
  else
    some (.brk (())) := by kernel_rfl
theorem q_slices_IndexFunc_Lpick_Pick_pick_Pick_eq (a1 : List Spick_Pick) (a2 : Int) (a3 : Int) : q_slices_IndexFunc_Lpick_Pick_pick_Pick a1 a2 a3 =
  (loopF p_slices_IndexFunc_Lpick_Pick_pick_Pick_r2 (a1, (a1.length : Int), 0, a2, a3, ())).bind fun st => match st with
    | .again _ => none
    | .brk (y1 : Unit) =>
      some (-1, ())
    | .ret (y1 : Int × Unit) =>
      some (y1.1, ()) := mk_is (by kernel_rfl)
theorem q_slices_ContainsFunc_Lpick_Pick_pick_Pick_eq (a1 : List Spick_Pick) (a2 : Int) (a3 : Int) : q_slices_ContainsFunc_Lpick_Pick_pick_Pick a1 a2 a3 =
  (q_slices_IndexFunc_Lpick_Pick_pick_Pick a1 a2 a3).bind fun (y1 : Int × Unit) =>
  some (decide (0 ≤ y1.1), ()) := mk_is (by kernel_rfl)
theorem q_pick_Known_eq (a1 : List Spick_Pick) (a2 : Int) (a3 : Int) : q_pick_Known a1 a2 a3 =
  (q_slices_ContainsFunc_Lpick_Pick_pick_Pick a1 a2 a3).bind fun (y1 : Bool × Unit) =>
  some (!y1.1, ()) := mk_is (by kernel_rfl)
theorem p_plan_Right_r5_eq (s1 : List (List Int)) (s2 : Int) (s3 : Int) (s4 : Splan_Plan) (s5 : Int) : p_plan_Right_r5 (s1, s2, s3, s4, s5, ()) =
  bif decide (s3 < s2) then
    (idx s1 s3).bind fun x1 =>
    (q_plan_within ((x1.length : Int)) 1 4).bind fun (y2 : Bool × Unit) =>
    bif !y2.1 then
      some (.ret (false, ()))
    else
      (q_slices_ContainsFunc_Lint_int_v1 x1 s5).bind fun (y3 : Bool × Unit) =>
      bif y3.1 then
        some (.ret (false, ()))
      else
        (idx s4.Progs s3).bind fun x4 =>
        (q_code_Fits x4 ((x1.length : Int)) s4.H.Slots).bind fun (y5 : Bool × Unit) =>
        bif !y5.1 then
          some (.ret (false, ()))
        else
          some (.again (s1, s2, w64 (s3 + 1), s4, s5, ()))
  else
    some (.brk (s4, ())) := by kernel_rfl
theorem q_plan_Right_eq (a1 : Splan_Plan) : q_plan_Right a1 =
  (q_plan_Plan_sized a1).bind fun (y1 : Bool × Unit) =>
  bif !y1.1 then
    some (false, ())
  else
    (q_heap_Right a1.H).bind fun (y2 : Bool × Unit) =>
    bif !y2.1 then
      some (false, ())
    else
      (q_plan_within a1.Most ((a1.H.Objs.length : Int)) 64).bind fun (y3 : Bool × Unit) =>
      bif !y3.1 then
        some (false, ())
      else
        (q_set_First ((a1.H.Objs.length : Int))).bind fun (y4 : (BitVec 64) × Unit) =>
        (q_set_Under a1.Roots y4.1).bind fun (y5 : Bool × Unit) =>
        bif !y5.1 then
          some (false, ())
        else
          bif !(decide (((a1.Regs.length : Int)) = a1.Mutators)) then
            some (false, ())
          else
            bif !(decide (((a1.Progs.length : Int)) = a1.Mutators)) then
              some (false, ())
            else
              (loopF p_plan_Right_r5 (a1.Regs, (a1.Regs.length : Int), 0, a1, (a1.H.Objs.length : Int), ())).bind fun st => match st with
                | .again _ => none
                | .brk (y6 : Splan_Plan × Unit) =>
                  bif decide (((y6.1.Picks.length : Int)) ≤ 100000) then
                    (q_pick_Known y6.1.Picks y6.1.Workers y6.1.Mutators).bind fun (y7 : Bool × Unit) =>
                    some (y7.1, ())
                  else
                    some (false, ())
                | .ret (y6 : Bool × Unit) =>
                  some (y6.1, ()) := mk_is (by kernel_rfl)
theorem q_set_bit_eq (a1 : Int) : q_set_bit a1 =
  bif decide (a1 < 1) then
    some (0#64, ())
  else
    bif decide (64 < a1) then
      some (0#64, ())
    else
      bif decide ((w64 (a1 - 1)) < 0) then
        none
      else
        some (1#64 <<< min (w64 (a1 - 1)).toNat 64, ()) := mk_is (by kernel_rfl)
theorem q_set_Add_eq (a1 : BitVec 64) (a2 : Int) : q_set_Add a1 a2 =
  (q_set_bit a2).bind fun (y1 : (BitVec 64) × Unit) =>
  some (a1 ||| y1.1, ()) := mk_is (by kernel_rfl)
theorem p_set_Of_r3_eq (s1 : BitVec 64) (s2 : List Int) (s3 : Int) (s4 : Int) : p_set_Of_r3 (s1, s2, s3, s4, ()) =
  bif decide (s4 < s3) then
    (idx s2 s4).bind fun x1 =>
    (q_set_Add s1 x1).bind fun (y2 : (BitVec 64) × Unit) =>
    some (.again (y2.1, s2, s3, w64 (s4 + 1), ()))
  else
    some (.brk (s1, ())) := by kernel_rfl
theorem q_set_Of_eq (a1 : List Int) : q_set_Of a1 =
  (loopF p_set_Of_r3 (0#64, a1, (a1.length : Int), 0, ())).bind fun st => match st with
    | .again _ => none
    | .brk (y1 : (BitVec 64) × Unit) =>
      some (y1.1, ())
    | .ret (y1 : Unit) =>
      none := mk_is (by kernel_rfl)
theorem p_plan_Greys_r3_eq (s1 : BitVec 64) (s2 : List (List Int)) (s3 : Int) (s4 : Int) : p_plan_Greys_r3 (s1, s2, s3, s4, ()) =
  bif decide (s4 < s3) then
    (idx s2 s4).bind fun x1 =>
    (q_set_Of x1).bind fun (y2 : (BitVec 64) × Unit) =>
    some (.again (s1 ||| y2.1, s2, s3, w64 (s4 + 1), ()))
  else
    some (.brk (s1, ())) := by kernel_rfl
theorem q_plan_Greys_eq (a1 : Splan_Plan) : q_plan_Greys a1 =
  (loopF p_plan_Greys_r3 (a1.Roots, a1.Regs, (a1.Regs.length : Int), 0, ())).bind fun st => match st with
    | .again _ => none
    | .brk (y1 : (BitVec 64) × Unit) =>
      some (y1.1, ())
    | .ret (y1 : Unit) =>
      none := mk_is (by kernel_rfl)
theorem q_ledger_New_eq (a1 : Int) : q_ledger_New a1 =
  bif decide ((bif decide ((bif decide (16 < a1) then 16 else a1) < 0) then 0 else (bif decide (16 < a1) then 16 else a1)) = (bif decide ((bif decide (16 < a1) then 16 else a1) < 0) then 0 else (bif decide (16 < a1) then 16 else a1))) then
    (count (bif decide ((bif decide (16 < a1) then 16 else a1) < 0) then 0 else (bif decide (16 < a1) then 16 else a1))).bind fun n1 =>
    some (Sledger_Ledger.mk 0 0 0 (List.replicate n1 0), ())
  else
    none := mk_is (by kernel_rfl)
theorem q_slices_Clone_Lint_int_eq (a1 : List Int) : q_slices_Clone_Lint_int a1 =
  bif a1.isEmpty then
    both (
      some (([] : List Int), ())) (
      (room (([] : List Int) ++ a1)).bind fun l1 =>
      some (l1, ()))
  else
    (room (([] : List Int) ++ a1)).bind fun l2 =>
    some (l2, ()) := mk_is (by kernel_rfl)
theorem p_state_each_Lint_r4_eq (s1 : Int) (s2 : Int) (s3 : List (List Int)) : p_state_each_Lint_r4 (s1, s2, s3, ()) =
  bif decide (s2 < s1) then
    (idxn s3 s2).bind fun n1 =>
    (s3[n1]?).bind fun x2 =>
    (q_slices_Clone_Lint_int x2).bind fun (y3 : (List Int) × Unit) =>
    (idxn s3 s2).bind fun n4 =>
    some (.again (s1, w64 (s2 + 1), s3.set n4 y3.1, ()))
  else
    some (.brk (s3, ())) := by kernel_rfl
theorem q_state_each_Lint_eq (a1 : List (List Int)) : q_state_each_Lint a1 =
  bif decide (((a1.length : Int)) = ((a1.length : Int))) then
    (count ((a1.length : Int))).bind fun n1 =>
    bif decide (a1.length = ((List.replicate n1 ([] : List Int)).length)) then
      bif a1.isEmpty then
        (loopF p_state_each_Lint_r4 (((List.replicate n1 ([] : List Int)).length : Int), 0, List.replicate n1 ([] : List Int), ())).bind fun st => match st with
          | .again _ => none
          | .brk (y2 : (List (List Int)) × Unit) =>
            some (y2.1, ())
          | .ret (y2 : Unit) =>
            none
      else
        (loopF p_state_each_Lint_r4 ((a1.length : Int), 0, a1, ())).bind fun st => match st with
          | .again _ => none
          | .brk (y3 : (List (List Int)) × Unit) =>
            some (y3.1, ())
          | .ret (y3 : Unit) =>
            none
    else
      none
  else
    none := mk_is (by kernel_rfl)
theorem q_deque_Cells_eq (a1 : Int) : q_deque_Cells a1 =
  bif decide ((w64 (2 + (bif decide (64 < (bif decide (a1 < 1) then 1 else a1)) then 64 else (bif decide (a1 < 1) then 1 else a1)))) = (w64 (2 + (bif decide (64 < (bif decide (a1 < 1) then 1 else a1)) then 64 else (bif decide (a1 < 1) then 1 else a1))))) then
    (count (w64 (2 + (bif decide (64 < (bif decide (a1 < 1) then 1 else a1)) then 64 else (bif decide (a1 < 1) then 1 else a1))))).bind fun n1 =>
    (idxn (List.replicate n1 0#64) 0).bind fun n2 =>
    (idxn ((List.replicate n1 0#64).set n2 1#64) 1).bind fun n3 =>
    some (((List.replicate n1 0#64).set n2 1#64).set n3 1#64, ())
  else
    none := mk_is (by kernel_rfl)
theorem q_deque_Start_eq (a1 : Int) (a2 : Int) (a3 : Int) (a4 : Int) : q_deque_Start a1 a2 a3 a4 =
  some (Sdeque_Machine.mk a1 0 a2 a3 0#64 0#64 a4 0, ()) := mk_is (by kernel_rfl)
theorem q_plan_Bins_eq (a1 : Splan_Plan) : q_plan_Bins a1 =
  some (w64 ((w64 (a1.Most + a1.Workers)) + a1.Mutators), ()) := mk_is (by kernel_rfl)
theorem q_slices_Chunk_Lint_int_eq (a1 : List Int) (a2 : Int) : q_slices_Chunk_Lint_int a1 a2 =
  bif decide (a2 < 1) then
    none
  else
    some (a1, a2, ()) := mk_is (by kernel_rfl)
theorem q_set_each_eq (a1 : BitVec 64) : q_set_each a1 =
  some (a1, ()) := mk_is (by kernel_rfl)
theorem p_set_List_r3_eq (y : Int) (s1 : List Int) : p_set_List_r3 y (s1, ()) =
  (room (s1 ++ ([y] : List Int))).bind fun l1 =>
  some (l1, ()) := by kernel_rfl
theorem q_set_List_eq (a1 : BitVec 64) : q_set_List a1 =
  (q_set_each a1).bind fun (y1 : (BitVec 64) × Unit) =>
  (j_set_eachF1 y1.1).bind fun (ys2 : List Int) =>
  (foldY p_set_List_r3 ys2 (([] : List Int), ())).bind fun (y3 : (List Int) × Unit) =>
  some (y3.1, ()) := mk_is (by kernel_rfl)
theorem q_mem_DoF1_eq (a1 : BitVec 64) : q_mem_DoF1 a1 =
  some (a1, true, ()) := mk_is (by kernel_rfl)
theorem q_mem_DoF2_eq (a1 : BitVec 64) (a2 : Smem_Op) : q_mem_DoF2 a1 a2 =
  some (a2.A, true, ()) := mk_is (by kernel_rfl)
theorem q_mem_DoF3_eq (a1 : BitVec 64) (a2 : Smem_Op) : q_mem_DoF3 a1 a2 =
  some (a2.B, decide (a1 = a2.A), ()) := mk_is (by kernel_rfl)
theorem q_mem_DoF4_eq (a1 : BitVec 64) (a2 : Smem_Op) : q_mem_DoF4 a1 a2 =
  some (a1 + a2.A, true, ()) := mk_is (by kernel_rfl)
theorem q_slices_Clone_mem_Mem_uint64_eq (a1 : List (BitVec 64)) : q_slices_Clone_mem_Mem_uint64 a1 =
  bif a1.isEmpty then
    both (
      some (([] : List (BitVec 64)), ())) (
      (room ((([] : List (BitVec 64))) ++ a1)).bind fun l1 =>
      some (l1, ()))
  else
    (room ((([] : List (BitVec 64))) ++ a1)).bind fun l2 =>
    some (l2, ()) := mk_is (by kernel_rfl)
end Go.Pe.G
namespace Go.Pe.G
open Go.Pe
theorem q_mem_Do_eq (a1 : List (BitVec 64)) (a2 : Smem_Op) : q_mem_Do a1 a2 =
  bif decide (a2.Kind = 1) then
    bif decide (a2.At < 0) then
      some (a1, 0#64, false, ())
    else
      bif decide (((a1.length : Int)) ≤ a2.At) then
        some (a1, 0#64, false, ())
      else
        (idx a1 a2.At).bind fun x1 =>
        (q_mem_DoF1 x1).bind fun (y2 : (BitVec 64) × Bool × Unit) =>
        bif y2.2.1 then
          bif !(decide (x1 = y2.1)) then
            (q_slices_Clone_mem_Mem_uint64 a1).bind fun (y3 : (List (BitVec 64)) × Unit) =>
            (idxn y3.1 a2.At).bind fun n4 =>
            some (y3.1.set n4 y2.1, x1, y2.2.1, ())
          else
            some (a1, x1, y2.2.1, ())
        else
          some (a1, x1, y2.2.1, ())
  else
    bif decide (a2.Kind = 2) then
      bif decide (a2.At < 0) then
        some (a1, 0#64, false, ())
      else
        bif decide (((a1.length : Int)) ≤ a2.At) then
          some (a1, 0#64, false, ())
        else
          (idx a1 a2.At).bind fun x5 =>
          (q_mem_DoF2 x5 a2).bind fun (y6 : (BitVec 64) × Bool × Unit) =>
          bif y6.2.1 then
            bif !(decide (x5 = y6.1)) then
              (q_slices_Clone_mem_Mem_uint64 a1).bind fun (y7 : (List (BitVec 64)) × Unit) =>
              (idxn y7.1 a2.At).bind fun n8 =>
              some (y7.1.set n8 y6.1, x5, y6.2.1, ())
            else
              some (a1, x5, y6.2.1, ())
          else
            some (a1, x5, y6.2.1, ())
    else
      bif decide (a2.Kind = 3) then
        bif decide (a2.At < 0) then
          some (a1, 0#64, false, ())
        else
          bif decide (((a1.length : Int)) ≤ a2.At) then
            some (a1, 0#64, false, ())
          else
            (idx a1 a2.At).bind fun x9 =>
            (q_mem_DoF3 x9 a2).bind fun (y10 : (BitVec 64) × Bool × Unit) =>
            bif y10.2.1 then
              bif !(decide (x9 = y10.1)) then
                (q_slices_Clone_mem_Mem_uint64 a1).bind fun (y11 : (List (BitVec 64)) × Unit) =>
                (idxn y11.1 a2.At).bind fun n12 =>
                some (y11.1.set n12 y10.1, x9, y10.2.1, ())
              else
                some (a1, x9, y10.2.1, ())
            else
              some (a1, x9, y10.2.1, ())
      else
        bif decide (a2.Kind = 4) then
          bif decide (a2.At < 0) then
            some (a1, 0#64, false, ())
          else
            bif decide (((a1.length : Int)) ≤ a2.At) then
              some (a1, 0#64, false, ())
            else
              (idx a1 a2.At).bind fun x13 =>
              (q_mem_DoF4 x13 a2).bind fun (y14 : (BitVec 64) × Bool × Unit) =>
              bif y14.2.1 then
                bif !(decide (x13 = y14.1)) then
                  (q_slices_Clone_mem_Mem_uint64 a1).bind fun (y15 : (List (BitVec 64)) × Unit) =>
                  (idxn y15.1 a2.At).bind fun n16 =>
                  some (y15.1.set n16 y14.1, x13, y14.2.1, ())
                else
                  some (a1, x13, y14.2.1, ())
              else
                some (a1, x13, y14.2.1, ())
        else
          bif decide (a2.At < 0) then
            some (a1, 0#64, false, ())
          else
            bif decide (((a1.length : Int)) ≤ a2.At) then
              some (a1, 0#64, false, ())
            else
              some (a1, 0#64, false, ()) := mk_is (by kernel_rfl)
theorem q_chain_store_eq (a1 : List (BitVec 64)) (a2 : Int) (a3 : BitVec 64) : q_chain_store a1 a2 a3 =
  (q_mem_Do a1 (Smem_Op.mk 2 a2 a3 0#64)).bind fun (y1 : (List (BitVec 64)) × (BitVec 64) × Bool × Unit) =>
  some (y1.1, ()) := mk_is (by kernel_rfl)
theorem q_chain_Pack_eq (a1 : BitVec 64) (a2 : Int) : q_chain_Pack a1 a2 =
  some ((a1 <<< 32) ||| ((BitVec.ofInt 64 a2) &&& 4294967295#64), ()) := mk_is (by kernel_rfl)
theorem p_chain_Lay_r2_eq (s1 : List (BitVec 64)) (s2 : Int) (s3 : Int) (s4 : List Int) (s5 : Int) (s6 : Int) : p_chain_Lay_r2 (s1, s2, s3, s4, s5, s6, ()) =
  bif decide (s6 < s5) then
    bif decide ((w64 (s6 + 1)) < ((s4.length : Int))) then
      (idx s4 (w64 (s6 + 1))).bind fun x1 =>
      (idx s4 s6).bind fun x2 =>
      (q_chain_store s1 (w64 (s3 + x2)) (BitVec.ofInt 64 x1)).bind fun (y3 : (List (BitVec 64)) × Unit) =>
      some (.again (y3.1, s2, s3, s4, s5, w64 (s6 + 1), ()))
    else
      (idx s4 s6).bind fun x4 =>
      (q_chain_store s1 (w64 (s3 + x4)) 0#64).bind fun (y5 : (List (BitVec 64)) × Unit) =>
      some (.again (y5.1, s2, s3, s4, s5, w64 (s6 + 1), ()))
  else
    some (.brk (s1, s2, s4, ())) := by kernel_rfl
theorem q_chain_Lay_eq (a1 : List (BitVec 64)) (a2 : Int) (a3 : Int) (a4 : List Int) : q_chain_Lay a1 a2 a3 a4 =
  (loopF p_chain_Lay_r2 (a1, a2, a3, a4, (a4.length : Int), 0, ())).bind fun st => match st with
    | .again _ => none
    | .brk (y1 : (List (BitVec 64)) × Int × (List Int) × Unit) =>
      bif decide (0 < ((y1.2.2.1.length : Int))) then
        (idx y1.2.2.1 0).bind fun x2 =>
        (q_chain_Pack 0#64 x2).bind fun (y3 : (BitVec 64) × Unit) =>
        (q_chain_store y1.1 y1.2.1 y3.1).bind fun (y4 : (List (BitVec 64)) × Unit) =>
        some (y4.1, ())
      else
        (q_chain_Pack 0#64 0).bind fun (y5 : (BitVec 64) × Unit) =>
        (q_chain_store y1.1 y1.2.1 y5.1).bind fun (y6 : (List (BitVec 64)) × Unit) =>
        some (y6.1, ())
    | .ret (y1 : Unit) =>
      none := mk_is (by kernel_rfl)
theorem p_state_New_r7_eq (s1 : BitVec 64) (s2 : Int) (s3 : Int) (s4 : Splan_Plan) (s5 : Int) (s6 : Int) (s7 : Int) (s8 : Int) (s9 : Int) (s10 : Int) (s11 : Int) (s12 : Int) (s13 : Int) (s14 : BitVec 64) (s15 : Int) (s16 : Stint_Tint) (s17 : Int) (s18 : Int) (s19 : Bool) (s20 : Bool) (s21 : Int) (s22 : Int) (s23 : Int) (s24 : Int) (s25 : Sstate_Detect) (s26 : Splan_Plan) (s27 : Int) (s28 : Stint_Tint) (s29 : Int) (s30 : Int) (s31 : Bool) (s32 : Bool) (s33 : Int) (s34 : Sledger_Ledger) (s35 : Sstate_Detect) (s36 : List (List Int)) (s37 : List (List Int)) (s38 : List (List Scode_Op)) (s39 : List Spick_Pick) (s40 : List (List Int)) (s41 : List (BitVec 64)) (s42 : List (List Int)) (s43 : List Int) (s44 : List Int) (s45 : List Sstate_Worker) (s46 : List Sstate_Mutator) (s47 : List (List Int)) (s48 : List (BitVec 64)) (s49 : List (List Int)) (s50 : List Int) (s51 : List Sstate_Worker) (s52 : List Sstate_Mutator) : p_state_New_r7 (s1, s2, s3, s4, s5, s6, s7, s8, s9, s10, s11, s12, s13, s14, s15, s16, s17, s18, s19, s20, s21, s22, s23, s24, s25, s26, s27, s28, s29, s30, s31, s32, s33, s34, s35, s36, s37, s38, s39, s40, s41, s42, s43, s44, s45, s46, s47, s48, s49, s50, s51, s52, ()) =
  bif decide (s3 < s2) then
    (q_deque_Cells s4.Cap).bind fun (y1 : (List (BitVec 64)) × Unit) =>
    (room (s48 ++ y1.1)).bind fun l2 =>
    (q_state_Deque s4 (w64 (s3 + 1))).bind fun (y3 : Int × Unit) =>
    (q_deque_Start 2 y3.1 s4.Cap 0).bind fun (y4 : Sdeque_Machine × Unit) =>
    (room (s51 ++ (([(Sstate_Worker.mk 0 0 0 (w64 (s3 + 1)) 0 (([] : List Int)) y4.1 (Schain_Machine.mk 0 0 0 0 0#64 0 0 0) (Sstate_Grey.mk 0 0 0 0 (Sdeque_Machine.mk 0 0 0 0 0#64 0#64 0 0) (Schain_Machine.mk 0 0 0 0 0#64 0 0 0) 0 0))] : List Sstate_Worker)))).bind fun l5 =>
    some (.again (s1, s2, w64 (s3 + 1), s4, s5, s6, s7, s8, s9, s10, s11, s12, s13, s14, s15, s16, s17, s18, s19, s20, s21, s22, s23, s24, s25, s26, s27, s28, s29, s30, s31, s32, s33, s34, s35, s36, s37, s38, s39, s40, s41, s42, s43, s44, s45, s46, s47, l2, s49, s50, l5, s52, ()))
  else
    some (.brk (s1, s4, s5, s6, s7, s8, s9, s10, s11, s12, s13, s14, s15, s16, s17, s18, s19, s20, s21, s22, s23, s24, s25, s26, s27, s28, s29, s30, s31, s32, s33, s34, s35, s36, s37, s38, s39, s40, s41, s42, s43, s44, s45, s46, s47, s48, s49, s50, s51, s52, ())) := by kernel_rfl
theorem p_state_New_r15_eq (s1 : BitVec 64) (s2 : Int) (s3 : Int) (s4 : Splan_Plan) (s5 : Int) (s6 : Int) (s7 : Int) (s8 : Int) (s9 : Int) (s10 : Int) (s11 : Int) (s12 : Int) (s13 : Int) (s14 : BitVec 64) (s15 : Int) (s16 : Stint_Tint) (s17 : Int) (s18 : Int) (s19 : Bool) (s20 : Bool) (s21 : Int) (s22 : Int) (s23 : Int) (s24 : Int) (s25 : Sstate_Detect) (s26 : Splan_Plan) (s27 : Int) (s28 : Stint_Tint) (s29 : Int) (s30 : Int) (s31 : Bool) (s32 : Bool) (s33 : Int) (s34 : Sledger_Ledger) (s35 : Sstate_Detect) (s36 : List Int) (s37 : List (List Int)) (s38 : List (List Int)) (s39 : List (List Scode_Op)) (s40 : List Spick_Pick) (s41 : List (List Int)) (s42 : List (BitVec 64)) (s43 : List (List Int)) (s44 : List Int) (s45 : List Int) (s46 : List Sstate_Worker) (s47 : List Sstate_Mutator) (s48 : List (List Int)) (s49 : List (BitVec 64)) (s50 : List (List Int)) (s51 : List Int) (s52 : List Sstate_Worker) (s53 : List Sstate_Mutator) : p_state_New_r15 (s1, s2, s3, s4, s5, s6, s7, s8, s9, s10, s11, s12, s13, s14, s15, s16, s17, s18, s19, s20, s21, s22, s23, s24, s25, s26, s27, s28, s29, s30, s31, s32, s33, s34, s35, s36, s37, s38, s39, s40, s41, s42, s43, s44, s45, s46, s47, s48, s49, s50, s51, s52, s53, ()) =
  bif decide (s3 < s2) then
    (room (s36 ++ (([(w64 (s3 + 1))] : List Int)))).bind fun l1 =>
    some (.again (s1, s2, w64 (s3 + 1), s4, s5, s6, s7, s8, s9, s10, s11, s12, s13, s14, s15, s16, s17, s18, s19, s20, s21, s22, s23, s24, s25, s26, s27, s28, s29, s30, s31, s32, s33, s34, s35, l1, s37, s38, s39, s40, s41, s42, s43, s44, s45, s46, s47, s48, s49, s50, s51, s52, s53, ()))
  else
    some (.brk (s1, s4, s5, s6, s7, s8, s9, s10, s11, s12, s13, s14, s15, s16, s17, s18, s19, s20, s21, s22, s23, s24, s25, s26, s27, s28, s29, s30, s31, s32, s33, s34, s35, s36, s37, s38, s39, s40, s41, s42, s43, s44, s45, s46, s47, s48, s49, s50, s51, s52, s53, ())) := by kernel_rfl
theorem p_state_New_r20_eq (y : List Int) (s1 : Splan_Plan) (s2 : Int) (s3 : Int) (s4 : Int) (s5 : Int) (s6 : Int) (s7 : Int) (s8 : Int) (s9 : Int) (s10 : Int) (s11 : BitVec 64) (s12 : Int) (s13 : Stint_Tint) (s14 : Int) (s15 : Int) (s16 : Bool) (s17 : Bool) (s18 : Int) (s19 : Int) (s20 : Int) (s21 : Int) (s22 : Sstate_Detect) (s23 : Splan_Plan) (s24 : Int) (s25 : Stint_Tint) (s26 : Int) (s27 : Int) (s28 : Bool) (s29 : Bool) (s30 : Int) (s31 : Sledger_Ledger) (s32 : Sstate_Detect) (s33 : List Int) (s34 : List (List Int)) (s35 : List (List Int)) (s36 : List (List Scode_Op)) (s37 : List Spick_Pick) (s38 : List (List Int)) (s39 : List (BitVec 64)) (s40 : List (List Int)) (s41 : List Int) (s42 : List Int) (s43 : List Sstate_Worker) (s44 : List Sstate_Mutator) (s45 : List (List Int)) (s46 : List (BitVec 64)) (s47 : List (List Int)) (s48 : List Int) (s49 : List Sstate_Worker) (s50 : List Sstate_Mutator) : p_state_New_r20 y (s1, s2, s3, s4, s5, s6, s7, s8, s9, s10, s11, s12, s13, s14, s15, s16, s17, s18, s19, s20, s21, s22, s23, s24, s25, s26, s27, s28, s29, s30, s31, s32, s33, s34, s35, s36, s37, s38, s39, s40, s41, s42, s43, s44, s45, s46, s47, s48, s49, s50, ()) =
  (q_slices_Clone_Lint_int y).bind fun (y1 : (List Int) × Unit) =>
  (room (s47 ++ (([y1.1] : List (List Int))))).bind fun l2 =>
  some (s1, s2, s3, s4, s5, s6, s7, s8, s9, s10, s11, s12, s13, s14, s15, s16, s17, s18, s19, s20, s21, s22, s23, s24, s25, s26, s27, s28, s29, s30, s31, s32, s33, s34, s35, s36, s37, s38, s39, s40, s41, s42, s43, s44, s45, s46, l2, s48, s49, s50, ()) := by kernel_rfl
theorem p_state_New_r28_eq (s1 : List (List Int)) (s2 : Int) (s3 : Int) (s4 : Int) (s5 : Int) (s6 : Int) (s7 : Int) (s8 : Int) (s9 : Int) (s10 : Int) (s11 : Int) (s12 : Int) (s13 : BitVec 64) (s14 : Int) (s15 : Stint_Tint) (s16 : Int) (s17 : Int) (s18 : Bool) (s19 : Bool) (s20 : Int) (s21 : Int) (s22 : Int) (s23 : Int) (s24 : Sstate_Detect) (s25 : Splan_Plan) (s26 : Int) (s27 : List (BitVec 64)) (s28 : Stint_Tint) (s29 : Int) (s30 : Int) (s31 : Bool) (s32 : Bool) (s33 : Int) (s34 : Sledger_Ledger) (s35 : Sstate_Detect) (s36 : List (List Int)) (s37 : List (List Int)) (s38 : List (List Scode_Op)) (s39 : List Spick_Pick) (s40 : List (List Int)) (s41 : List (BitVec 64)) (s42 : List (List Int)) (s43 : List Int) (s44 : List Int) (s45 : List Sstate_Worker) (s46 : List Sstate_Mutator) (s47 : List (List Int)) (s48 : List (List Int)) (s49 : List Int) (s50 : List Sstate_Worker) (s51 : List Sstate_Mutator) : p_state_New_r28 (s1, s2, s3, s4, s5, s6, s7, s8, s9, s10, s11, s12, s13, s14, s15, s16, s17, s18, s19, s20, s21, s22, s23, s24, s25, s26, s27, s28, s29, s30, s31, s32, s33, s34, s35, s36, s37, s38, s39, s40, s41, s42, s43, s44, s45, s46, s47, s48, s49, s50, s51, ()) =
  bif decide (s3 < s2) then
    (idx s1 s3).bind fun x1 =>
    (q_slices_Clone_Lint_int x1).bind fun (y2 : (List Int) × Unit) =>
    (room (s51 ++ (([(Sstate_Mutator.mk 0 0 0 0 0 0 0 0 y2.1 (([] : List Int)) (([] : List Int)) (Schain_Machine.mk 0 0 0 0 0#64 0 0 0) (Sstate_Grey.mk 0 0 0 0 (Sdeque_Machine.mk 0 0 0 0 0#64 0#64 0 0) (Schain_Machine.mk 0 0 0 0 0#64 0 0 0) 0 0))] : List Sstate_Mutator)))).bind fun l3 =>
    some (.again (s1, s2, w64 (s3 + 1), s4, s5, s6, s7, s8, s9, s10, s11, s12, s13, s14, s15, s16, s17, s18, s19, s20, s21, s22, s23, s24, s25, s26, s27, s28, s29, s30, s31, s32, s33, s34, s35, s36, s37, s38, s39, s40, s41, s42, s43, s44, s45, s46, s47, s48, s49, s50, l3, ()))
  else
    some (.brk (s4, s5, s6, s7, s8, s9, s10, s11, s12, s13, s14, s15, s16, s17, s18, s19, s20, s21, s22, s23, s24, s25, s26, s27, s28, s29, s30, s31, s32, s33, s34, s35, s36, s37, s38, s39, s40, s41, s42, s43, s44, s45, s46, s47, s48, s49, s50, s51, ())) := by kernel_rfl
theorem q_state_New_eq (a1 : Splan_Plan) : q_state_New a1 =
  (q_plan_Right a1).bind fun (y1 : Bool × Unit) =>
  bif !y1.1 then
    some (Sstate_State.mk (Splan_Plan.mk 0 0 0 0 0 0 0 0 (Sheap_Heap.mk 0 (([] : List (List Int)))) 0#64 (([] : List (List Int))) (([] : List (List Scode_Op))) (([] : List Spick_Pick))) (Sheap_Heap.mk 0 (([] : List (List Int)))) (([] : List (BitVec 64))) (([] : List (List Int))) (Stint_Tint.mk 0#64 0#64) 0 0 false false 0 (([] : List Int)) (Sledger_Ledger.mk 0 0 0 (([] : List Int))) (([] : List Sstate_Worker)) (([] : List Sstate_Mutator)) (Sstate_Detect.mk 0 0), ())
  else
    (q_plan_Greys a1).bind fun (y2 : (BitVec 64) × Unit) =>
    (q_set_Count y2.1).bind fun (y3 : Int × Unit) =>
    (q_ledger_New a1.Mutators).bind fun (y4 : Sledger_Ledger × Unit) =>
    (q_state_each_Lint a1.H.Objs).bind fun (y5 : (List (List Int)) × Unit) =>
    (loopF p_state_New_r7 (y2.1, a1.Workers, 0, a1, 0, 0, 0, 0, 0, 0, 0, 0, 0, 0#64, 0, Stint_Tint.mk 0#64 0#64, 0, 0, false, false, 0, 0, 0, 0, Sstate_Detect.mk 0 0, a1, a1.H.Slots, Stint_Tint.mk y2.1 0#64, y3.1, 0, false, false, 0, y4.1, Sstate_Detect.mk 0 0, ([] : List (List Int)), ([] : List (List Int)), ([] : List (List Scode_Op)), ([] : List Spick_Pick), ([] : List (List Int)), ([] : List (BitVec 64)), ([] : List (List Int)), ([] : List Int), ([] : List Int), ([] : List Sstate_Worker), ([] : List Sstate_Mutator), y5.1, ([] : List (BitVec 64)), ([([] : List Int)] : List (List Int)), ([] : List Int), ([] : List Sstate_Worker), ([] : List Sstate_Mutator), ())).bind fun st => match st with
      | .again _ => none
      | .brk (y6 : (BitVec 64) × Splan_Plan × Int × Int × Int × Int × Int × Int × Int × Int × Int × (BitVec 64) × Int × Stint_Tint × Int × Int × Bool × Bool × Int × Int × Int × Int × Sstate_Detect × Splan_Plan × Int × Stint_Tint × Int × Int × Bool × Bool × Int × Sledger_Ledger × Sstate_Detect × (List (List Int)) × (List (List Int)) × (List (List Scode_Op)) × (List Spick_Pick) × (List (List Int)) × (List (BitVec 64)) × (List (List Int)) × (List Int) × (List Int) × (List Sstate_Worker) × (List Sstate_Mutator) × (List (List Int)) × (List (BitVec 64)) × (List (List Int)) × (List Int) × (List Sstate_Worker) × (List Sstate_Mutator) × Unit) =>
        (q_plan_Bins y6.2.1).bind fun (y7 : Int × Unit) =>
        (count1 (w64 (2 + y7.1))).bind fun n8 =>
        (room (y6.2.2.2.2.2.2.2.2.2.2.2.2.2.2.2.2.2.2.2.2.2.2.2.2.2.2.2.2.2.2.2.2.2.2.2.2.2.2.2.2.2.2.2.2.2.1 ++ (List.replicate n8 0#64))).bind fun l9 =>
        (q_plan_Bins y6.2.1).bind fun (y10 : Int × Unit) =>
        (loopF p_state_New_r15 (y6.1, y10.1, 0, y6.2.1, y6.2.2.1, y6.2.2.2.1, y6.2.2.2.2.1, y6.2.2.2.2.2.1, y6.2.2.2.2.2.2.1, y6.2.2.2.2.2.2.2.1, y6.2.2.2.2.2.2.2.2.1, y6.2.2.2.2.2.2.2.2.2.1, y6.2.2.2.2.2.2.2.2.2.2.1, y6.2.2.2.2.2.2.2.2.2.2.2.1, y6.2.2.2.2.2.2.2.2.2.2.2.2.1, y6.2.2.2.2.2.2.2.2.2.2.2.2.2.1, y6.2.2.2.2.2.2.2.2.2.2.2.2.2.2.1, y6.2.2.2.2.2.2.2.2.2.2.2.2.2.2.2.1, y6.2.2.2.2.2.2.2.2.2.2.2.2.2.2.2.2.1, y6.2.2.2.2.2.2.2.2.2.2.2.2.2.2.2.2.2.1, y6.2.2.2.2.2.2.2.2.2.2.2.2.2.2.2.2.2.2.1, y6.2.2.2.2.2.2.2.2.2.2.2.2.2.2.2.2.2.2.2.1, y6.2.2.2.2.2.2.2.2.2.2.2.2.2.2.2.2.2.2.2.2.1, y6.2.2.2.2.2.2.2.2.2.2.2.2.2.2.2.2.2.2.2.2.2.1, y6.2.2.2.2.2.2.2.2.2.2.2.2.2.2.2.2.2.2.2.2.2.2.1, y6.2.2.2.2.2.2.2.2.2.2.2.2.2.2.2.2.2.2.2.2.2.2.2.1, y6.2.2.2.2.2.2.2.2.2.2.2.2.2.2.2.2.2.2.2.2.2.2.2.2.1, y6.2.2.2.2.2.2.2.2.2.2.2.2.2.2.2.2.2.2.2.2.2.2.2.2.2.1, y6.2.2.2.2.2.2.2.2.2.2.2.2.2.2.2.2.2.2.2.2.2.2.2.2.2.2.1, y6.2.2.2.2.2.2.2.2.2.2.2.2.2.2.2.2.2.2.2.2.2.2.2.2.2.2.2.1, y6.2.2.2.2.2.2.2.2.2.2.2.2.2.2.2.2.2.2.2.2.2.2.2.2.2.2.2.2.1, y6.2.2.2.2.2.2.2.2.2.2.2.2.2.2.2.2.2.2.2.2.2.2.2.2.2.2.2.2.2.1, y6.2.2.2.2.2.2.2.2.2.2.2.2.2.2.2.2.2.2.2.2.2.2.2.2.2.2.2.2.2.2.1, y6.2.2.2.2.2.2.2.2.2.2.2.2.2.2.2.2.2.2.2.2.2.2.2.2.2.2.2.2.2.2.2.1, y6.2.2.2.2.2.2.2.2.2.2.2.2.2.2.2.2.2.2.2.2.2.2.2.2.2.2.2.2.2.2.2.2.1, ([] : List Int), y6.2.2.2.2.2.2.2.2.2.2.2.2.2.2.2.2.2.2.2.2.2.2.2.2.2.2.2.2.2.2.2.2.2.1, y6.2.2.2.2.2.2.2.2.2.2.2.2.2.2.2.2.2.2.2.2.2.2.2.2.2.2.2.2.2.2.2.2.2.2.1, y6.2.2.2.2.2.2.2.2.2.2.2.2.2.2.2.2.2.2.2.2.2.2.2.2.2.2.2.2.2.2.2.2.2.2.2.1, y6.2.2.2.2.2.2.2.2.2.2.2.2.2.2.2.2.2.2.2.2.2.2.2.2.2.2.2.2.2.2.2.2.2.2.2.2.1, y6.2.2.2.2.2.2.2.2.2.2.2.2.2.2.2.2.2.2.2.2.2.2.2.2.2.2.2.2.2.2.2.2.2.2.2.2.2.1, y6.2.2.2.2.2.2.2.2.2.2.2.2.2.2.2.2.2.2.2.2.2.2.2.2.2.2.2.2.2.2.2.2.2.2.2.2.2.2.1, y6.2.2.2.2.2.2.2.2.2.2.2.2.2.2.2.2.2.2.2.2.2.2.2.2.2.2.2.2.2.2.2.2.2.2.2.2.2.2.2.1, y6.2.2.2.2.2.2.2.2.2.2.2.2.2.2.2.2.2.2.2.2.2.2.2.2.2.2.2.2.2.2.2.2.2.2.2.2.2.2.2.2.1, y6.2.2.2.2.2.2.2.2.2.2.2.2.2.2.2.2.2.2.2.2.2.2.2.2.2.2.2.2.2.2.2.2.2.2.2.2.2.2.2.2.2.1, y6.2.2.2.2.2.2.2.2.2.2.2.2.2.2.2.2.2.2.2.2.2.2.2.2.2.2.2.2.2.2.2.2.2.2.2.2.2.2.2.2.2.2.1, y6.2.2.2.2.2.2.2.2.2.2.2.2.2.2.2.2.2.2.2.2.2.2.2.2.2.2.2.2.2.2.2.2.2.2.2.2.2.2.2.2.2.2.2.1, y6.2.2.2.2.2.2.2.2.2.2.2.2.2.2.2.2.2.2.2.2.2.2.2.2.2.2.2.2.2.2.2.2.2.2.2.2.2.2.2.2.2.2.2.2.1, l9, y6.2.2.2.2.2.2.2.2.2.2.2.2.2.2.2.2.2.2.2.2.2.2.2.2.2.2.2.2.2.2.2.2.2.2.2.2.2.2.2.2.2.2.2.2.2.2.1, y6.2.2.2.2.2.2.2.2.2.2.2.2.2.2.2.2.2.2.2.2.2.2.2.2.2.2.2.2.2.2.2.2.2.2.2.2.2.2.2.2.2.2.2.2.2.2.2.1, y6.2.2.2.2.2.2.2.2.2.2.2.2.2.2.2.2.2.2.2.2.2.2.2.2.2.2.2.2.2.2.2.2.2.2.2.2.2.2.2.2.2.2.2.2.2.2.2.2.1, y6.2.2.2.2.2.2.2.2.2.2.2.2.2.2.2.2.2.2.2.2.2.2.2.2.2.2.2.2.2.2.2.2.2.2.2.2.2.2.2.2.2.2.2.2.2.2.2.2.2.1, ())).bind fun st => match st with
          | .again _ => none
          | .brk (y11 : (BitVec 64) × Splan_Plan × Int × Int × Int × Int × Int × Int × Int × Int × Int × (BitVec 64) × Int × Stint_Tint × Int × Int × Bool × Bool × Int × Int × Int × Int × Sstate_Detect × Splan_Plan × Int × Stint_Tint × Int × Int × Bool × Bool × Int × Sledger_Ledger × Sstate_Detect × (List Int) × (List (List Int)) × (List (List Int)) × (List (List Scode_Op)) × (List Spick_Pick) × (List (List Int)) × (List (BitVec 64)) × (List (List Int)) × (List Int) × (List Int) × (List Sstate_Worker) × (List Sstate_Mutator) × (List (List Int)) × (List (BitVec 64)) × (List (List Int)) × (List Int) × (List Sstate_Worker) × (List Sstate_Mutator) × Unit) =>
            (q_set_List y11.1).bind fun (y12 : (List Int) × Unit) =>
            (q_slices_Chunk_Lint_int y12.1 y11.2.1.Bin).bind fun (y13 : (List Int) × Int × Unit) =>
            (j_slices_Chunk_Lint_int_F1 y13.1 y13.2.1).bind fun (ys14 : List (List Int)) =>
            (foldY p_state_New_r20 ys14 (y11.2.1, y11.2.2.1, y11.2.2.2.1, y11.2.2.2.2.1, y11.2.2.2.2.2.1, y11.2.2.2.2.2.2.1, y11.2.2.2.2.2.2.2.1, y11.2.2.2.2.2.2.2.2.1, y11.2.2.2.2.2.2.2.2.2.1, y11.2.2.2.2.2.2.2.2.2.2.1, y11.2.2.2.2.2.2.2.2.2.2.2.1, y11.2.2.2.2.2.2.2.2.2.2.2.2.1, y11.2.2.2.2.2.2.2.2.2.2.2.2.2.1, y11.2.2.2.2.2.2.2.2.2.2.2.2.2.2.1, y11.2.2.2.2.2.2.2.2.2.2.2.2.2.2.2.1, y11.2.2.2.2.2.2.2.2.2.2.2.2.2.2.2.2.1, y11.2.2.2.2.2.2.2.2.2.2.2.2.2.2.2.2.2.1, y11.2.2.2.2.2.2.2.2.2.2.2.2.2.2.2.2.2.2.1, y11.2.2.2.2.2.2.2.2.2.2.2.2.2.2.2.2.2.2.2.1, y11.2.2.2.2.2.2.2.2.2.2.2.2.2.2.2.2.2.2.2.2.1, y11.2.2.2.2.2.2.2.2.2.2.2.2.2.2.2.2.2.2.2.2.2.1, y11.2.2.2.2.2.2.2.2.2.2.2.2.2.2.2.2.2.2.2.2.2.2.1, y11.2.2.2.2.2.2.2.2.2.2.2.2.2.2.2.2.2.2.2.2.2.2.2.1, y11.2.2.2.2.2.2.2.2.2.2.2.2.2.2.2.2.2.2.2.2.2.2.2.2.1, y11.2.2.2.2.2.2.2.2.2.2.2.2.2.2.2.2.2.2.2.2.2.2.2.2.2.1, y11.2.2.2.2.2.2.2.2.2.2.2.2.2.2.2.2.2.2.2.2.2.2.2.2.2.2.1, y11.2.2.2.2.2.2.2.2.2.2.2.2.2.2.2.2.2.2.2.2.2.2.2.2.2.2.2.1, y11.2.2.2.2.2.2.2.2.2.2.2.2.2.2.2.2.2.2.2.2.2.2.2.2.2.2.2.2.1, y11.2.2.2.2.2.2.2.2.2.2.2.2.2.2.2.2.2.2.2.2.2.2.2.2.2.2.2.2.2.1, y11.2.2.2.2.2.2.2.2.2.2.2.2.2.2.2.2.2.2.2.2.2.2.2.2.2.2.2.2.2.2.1, y11.2.2.2.2.2.2.2.2.2.2.2.2.2.2.2.2.2.2.2.2.2.2.2.2.2.2.2.2.2.2.2.1, y11.2.2.2.2.2.2.2.2.2.2.2.2.2.2.2.2.2.2.2.2.2.2.2.2.2.2.2.2.2.2.2.2.1, y11.2.2.2.2.2.2.2.2.2.2.2.2.2.2.2.2.2.2.2.2.2.2.2.2.2.2.2.2.2.2.2.2.2.1, y11.2.2.2.2.2.2.2.2.2.2.2.2.2.2.2.2.2.2.2.2.2.2.2.2.2.2.2.2.2.2.2.2.2.2.1, y11.2.2.2.2.2.2.2.2.2.2.2.2.2.2.2.2.2.2.2.2.2.2.2.2.2.2.2.2.2.2.2.2.2.2.2.1, y11.2.2.2.2.2.2.2.2.2.2.2.2.2.2.2.2.2.2.2.2.2.2.2.2.2.2.2.2.2.2.2.2.2.2.2.2.1, y11.2.2.2.2.2.2.2.2.2.2.2.2.2.2.2.2.2.2.2.2.2.2.2.2.2.2.2.2.2.2.2.2.2.2.2.2.2.1, y11.2.2.2.2.2.2.2.2.2.2.2.2.2.2.2.2.2.2.2.2.2.2.2.2.2.2.2.2.2.2.2.2.2.2.2.2.2.2.1, y11.2.2.2.2.2.2.2.2.2.2.2.2.2.2.2.2.2.2.2.2.2.2.2.2.2.2.2.2.2.2.2.2.2.2.2.2.2.2.2.1, y11.2.2.2.2.2.2.2.2.2.2.2.2.2.2.2.2.2.2.2.2.2.2.2.2.2.2.2.2.2.2.2.2.2.2.2.2.2.2.2.2.1, y11.2.2.2.2.2.2.2.2.2.2.2.2.2.2.2.2.2.2.2.2.2.2.2.2.2.2.2.2.2.2.2.2.2.2.2.2.2.2.2.2.2.1, y11.2.2.2.2.2.2.2.2.2.2.2.2.2.2.2.2.2.2.2.2.2.2.2.2.2.2.2.2.2.2.2.2.2.2.2.2.2.2.2.2.2.2.1, y11.2.2.2.2.2.2.2.2.2.2.2.2.2.2.2.2.2.2.2.2.2.2.2.2.2.2.2.2.2.2.2.2.2.2.2.2.2.2.2.2.2.2.2.1, y11.2.2.2.2.2.2.2.2.2.2.2.2.2.2.2.2.2.2.2.2.2.2.2.2.2.2.2.2.2.2.2.2.2.2.2.2.2.2.2.2.2.2.2.2.1, y11.2.2.2.2.2.2.2.2.2.2.2.2.2.2.2.2.2.2.2.2.2.2.2.2.2.2.2.2.2.2.2.2.2.2.2.2.2.2.2.2.2.2.2.2.2.1, y11.2.2.2.2.2.2.2.2.2.2.2.2.2.2.2.2.2.2.2.2.2.2.2.2.2.2.2.2.2.2.2.2.2.2.2.2.2.2.2.2.2.2.2.2.2.2.1, y11.2.2.2.2.2.2.2.2.2.2.2.2.2.2.2.2.2.2.2.2.2.2.2.2.2.2.2.2.2.2.2.2.2.2.2.2.2.2.2.2.2.2.2.2.2.2.2.1, y11.2.2.2.2.2.2.2.2.2.2.2.2.2.2.2.2.2.2.2.2.2.2.2.2.2.2.2.2.2.2.2.2.2.2.2.2.2.2.2.2.2.2.2.2.2.2.2.2.1, y11.2.2.2.2.2.2.2.2.2.2.2.2.2.2.2.2.2.2.2.2.2.2.2.2.2.2.2.2.2.2.2.2.2.2.2.2.2.2.2.2.2.2.2.2.2.2.2.2.2.1, y11.2.2.2.2.2.2.2.2.2.2.2.2.2.2.2.2.2.2.2.2.2.2.2.2.2.2.2.2.2.2.2.2.2.2.2.2.2.2.2.2.2.2.2.2.2.2.2.2.2.2.1, ())).bind fun (y15 : Splan_Plan × Int × Int × Int × Int × Int × Int × Int × Int × Int × (BitVec 64) × Int × Stint_Tint × Int × Int × Bool × Bool × Int × Int × Int × Int × Sstate_Detect × Splan_Plan × Int × Stint_Tint × Int × Int × Bool × Bool × Int × Sledger_Ledger × Sstate_Detect × (List Int) × (List (List Int)) × (List (List Int)) × (List (List Scode_Op)) × (List Spick_Pick) × (List (List Int)) × (List (BitVec 64)) × (List (List Int)) × (List Int) × (List Int) × (List Sstate_Worker) × (List Sstate_Mutator) × (List (List Int)) × (List (BitVec 64)) × (List (List Int)) × (List Int) × (List Sstate_Worker) × (List Sstate_Mutator) × Unit) =>
            (count1 (w64 (((y15.2.2.2.2.2.2.2.2.2.2.2.2.2.2.2.2.2.2.2.2.2.2.2.2.2.2.2.2.2.2.2.2.1.length : Int)) - (w64 (((y15.2.2.2.2.2.2.2.2.2.2.2.2.2.2.2.2.2.2.2.2.2.2.2.2.2.2.2.2.2.2.2.2.2.2.2.2.2.2.2.2.2.2.2.2.2.2.1.length : Int)) - 1))))).bind fun n16 =>
            (room (y15.2.2.2.2.2.2.2.2.2.2.2.2.2.2.2.2.2.2.2.2.2.2.2.2.2.2.2.2.2.2.2.2.2.2.2.2.2.2.2.2.2.2.2.2.2.2.1 ++ (List.replicate n16 ([] : List Int)))).bind fun l17 =>
            (q_state_Full y15.1).bind fun (y18 : Int × Unit) =>
            (q_state_Next y15.1).bind fun (y19 : Int × Unit) =>
            (cut y15.2.2.2.2.2.2.2.2.2.2.2.2.2.2.2.2.2.2.2.2.2.2.2.2.2.2.2.2.2.2.2.2.1 0 (w64 (((y15.2.2.2.2.2.2.2.2.2.2.2.2.2.2.2.2.2.2.2.2.2.2.2.2.2.2.2.2.2.2.2.2.2.2.2.2.2.2.2.2.2.2.2.2.2.2.1.length : Int)) - 1))).bind fun l20 =>
            (q_chain_Lay y15.2.2.2.2.2.2.2.2.2.2.2.2.2.2.2.2.2.2.2.2.2.2.2.2.2.2.2.2.2.2.2.2.2.2.2.2.2.2.2.2.2.2.2.2.2.1 y18.1 y19.1 l20).bind fun (y21 : (List (BitVec 64)) × Unit) =>
            (q_state_Empty y15.1).bind fun (y22 : Int × Unit) =>
            (q_state_Next y15.1).bind fun (y23 : Int × Unit) =>
            (cut y15.2.2.2.2.2.2.2.2.2.2.2.2.2.2.2.2.2.2.2.2.2.2.2.2.2.2.2.2.2.2.2.2.1 (w64 (((y15.2.2.2.2.2.2.2.2.2.2.2.2.2.2.2.2.2.2.2.2.2.2.2.2.2.2.2.2.2.2.2.2.2.2.2.2.2.2.2.2.2.2.2.2.2.2.1.length : Int)) - 1)) ((y15.2.2.2.2.2.2.2.2.2.2.2.2.2.2.2.2.2.2.2.2.2.2.2.2.2.2.2.2.2.2.2.2.1.length : Int))).bind fun l24 =>
            (q_chain_Lay y21.1 y22.1 y23.1 l24).bind fun (y25 : (List (BitVec 64)) × Unit) =>
            bif decide (y15.1.Mutators = y15.1.Mutators) then
              (count y15.1.Mutators).bind fun n26 =>
              (loopF p_state_New_r28 (y15.1.Regs, (y15.1.Regs.length : Int), 0, y15.2.1, y15.2.2.1, y15.2.2.2.1, y15.2.2.2.2.1, y15.2.2.2.2.2.1, y15.2.2.2.2.2.2.1, y15.2.2.2.2.2.2.2.1, y15.2.2.2.2.2.2.2.2.1, y15.2.2.2.2.2.2.2.2.2.1, y15.2.2.2.2.2.2.2.2.2.2.1, y15.2.2.2.2.2.2.2.2.2.2.2.1, y15.2.2.2.2.2.2.2.2.2.2.2.2.1, y15.2.2.2.2.2.2.2.2.2.2.2.2.2.1, y15.2.2.2.2.2.2.2.2.2.2.2.2.2.2.1, y15.2.2.2.2.2.2.2.2.2.2.2.2.2.2.2.1, y15.2.2.2.2.2.2.2.2.2.2.2.2.2.2.2.2.1, y15.2.2.2.2.2.2.2.2.2.2.2.2.2.2.2.2.2.1, y15.2.2.2.2.2.2.2.2.2.2.2.2.2.2.2.2.2.2.1, y15.2.2.2.2.2.2.2.2.2.2.2.2.2.2.2.2.2.2.2.1, y15.2.2.2.2.2.2.2.2.2.2.2.2.2.2.2.2.2.2.2.2.1, y15.2.2.2.2.2.2.2.2.2.2.2.2.2.2.2.2.2.2.2.2.2.1, y15.2.2.2.2.2.2.2.2.2.2.2.2.2.2.2.2.2.2.2.2.2.2.1, y15.2.2.2.2.2.2.2.2.2.2.2.2.2.2.2.2.2.2.2.2.2.2.2.1, y25.1, y15.2.2.2.2.2.2.2.2.2.2.2.2.2.2.2.2.2.2.2.2.2.2.2.2.1, y15.2.2.2.2.2.2.2.2.2.2.2.2.2.2.2.2.2.2.2.2.2.2.2.2.2.1, y15.2.2.2.2.2.2.2.2.2.2.2.2.2.2.2.2.2.2.2.2.2.2.2.2.2.2.1, y15.2.2.2.2.2.2.2.2.2.2.2.2.2.2.2.2.2.2.2.2.2.2.2.2.2.2.2.1, y15.2.2.2.2.2.2.2.2.2.2.2.2.2.2.2.2.2.2.2.2.2.2.2.2.2.2.2.2.1, y15.2.2.2.2.2.2.2.2.2.2.2.2.2.2.2.2.2.2.2.2.2.2.2.2.2.2.2.2.2.1, y15.2.2.2.2.2.2.2.2.2.2.2.2.2.2.2.2.2.2.2.2.2.2.2.2.2.2.2.2.2.2.1, y15.2.2.2.2.2.2.2.2.2.2.2.2.2.2.2.2.2.2.2.2.2.2.2.2.2.2.2.2.2.2.2.1, y15.2.2.2.2.2.2.2.2.2.2.2.2.2.2.2.2.2.2.2.2.2.2.2.2.2.2.2.2.2.2.2.2.2.1, y15.2.2.2.2.2.2.2.2.2.2.2.2.2.2.2.2.2.2.2.2.2.2.2.2.2.2.2.2.2.2.2.2.2.2.1, y15.2.2.2.2.2.2.2.2.2.2.2.2.2.2.2.2.2.2.2.2.2.2.2.2.2.2.2.2.2.2.2.2.2.2.2.1, y15.2.2.2.2.2.2.2.2.2.2.2.2.2.2.2.2.2.2.2.2.2.2.2.2.2.2.2.2.2.2.2.2.2.2.2.2.1, y15.2.2.2.2.2.2.2.2.2.2.2.2.2.2.2.2.2.2.2.2.2.2.2.2.2.2.2.2.2.2.2.2.2.2.2.2.2.1, y15.2.2.2.2.2.2.2.2.2.2.2.2.2.2.2.2.2.2.2.2.2.2.2.2.2.2.2.2.2.2.2.2.2.2.2.2.2.2.1, y15.2.2.2.2.2.2.2.2.2.2.2.2.2.2.2.2.2.2.2.2.2.2.2.2.2.2.2.2.2.2.2.2.2.2.2.2.2.2.2.1, y15.2.2.2.2.2.2.2.2.2.2.2.2.2.2.2.2.2.2.2.2.2.2.2.2.2.2.2.2.2.2.2.2.2.2.2.2.2.2.2.2.1, y15.2.2.2.2.2.2.2.2.2.2.2.2.2.2.2.2.2.2.2.2.2.2.2.2.2.2.2.2.2.2.2.2.2.2.2.2.2.2.2.2.2.1, y15.2.2.2.2.2.2.2.2.2.2.2.2.2.2.2.2.2.2.2.2.2.2.2.2.2.2.2.2.2.2.2.2.2.2.2.2.2.2.2.2.2.2.1, y15.2.2.2.2.2.2.2.2.2.2.2.2.2.2.2.2.2.2.2.2.2.2.2.2.2.2.2.2.2.2.2.2.2.2.2.2.2.2.2.2.2.2.2.1, y15.2.2.2.2.2.2.2.2.2.2.2.2.2.2.2.2.2.2.2.2.2.2.2.2.2.2.2.2.2.2.2.2.2.2.2.2.2.2.2.2.2.2.2.2.1, l17, List.replicate n26 0, y15.2.2.2.2.2.2.2.2.2.2.2.2.2.2.2.2.2.2.2.2.2.2.2.2.2.2.2.2.2.2.2.2.2.2.2.2.2.2.2.2.2.2.2.2.2.2.2.2.1, y15.2.2.2.2.2.2.2.2.2.2.2.2.2.2.2.2.2.2.2.2.2.2.2.2.2.2.2.2.2.2.2.2.2.2.2.2.2.2.2.2.2.2.2.2.2.2.2.2.2.1, ())).bind fun st => match st with
                | .again _ => none
                | .brk (y27 : Int × Int × Int × Int × Int × Int × Int × Int × Int × (BitVec 64) × Int × Stint_Tint × Int × Int × Bool × Bool × Int × Int × Int × Int × Sstate_Detect × Splan_Plan × Int × (List (BitVec 64)) × Stint_Tint × Int × Int × Bool × Bool × Int × Sledger_Ledger × Sstate_Detect × (List (List Int)) × (List (List Int)) × (List (List Scode_Op)) × (List Spick_Pick) × (List (List Int)) × (List (BitVec 64)) × (List (List Int)) × (List Int) × (List Int) × (List Sstate_Worker) × (List Sstate_Mutator) × (List (List Int)) × (List (List Int)) × (List Int) × (List Sstate_Worker) × (List Sstate_Mutator) × Unit) =>
                  some (Sstate_State.mk y27.2.2.2.2.2.2.2.2.2.2.2.2.2.2.2.2.2.2.2.2.2.1 (Sheap_Heap.mk y27.2.2.2.2.2.2.2.2.2.2.2.2.2.2.2.2.2.2.2.2.2.2.1 y27.2.2.2.2.2.2.2.2.2.2.2.2.2.2.2.2.2.2.2.2.2.2.2.2.2.2.2.2.2.2.2.2.2.2.2.2.2.2.2.2.2.2.2.1) y27.2.2.2.2.2.2.2.2.2.2.2.2.2.2.2.2.2.2.2.2.2.2.2.1 y27.2.2.2.2.2.2.2.2.2.2.2.2.2.2.2.2.2.2.2.2.2.2.2.2.2.2.2.2.2.2.2.2.2.2.2.2.2.2.2.2.2.2.2.2.1 y27.2.2.2.2.2.2.2.2.2.2.2.2.2.2.2.2.2.2.2.2.2.2.2.2.1 y27.2.2.2.2.2.2.2.2.2.2.2.2.2.2.2.2.2.2.2.2.2.2.2.2.2.1 y27.2.2.2.2.2.2.2.2.2.2.2.2.2.2.2.2.2.2.2.2.2.2.2.2.2.2.1 y27.2.2.2.2.2.2.2.2.2.2.2.2.2.2.2.2.2.2.2.2.2.2.2.2.2.2.2.1 y27.2.2.2.2.2.2.2.2.2.2.2.2.2.2.2.2.2.2.2.2.2.2.2.2.2.2.2.2.1 y27.2.2.2.2.2.2.2.2.2.2.2.2.2.2.2.2.2.2.2.2.2.2.2.2.2.2.2.2.2.1 y27.2.2.2.2.2.2.2.2.2.2.2.2.2.2.2.2.2.2.2.2.2.2.2.2.2.2.2.2.2.2.2.2.2.2.2.2.2.2.2.2.2.2.2.2.2.1 y27.2.2.2.2.2.2.2.2.2.2.2.2.2.2.2.2.2.2.2.2.2.2.2.2.2.2.2.2.2.2.1 y27.2.2.2.2.2.2.2.2.2.2.2.2.2.2.2.2.2.2.2.2.2.2.2.2.2.2.2.2.2.2.2.2.2.2.2.2.2.2.2.2.2.2.2.2.2.2.1 y27.2.2.2.2.2.2.2.2.2.2.2.2.2.2.2.2.2.2.2.2.2.2.2.2.2.2.2.2.2.2.2.2.2.2.2.2.2.2.2.2.2.2.2.2.2.2.2.1 y27.2.2.2.2.2.2.2.2.2.2.2.2.2.2.2.2.2.2.2.2.2.2.2.2.2.2.2.2.2.2.2.1, ())
                | .ret (y27 : Unit) =>
                  none
            else
              none
          | .ret (y11 : Unit) =>
            none
      | .ret (y6 : Unit) =>
        none := mk_is (by kernel_rfl)
theorem q_grey_Begin_eq (a1 : Int) (a2 : Int) (a3 : Int) : q_grey_Begin a1 a2 a3 =
  some (Sstate_Grey.mk 0 a1 a2 a3 (Sdeque_Machine.mk 0 0 0 0 0#64 0#64 0 0) (Schain_Machine.mk 0 0 0 0 0#64 0 0 0) 0 0, ()) := mk_is (by kernel_rfl)
theorem q_grey_machine_reserve_v1_eq (a1 : Sgrey_machine) : q_grey_machine_reserve_v1 a1 =
  some (Sgrey_machine.mk { a1.Grey with PC := 1 } { a1.s with Work := w64 (a1.s.Work + 1) }, ()) := mk_is (by kernel_rfl)
theorem q_set_Has_eq (a1 : BitVec 64) (a2 : Int) : q_set_Has a1 a2 =
  (q_set_bit a2).bind fun (y1 : (BitVec 64) × Unit) =>
  some (!(decide ((a1 &&& y1.1) = 0#64)), ()) := mk_is (by kernel_rfl)
theorem q_tint_Shade_eq (a1 : Stint_Tint) (a2 : Int) : q_tint_Shade a1 a2 =
  (q_set_Add a1.Marks a2).bind fun (y1 : (BitVec 64) × Unit) =>
  bif decide (y1.1 = a1.Marks) then
    some (a1, false, ())
  else
    (q_set_Has a1.Black a2).bind fun (y2 : Bool × Unit) =>
    bif y2.1 then
      some (a1, false, ())
    else
      some ({ a1 with Marks := y1.1 }, true, ()) := mk_is (by kernel_rfl)
theorem q_chain_Start_eq (a1 : Int) (a2 : Int) (a3 : Int) (a4 : Int) : q_chain_Start a1 a2 a3 a4 =
  some (Schain_Machine.mk a1 0 a2 a3 0#64 a4 0 0, ()) := mk_is (by kernel_rfl)
theorem q_grey_machine_ask_v1_eq (a1 : Sgrey_machine) : q_grey_machine_ask_v1 a1 =
  (q_state_Empty a1.s.P).bind fun (y1 : Int × Unit) =>
  (q_state_Next a1.s.P).bind fun (y2 : Int × Unit) =>
  (q_chain_Start 2 y1.1 y2.1 0).bind fun (y3 : Schain_Machine × Unit) =>
  some ({ a1 with Grey := { a1.Grey with PC := 5, C := y3.1 } }, ()) := mk_is (by kernel_rfl)
theorem q_grey_machine_mark_v1_eq (a1 : Sgrey_machine) : q_grey_machine_mark_v1 a1 =
  (q_tint_Shade a1.s.T a1.Grey.Obj).bind fun (y1 : Stint_Tint × Bool × Unit) =>
  bif !y1.2.1 then
    some (Sgrey_machine.mk { a1.Grey with PC := 2 } { a1.s with T := y1.1 }, ())
  else
    bif decide (a1.Grey.Mode = 1) then
      (q_state_Deque a1.s.P a1.Grey.Who).bind fun (y2 : Int × Unit) =>
      (q_deque_Start 1 y2.1 a1.s.P.Cap a1.Grey.Obj).bind fun (y3 : Sdeque_Machine × Unit) =>
      some (Sgrey_machine.mk { a1.Grey with PC := 3, D := y3.1 } { a1.s with T := y1.1 }, ())
    else
      bif decide (a1.Grey.Mode = 2) then
        some (Sgrey_machine.mk { a1.Grey with PC := 4 } { a1.s with T := y1.1 }, ())
      else
        (q_grey_machine_ask_v1 ({ a1 with s := { a1.s with T := y1.1 } })).bind fun (y4 : Sgrey_machine × Unit) =>
        some (y4.1, ()) := mk_is (by kernel_rfl)
end Go.Pe.G
namespace Go.Pe.G
open Go.Pe
theorem q_grey_machine_back_v1_eq (a1 : Sgrey_machine) : q_grey_machine_back_v1 a1 =
  some (Sgrey_machine.mk { a1.Grey with Out := 1 } { a1.s with Work := w64 (a1.s.Work - 1) }, ()) := mk_is (by kernel_rfl)
theorem q_deque_stepsa_eq (a1 : Int) : q_deque_stepsa a1 =
  bif decide (a1 = 1) then
    some (())
  else
    bif decide (a1 = 2) then
      none
    else
      bif decide (a1 = 3) then
        none
      else
        none := mk_is (by kernel_rfl)
theorem q_deque_stepsb_eq (a1 : Int) : q_deque_stepsb a1 =
  bif decide (a1 = 1) then
    none
  else
    bif decide (a1 = 2) then
      some (())
    else
      bif decide (a1 = 3) then
        none
      else
        none := mk_is (by kernel_rfl)
theorem q_deque_stepsc_eq (a1 : Int) : q_deque_stepsc a1 =
  bif decide (a1 = 1) then
    none
  else
    bif decide (a1 = 2) then
      none
    else
      bif decide (a1 = 3) then
        some (())
      else
        none := mk_is (by kernel_rfl)
theorem q_deque_stepsd_eq (a1 : Int) : q_deque_stepsd a1 =
  bif decide (a1 = 1) then
    none
  else
    bif decide (a1 = 2) then
      none
    else
      bif decide (a1 = 3) then
        none
      else
        some (([] : List Bool), ()) := mk_is (by kernel_rfl)
theorem q_deque_load_eq (a1 : List (BitVec 64)) (a2 : Int) : q_deque_load a1 a2 =
  (q_mem_Do a1 (Smem_Op.mk 1 a2 0#64 0#64)).bind fun (y1 : (List (BitVec 64)) × (BitVec 64) × Bool × Unit) =>
  some (y1.2.1, ()) := mk_is (by kernel_rfl)
theorem q_deque_Machine_bottom_eq (a1 : Sdeque_Machine) : q_deque_Machine_bottom a1 =
  some (w64 (a1.Base + 1), ()) := mk_is (by kernel_rfl)
theorem q_deque_Machine_seeBottom_v1_eq (a1 : List (BitVec 64)) (a2 : Sdeque_Machine) : q_deque_Machine_seeBottom_v1 a1 a2 =
  (q_deque_Machine_bottom a2).bind fun (y1 : Int × Unit) =>
  (q_deque_load a1 y1.1).bind fun (y2 : (BitVec 64) × Unit) =>
  some (a1, { a2 with B := y2.1 }, ()) := mk_is (by kernel_rfl)
theorem q_deque_Machine_top_eq (a1 : Sdeque_Machine) : q_deque_Machine_top a1 =
  some (a1.Base, ()) := mk_is (by kernel_rfl)
theorem q_deque_Machine_size_eq (a1 : Sdeque_Machine) : q_deque_Machine_size a1 =
  some (BitVec.ofInt 64 (bif decide (a1.Cap < 1) then 1 else a1.Cap), ()) := mk_is (by kernel_rfl)
theorem q_deque_Machine_end_v1_eq (a1 : Int) (a2 : Sdeque_Machine) : q_deque_Machine_end_v1 a1 a2 =
  bif !(decide (a1 = 1)) then
    bif !(decide (a2.Kind = 1)) then
      some ({ a2 with X := 0, Out := a1 }, ())
    else
      some ({ a2 with Out := a1 }, ())
  else
    some ({ a2 with Out := a1 }, ()) := mk_is (by kernel_rfl)
theorem q_deque_Machine_room_v1_eq (a1 : List (BitVec 64)) (a2 : Sdeque_Machine) : q_deque_Machine_room_v1 a1 a2 =
  (q_deque_Machine_top a2).bind fun (y1 : Int × Unit) =>
  (q_deque_load a1 y1.1).bind fun (y2 : (BitVec 64) × Unit) =>
  (q_deque_Machine_size ({ a2 with T := y2.1 })).bind fun (y3 : (BitVec 64) × Unit) =>
  bif decide (y3.1 ≤ (a2.B - y2.1)) then
    (q_deque_Machine_end_v1 3 ({ a2 with T := y2.1 })).bind fun (y4 : Sdeque_Machine × Unit) =>
    some (a1, y4.1, ())
  else
    some (a1, { a2 with T := y2.1 }, ()) := mk_is (by kernel_rfl)
theorem q_deque_Machine_place_eq (a1 : BitVec 64) (a2 : Sdeque_Machine) : q_deque_Machine_place a1 a2 =
  (q_deque_Machine_size a2).bind fun (y1 : (BitVec 64) × Unit) =>
  bif decide (y1.1 = 0#64) then
    none
  else
    some (w64 ((w64 (a2.Base + 2)) + ((a1 % y1.1).toInt)), ()) := mk_is (by kernel_rfl)
theorem q_deque_store_eq (a1 : List (BitVec 64)) (a2 : Int) (a3 : BitVec 64) : q_deque_store a1 a2 a3 =
  (q_mem_Do a1 (Smem_Op.mk 2 a2 a3 0#64)).bind fun (y1 : (List (BitVec 64)) × (BitVec 64) × Bool × Unit) =>
  some (y1.1, ()) := mk_is (by kernel_rfl)
theorem q_deque_Machine_put_eq (a1 : List (BitVec 64)) (a2 : Sdeque_Machine) : q_deque_Machine_put a1 a2 =
  (q_deque_Machine_place a2.B a2).bind fun (y1 : Int × Unit) =>
  (q_deque_store a1 y1.1 (BitVec.ofInt 64 a2.X)).bind fun (y2 : (List (BitVec 64)) × Unit) =>
  some (y2.1, ()) := mk_is (by kernel_rfl)
theorem q_deque_Machine_publish_v1_eq (a1 : List (BitVec 64)) (a2 : Sdeque_Machine) : q_deque_Machine_publish_v1 a1 a2 =
  (q_deque_Machine_end_v1 1 a2).bind fun (y1 : Sdeque_Machine × Unit) =>
  (q_deque_Machine_bottom y1.1).bind fun (y2 : Int × Unit) =>
  (q_deque_store a1 y2.1 (y1.1.B + 1#64)).bind fun (y3 : (List (BitVec 64)) × Unit) =>
  some (y3.1, y1.1, ()) := mk_is (by kernel_rfl)
theorem q_deque_Machine_claim_eq (a1 : List (BitVec 64)) (a2 : Sdeque_Machine) : q_deque_Machine_claim a1 a2 =
  (q_deque_Machine_bottom a2).bind fun (y1 : Int × Unit) =>
  (q_deque_store a1 y1.1 (a2.B - 1#64)).bind fun (y2 : (List (BitVec 64)) × Unit) =>
  some (y2.1, ()) := mk_is (by kernel_rfl)
theorem q_deque_above_eq (a1 : BitVec 64) (a2 : BitVec 64) : q_deque_above a1 a2 =
  some (decide (0 < ((a1 - a2).toInt)), ()) := mk_is (by kernel_rfl)
theorem q_deque_Machine_seeTop_v1_eq (a1 : List (BitVec 64)) (a2 : Sdeque_Machine) : q_deque_Machine_seeTop_v1 a1 a2 =
  (q_deque_Machine_top a2).bind fun (y1 : Int × Unit) =>
  (q_deque_load a1 y1.1).bind fun (y2 : (BitVec 64) × Unit) =>
  (q_deque_above y2.1 (a2.B - 1#64)).bind fun (y3 : Bool × Unit) =>
  bif y3.1 then
    some (a1, { a2 with PC := 4, T := y2.1 }, ())
  else
    some (a1, { a2 with T := y2.1 }, ()) := mk_is (by kernel_rfl)
theorem q_deque_Machine_get_v1_eq (a1 : List (BitVec 64)) (a2 : Sdeque_Machine) : q_deque_Machine_get_v1 a1 a2 =
  (q_deque_Machine_place (a2.B - 1#64) a2).bind fun (y1 : Int × Unit) =>
  (q_deque_load a1 y1.1).bind fun (y2 : (BitVec 64) × Unit) =>
  bif !(decide (a2.T = (a2.B - 1#64))) then
    (q_deque_Machine_end_v1 1 ({ a2 with X := y2.1.toInt })).bind fun (y3 : Sdeque_Machine × Unit) =>
    some (a1, y3.1, ())
  else
    some (a1, { a2 with X := y2.1.toInt }, ()) := mk_is (by kernel_rfl)
theorem q_deque_Machine_take_eq (a1 : List (BitVec 64)) (a2 : Sdeque_Machine) : q_deque_Machine_take a1 a2 =
  (q_deque_Machine_top a2).bind fun (y1 : Int × Unit) =>
  (q_mem_Do a1 (Smem_Op.mk 3 y1.1 a2.T (a2.T + 1#64))).bind fun (y2 : (List (BitVec 64)) × (BitVec 64) × Bool × Unit) =>
  some (y2.1, y2.2.2.1, ()) := mk_is (by kernel_rfl)
theorem q_deque_Machine_race_v1_eq (a1 : List (BitVec 64)) (a2 : Sdeque_Machine) : q_deque_Machine_race_v1 a1 a2 =
  (q_deque_Machine_take a1 a2).bind fun (y1 : (List (BitVec 64)) × Bool × Unit) =>
  bif y1.2.1 then
    some (y1.1, { a2 with PC := 5 }, ())
  else
    some (y1.1, a2, ()) := mk_is (by kernel_rfl)
theorem q_deque_Machine_fail_v1_eq (a1 : List (BitVec 64)) (a2 : Sdeque_Machine) : q_deque_Machine_fail_v1 a1 a2 =
  (q_deque_Machine_end_v1 2 a2).bind fun (y1 : Sdeque_Machine × Unit) =>
  (q_deque_Machine_bottom y1.1).bind fun (y2 : Int × Unit) =>
  (q_deque_store a1 y2.1 y1.1.B).bind fun (y3 : (List (BitVec 64)) × Unit) =>
  some (y3.1, y1.1, ()) := mk_is (by kernel_rfl)
theorem q_deque_Machine_won_v1_eq (a1 : List (BitVec 64)) (a2 : Sdeque_Machine) : q_deque_Machine_won_v1 a1 a2 =
  (q_deque_Machine_end_v1 1 a2).bind fun (y1 : Sdeque_Machine × Unit) =>
  (q_deque_Machine_bottom y1.1).bind fun (y2 : Int × Unit) =>
  (q_deque_store a1 y2.1 y1.1.B).bind fun (y3 : (List (BitVec 64)) × Unit) =>
  some (y3.1, y1.1, ()) := mk_is (by kernel_rfl)
theorem q_deque_Machine_aim_v1_eq (a1 : List (BitVec 64)) (a2 : Sdeque_Machine) : q_deque_Machine_aim_v1 a1 a2 =
  (q_deque_Machine_top a2).bind fun (y1 : Int × Unit) =>
  (q_deque_load a1 y1.1).bind fun (y2 : (BitVec 64) × Unit) =>
  some (a1, { a2 with T := y2.1 }, ()) := mk_is (by kernel_rfl)
theorem q_deque_Machine_any_v1_eq (a1 : List (BitVec 64)) (a2 : Sdeque_Machine) : q_deque_Machine_any_v1 a1 a2 =
  (q_deque_Machine_bottom a2).bind fun (y1 : Int × Unit) =>
  (q_deque_load a1 y1.1).bind fun (y2 : (BitVec 64) × Unit) =>
  (q_deque_above y2.1 a2.T).bind fun (y3 : Bool × Unit) =>
  bif !y3.1 then
    some (a1, { a2 with B := y2.1, Out := 2 }, ())
  else
    some (a1, { a2 with B := y2.1 }, ()) := mk_is (by kernel_rfl)
theorem q_deque_Machine_peek_v1_eq (a1 : List (BitVec 64)) (a2 : Sdeque_Machine) : q_deque_Machine_peek_v1 a1 a2 =
  (q_deque_Machine_place a2.T a2).bind fun (y1 : Int × Unit) =>
  (q_deque_load a1 y1.1).bind fun (y2 : (BitVec 64) × Unit) =>
  some (a1, { a2 with X := y2.1.toInt }, ()) := mk_is (by kernel_rfl)
theorem q_deque_Machine_snatch_v1_eq (a1 : List (BitVec 64)) (a2 : Sdeque_Machine) : q_deque_Machine_snatch_v1 a1 a2 =
  (q_deque_Machine_take a1 a2).bind fun (y1 : (List (BitVec 64)) × Bool × Unit) =>
  bif y1.2.1 then
    (q_deque_Machine_end_v1 1 a2).bind fun (y2 : Sdeque_Machine × Unit) =>
    some (y1.1, y2.1, ())
  else
    (q_deque_Machine_end_v1 4 a2).bind fun (y3 : Sdeque_Machine × Unit) =>
    some (y1.1, y3.1, ()) := mk_is (by kernel_rfl)
theorem q_deque_Step_eq (a1 : List (BitVec 64)) (a2 : Sdeque_Machine) : q_deque_Step a1 a2 =
  Option.or (
    (q_deque_stepsa a2.Kind).bind fun (y1 : Unit) =>
    bif !(decide (a2.Out = 0)) then
      some (a1, a2, ())
    else
      bif decide (a2.PC < 0) then
        some (a1, a2, ())
      else
        bif decide (4 ≤ a2.PC) then
          some (a1, a2, ())
        else
          bif decide (a2.PC = 3) then
            (q_deque_Machine_publish_v1 a1 a2).bind fun (y2 : (List (BitVec 64)) × Sdeque_Machine × Unit) =>
            some (y2.1, { y2.2.1 with PC := w64 (y2.2.1.PC + 1) }, ())
          else
            bif decide (a2.PC = 2) then
              (q_deque_Machine_put a1 a2).bind fun (y3 : (List (BitVec 64)) × Unit) =>
              some (y3.1, { a2 with PC := w64 (a2.PC + 1) }, ())
            else
              bif decide (a2.PC = 1) then
                (q_deque_Machine_room_v1 a1 a2).bind fun (y4 : (List (BitVec 64)) × Sdeque_Machine × Unit) =>
                some (y4.1, { y4.2.1 with PC := w64 (y4.2.1.PC + 1) }, ())
              else
                bif decide (a2.PC = 0) then
                  (q_deque_Machine_seeBottom_v1 a1 a2).bind fun (y5 : (List (BitVec 64)) × Sdeque_Machine × Unit) =>
                  some (y5.1, { y5.2.1 with PC := w64 (y5.2.1.PC + 1) }, ())
                else
                  none) (
    Option.or (
      (q_deque_stepsb a2.Kind).bind fun (y6 : Unit) =>
      bif !(decide (a2.Out = 0)) then
        some (a1, a2, ())
      else
        bif decide (a2.PC < 0) then
          some (a1, a2, ())
        else
          bif decide (7 ≤ a2.PC) then
            some (a1, a2, ())
          else
            bif decide (a2.PC = 6) then
              (q_deque_Machine_won_v1 a1 a2).bind fun (y7 : (List (BitVec 64)) × Sdeque_Machine × Unit) =>
              some (y7.1, { y7.2.1 with PC := w64 (y7.2.1.PC + 1) }, ())
            else
              bif decide (a2.PC = 5) then
                (q_deque_Machine_fail_v1 a1 a2).bind fun (y8 : (List (BitVec 64)) × Sdeque_Machine × Unit) =>
                some (y8.1, { y8.2.1 with PC := w64 (y8.2.1.PC + 1) }, ())
              else
                bif decide (a2.PC = 4) then
                  (q_deque_Machine_race_v1 a1 a2).bind fun (y9 : (List (BitVec 64)) × Sdeque_Machine × Unit) =>
                  some (y9.1, { y9.2.1 with PC := w64 (y9.2.1.PC + 1) }, ())
                else
                  bif decide (a2.PC = 3) then
                    (q_deque_Machine_get_v1 a1 a2).bind fun (y10 : (List (BitVec 64)) × Sdeque_Machine × Unit) =>
                    some (y10.1, { y10.2.1 with PC := w64 (y10.2.1.PC + 1) }, ())
                  else
                    bif decide (a2.PC = 2) then
                      (q_deque_Machine_seeTop_v1 a1 a2).bind fun (y11 : (List (BitVec 64)) × Sdeque_Machine × Unit) =>
                      some (y11.1, { y11.2.1 with PC := w64 (y11.2.1.PC + 1) }, ())
                    else
                      bif decide (a2.PC = 1) then
                        (q_deque_Machine_claim a1 a2).bind fun (y12 : (List (BitVec 64)) × Unit) =>
                        some (y12.1, { a2 with PC := w64 (a2.PC + 1) }, ())
                      else
                        bif decide (a2.PC = 0) then
                          (q_deque_Machine_seeBottom_v1 a1 a2).bind fun (y13 : (List (BitVec 64)) × Sdeque_Machine × Unit) =>
                          some (y13.1, { y13.2.1 with PC := w64 (y13.2.1.PC + 1) }, ())
                        else
                          none) (
      Option.or (
        (q_deque_stepsc a2.Kind).bind fun (y14 : Unit) =>
        bif !(decide (a2.Out = 0)) then
          some (a1, a2, ())
        else
          bif decide (a2.PC < 0) then
            some (a1, a2, ())
          else
            bif decide (4 ≤ a2.PC) then
              some (a1, a2, ())
            else
              bif decide (a2.PC = 3) then
                (q_deque_Machine_snatch_v1 a1 a2).bind fun (y15 : (List (BitVec 64)) × Sdeque_Machine × Unit) =>
                some (y15.1, { y15.2.1 with PC := w64 (y15.2.1.PC + 1) }, ())
              else
                bif decide (a2.PC = 2) then
                  (q_deque_Machine_peek_v1 a1 a2).bind fun (y16 : (List (BitVec 64)) × Sdeque_Machine × Unit) =>
                  some (y16.1, { y16.2.1 with PC := w64 (y16.2.1.PC + 1) }, ())
                else
                  bif decide (a2.PC = 1) then
                    (q_deque_Machine_any_v1 a1 a2).bind fun (y17 : (List (BitVec 64)) × Sdeque_Machine × Unit) =>
                    some (y17.1, { y17.2.1 with PC := w64 (y17.2.1.PC + 1) }, ())
                  else
                    bif decide (a2.PC = 0) then
                      (q_deque_Machine_aim_v1 a1 a2).bind fun (y18 : (List (BitVec 64)) × Sdeque_Machine × Unit) =>
                      some (y18.1, { y18.2.1 with PC := w64 (y18.2.1.PC + 1) }, ())
                    else
                      none) (
        (q_deque_stepsd a2.Kind).bind fun (y19 : (List Bool) × Unit) =>
        bif !(decide (a2.Out = 0)) then
          some (a1, a2, ())
        else
          bif decide (a2.PC < 0) then
            some (a1, a2, ())
          else
            bif decide (((y19.1.length : Int)) ≤ a2.PC) then
              some (a1, a2, ())
            else
              none))) := mk_is (by kernel_rfl)
theorem q_grey_machine_push_v1_eq (a1 : Sgrey_machine) : q_grey_machine_push_v1 a1 =
  (q_deque_Step a1.s.M a1.Grey.D).bind fun (y1 : (List (BitVec 64)) × Sdeque_Machine × Unit) =>
  bif decide (y1.2.1.Out = 1) then
    some (Sgrey_machine.mk { a1.Grey with D := y1.2.1, Out := 1 } { a1.s with M := y1.1 }, ())
  else
    bif decide (y1.2.1.Out = 3) then
      (q_grey_machine_ask_v1 (Sgrey_machine.mk { a1.Grey with D := y1.2.1 } { a1.s with M := y1.1 })).bind fun (y2 : Sgrey_machine × Unit) =>
      some (y2.1, ())
    else
      some (Sgrey_machine.mk { a1.Grey with D := y1.2.1 } { a1.s with M := y1.1 }, ()) := mk_is (by kernel_rfl)
theorem q_grey_machine_tell_v1_eq (a1 : Sgrey_machine) : q_grey_machine_tell_v1 a1 =
  (q_grey_machine_ask_v1 ({ a1 with s := { a1.s with Flag := true } })).bind fun (y1 : Sgrey_machine × Unit) =>
  some (y1.1, ()) := mk_is (by kernel_rfl)
theorem q_chain_Node_eq (a1 : BitVec 64) : q_chain_Node a1 =
  some ((a1 &&& 4294967295#64).toInt, ()) := mk_is (by kernel_rfl)
theorem q_chain_load_eq (a1 : List (BitVec 64)) (a2 : Int) : q_chain_load a1 a2 =
  (q_mem_Do a1 (Smem_Op.mk 1 a2 0#64 0#64)).bind fun (y1 : (List (BitVec 64)) × (BitVec 64) × Bool × Unit) =>
  some (y1.2.1, ()) := mk_is (by kernel_rfl)
theorem q_chain_Machine_see_v1_eq (a1 : List (BitVec 64)) (a2 : Schain_Machine) : q_chain_Machine_see_v1 a1 a2 =
  (q_chain_load a1 a2.Head).bind fun (y1 : (BitVec 64) × Unit) =>
  bif decide (a2.Kind = 2) then
    (q_chain_Node y1.1).bind fun (y2 : Int × Unit) =>
    bif decide (y2.1 = 0) then
      some (a1, { a2 with H := y1.1, Out := 2 }, ())
    else
      some (a1, { a2 with H := y1.1 }, ())
  else
    some (a1, { a2 with H := y1.1 }, ()) := mk_is (by kernel_rfl)
theorem q_chain_Machine_link_eq (a1 : List (BitVec 64)) (a2 : Schain_Machine) : q_chain_Machine_link a1 a2 =
  (q_chain_Node a2.H).bind fun (y1 : Int × Unit) =>
  (q_chain_store a1 (w64 (a2.Next + a2.X)) (BitVec.ofInt 64 y1.1)).bind fun (y2 : (List (BitVec 64)) × Unit) =>
  some (y2.1, ()) := mk_is (by kernel_rfl)
theorem q_chain_Machine_swap_v1_eq (a1 : List (BitVec 64)) (a2 : Schain_Machine) : q_chain_Machine_swap_v1 a1 a2 =
  bif decide (a2.Kind = 2) then
    (q_chain_Pack ((a2.H >>> 32) + 1#64) a2.Y).bind fun (y1 : (BitVec 64) × Unit) =>
    (q_mem_Do a1 (Smem_Op.mk 3 a2.Head a2.H y1.1)).bind fun (y2 : (List (BitVec 64)) × (BitVec 64) × Bool × Unit) =>
    bif !y2.2.2.1 then
      some (y2.1, { a2 with PC := -1 }, ())
    else
      bif decide (a2.Kind = 2) then
        (q_chain_Node a2.H).bind fun (y3 : Int × Unit) =>
        some (y2.1, { a2 with X := y3.1, Out := 1 }, ())
      else
        some (y2.1, { a2 with Out := 1 }, ())
  else
    (q_chain_Pack ((a2.H >>> 32) + 1#64) a2.X).bind fun (y4 : (BitVec 64) × Unit) =>
    (q_mem_Do a1 (Smem_Op.mk 3 a2.Head a2.H y4.1)).bind fun (y5 : (List (BitVec 64)) × (BitVec 64) × Bool × Unit) =>
    bif !y5.2.2.1 then
      some (y5.1, { a2 with PC := -1 }, ())
    else
      bif decide (a2.Kind = 2) then
        (q_chain_Node a2.H).bind fun (y6 : Int × Unit) =>
        some (y5.1, { a2 with X := y6.1, Out := 1 }, ())
      else
        some (y5.1, { a2 with Out := 1 }, ()) := mk_is (by kernel_rfl)
theorem q_chain_Machine_behind_v1_eq (a1 : List (BitVec 64)) (a2 : Schain_Machine) : q_chain_Machine_behind_v1 a1 a2 =
  (q_chain_Node a2.H).bind fun (y1 : Int × Unit) =>
  (q_chain_load a1 (w64 (a2.Next + y1.1))).bind fun (y2 : (BitVec 64) × Unit) =>
  some (a1, { a2 with Y := y2.1.toInt }, ()) := mk_is (by kernel_rfl)
theorem q_chain_Step_eq (a1 : List (BitVec 64)) (a2 : Schain_Machine) : q_chain_Step a1 a2 =
  bif decide (a2.Kind = 2) then
    bif !(decide (a2.Out = 0)) then
      some (a1, a2, ())
    else
      bif !(decide (a2.Kind = 1)) then
        bif !(decide (a2.Kind = 2)) then
          some (a1, a2, ())
        else
          bif decide (a2.PC < 0) then
            some (a1, a2, ())
          else
            bif decide (3 ≤ a2.PC) then
              some (a1, a2, ())
            else
              bif decide (a2.PC = 2) then
                (q_chain_Machine_swap_v1 a1 a2).bind fun (y1 : (List (BitVec 64)) × Schain_Machine × Unit) =>
                some (y1.1, { y1.2.1 with PC := w64 (y1.2.1.PC + 1) }, ())
              else
                bif decide (a2.PC = 1) then
                  (q_chain_Machine_behind_v1 a1 a2).bind fun (y2 : (List (BitVec 64)) × Schain_Machine × Unit) =>
                  some (y2.1, { y2.2.1 with PC := w64 (y2.2.1.PC + 1) }, ())
                else
                  bif decide (a2.PC = 0) then
                    (q_chain_Machine_see_v1 a1 a2).bind fun (y3 : (List (BitVec 64)) × Schain_Machine × Unit) =>
                    some (y3.1, { y3.2.1 with PC := w64 (y3.2.1.PC + 1) }, ())
                  else
                    none
      else
        bif decide (a2.PC < 0) then
          some (a1, a2, ())
        else
          bif decide (3 ≤ a2.PC) then
            some (a1, a2, ())
          else
            bif decide (a2.PC = 2) then
              (q_chain_Machine_swap_v1 a1 a2).bind fun (y4 : (List (BitVec 64)) × Schain_Machine × Unit) =>
              some (y4.1, { y4.2.1 with PC := w64 (y4.2.1.PC + 1) }, ())
            else
              bif decide (a2.PC = 1) then
                (q_chain_Machine_behind_v1 a1 a2).bind fun (y5 : (List (BitVec 64)) × Schain_Machine × Unit) =>
                some (y5.1, { y5.2.1 with PC := w64 (y5.2.1.PC + 1) }, ())
              else
                bif decide (a2.PC = 0) then
                  (q_chain_Machine_see_v1 a1 a2).bind fun (y6 : (List (BitVec 64)) × Schain_Machine × Unit) =>
                  some (y6.1, { y6.2.1 with PC := w64 (y6.2.1.PC + 1) }, ())
                else
                  none
  else
    bif !(decide (a2.Out = 0)) then
      some (a1, a2, ())
    else
      bif !(decide (a2.Kind = 1)) then
        bif !(decide (a2.Kind = 2)) then
          some (a1, a2, ())
        else
          bif decide (a2.PC < 0) then
            some (a1, a2, ())
          else
            bif decide (3 ≤ a2.PC) then
              some (a1, a2, ())
            else
              bif decide (a2.PC = 2) then
                (q_chain_Machine_swap_v1 a1 a2).bind fun (y7 : (List (BitVec 64)) × Schain_Machine × Unit) =>
                some (y7.1, { y7.2.1 with PC := w64 (y7.2.1.PC + 1) }, ())
              else
                bif decide (a2.PC = 1) then
                  (q_chain_Machine_link a1 a2).bind fun (y8 : (List (BitVec 64)) × Unit) =>
                  some (y8.1, { a2 with PC := w64 (a2.PC + 1) }, ())
                else
                  bif decide (a2.PC = 0) then
                    (q_chain_Machine_see_v1 a1 a2).bind fun (y9 : (List (BitVec 64)) × Schain_Machine × Unit) =>
                    some (y9.1, { y9.2.1 with PC := w64 (y9.2.1.PC + 1) }, ())
                  else
                    none
      else
        bif decide (a2.PC < 0) then
          some (a1, a2, ())
        else
          bif decide (3 ≤ a2.PC) then
            some (a1, a2, ())
          else
            bif decide (a2.PC = 2) then
              (q_chain_Machine_swap_v1 a1 a2).bind fun (y10 : (List (BitVec 64)) × Schain_Machine × Unit) =>
              some (y10.1, { y10.2.1 with PC := w64 (y10.2.1.PC + 1) }, ())
            else
              bif decide (a2.PC = 1) then
                (q_chain_Machine_link a1 a2).bind fun (y11 : (List (BitVec 64)) × Unit) =>
                some (y11.1, { a2 with PC := w64 (a2.PC + 1) }, ())
              else
                bif decide (a2.PC = 0) then
                  (q_chain_Machine_see_v1 a1 a2).bind fun (y12 : (List (BitVec 64)) × Schain_Machine × Unit) =>
                  some (y12.1, { y12.2.1 with PC := w64 (y12.2.1.PC + 1) }, ())
                else
                  none := mk_is (by kernel_rfl)
theorem q_grey_machine_take_v1_eq (a1 : Sgrey_machine) : q_grey_machine_take_v1 a1 =
  (q_chain_Step a1.s.M a1.Grey.C).bind fun (y1 : (List (BitVec 64)) × Schain_Machine × Unit) =>
  bif decide (y1.2.1.Out = 1) then
    some (Sgrey_machine.mk { a1.Grey with PC := 6, C := y1.2.1, Bin := y1.2.1.X } { a1.s with M := y1.1 }, ())
  else
    bif decide (y1.2.1.Out = 2) then
      (q_grey_machine_ask_v1 (Sgrey_machine.mk { a1.Grey with C := y1.2.1 } { a1.s with M := y1.1 })).bind fun (y2 : Sgrey_machine × Unit) =>
      some (y2.1, ())
    else
      some (Sgrey_machine.mk { a1.Grey with C := y1.2.1 } { a1.s with M := y1.1 }, ()) := mk_is (by kernel_rfl)
theorem q_slices_Clone_LLint_Lint_eq (a1 : List (List Int)) : q_slices_Clone_LLint_Lint a1 =
  bif a1.isEmpty then
    both (
      some (([] : List (List Int)), ())) (
      (room ((([] : List (List Int))) ++ a1)).bind fun l1 =>
      some (l1, ()))
  else
    (room ((([] : List (List Int))) ++ a1)).bind fun l2 =>
    some (l2, ()) := mk_is (by kernel_rfl)
theorem q_grey_machine_fill_v1_eq (a1 : Sgrey_machine) : q_grey_machine_fill_v1 a1 =
  (q_slices_Clone_LLint_Lint a1.s.Bins).bind fun (y1 : (List (List Int)) × Unit) =>
  (idxn y1.1 a1.Grey.Bin).bind fun n2 =>
  (q_state_Full a1.s.P).bind fun (y3 : Int × Unit) =>
  (q_state_Next a1.s.P).bind fun (y4 : Int × Unit) =>
  (q_chain_Start 1 y3.1 y4.1 a1.Grey.Bin).bind fun (y5 : Schain_Machine × Unit) =>
  some ({ a1.Grey with PC := 7, C := y5.1 }, a1.s.P, a1.s.H, a1.s.M, a1.s.T, a1.s.Work, a1.s.Epoch, a1.s.Flag, a1.s.Done, a1.s.Restarts, a1.s.Acks, a1.s.L, a1.s.Ws, a1.s.Ms, a1.s.D, y1.1.set n2 ([a1.Grey.Obj] : List Int), ()) := mk_is (by kernel_rfl)
theorem q_grey_machine_publish_v1_eq (a1 : Sgrey_machine) : q_grey_machine_publish_v1 a1 =
  (q_chain_Step a1.s.M a1.Grey.C).bind fun (y1 : (List (BitVec 64)) × Schain_Machine × Unit) =>
  bif decide (y1.2.1.Out = 1) then
    some (Sgrey_machine.mk { a1.Grey with C := y1.2.1, Out := 1 } { a1.s with M := y1.1 }, ())
  else
    some (Sgrey_machine.mk { a1.Grey with C := y1.2.1 } { a1.s with M := y1.1 }, ()) := mk_is (by kernel_rfl)
theorem q_grey_Step_eq (a1 : Sstate_State) (a2 : Sstate_Grey) : q_grey_Step a1 a2 =
  bif !(decide (a2.Out = 0)) then
    some (a1, a2, ())
  else
    bif decide (a2.Mode < 1) then
      some (a1, a2, ())
    else
      bif decide (3 < a2.Mode) then
        some (a1, a2, ())
      else
        bif decide (a2.PC < 0) then
          some (a1, a2, ())
        else
          bif decide (8 ≤ a2.PC) then
            some (a1, a2, ())
          else
            bif decide (a2.PC = 7) then
              (q_grey_machine_publish_v1 (Sgrey_machine.mk a2 a1)).bind fun (y1 : Sgrey_machine × Unit) =>
              some (y1.1.s, y1.1.Grey, ())
            else
              bif decide (a2.PC = 6) then
                (q_grey_machine_fill_v1 (Sgrey_machine.mk a2 a1)).bind fun (y2 : Sstate_Grey × Splan_Plan × Sheap_Heap × (List (BitVec 64)) × Stint_Tint × Int × Int × Bool × Bool × Int × (List Int) × Sledger_Ledger × (List Sstate_Worker) × (List Sstate_Mutator) × Sstate_Detect × (List (List Int)) × Unit) =>
                some (Sstate_State.mk y2.2.1 y2.2.2.1 y2.2.2.2.1 y2.2.2.2.2.2.2.2.2.2.2.2.2.2.2.2.1 y2.2.2.2.2.1 y2.2.2.2.2.2.1 y2.2.2.2.2.2.2.1 y2.2.2.2.2.2.2.2.1 y2.2.2.2.2.2.2.2.2.1 y2.2.2.2.2.2.2.2.2.2.1 y2.2.2.2.2.2.2.2.2.2.2.1 y2.2.2.2.2.2.2.2.2.2.2.2.1 y2.2.2.2.2.2.2.2.2.2.2.2.2.1 y2.2.2.2.2.2.2.2.2.2.2.2.2.2.1 y2.2.2.2.2.2.2.2.2.2.2.2.2.2.2.1, y2.1, ())
              else
                bif decide (a2.PC = 5) then
                  (q_grey_machine_take_v1 (Sgrey_machine.mk a2 a1)).bind fun (y3 : Sgrey_machine × Unit) =>
                  some (y3.1.s, y3.1.Grey, ())
                else
                  bif decide (a2.PC = 4) then
                    (q_grey_machine_tell_v1 (Sgrey_machine.mk a2 a1)).bind fun (y4 : Sgrey_machine × Unit) =>
                    some (y4.1.s, y4.1.Grey, ())
                  else
                    bif decide (a2.PC = 3) then
                      (q_grey_machine_push_v1 (Sgrey_machine.mk a2 a1)).bind fun (y5 : Sgrey_machine × Unit) =>
                      some (y5.1.s, y5.1.Grey, ())
                    else
                      bif decide (a2.PC = 2) then
                        (q_grey_machine_back_v1 (Sgrey_machine.mk a2 a1)).bind fun (y6 : Sgrey_machine × Unit) =>
                        some (y6.1.s, y6.1.Grey, ())
                      else
                        bif decide (a2.PC = 1) then
                          (q_grey_machine_mark_v1 (Sgrey_machine.mk a2 a1)).bind fun (y7 : Sgrey_machine × Unit) =>
                          some (y7.1.s, y7.1.Grey, ())
                        else
                          bif decide (a2.PC = 0) then
                            (q_grey_machine_reserve_v1 (Sgrey_machine.mk a2 a1)).bind fun (y8 : Sgrey_machine × Unit) =>
                            some (y8.1.s, y8.1.Grey, ())
                          else
                            none := mk_is (by kernel_rfl)
theorem q_grey_at_eq (a1 : Sstate_Grey) (a2 : Int) (a3 : Int) (a4 : Int) : q_grey_at a1 a2 a3 a4 =
  bif decide (a1.Out = 0) then
    bif decide (a2 ≤ a1.PC) then
      bif decide (a1.PC ≤ a3) then
        some (a4, ())
      else
        some (0, ())
    else
      some (0, ())
  else
    some (0, ()) := mk_is (by kernel_rfl)
theorem q_grey_Holds_eq (a1 : Sstate_Grey) : q_grey_Holds a1 =
  (q_grey_at a1 3 7 a1.Obj).bind fun (y1 : Int × Unit) =>
  some (y1.1, ()) := mk_is (by kernel_rfl)
theorem q_grey_Asks_eq (a1 : Sstate_Grey) : q_grey_Asks a1 =
  (q_grey_at a1 0 1 a1.Obj).bind fun (y1 : Int × Unit) =>
  some (y1.1, ()) := mk_is (by kernel_rfl)
theorem q_grey_Owes_eq (a1 : Sstate_Grey) : q_grey_Owes a1 =
  (q_grey_at a1 1 2 1).bind fun (y1 : Int × Unit) =>
  some (y1.1, ()) := mk_is (by kernel_rfl)
theorem p_besomlaw14_run_r2_eq (s1 : Int) (s2 : Int) (s3 : Sstate_State) (s4 : Sstate_Grey) (s5 : Int) (s6 : Int) (s7 : Int) (s8 : Int) (s9 : Int) (s10 : Int) (s11 : Int) (s12 : Int) (s13 : Int) (s14 : BitVec 64) (s15 : Int) (s16 : Stint_Tint) (s17 : Int) (s18 : Int) (s19 : Bool) (s20 : Bool) (s21 : Int) (s22 : Int) (s23 : Int) (s24 : Int) (s25 : Sstate_Detect) (s26 : Sstate_Grey) (s27 : List (List Int)) (s28 : List (List Int)) (s29 : List (List Scode_Op)) (s30 : List Spick_Pick) (s31 : List (List Int)) (s32 : List (BitVec 64)) (s33 : List (List Int)) (s34 : List Int) (s35 : List Int) (s36 : List Sstate_Worker) (s37 : List Sstate_Mutator) : p_besomlaw14_run_r2 (s1, s2, s3, s4, s5, s6, s7, s8, s9, s10, s11, s12, s13, s14, s15, s16, s17, s18, s19, s20, s21, s22, s23, s24, s25, s26, s27, s28, s29, s30, s31, s32, s33, s34, s35, s36, s37, ()) =
  bif decide (s2 < s1) then
    bif decide (s4.Out = 0) then
      (q_grey_Step s3 s4).bind fun (y1 : Sstate_State × Sstate_Grey × Unit) =>
      some (.again (s1, w64 (s2 + 1), y1.1, y1.2.1, s5, s6, s7, s8, s9, s10, s11, s12, s13, s14, s15, s16, s17, s18, s19, s20, s21, s22, s23, s24, s25, s26, s27, s28, s29, s30, s31, s32, s33, s34, s35, s36, s37, ()))
    else
      some (.brk (s2, s3, s4, s5, s6, s7, s8, s9, s10, s11, s12, s13, s14, s15, s16, s17, s18, s19, s20, s21, s22, s23, s24, s25, s26, s27, s28, s29, s30, s31, s32, s33, s34, s35, s36, s37, ()))
  else
    some (.brk (s2, s3, s4, s5, s6, s7, s8, s9, s10, s11, s12, s13, s14, s15, s16, s17, s18, s19, s20, s21, s22, s23, s24, s25, s26, s27, s28, s29, s30, s31, s32, s33, s34, s35, s36, s37, ())) := by kernel_rfl
theorem q_besomlaw14_run_eq (a1 : Sstate_State) (a2 : Sstate_Grey) (a3 : Int) : q_besomlaw14_run a1 a2 a3 =
  (loopF p_besomlaw14_run_r2 (a3, 0, a1, a2, 0, 0, 0, 0, 0, 0, 0, 0, 0, 0#64, 0, Stint_Tint.mk 0#64 0#64, 0, 0, false, false, 0, 0, 0, 0, Sstate_Detect.mk 0 0, Sstate_Grey.mk 0 0 0 0 (Sdeque_Machine.mk 0 0 0 0 0#64 0#64 0 0) (Schain_Machine.mk 0 0 0 0 0#64 0 0 0) 0 0, ([] : List (List Int)), ([] : List (List Int)), ([] : List (List Scode_Op)), ([] : List Spick_Pick), ([] : List (List Int)), ([] : List (BitVec 64)), ([] : List (List Int)), ([] : List Int), ([] : List Int), ([] : List Sstate_Worker), ([] : List Sstate_Mutator), ())).bind fun st => match st with
    | .again _ => none
    | .brk (y1 : Int × Sstate_State × Sstate_Grey × Int × Int × Int × Int × Int × Int × Int × Int × Int × (BitVec 64) × Int × Stint_Tint × Int × Int × Bool × Bool × Int × Int × Int × Int × Sstate_Detect × Sstate_Grey × (List (List Int)) × (List (List Int)) × (List (List Scode_Op)) × (List Spick_Pick) × (List (List Int)) × (List (BitVec 64)) × (List (List Int)) × (List Int) × (List Int) × (List Sstate_Worker) × (List Sstate_Mutator) × Unit) =>
      some (y1.2.1, y1.2.2.1, y1.1, ())
    | .ret (y1 : Unit) =>
      none := mk_is (by kernel_rfl)
theorem p_chain_List_r3_eq (s1 : List (BitVec 64)) (s2 : Int) (s3 : Int) (s4 : Int) (s5 : List Int) : p_chain_List_r3 (s1, s2, s3, s4, s5, ()) =
  bif !(decide (s4 = 0)) then
    bif decide (((s5.length : Int)) < (bif decide (1000 < s3) then 1000 else s3)) then
      (room (s5 ++ ([s4] : List Int))).bind fun l1 =>
      (q_chain_load s1 (w64 (s2 + s4))).bind fun (y2 : (BitVec 64) × Unit) =>
      some (.again (s1, s2, s3, y2.1.toInt, l1, ()))
    else
      some (.brk (s5, ()))
  else
    some (.brk (s5, ())) := by kernel_rfl
theorem q_chain_List_eq (a1 : List (BitVec 64)) (a2 : Int) (a3 : Int) (a4 : Int) : q_chain_List a1 a2 a3 a4 =
  (q_chain_load a1 a2).bind fun (y1 : (BitVec 64) × Unit) =>
  (q_chain_Node y1.1).bind fun (y2 : Int × Unit) =>
  (loopF p_chain_List_r3 (a1, a3, a4, y2.1, ([] : List Int), ())).bind fun st => match st with
    | .again _ => none
    | .brk (y3 : (List Int) × Unit) =>
      some (y3.1, ())
    | .ret (y3 : Unit) =>
      none := mk_is (by kernel_rfl)
end Go.Pe.G
namespace Go.Pe.G
open Go.Pe
theorem p_besomlaw14_small_r3_eq (s1 : List (List Scode_Op)) (s2 : Int) (s3 : Int) (s4 : Int) (s5 : Int) (s6 : Int) (s7 : Int) (s8 : Int) (s9 : Int) (s10 : Int) (s11 : Int) (s12 : BitVec 64) (s13 : Int) (s14 : Int) (s15 : Int) (s16 : Int) (s17 : Int) (s18 : Int) (s19 : Int) (s20 : Int) (s21 : Int) (s22 : BitVec 64) (s23 : List (List Int)) (s24 : List (List Int)) (s25 : List (List Scode_Op)) (s26 : List Spick_Pick) (s27 : List (List Int)) (s28 : List (List Int)) (s29 : List (List Scode_Op)) (s30 : List Spick_Pick) : p_besomlaw14_small_r3 (s1, s2, s3, s4, s5, s6, s7, s8, s9, s10, s11, s12, s13, s14, s15, s16, s17, s18, s19, s20, s21, s22, s23, s24, s25, s26, s27, s28, s29, s30, ()) =
  bif decide (s2 < ((s1.length : Int))) then
    (room (s28 ++ (([([1, 0] : List Int)] : List (List Int))))).bind fun l1 =>
    (idx s1 s2).bind fun x2 =>
    (room (s29 ++ (([x2] : List (List Scode_Op))))).bind fun l3 =>
    some (.again (s1, w64 (s2 + 1), s3, s4, s5, s6, s7, s8, s9, s10, s11, s12, s13, s14, s15, s16, s17, s18, s19, s20, s21, s22, s23, s24, s25, s26, s27, l1, l3, s30, ()))
  else
    some (.brk (s3, s4, s5, s6, s7, s8, s9, s10, s11, s12, s13, s14, s15, s16, s17, s18, s19, s20, s21, s22, s23, s24, s25, s26, s27, s28, s29, s30, ())) := by kernel_rfl
theorem q_besomlaw14_small_eq (a1 : List (List Scode_Op)) : q_besomlaw14_small a1 =
  (loopF p_besomlaw14_small_r3 (a1, 0, 0, 0, 0, 0, 0, 0, 0, 0, 0, 0#64, 1, (a1.length : Int), 2, 1, 1, 4, 2, 2, 1, 1#64, ([] : List (List Int)), ([] : List (List Int)), ([] : List (List Scode_Op)), ([] : List Spick_Pick), ([([2] : List Int), ([0] : List Int), ([0] : List Int)] : List (List Int)), ([] : List (List Int)), ([] : List (List Scode_Op)), ([] : List Spick_Pick), ())).bind fun st => match st with
    | .again _ => none
    | .brk (y1 : Int × Int × Int × Int × Int × Int × Int × Int × Int × (BitVec 64) × Int × Int × Int × Int × Int × Int × Int × Int × Int × (BitVec 64) × (List (List Int)) × (List (List Int)) × (List (List Scode_Op)) × (List Spick_Pick) × (List (List Int)) × (List (List Int)) × (List (List Scode_Op)) × (List Spick_Pick) × Unit) =>
      some (Splan_Plan.mk y1.2.2.2.2.2.2.2.2.2.2.1 y1.2.2.2.2.2.2.2.2.2.2.2.1 y1.2.2.2.2.2.2.2.2.2.2.2.2.1 y1.2.2.2.2.2.2.2.2.2.2.2.2.2.1 y1.2.2.2.2.2.2.2.2.2.2.2.2.2.2.1 y1.2.2.2.2.2.2.2.2.2.2.2.2.2.2.2.1 y1.2.2.2.2.2.2.2.2.2.2.2.2.2.2.2.2.1 y1.2.2.2.2.2.2.2.2.2.2.2.2.2.2.2.2.2.1 (Sheap_Heap.mk y1.2.2.2.2.2.2.2.2.2.2.2.2.2.2.2.2.2.2.1 y1.2.2.2.2.2.2.2.2.2.2.2.2.2.2.2.2.2.2.2.2.2.2.2.2.1) y1.2.2.2.2.2.2.2.2.2.2.2.2.2.2.2.2.2.2.2.1 y1.2.2.2.2.2.2.2.2.2.2.2.2.2.2.2.2.2.2.2.2.2.2.2.2.2.1 y1.2.2.2.2.2.2.2.2.2.2.2.2.2.2.2.2.2.2.2.2.2.2.2.2.2.2.1 y1.2.2.2.2.2.2.2.2.2.2.2.2.2.2.2.2.2.2.2.2.2.2.2.2.2.2.2.1, ())
    | .ret (y1 : Unit) =>
      none := mk_is (by kernel_rfl)
theorem q_besomlaw14_examples_eq  : q_besomlaw14_examples  =
  (q_besomlaw14_small (([] : List (List Scode_Op)))).bind fun (y1 : Splan_Plan × Unit) =>
  (q_state_New y1.1).bind fun (y2 : Sstate_State × Unit) =>
  (q_grey_Begin 1 1 1).bind fun (y3 : Sstate_Grey × Unit) =>
  (q_besomlaw14_run y2.1 y3.1 30).bind fun (y4 : Sstate_State × Sstate_Grey × Int × Unit) =>
  (q_grey_Begin 1 2 1).bind fun (y5 : Sstate_Grey × Unit) =>
  (q_besomlaw14_run y2.1 y5.1 30).bind fun (y6 : Sstate_State × Sstate_Grey × Int × Unit) =>
  (q_grey_Begin 2 2 1).bind fun (y7 : Sstate_Grey × Unit) =>
  (q_besomlaw14_run y2.1 y7.1 30).bind fun (y8 : Sstate_State × Sstate_Grey × Int × Unit) =>
  (q_grey_Begin 3 3 1).bind fun (y9 : Sstate_Grey × Unit) =>
  (q_besomlaw14_run y2.1 y9.1 30).bind fun (y10 : Sstate_State × Sstate_Grey × Int × Unit) =>
  (q_grey_Begin 1 2 1).bind fun (y11 : Sstate_Grey × Unit) =>
  (q_grey_Step y2.1 y11.1).bind fun (y12 : Sstate_State × Sstate_Grey × Unit) =>
  bif !(decide (((y2.1.Bins.length : Int)) = 6)) then
    some (false, ())
  else
    bif !(decide (((y8.1.Bins.length : Int)) = 6)) then
      some (false, ())
    else
      bif !(decide (((y10.1.Bins.length : Int)) = 6)) then
        some (false, ())
      else
        bif decide (y4.2.1.Out = 1) then
          bif decide (y4.2.2.1 = 3) then
            bif decide (y4.1.Work = 1) then
              bif (decide (y4.1.T.Marks = y2.1.T.Marks)) && (decide (y4.1.T.Black = y2.1.T.Black)) then
                bif decide (y6.2.1.Out = 1) then
                  bif decide (y6.2.2.1 = 6) then
                    bif decide (y6.1.Work = 2) then
                      bif decide (y6.1.T.Marks = 3#64) then
                        bif decide (y8.2.1.Out = 1) then
                          bif decide (y8.2.2.1 = 10) then
                            bif y8.1.Flag then
                              (idx y8.1.Bins 2).bind fun x13 =>
                              bif decide (((x13.length : Int)) = 1) then
                                (idx y8.1.Bins 2).bind fun x14 =>
                                (idx x14 0).bind fun x15 =>
                                bif decide (x15 = 2) then
                                  (q_state_Full y8.1.P).bind fun (y16 : Int × Unit) =>
                                  (q_state_Next y8.1.P).bind fun (y17 : Int × Unit) =>
                                  (q_chain_List y8.1.M y16.1 y17.1 9).bind fun (y18 : (List Int) × Unit) =>
                                  bif decide (((y18.1.length : Int)) = 2) then
                                    (q_state_Full y8.1.P).bind fun (y19 : Int × Unit) =>
                                    (q_state_Next y8.1.P).bind fun (y20 : Int × Unit) =>
                                    (q_chain_List y8.1.M y19.1 y20.1 9).bind fun (y21 : (List Int) × Unit) =>
                                    (idxn y21.1 0).bind fun n22 =>
                                    (y21.1[n22]?).bind fun x23 =>
                                    bif decide (x23 = 2) then
                                      bif decide (y10.2.1.Out = 1) then
                                        bif !y10.1.Flag then
                                          bif decide (y10.1.T.Marks = 5#64) then
                                            (q_grey_Asks y12.2.1).bind fun (y24 : Int × Unit) =>
                                            bif decide (y24.1 = 2) then
                                              (q_grey_Owes y12.2.1).bind fun (y25 : Int × Unit) =>
                                              bif decide (y25.1 = 1) then
                                                (q_grey_Holds y12.2.1).bind fun (y26 : Int × Unit) =>
                                                bif decide (y26.1 = 0) then
                                                  (q_grey_Holds y6.2.1).bind fun (y27 : Int × Unit) =>
                                                  some (decide (y27.1 = 0), ())
                                                else
                                                  some (false, ())
                                              else
                                                some (false, ())
                                            else
                                              some (false, ())
                                          else
                                            some (false, ())
                                        else
                                          some (false, ())
                                      else
                                        some (false, ())
                                    else
                                      some (false, ())
                                  else
                                    some (false, ())
                                else
                                  some (false, ())
                              else
                                some (false, ())
                            else
                              some (false, ())
                          else
                            some (false, ())
                        else
                          some (false, ())
                      else
                        some (false, ())
                    else
                      some (false, ())
                  else
                    some (false, ())
                else
                  some (false, ())
              else
                some (false, ())
            else
              some (false, ())
          else
            some (false, ())
        else
          some (false, ()) := mk_is (by kernel_rfl)
theorem q_besomlaw14_Maker_byte_v1_eq (a1 : Sbesomlaw14_Maker) : q_besomlaw14_Maker_byte_v1 a1 =
  bif decide (((a1.L.length : Int)) ≤ a1.At) then
    some (0, a1, ())
  else
    (idx a1.L (w64 ((w64 (a1.At + 1)) - 1))).bind fun x1 =>
    some ((x1.toNat : Int), { a1 with At := w64 (a1.At + 1) }, ()) := mk_is (by kernel_rfl)
theorem q_besomlaw14_Maker_op_v1_eq (a1 : Int) (a2 : Int) (a3 : Sbesomlaw14_Maker) : q_besomlaw14_Maker_op_v1 a1 a2 a3 =
  (q_besomlaw14_Maker_byte_v1 a3).bind fun (y1 : Int × Sbesomlaw14_Maker × Unit) =>
  (idxn ([1, 1, 2, 2, 2, 3, 4, 5] : List Int) (y1.1.tmod 8)).bind fun n2 =>
  (([1, 1, 2, 2, 2, 3, 4, 5] : List Int)[n2]?).bind fun x3 =>
  (q_besomlaw14_Maker_byte_v1 y1.2.1).bind fun (y4 : Int × Sbesomlaw14_Maker × Unit) =>
  bif decide (a1 = 0) then
    none
  else
    bif decide (x3 = 1) then
      (q_besomlaw14_Maker_byte_v1 y4.2.1).bind fun (y5 : Int × Sbesomlaw14_Maker × Unit) =>
      bif decide (a1 = 0) then
        none
      else
        bif decide (x3 < 3) then
          (q_besomlaw14_Maker_byte_v1 y5.2.1).bind fun (y6 : Int × Sbesomlaw14_Maker × Unit) =>
          bif decide (a2 = 0) then
            none
          else
            some (Scode_Op.mk x3 (y4.1.tmod a1) (y5.1.tmod a1) (y6.1.tmod a2), y6.2.1, ())
        else
          some (Scode_Op.mk x3 (y4.1.tmod a1) (y5.1.tmod a1) 0, y5.2.1, ())
    else
      bif decide (x3 = 2) then
        (q_besomlaw14_Maker_byte_v1 y4.2.1).bind fun (y7 : Int × Sbesomlaw14_Maker × Unit) =>
        bif decide (a1 = 0) then
          none
        else
          bif decide (x3 < 3) then
            (q_besomlaw14_Maker_byte_v1 y7.2.1).bind fun (y8 : Int × Sbesomlaw14_Maker × Unit) =>
            bif decide (a2 = 0) then
              none
            else
              some (Scode_Op.mk x3 (y4.1.tmod a1) (y7.1.tmod a1) (y8.1.tmod a2), y8.2.1, ())
          else
            some (Scode_Op.mk x3 (y4.1.tmod a1) (y7.1.tmod a1) 0, y7.2.1, ())
      else
        bif decide (x3 = 4) then
          (q_besomlaw14_Maker_byte_v1 y4.2.1).bind fun (y9 : Int × Sbesomlaw14_Maker × Unit) =>
          bif decide (a1 = 0) then
            none
          else
            bif decide (x3 < 3) then
              (q_besomlaw14_Maker_byte_v1 y9.2.1).bind fun (y10 : Int × Sbesomlaw14_Maker × Unit) =>
              bif decide (a2 = 0) then
                none
              else
                some (Scode_Op.mk x3 (y4.1.tmod a1) (y9.1.tmod a1) (y10.1.tmod a2), y10.2.1, ())
            else
              some (Scode_Op.mk x3 (y4.1.tmod a1) (y9.1.tmod a1) 0, y9.2.1, ())
        else
          bif decide (x3 < 3) then
            (q_besomlaw14_Maker_byte_v1 y4.2.1).bind fun (y11 : Int × Sbesomlaw14_Maker × Unit) =>
            bif decide (a2 = 0) then
              none
            else
              some (Scode_Op.mk x3 (y4.1.tmod a1) 0 (y11.1.tmod a2), y11.2.1, ())
          else
            some (Scode_Op.mk x3 (y4.1.tmod a1) 0 0, y4.2.1, ()) := mk_is (by kernel_rfl)
theorem p_besomlaw14_made_r7_eq (s1 : Int) (s2 : Int) (s3 : Int) (s4 : Int) (s5 : Int) (s6 : Int) (s7 : Int) (s8 : Int) (s9 : Int) (s10 : Int) (s11 : Int) (s12 : BitVec 64) (s13 : Sbesomlaw14_Maker) (s14 : Int) (s15 : Int) (s16 : Int) (s17 : Int) (s18 : Int) (s19 : Int) (s20 : Int) (s21 : Int) (s22 : Int) (s23 : BitVec 64) (s24 : List (List Int)) (s25 : List (List Int)) (s26 : List (List Scode_Op)) (s27 : List Spick_Pick) (s28 : List (List Int)) (s29 : List (List Int)) (s30 : List (List Scode_Op)) (s31 : List Spick_Pick) : p_besomlaw14_made_r7 (s1, s2, s3, s4, s5, s6, s7, s8, s9, s10, s11, s12, s13, s14, s15, s16, s17, s18, s19, s20, s21, s22, s23, s24, s25, s26, s27, s28, s29, s30, s31, ()) =
  bif decide (s2 < s1) then
    (loopF p_besomlaw14_made_r11 (s1, s2, 0, s3, s4, s5, s6, s7, s8, s9, s10, s11, s12, s13, s14, s15, s16, s17, s18, s19, s20, s21, s22, s23, ([] : List Int), s24, s25, s26, s27, s28, s29, s30, s31, ())).bind fun st => match st with
      | .again _ => none
      | .brk (y1 : Int × Int × Int × Int × Int × Int × Int × Int × Int × Int × Int × (BitVec 64) × Sbesomlaw14_Maker × Int × Int × Int × Int × Int × Int × Int × Int × Int × (BitVec 64) × (List Int) × (List (List Int)) × (List (List Int)) × (List (List Scode_Op)) × (List Spick_Pick) × (List (List Int)) × (List (List Int)) × (List (List Scode_Op)) × (List Spick_Pick) × Unit) =>
        (room (y1.2.2.2.2.2.2.2.2.2.2.2.2.2.2.2.2.2.2.2.2.2.2.2.2.2.2.2.2.1 ++ (([y1.2.2.2.2.2.2.2.2.2.2.2.2.2.2.2.2.2.2.2.2.2.2.2.1] : List (List Int))))).bind fun l2 =>
        some (.again (y1.1, w64 (y1.2.1 + 1), y1.2.2.1, y1.2.2.2.1, y1.2.2.2.2.1, y1.2.2.2.2.2.1, y1.2.2.2.2.2.2.1, y1.2.2.2.2.2.2.2.1, y1.2.2.2.2.2.2.2.2.1, y1.2.2.2.2.2.2.2.2.2.1, y1.2.2.2.2.2.2.2.2.2.2.1, y1.2.2.2.2.2.2.2.2.2.2.2.1, y1.2.2.2.2.2.2.2.2.2.2.2.2.1, y1.2.2.2.2.2.2.2.2.2.2.2.2.2.1, y1.2.2.2.2.2.2.2.2.2.2.2.2.2.2.1, y1.2.2.2.2.2.2.2.2.2.2.2.2.2.2.2.1, y1.2.2.2.2.2.2.2.2.2.2.2.2.2.2.2.2.1, y1.2.2.2.2.2.2.2.2.2.2.2.2.2.2.2.2.2.1, y1.2.2.2.2.2.2.2.2.2.2.2.2.2.2.2.2.2.2.1, y1.2.2.2.2.2.2.2.2.2.2.2.2.2.2.2.2.2.2.2.1, y1.2.2.2.2.2.2.2.2.2.2.2.2.2.2.2.2.2.2.2.2.1, y1.2.2.2.2.2.2.2.2.2.2.2.2.2.2.2.2.2.2.2.2.2.1, y1.2.2.2.2.2.2.2.2.2.2.2.2.2.2.2.2.2.2.2.2.2.2.1, y1.2.2.2.2.2.2.2.2.2.2.2.2.2.2.2.2.2.2.2.2.2.2.2.2.1, y1.2.2.2.2.2.2.2.2.2.2.2.2.2.2.2.2.2.2.2.2.2.2.2.2.2.1, y1.2.2.2.2.2.2.2.2.2.2.2.2.2.2.2.2.2.2.2.2.2.2.2.2.2.2.1, y1.2.2.2.2.2.2.2.2.2.2.2.2.2.2.2.2.2.2.2.2.2.2.2.2.2.2.2.1, l2, y1.2.2.2.2.2.2.2.2.2.2.2.2.2.2.2.2.2.2.2.2.2.2.2.2.2.2.2.2.2.1, y1.2.2.2.2.2.2.2.2.2.2.2.2.2.2.2.2.2.2.2.2.2.2.2.2.2.2.2.2.2.2.1, y1.2.2.2.2.2.2.2.2.2.2.2.2.2.2.2.2.2.2.2.2.2.2.2.2.2.2.2.2.2.2.2.1, ()))
      | .ret (y1 : Unit) =>
        some (.ret (()))
  else
    some (.brk (s1, s3, s4, s5, s6, s7, s8, s9, s10, s11, s12, s13, s14, s15, s16, s17, s18, s19, s20, s21, s22, s23, s24, s25, s26, s27, s28, s29, s30, s31, ())) := by kernel_rfl
theorem p_besomlaw14_made_r11_eq (s1 : Int) (s2 : Int) (s3 : Int) (s4 : Int) (s5 : Int) (s6 : Int) (s7 : Int) (s8 : Int) (s9 : Int) (s10 : Int) (s11 : Int) (s12 : Int) (s13 : BitVec 64) (s14 : Sbesomlaw14_Maker) (s15 : Int) (s16 : Int) (s17 : Int) (s18 : Int) (s19 : Int) (s20 : Int) (s21 : Int) (s22 : Int) (s23 : Int) (s24 : BitVec 64) (s25 : List Int) (s26 : List (List Int)) (s27 : List (List Int)) (s28 : List (List Scode_Op)) (s29 : List Spick_Pick) (s30 : List (List Int)) (s31 : List (List Int)) (s32 : List (List Scode_Op)) (s33 : List Spick_Pick) : p_besomlaw14_made_r11 (s1, s2, s3, s4, s5, s6, s7, s8, s9, s10, s11, s12, s13, s14, s15, s16, s17, s18, s19, s20, s21, s22, s23, s24, s25, s26, s27, s28, s29, s30, s31, s32, s33, ()) =
  bif decide (s3 < s23) then
    (q_besomlaw14_Maker_byte_v1 s14).bind fun (y1 : Int × Sbesomlaw14_Maker × Unit) =>
    bif decide ((w64 (s1 + 1)) = 0) then
      none
    else
      (room (s25 ++ (([(y1.1.tmod (w64 (s1 + 1)))] : List Int)))).bind fun l2 =>
      some (.again (s1, s2, w64 (s3 + 1), s4, s5, s6, s7, s8, s9, s10, s11, s12, s13, y1.2.1, s15, s16, s17, s18, s19, s20, s21, s22, s23, s24, l2, s26, s27, s28, s29, s30, s31, s32, s33, ()))
  else
    some (.brk (s1, s2, s4, s5, s6, s7, s8, s9, s10, s11, s12, s13, s14, s15, s16, s17, s18, s19, s20, s21, s22, s23, s24, s25, s26, s27, s28, s29, s30, s31, s32, s33, ())) := by kernel_rfl
theorem p_besomlaw14_made_r17_eq (s1 : Int) (s2 : Int) (s3 : Int) (s4 : Int) (s5 : Int) (s6 : Int) (s7 : Int) (s8 : Int) (s9 : Int) (s10 : Int) (s11 : Int) (s12 : BitVec 64) (s13 : Sbesomlaw14_Maker) (s14 : Int) (s15 : Int) (s16 : Int) (s17 : Int) (s18 : Int) (s19 : Int) (s20 : Int) (s21 : Int) (s22 : Int) (s23 : BitVec 64) (s24 : List (List Int)) (s25 : List (List Int)) (s26 : List (List Scode_Op)) (s27 : List Spick_Pick) (s28 : List (List Int)) (s29 : List (List Int)) (s30 : List (List Scode_Op)) (s31 : List Spick_Pick) : p_besomlaw14_made_r17 (s1, s2, s3, s4, s5, s6, s7, s8, s9, s10, s11, s12, s13, s14, s15, s16, s17, s18, s19, s20, s21, s22, s23, s24, s25, s26, s27, s28, s29, s30, s31, ()) =
  bif decide (s2 < s15) then
    (loopF p_besomlaw14_made_r21 (s1, s2, 0, s3, s4, s5, s6, s7, s8, s9, s10, s11, s12, s13, s14, s15, s16, s17, s18, s19, s20, s21, s22, s23, ([] : List Int), s24, s25, s26, s27, s28, s29, s30, s31, ())).bind fun st => match st with
      | .again _ => none
      | .brk (y1 : Int × Int × Int × Int × Int × Int × Int × Int × Int × Int × Int × (BitVec 64) × Sbesomlaw14_Maker × Int × Int × Int × Int × Int × Int × Int × Int × Int × (BitVec 64) × (List Int) × (List (List Int)) × (List (List Int)) × (List (List Scode_Op)) × (List Spick_Pick) × (List (List Int)) × (List (List Int)) × (List (List Scode_Op)) × (List Spick_Pick) × Unit) =>
        bif decide (((y1.2.2.2.2.2.2.2.2.2.2.2.2.2.2.2.2.2.2.2.2.2.2.2.1.length : Int)) = 0) then
          (q_besomlaw14_Maker_byte_v1 y1.2.2.2.2.2.2.2.2.2.2.2.2.1).bind fun (y2 : Int × Sbesomlaw14_Maker × Unit) =>
          (loopF p_besomlaw14_made_r28 (y1.1, y1.2.1, y2.1.tmod 8, y1.2.2.1, y1.2.2.2.1, y1.2.2.2.2.1, y1.2.2.2.2.2.1, y1.2.2.2.2.2.2.1, y1.2.2.2.2.2.2.2.1, y1.2.2.2.2.2.2.2.2.1, y1.2.2.2.2.2.2.2.2.2.1, y1.2.2.2.2.2.2.2.2.2.2.1, y1.2.2.2.2.2.2.2.2.2.2.2.1, y2.2.1, y1.2.2.2.2.2.2.2.2.2.2.2.2.2.1, y1.2.2.2.2.2.2.2.2.2.2.2.2.2.2.1, y1.2.2.2.2.2.2.2.2.2.2.2.2.2.2.2.1, y1.2.2.2.2.2.2.2.2.2.2.2.2.2.2.2.2.1, y1.2.2.2.2.2.2.2.2.2.2.2.2.2.2.2.2.2.1, y1.2.2.2.2.2.2.2.2.2.2.2.2.2.2.2.2.2.2.1, y1.2.2.2.2.2.2.2.2.2.2.2.2.2.2.2.2.2.2.2.1, y1.2.2.2.2.2.2.2.2.2.2.2.2.2.2.2.2.2.2.2.2.1, y1.2.2.2.2.2.2.2.2.2.2.2.2.2.2.2.2.2.2.2.2.2.1, y1.2.2.2.2.2.2.2.2.2.2.2.2.2.2.2.2.2.2.2.2.2.2.1, ([0] : List Int), ([] : List Scode_Op), y1.2.2.2.2.2.2.2.2.2.2.2.2.2.2.2.2.2.2.2.2.2.2.2.2.1, y1.2.2.2.2.2.2.2.2.2.2.2.2.2.2.2.2.2.2.2.2.2.2.2.2.2.1, y1.2.2.2.2.2.2.2.2.2.2.2.2.2.2.2.2.2.2.2.2.2.2.2.2.2.2.1, y1.2.2.2.2.2.2.2.2.2.2.2.2.2.2.2.2.2.2.2.2.2.2.2.2.2.2.2.1, y1.2.2.2.2.2.2.2.2.2.2.2.2.2.2.2.2.2.2.2.2.2.2.2.2.2.2.2.2.1, y1.2.2.2.2.2.2.2.2.2.2.2.2.2.2.2.2.2.2.2.2.2.2.2.2.2.2.2.2.2.1, y1.2.2.2.2.2.2.2.2.2.2.2.2.2.2.2.2.2.2.2.2.2.2.2.2.2.2.2.2.2.2.1, y1.2.2.2.2.2.2.2.2.2.2.2.2.2.2.2.2.2.2.2.2.2.2.2.2.2.2.2.2.2.2.2.1, ())).bind fun st => match st with
            | .again _ => none
            | .brk (y3 : Int × Int × Int × Int × Int × Int × Int × Int × Int × Int × Int × (BitVec 64) × Sbesomlaw14_Maker × Int × Int × Int × Int × Int × Int × Int × Int × Int × (BitVec 64) × (List Int) × (List Scode_Op) × (List (List Int)) × (List (List Int)) × (List (List Scode_Op)) × (List Spick_Pick) × (List (List Int)) × (List (List Int)) × (List (List Scode_Op)) × (List Spick_Pick) × Unit) =>
              (room (y3.2.2.2.2.2.2.2.2.2.2.2.2.2.2.2.2.2.2.2.2.2.2.2.2.2.2.2.2.2.2.1 ++ (([y3.2.2.2.2.2.2.2.2.2.2.2.2.2.2.2.2.2.2.2.2.2.2.2.1] : List (List Int))))).bind fun l4 =>
              (room (y3.2.2.2.2.2.2.2.2.2.2.2.2.2.2.2.2.2.2.2.2.2.2.2.2.2.2.2.2.2.2.2.1 ++ (([y3.2.2.2.2.2.2.2.2.2.2.2.2.2.2.2.2.2.2.2.2.2.2.2.2.1] : List (List Scode_Op))))).bind fun l5 =>
              some (.again (y3.1, w64 (y3.2.1 + 1), y3.2.2.1, y3.2.2.2.1, y3.2.2.2.2.1, y3.2.2.2.2.2.1, y3.2.2.2.2.2.2.1, y3.2.2.2.2.2.2.2.1, y3.2.2.2.2.2.2.2.2.1, y3.2.2.2.2.2.2.2.2.2.1, y3.2.2.2.2.2.2.2.2.2.2.1, y3.2.2.2.2.2.2.2.2.2.2.2.1, y3.2.2.2.2.2.2.2.2.2.2.2.2.1, y3.2.2.2.2.2.2.2.2.2.2.2.2.2.1, y3.2.2.2.2.2.2.2.2.2.2.2.2.2.2.1, y3.2.2.2.2.2.2.2.2.2.2.2.2.2.2.2.1, y3.2.2.2.2.2.2.2.2.2.2.2.2.2.2.2.2.1, y3.2.2.2.2.2.2.2.2.2.2.2.2.2.2.2.2.2.1, y3.2.2.2.2.2.2.2.2.2.2.2.2.2.2.2.2.2.2.1, y3.2.2.2.2.2.2.2.2.2.2.2.2.2.2.2.2.2.2.2.1, y3.2.2.2.2.2.2.2.2.2.2.2.2.2.2.2.2.2.2.2.2.1, y3.2.2.2.2.2.2.2.2.2.2.2.2.2.2.2.2.2.2.2.2.2.1, y3.2.2.2.2.2.2.2.2.2.2.2.2.2.2.2.2.2.2.2.2.2.2.1, y3.2.2.2.2.2.2.2.2.2.2.2.2.2.2.2.2.2.2.2.2.2.2.2.2.2.1, y3.2.2.2.2.2.2.2.2.2.2.2.2.2.2.2.2.2.2.2.2.2.2.2.2.2.2.1, y3.2.2.2.2.2.2.2.2.2.2.2.2.2.2.2.2.2.2.2.2.2.2.2.2.2.2.2.1, y3.2.2.2.2.2.2.2.2.2.2.2.2.2.2.2.2.2.2.2.2.2.2.2.2.2.2.2.2.1, y3.2.2.2.2.2.2.2.2.2.2.2.2.2.2.2.2.2.2.2.2.2.2.2.2.2.2.2.2.2.1, l4, l5, y3.2.2.2.2.2.2.2.2.2.2.2.2.2.2.2.2.2.2.2.2.2.2.2.2.2.2.2.2.2.2.2.2.1, ()))
            | .ret (y3 : Unit) =>
              some (.ret (()))
        else
          (q_besomlaw14_Maker_byte_v1 y1.2.2.2.2.2.2.2.2.2.2.2.2.1).bind fun (y6 : Int × Sbesomlaw14_Maker × Unit) =>
          (loopF p_besomlaw14_made_r28 (y1.1, y1.2.1, y6.1.tmod 8, y1.2.2.1, y1.2.2.2.1, y1.2.2.2.2.1, y1.2.2.2.2.2.1, y1.2.2.2.2.2.2.1, y1.2.2.2.2.2.2.2.1, y1.2.2.2.2.2.2.2.2.1, y1.2.2.2.2.2.2.2.2.2.1, y1.2.2.2.2.2.2.2.2.2.2.1, y1.2.2.2.2.2.2.2.2.2.2.2.1, y6.2.1, y1.2.2.2.2.2.2.2.2.2.2.2.2.2.1, y1.2.2.2.2.2.2.2.2.2.2.2.2.2.2.1, y1.2.2.2.2.2.2.2.2.2.2.2.2.2.2.2.1, y1.2.2.2.2.2.2.2.2.2.2.2.2.2.2.2.2.1, y1.2.2.2.2.2.2.2.2.2.2.2.2.2.2.2.2.2.1, y1.2.2.2.2.2.2.2.2.2.2.2.2.2.2.2.2.2.2.1, y1.2.2.2.2.2.2.2.2.2.2.2.2.2.2.2.2.2.2.2.1, y1.2.2.2.2.2.2.2.2.2.2.2.2.2.2.2.2.2.2.2.2.1, y1.2.2.2.2.2.2.2.2.2.2.2.2.2.2.2.2.2.2.2.2.2.1, y1.2.2.2.2.2.2.2.2.2.2.2.2.2.2.2.2.2.2.2.2.2.2.1, y1.2.2.2.2.2.2.2.2.2.2.2.2.2.2.2.2.2.2.2.2.2.2.2.1, ([] : List Scode_Op), y1.2.2.2.2.2.2.2.2.2.2.2.2.2.2.2.2.2.2.2.2.2.2.2.2.1, y1.2.2.2.2.2.2.2.2.2.2.2.2.2.2.2.2.2.2.2.2.2.2.2.2.2.1, y1.2.2.2.2.2.2.2.2.2.2.2.2.2.2.2.2.2.2.2.2.2.2.2.2.2.2.1, y1.2.2.2.2.2.2.2.2.2.2.2.2.2.2.2.2.2.2.2.2.2.2.2.2.2.2.2.1, y1.2.2.2.2.2.2.2.2.2.2.2.2.2.2.2.2.2.2.2.2.2.2.2.2.2.2.2.2.1, y1.2.2.2.2.2.2.2.2.2.2.2.2.2.2.2.2.2.2.2.2.2.2.2.2.2.2.2.2.2.1, y1.2.2.2.2.2.2.2.2.2.2.2.2.2.2.2.2.2.2.2.2.2.2.2.2.2.2.2.2.2.2.1, y1.2.2.2.2.2.2.2.2.2.2.2.2.2.2.2.2.2.2.2.2.2.2.2.2.2.2.2.2.2.2.2.1, ())).bind fun st => match st with
            | .again _ => none
            | .brk (y7 : Int × Int × Int × Int × Int × Int × Int × Int × Int × Int × Int × (BitVec 64) × Sbesomlaw14_Maker × Int × Int × Int × Int × Int × Int × Int × Int × Int × (BitVec 64) × (List Int) × (List Scode_Op) × (List (List Int)) × (List (List Int)) × (List (List Scode_Op)) × (List Spick_Pick) × (List (List Int)) × (List (List Int)) × (List (List Scode_Op)) × (List Spick_Pick) × Unit) =>
              (room (y7.2.2.2.2.2.2.2.2.2.2.2.2.2.2.2.2.2.2.2.2.2.2.2.2.2.2.2.2.2.2.1 ++ (([y7.2.2.2.2.2.2.2.2.2.2.2.2.2.2.2.2.2.2.2.2.2.2.2.1] : List (List Int))))).bind fun l8 =>
              (room (y7.2.2.2.2.2.2.2.2.2.2.2.2.2.2.2.2.2.2.2.2.2.2.2.2.2.2.2.2.2.2.2.1 ++ (([y7.2.2.2.2.2.2.2.2.2.2.2.2.2.2.2.2.2.2.2.2.2.2.2.2.1] : List (List Scode_Op))))).bind fun l9 =>
              some (.again (y7.1, w64 (y7.2.1 + 1), y7.2.2.1, y7.2.2.2.1, y7.2.2.2.2.1, y7.2.2.2.2.2.1, y7.2.2.2.2.2.2.1, y7.2.2.2.2.2.2.2.1, y7.2.2.2.2.2.2.2.2.1, y7.2.2.2.2.2.2.2.2.2.1, y7.2.2.2.2.2.2.2.2.2.2.1, y7.2.2.2.2.2.2.2.2.2.2.2.1, y7.2.2.2.2.2.2.2.2.2.2.2.2.1, y7.2.2.2.2.2.2.2.2.2.2.2.2.2.1, y7.2.2.2.2.2.2.2.2.2.2.2.2.2.2.1, y7.2.2.2.2.2.2.2.2.2.2.2.2.2.2.2.1, y7.2.2.2.2.2.2.2.2.2.2.2.2.2.2.2.2.1, y7.2.2.2.2.2.2.2.2.2.2.2.2.2.2.2.2.2.1, y7.2.2.2.2.2.2.2.2.2.2.2.2.2.2.2.2.2.2.1, y7.2.2.2.2.2.2.2.2.2.2.2.2.2.2.2.2.2.2.2.1, y7.2.2.2.2.2.2.2.2.2.2.2.2.2.2.2.2.2.2.2.2.1, y7.2.2.2.2.2.2.2.2.2.2.2.2.2.2.2.2.2.2.2.2.2.1, y7.2.2.2.2.2.2.2.2.2.2.2.2.2.2.2.2.2.2.2.2.2.2.1, y7.2.2.2.2.2.2.2.2.2.2.2.2.2.2.2.2.2.2.2.2.2.2.2.2.2.1, y7.2.2.2.2.2.2.2.2.2.2.2.2.2.2.2.2.2.2.2.2.2.2.2.2.2.2.1, y7.2.2.2.2.2.2.2.2.2.2.2.2.2.2.2.2.2.2.2.2.2.2.2.2.2.2.2.1, y7.2.2.2.2.2.2.2.2.2.2.2.2.2.2.2.2.2.2.2.2.2.2.2.2.2.2.2.2.1, y7.2.2.2.2.2.2.2.2.2.2.2.2.2.2.2.2.2.2.2.2.2.2.2.2.2.2.2.2.2.1, l8, l9, y7.2.2.2.2.2.2.2.2.2.2.2.2.2.2.2.2.2.2.2.2.2.2.2.2.2.2.2.2.2.2.2.2.1, ()))
            | .ret (y7 : Unit) =>
              some (.ret (()))
      | .ret (y1 : Unit) =>
        some (.ret (()))
  else
    some (.brk (s3, s4, s5, s6, s7, s8, s9, s10, s11, s12, s14, s15, s16, s17, s18, s19, s20, s21, s22, s23, s24, s25, s26, s27, s28, s29, s30, s31, ())) := by kernel_rfl
theorem p_besomlaw14_made_r21_eq (s1 : Int) (s2 : Int) (s3 : Int) (s4 : Int) (s5 : Int) (s6 : Int) (s7 : Int) (s8 : Int) (s9 : Int) (s10 : Int) (s11 : Int) (s12 : Int) (s13 : BitVec 64) (s14 : Sbesomlaw14_Maker) (s15 : Int) (s16 : Int) (s17 : Int) (s18 : Int) (s19 : Int) (s20 : Int) (s21 : Int) (s22 : Int) (s23 : Int) (s24 : BitVec 64) (s25 : List Int) (s26 : List (List Int)) (s27 : List (List Int)) (s28 : List (List Scode_Op)) (s29 : List Spick_Pick) (s30 : List (List Int)) (s31 : List (List Int)) (s32 : List (List Scode_Op)) (s33 : List Spick_Pick) : p_besomlaw14_made_r21 (s1, s2, s3, s4, s5, s6, s7, s8, s9, s10, s11, s12, s13, s14, s15, s16, s17, s18, s19, s20, s21, s22, s23, s24, s25, s26, s27, s28, s29, s30, s31, s32, s33, ()) =
  (q_besomlaw14_Maker_byte_v1 s14).bind fun (y1 : Int × Sbesomlaw14_Maker × Unit) =>
  bif decide (s3 < (w64 (1 + (y1.1.tmod 3)))) then
    (q_besomlaw14_Maker_byte_v1 y1.2.1).bind fun (y2 : Int × Sbesomlaw14_Maker × Unit) =>
    bif decide ((w64 (s1 + 1)) = 0) then
      none
    else
      (room (s25 ++ (([(y2.1.tmod (w64 (s1 + 1)))] : List Int)))).bind fun l3 =>
      some (.again (s1, s2, w64 (s3 + 1), s4, s5, s6, s7, s8, s9, s10, s11, s12, s13, y2.2.1, s15, s16, s17, s18, s19, s20, s21, s22, s23, s24, l3, s26, s27, s28, s29, s30, s31, s32, s33, ()))
  else
    some (.brk (s1, s2, s4, s5, s6, s7, s8, s9, s10, s11, s12, s13, y1.2.1, s15, s16, s17, s18, s19, s20, s21, s22, s23, s24, s25, s26, s27, s28, s29, s30, s31, s32, s33, ())) := by kernel_rfl
theorem p_besomlaw14_made_r28_eq (s1 : Int) (s2 : Int) (s3 : Int) (s4 : Int) (s5 : Int) (s6 : Int) (s7 : Int) (s8 : Int) (s9 : Int) (s10 : Int) (s11 : Int) (s12 : Int) (s13 : BitVec 64) (s14 : Sbesomlaw14_Maker) (s15 : Int) (s16 : Int) (s17 : Int) (s18 : Int) (s19 : Int) (s20 : Int) (s21 : Int) (s22 : Int) (s23 : Int) (s24 : BitVec 64) (s25 : List Int) (s26 : List Scode_Op) (s27 : List (List Int)) (s28 : List (List Int)) (s29 : List (List Scode_Op)) (s30 : List Spick_Pick) (s31 : List (List Int)) (s32 : List (List Int)) (s33 : List (List Scode_Op)) (s34 : List Spick_Pick) : p_besomlaw14_made_r28 (s1, s2, s3, s4, s5, s6, s7, s8, s9, s10, s11, s12, s13, s14, s15, s16, s17, s18, s19, s20, s21, s22, s23, s24, s25, s26, s27, s28, s29, s30, s31, s32, s33, s34, ()) =
  bif decide (0 < s3) then
    (q_besomlaw14_Maker_op_v1 ((s25.length : Int)) s23 s14).bind fun (y1 : Scode_Op × Sbesomlaw14_Maker × Unit) =>
    (room (s26 ++ ([y1.1] : List Scode_Op))).bind fun l2 =>
    some (.again (s1, s2, w64 (s3 - 1), s4, s5, s6, s7, s8, s9, s10, s11, s12, s13, y1.2.1, s15, s16, s17, s18, s19, s20, s21, s22, s23, s24, s25, l2, s27, s28, s29, s30, s31, s32, s33, s34, ()))
  else
    some (.brk (s1, s2, s4, s5, s6, s7, s8, s9, s10, s11, s12, s13, s14, s15, s16, s17, s18, s19, s20, s21, s22, s23, s24, s25, s26, s27, s28, s29, s30, s31, s32, s33, s34, ())) := by kernel_rfl
theorem q_besomlaw14_made_eq (a1 : List (BitVec 8)) : q_besomlaw14_made a1 =
  (cut a1 0 (bif decide (90 < ((a1.length : Int))) then 90 else ((a1.length : Int)))).bind fun l1 =>
  (q_besomlaw14_Maker_byte_v1 (Sbesomlaw14_Maker.mk l1 0)).bind fun (y2 : Int × Sbesomlaw14_Maker × Unit) =>
  (q_besomlaw14_Maker_byte_v1 y2.2.1).bind fun (y3 : Int × Sbesomlaw14_Maker × Unit) =>
  (q_besomlaw14_Maker_byte_v1 y3.2.1).bind fun (y4 : Int × Sbesomlaw14_Maker × Unit) =>
  (q_besomlaw14_Maker_byte_v1 y4.2.1).bind fun (y5 : Int × Sbesomlaw14_Maker × Unit) =>
  (q_besomlaw14_Maker_byte_v1 y5.2.1).bind fun (y6 : Int × Sbesomlaw14_Maker × Unit) =>
  (q_besomlaw14_Maker_byte_v1 y6.2.1).bind fun (y7 : Int × Sbesomlaw14_Maker × Unit) =>
  (q_besomlaw14_Maker_byte_v1 y7.2.1).bind fun (y8 : Int × Sbesomlaw14_Maker × Unit) =>
  (q_besomlaw14_Maker_byte_v1 y8.2.1).bind fun (y9 : Int × Sbesomlaw14_Maker × Unit) =>
  (q_besomlaw14_Maker_byte_v1 y9.2.1).bind fun (y10 : Int × Sbesomlaw14_Maker × Unit) =>
  (q_besomlaw14_Maker_byte_v1 y10.2.1).bind fun (y11 : Int × Sbesomlaw14_Maker × Unit) =>
  (loopF p_besomlaw14_made_r7 (w64 (1 + (y10.1.tmod 6)), 0, 0, 0, 0, 0, 0, 0, 0, 0, 0, 0#64, y11.2.1, w64 (1 + (y2.1.tmod 3)), y3.1.tmod 3, w64 (1 + (y4.1.tmod 3)), w64 (1 + (y5.1.tmod 2)), w64 (1 + (y6.1.tmod 3)), w64 ((w64 (1 + (y10.1.tmod 6))) + (y11.1.tmod 4)), y7.1.tmod 4, y8.1.tmod 4, w64 (1 + (y9.1.tmod 2)), 0#64, ([] : List (List Int)), ([] : List (List Int)), ([] : List (List Scode_Op)), ([] : List Spick_Pick), ([] : List (List Int)), ([] : List (List Int)), ([] : List (List Scode_Op)), ([] : List Spick_Pick), ())).bind fun st => match st with
    | .again _ => none
    | .brk (y12 : Int × Int × Int × Int × Int × Int × Int × Int × Int × Int × (BitVec 64) × Sbesomlaw14_Maker × Int × Int × Int × Int × Int × Int × Int × Int × Int × (BitVec 64) × (List (List Int)) × (List (List Int)) × (List (List Scode_Op)) × (List Spick_Pick) × (List (List Int)) × (List (List Int)) × (List (List Scode_Op)) × (List Spick_Pick) × Unit) =>
      (q_besomlaw14_Maker_byte_v1 y12.2.2.2.2.2.2.2.2.2.2.2.1).bind fun (y13 : Int × Sbesomlaw14_Maker × Unit) =>
      bif decide ((w64 (y12.1 + 1)) = 0) then
        none
      else
        (q_set_Add 0#64 (y13.1.tmod (w64 (y12.1 + 1)))).bind fun (y14 : (BitVec 64) × Unit) =>
        (loopF p_besomlaw14_made_r17 (y12.1, 0, y12.2.1, y12.2.2.1, y12.2.2.2.1, y12.2.2.2.2.1, y12.2.2.2.2.2.1, y12.2.2.2.2.2.2.1, y12.2.2.2.2.2.2.2.1, y12.2.2.2.2.2.2.2.2.1, y12.2.2.2.2.2.2.2.2.2.1, y12.2.2.2.2.2.2.2.2.2.2.1, y13.2.1, y12.2.2.2.2.2.2.2.2.2.2.2.2.1, y12.2.2.2.2.2.2.2.2.2.2.2.2.2.1, y12.2.2.2.2.2.2.2.2.2.2.2.2.2.2.1, y12.2.2.2.2.2.2.2.2.2.2.2.2.2.2.2.1, y12.2.2.2.2.2.2.2.2.2.2.2.2.2.2.2.2.1, y12.2.2.2.2.2.2.2.2.2.2.2.2.2.2.2.2.2.1, y12.2.2.2.2.2.2.2.2.2.2.2.2.2.2.2.2.2.2.1, y12.2.2.2.2.2.2.2.2.2.2.2.2.2.2.2.2.2.2.2.1, y12.2.2.2.2.2.2.2.2.2.2.2.2.2.2.2.2.2.2.2.2.1, y14.1, y12.2.2.2.2.2.2.2.2.2.2.2.2.2.2.2.2.2.2.2.2.2.2.1, y12.2.2.2.2.2.2.2.2.2.2.2.2.2.2.2.2.2.2.2.2.2.2.2.1, y12.2.2.2.2.2.2.2.2.2.2.2.2.2.2.2.2.2.2.2.2.2.2.2.2.1, y12.2.2.2.2.2.2.2.2.2.2.2.2.2.2.2.2.2.2.2.2.2.2.2.2.2.1, y12.2.2.2.2.2.2.2.2.2.2.2.2.2.2.2.2.2.2.2.2.2.2.2.2.2.2.1, y12.2.2.2.2.2.2.2.2.2.2.2.2.2.2.2.2.2.2.2.2.2.2.2.2.2.2.2.1, y12.2.2.2.2.2.2.2.2.2.2.2.2.2.2.2.2.2.2.2.2.2.2.2.2.2.2.2.2.1, y12.2.2.2.2.2.2.2.2.2.2.2.2.2.2.2.2.2.2.2.2.2.2.2.2.2.2.2.2.2.1, ())).bind fun st => match st with
          | .again _ => none
          | .brk (y15 : Int × Int × Int × Int × Int × Int × Int × Int × Int × (BitVec 64) × Int × Int × Int × Int × Int × Int × Int × Int × Int × (BitVec 64) × (List (List Int)) × (List (List Int)) × (List (List Scode_Op)) × (List Spick_Pick) × (List (List Int)) × (List (List Int)) × (List (List Scode_Op)) × (List Spick_Pick) × Unit) =>
            some (Splan_Plan.mk y15.2.2.2.2.2.2.2.2.2.2.1 y15.2.2.2.2.2.2.2.2.2.2.2.1 y15.2.2.2.2.2.2.2.2.2.2.2.2.1 y15.2.2.2.2.2.2.2.2.2.2.2.2.2.1 y15.2.2.2.2.2.2.2.2.2.2.2.2.2.2.1 y15.2.2.2.2.2.2.2.2.2.2.2.2.2.2.2.1 y15.2.2.2.2.2.2.2.2.2.2.2.2.2.2.2.2.1 y15.2.2.2.2.2.2.2.2.2.2.2.2.2.2.2.2.2.1 (Sheap_Heap.mk y15.2.2.2.2.2.2.2.2.2.2.2.2.2.2.2.2.2.2.1 y15.2.2.2.2.2.2.2.2.2.2.2.2.2.2.2.2.2.2.2.2.2.2.2.2.1) y15.2.2.2.2.2.2.2.2.2.2.2.2.2.2.2.2.2.2.2.1 y15.2.2.2.2.2.2.2.2.2.2.2.2.2.2.2.2.2.2.2.2.2.2.2.2.2.1 y15.2.2.2.2.2.2.2.2.2.2.2.2.2.2.2.2.2.2.2.2.2.2.2.2.2.2.1 y15.2.2.2.2.2.2.2.2.2.2.2.2.2.2.2.2.2.2.2.2.2.2.2.2.2.2.2.1, ())
          | .ret (y15 : Unit) =>
            none
    | .ret (y12 : Unit) =>
      none := mk_is (by kernel_rfl)
theorem q_besomlaw14_Grow_begin_eq (a1 : Sbesomlaw14_Grow) (a2 : Splan_Plan) : q_besomlaw14_Grow_begin a1 a2 =
  bif decide (((a2.H.Objs.length : Int)) = 0) then
    none
  else
    bif decide (a2.Workers = 0) then
      none
    else
      (q_grey_Begin (w64 (1 + (((a1.Mode % 3#8).toNat : Int)))) (w64 (1 + (((a1.Obj.toNat : Int)).tmod ((a2.H.Objs.length : Int))))) (w64 (1 + (((a1.Who.toNat : Int)).tmod a2.Workers)))).bind fun (y1 : Sstate_Grey × Unit) =>
      some (y1.1, ()) := mk_is (by kernel_rfl)
end Go.Pe.G
namespace Go.Pe.G
open Go.Pe
theorem p_besomlaw14_two_r7_eq (s1 : List (BitVec 8)) (s2 : Int) (s3 : Int) (s4 : Int) (s5 : Int) (s6 : Int) (s7 : Int) (s8 : Int) (s9 : Int) (s10 : Int) (s11 : Int) (s12 : BitVec 64) (s13 : Int) (s14 : Stint_Tint) (s15 : Int) (s16 : Int) (s17 : Bool) (s18 : Bool) (s19 : Int) (s20 : Int) (s21 : Int) (s22 : Int) (s23 : Sstate_Detect) (s24 : Sstate_State) (s25 : List Sstate_Grey) (s26 : List (List Int)) (s27 : List (List Int)) (s28 : List (List Scode_Op)) (s29 : List Spick_Pick) (s30 : List (List Int)) (s31 : List (BitVec 64)) (s32 : List (List Int)) (s33 : List Int) (s34 : List Int) (s35 : List Sstate_Worker) (s36 : List Sstate_Mutator) : p_besomlaw14_two_r7 (s1, s2, s3, s4, s5, s6, s7, s8, s9, s10, s11, s12, s13, s14, s15, s16, s17, s18, s19, s20, s21, s22, s23, s24, s25, s26, s27, s28, s29, s30, s31, s32, s33, s34, s35, s36, ()) =
  bif decide (s2 < ((s1.length : Int))) then
    bif decide (s2 < 60) then
      (idx s1 s2).bind fun x1 =>
      (idxn s25 (((x1 % 2#8).toNat : Int))).bind fun n2 =>
      (s25[n2]?).bind fun x3 =>
      (q_grey_Step s24 x3).bind fun (y4 : Sstate_State × Sstate_Grey × Unit) =>
      (idxn s25 (((x1 % 2#8).toNat : Int))).bind fun n5 =>
      some (.again (s1, w64 (s2 + 1), s3, s4, s5, s6, s7, s8, s9, s10, s11, s12, s13, s14, s15, s16, s17, s18, s19, s20, s21, s22, s23, y4.1, s25.set n5 y4.2.1, s26, s27, s28, s29, s30, s31, s32, s33, s34, s35, s36, ()))
    else
      some (.brk (s3, s4, s5, s6, s7, s8, s9, s10, s11, s12, s13, s14, s15, s16, s17, s18, s19, s20, s21, s22, s23, s24, s25, s26, s27, s28, s29, s30, s31, s32, s33, s34, s35, s36, ()))
  else
    some (.brk (s3, s4, s5, s6, s7, s8, s9, s10, s11, s12, s13, s14, s15, s16, s17, s18, s19, s20, s21, s22, s23, s24, s25, s26, s27, s28, s29, s30, s31, s32, s33, s34, s35, s36, ())) := by kernel_rfl
theorem q_besomlaw14_two_eq (a1 : List (BitVec 8)) (a2 : Sbesomlaw14_Grow) (a3 : Sbesomlaw14_Grow) (a4 : List (BitVec 8)) : q_besomlaw14_two a1 a2 a3 a4 =
  (q_besomlaw14_made a1).bind fun (y1 : Splan_Plan × Unit) =>
  (q_state_New y1.1).bind fun (y2 : Sstate_State × Unit) =>
  (q_besomlaw14_Grow_begin a2 y1.1).bind fun (y3 : Sstate_Grey × Unit) =>
  (q_besomlaw14_Grow_begin a3 y1.1).bind fun (y4 : Sstate_Grey × Unit) =>
  bif decide ((a2.Mode % 3#8) = 0#8) then
    bif decide ((a3.Mode % 3#8) = 0#8) then
      (idxn ([y3.1, y4.1] : List Sstate_Grey) 0).bind fun n5 =>
      (([y3.1, y4.1] : List Sstate_Grey)[n5]?).bind fun x6 =>
      (idxn ([y3.1, y4.1] : List Sstate_Grey) 1).bind fun n7 =>
      (([y3.1, y4.1] : List Sstate_Grey)[n7]?).bind fun x8 =>
      bif decide (x6.Who = x8.Who) then
        (idxn ([y3.1, y4.1] : List Sstate_Grey) 1).bind fun n9 =>
        (([y3.1, y4.1] : List Sstate_Grey)[n9]?).bind fun x10 =>
        (q_grey_Begin 3 x10.Obj 1).bind fun (y11 : Sstate_Grey × Unit) =>
        (idxn ([y3.1, y4.1] : List Sstate_Grey) 1).bind fun n12 =>
        (loopF p_besomlaw14_two_r7 (a4, 0, 0, 0, 0, 0, 0, 0, 0, 0, 0, 0#64, 0, Stint_Tint.mk 0#64 0#64, 0, 0, false, false, 0, 0, 0, 0, Sstate_Detect.mk 0 0, y2.1, ([y3.1, y4.1] : List Sstate_Grey).set n12 y11.1, ([] : List (List Int)), ([] : List (List Int)), ([] : List (List Scode_Op)), ([] : List Spick_Pick), ([] : List (List Int)), ([] : List (BitVec 64)), ([] : List (List Int)), ([] : List Int), ([] : List Int), ([] : List Sstate_Worker), ([] : List Sstate_Mutator), ())).bind fun st => match st with
          | .again _ => none
          | .brk (y13 : Int × Int × Int × Int × Int × Int × Int × Int × Int × (BitVec 64) × Int × Stint_Tint × Int × Int × Bool × Bool × Int × Int × Int × Int × Sstate_Detect × Sstate_State × (List Sstate_Grey) × (List (List Int)) × (List (List Int)) × (List (List Scode_Op)) × (List Spick_Pick) × (List (List Int)) × (List (BitVec 64)) × (List (List Int)) × (List Int) × (List Int) × (List Sstate_Worker) × (List Sstate_Mutator) × Unit) =>
            some (y13.2.2.2.2.2.2.2.2.2.2.2.2.2.2.2.2.2.2.2.2.2.1, y13.2.2.2.2.2.2.2.2.2.2.2.2.2.2.2.2.2.2.2.2.2.2.1, ())
          | .ret (y13 : Unit) =>
            none
      else
        (loopF p_besomlaw14_two_r7 (a4, 0, 0, 0, 0, 0, 0, 0, 0, 0, 0, 0#64, 0, Stint_Tint.mk 0#64 0#64, 0, 0, false, false, 0, 0, 0, 0, Sstate_Detect.mk 0 0, y2.1, ([y3.1, y4.1] : List Sstate_Grey), ([] : List (List Int)), ([] : List (List Int)), ([] : List (List Scode_Op)), ([] : List Spick_Pick), ([] : List (List Int)), ([] : List (BitVec 64)), ([] : List (List Int)), ([] : List Int), ([] : List Int), ([] : List Sstate_Worker), ([] : List Sstate_Mutator), ())).bind fun st => match st with
          | .again _ => none
          | .brk (y14 : Int × Int × Int × Int × Int × Int × Int × Int × Int × (BitVec 64) × Int × Stint_Tint × Int × Int × Bool × Bool × Int × Int × Int × Int × Sstate_Detect × Sstate_State × (List Sstate_Grey) × (List (List Int)) × (List (List Int)) × (List (List Scode_Op)) × (List Spick_Pick) × (List (List Int)) × (List (BitVec 64)) × (List (List Int)) × (List Int) × (List Int) × (List Sstate_Worker) × (List Sstate_Mutator) × Unit) =>
            some (y14.2.2.2.2.2.2.2.2.2.2.2.2.2.2.2.2.2.2.2.2.2.1, y14.2.2.2.2.2.2.2.2.2.2.2.2.2.2.2.2.2.2.2.2.2.2.1, ())
          | .ret (y14 : Unit) =>
            none
    else
      (loopF p_besomlaw14_two_r7 (a4, 0, 0, 0, 0, 0, 0, 0, 0, 0, 0, 0#64, 0, Stint_Tint.mk 0#64 0#64, 0, 0, false, false, 0, 0, 0, 0, Sstate_Detect.mk 0 0, y2.1, ([y3.1, y4.1] : List Sstate_Grey), ([] : List (List Int)), ([] : List (List Int)), ([] : List (List Scode_Op)), ([] : List Spick_Pick), ([] : List (List Int)), ([] : List (BitVec 64)), ([] : List (List Int)), ([] : List Int), ([] : List Int), ([] : List Sstate_Worker), ([] : List Sstate_Mutator), ())).bind fun st => match st with
        | .again _ => none
        | .brk (y15 : Int × Int × Int × Int × Int × Int × Int × Int × Int × (BitVec 64) × Int × Stint_Tint × Int × Int × Bool × Bool × Int × Int × Int × Int × Sstate_Detect × Sstate_State × (List Sstate_Grey) × (List (List Int)) × (List (List Int)) × (List (List Scode_Op)) × (List Spick_Pick) × (List (List Int)) × (List (BitVec 64)) × (List (List Int)) × (List Int) × (List Int) × (List Sstate_Worker) × (List Sstate_Mutator) × Unit) =>
          some (y15.2.2.2.2.2.2.2.2.2.2.2.2.2.2.2.2.2.2.2.2.2.1, y15.2.2.2.2.2.2.2.2.2.2.2.2.2.2.2.2.2.2.2.2.2.2.1, ())
        | .ret (y15 : Unit) =>
          none
  else
    (loopF p_besomlaw14_two_r7 (a4, 0, 0, 0, 0, 0, 0, 0, 0, 0, 0, 0#64, 0, Stint_Tint.mk 0#64 0#64, 0, 0, false, false, 0, 0, 0, 0, Sstate_Detect.mk 0 0, y2.1, ([y3.1, y4.1] : List Sstate_Grey), ([] : List (List Int)), ([] : List (List Int)), ([] : List (List Scode_Op)), ([] : List Spick_Pick), ([] : List (List Int)), ([] : List (BitVec 64)), ([] : List (List Int)), ([] : List Int), ([] : List Int), ([] : List Sstate_Worker), ([] : List Sstate_Mutator), ())).bind fun st => match st with
      | .again _ => none
      | .brk (y16 : Int × Int × Int × Int × Int × Int × Int × Int × Int × (BitVec 64) × Int × Stint_Tint × Int × Int × Bool × Bool × Int × Int × Int × Int × Sstate_Detect × Sstate_State × (List Sstate_Grey) × (List (List Int)) × (List (List Int)) × (List (List Scode_Op)) × (List Spick_Pick) × (List (List Int)) × (List (BitVec 64)) × (List (List Int)) × (List Int) × (List Int) × (List Sstate_Worker) × (List Sstate_Mutator) × Unit) =>
        some (y16.2.2.2.2.2.2.2.2.2.2.2.2.2.2.2.2.2.2.2.2.2.1, y16.2.2.2.2.2.2.2.2.2.2.2.2.2.2.2.2.2.2.2.2.2.2.1, ())
      | .ret (y16 : Unit) =>
        none := mk_is (by kernel_rfl)
theorem q_tint_Greys_eq (a1 : Stint_Tint) : q_tint_Greys a1 =
  some (a1.Marks &&& ~~~a1.Black, ()) := mk_is (by kernel_rfl)
theorem p_besomlaw14_GreyCounts_r5_eq (s1 : List (BitVec 8)) (s2 : List (BitVec 8)) (s3 : Bool) (s4 : Int) (s5 : Sbesomlaw14_Grow) (s6 : Sbesomlaw14_Grow) : p_besomlaw14_GreyCounts_r5 (s1, s2, s3, s4, s5, s6, ()) =
  bif decide (s4 ≤ ((s2.length : Int))) then
    bif decide (s4 ≤ 60) then
      (cut s2 0 s4).bind fun l1 =>
      (q_besomlaw14_two s1 s5 s6 l1).bind fun (y2 : Sstate_State × (List Sstate_Grey) × Unit) =>
      bif !(decide (((y2.2.1.length : Int)) = 2)) then
        some (.ret (false, ()))
      else
        (q_tint_Greys y2.1.T).bind fun (y3 : (BitVec 64) × Unit) =>
        (q_set_Count y3.1).bind fun (y4 : Int × Unit) =>
        (idxn y2.2.1 0).bind fun n5 =>
        (y2.2.1[n5]?).bind fun x6 =>
        (q_grey_Owes x6).bind fun (y7 : Int × Unit) =>
        (idxn y2.2.1 1).bind fun n8 =>
        (y2.2.1[n8]?).bind fun x9 =>
        (q_grey_Owes x9).bind fun (y10 : Int × Unit) =>
        bif !(decide (y2.1.Work = (w64 ((w64 (y4.1 + y7.1)) + y10.1)))) then
          some (.ret (false, ()))
        else
          some (.again (s1, s2, s3, w64 (s4 + 1), s5, s6, ()))
    else
      some (.brk (s3, ()))
  else
    some (.brk (s3, ())) := by kernel_rfl
theorem q_besomlaw14_GreyCounts_eq (a1 : List (BitVec 8)) (a2 : Sbesomlaw14_Grow) (a3 : Sbesomlaw14_Grow) (a4 : List (BitVec 8)) : q_besomlaw14_GreyCounts a1 a2 a3 a4 =
  (q_besomlaw14_examples).bind fun (y1 : Bool × Unit) =>
  bif !y1.1 then
    some (false, ())
  else
    (loopF p_besomlaw14_GreyCounts_r5 (a1, a4, y1.1, 0, a2, a3, ())).bind fun st => match st with
      | .again _ => none
      | .brk (y2 : Bool × Unit) =>
        some (y2.1, ())
      | .ret (y2 : Bool × Unit) =>
        some (y2.1, ()) := mk_is (by kernel_rfl)
end Go.Pe.G

