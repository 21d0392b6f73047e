/- Own work of this seat: G4a, G4b, G4c, G4d, G4e, G4f, G4g, EQ. -/
import Derived.Test.YtofljjggmmcgjaaGreatDoorTGa
set_option linter.unusedVariables false
set_option linter.unusedSimpArgs false
set_option linter.unnecessarySimpa false
set_option linter.unusedSectionVars false
set_option linter.deprecated false
set_option maxRecDepth 100000
namespace Go.Pe.G
open Go.Pe
theorem q_bits_OnesCount64_eq (a1 : BitVec 64) : q_bits_OnesCount64 a1 =
 some (zand (((((((((((((a1 >>> 1) &&& 6148914691236517205#64) + (a1 &&& 6148914691236517205#64)) >>> 2) &&& 3689348814741910323#64) + ((((a1 >>> 1) &&& 6148914691236517205#64) + (a1 &&& 6148914691236517205#64)) &&& 3689348814741910323#64)) >>> 4) + ((((((a1 >>> 1) &&& 6148914691236517205#64) + (a1 &&& 6148914691236517205#64)) >>> 2) &&& 3689348814741910323#64) + ((((a1 >>> 1) &&& 6148914691236517205#64) + (a1 &&& 6148914691236517205#64)) &&& 3689348814741910323#64))) &&& 1085102592571150095#64) + ((((((((((a1 >>> 1) &&& 6148914691236517205#64) + (a1 &&& 6148914691236517205#64)) >>> 2) &&& 3689348814741910323#64) + ((((a1 >>> 1) &&& 6148914691236517205#64) + (a1 &&& 6148914691236517205#64)) &&& 3689348814741910323#64)) >>> 4) + ((((((a1 >>> 1) &&& 6148914691236517205#64) + (a1 &&& 6148914691236517205#64)) >>> 2) &&& 3689348814741910323#64) + ((((a1 >>> 1) &&& 6148914691236517205#64) + (a1 &&& 6148914691236517205#64)) &&& 3689348814741910323#64))) &&& 1085102592571150095#64) >>> 8)) + (((((((((((a1 >>> 1) &&& 6148914691236517205#64) + (a1 &&& 6148914691236517205#64)) >>> 2) &&& 3689348814741910323#64) + ((((a1 >>> 1) &&& 6148914691236517205#64) + (a1 &&& 6148914691236517205#64)) &&& 3689348814741910323#64)) >>> 4) + ((((((a1 >>> 1) &&& 6148914691236517205#64) + (a1 &&& 6148914691236517205#64)) >>> 2) &&& 3689348814741910323#64) + ((((a1 >>> 1) &&& 6148914691236517205#64) + (a1 &&& 6148914691236517205#64)) &&& 3689348814741910323#64))) &&& 1085102592571150095#64) + ((((((((((a1 >>> 1) &&& 6148914691236517205#64) + (a1 &&& 6148914691236517205#64)) >>> 2) &&& 3689348814741910323#64) + ((((a1 >>> 1) &&& 6148914691236517205#64) + (a1 &&& 6148914691236517205#64)) &&& 3689348814741910323#64)) >>> 4) + ((((((a1 >>> 1) &&& 6148914691236517205#64) + (a1 &&& 6148914691236517205#64)) >>> 2) &&& 3689348814741910323#64) + ((((a1 >>> 1) &&& 6148914691236517205#64) + (a1 &&& 6148914691236517205#64)) &&& 3689348814741910323#64))) &&& 1085102592571150095#64) >>> 8)) >>> 16)) + ((((((((((((a1 >>> 1) &&& 6148914691236517205#64) + (a1 &&& 6148914691236517205#64)) >>> 2) &&& 3689348814741910323#64) + ((((a1 >>> 1) &&& 6148914691236517205#64) + (a1 &&& 6148914691236517205#64)) &&& 3689348814741910323#64)) >>> 4) + ((((((a1 >>> 1) &&& 6148914691236517205#64) + (a1 &&& 6148914691236517205#64)) >>> 2) &&& 3689348814741910323#64) + ((((a1 >>> 1) &&& 6148914691236517205#64) + (a1 &&& 6148914691236517205#64)) &&& 3689348814741910323#64))) &&& 1085102592571150095#64) + ((((((((((a1 >>> 1) &&& 6148914691236517205#64) + (a1 &&& 6148914691236517205#64)) >>> 2) &&& 3689348814741910323#64) + ((((a1 >>> 1) &&& 6148914691236517205#64) + (a1 &&& 6148914691236517205#64)) &&& 3689348814741910323#64)) >>> 4) + ((((((a1 >>> 1) &&& 6148914691236517205#64) + (a1 &&& 6148914691236517205#64)) >>> 2) &&& 3689348814741910323#64) + ((((a1 >>> 1) &&& 6148914691236517205#64) + (a1 &&& 6148914691236517205#64)) &&& 3689348814741910323#64))) &&& 1085102592571150095#64) >>> 8)) + (((((((((((a1 >>> 1) &&& 6148914691236517205#64) + (a1 &&& 6148914691236517205#64)) >>> 2) &&& 3689348814741910323#64) + ((((a1 >>> 1) &&& 6148914691236517205#64) + (a1 &&& 6148914691236517205#64)) &&& 3689348814741910323#64)) >>> 4) + ((((((a1 >>> 1) &&& 6148914691236517205#64) + (a1 &&& 6148914691236517205#64)) >>> 2) &&& 3689348814741910323#64) + ((((a1 >>> 1) &&& 6148914691236517205#64) + (a1 &&& 6148914691236517205#64)) &&& 3689348814741910323#64))) &&& 1085102592571150095#64) + ((((((((((a1 >>> 1) &&& 6148914691236517205#64) + (a1 &&& 6148914691236517205#64)) >>> 2) &&& 3689348814741910323#64) + ((((a1 >>> 1) &&& 6148914691236517205#64) + (a1 &&& 6148914691236517205#64)) &&& 3689348814741910323#64)) >>> 4) + ((((((a1 >>> 1) &&& 6148914691236517205#64) + (a1 &&& 6148914691236517205#64)) >>> 2) &&& 3689348814741910323#64) + ((((a1 >>> 1) &&& 6148914691236517205#64) + (a1 &&& 6148914691236517205#64)) &&& 3689348814741910323#64))) &&& 1085102592571150095#64) >>> 8)) >>> 16)) >>> 32)).toInt) 127, ()) := mk_is (by kernel_rfl)
theorem q_set_Count_eq (a1 : BitVec 64) : q_set_Count a1 =
 (q_bits_OnesCount64 a1).bind fun (y1 : Int × Unit) =>
 some (y1.1, ()) := mk_is (by kernel_rfl)
theorem q_state_Deque_eq (a1 : Splan_Plan) (a2 : Int) : q_state_Deque a1 a2 =
 some (w64 ((w64 (a2 - 1)) * (w64 (a1.Cap + 2))), ()) := mk_is (by kernel_rfl)
theorem q_state_Full_eq (a1 : Splan_Plan) : q_state_Full a1 =
 some (w64 (a1.Workers * (w64 (a1.Cap + 2))), ()) := mk_is (by kernel_rfl)
theorem q_state_Empty_eq (a1 : Splan_Plan) : q_state_Empty a1 =
 (q_state_Full a1).bind fun (y1 : Int × Unit) =>
 some (w64 (y1.1 + 1), ()) := mk_is (by kernel_rfl)
theorem q_state_Next_eq (a1 : Splan_Plan) : q_state_Next a1 =
 (q_state_Empty a1).bind fun (y1 : Int × Unit) =>
 some (y1.1, ()) := mk_is (by kernel_rfl)
theorem q_plan_within_eq (a1 : Int) (a2 : Int) (a3 : Int) : q_plan_within a1 a2 a3 =
 bif decide (a2 ≤ a1) then
  some (decide (a1 ≤ a3), ())
 else
  some (false, ()) := mk_is (by kernel_rfl)
theorem q_plan_Plan_sized_eq (a1 : Splan_Plan) : q_plan_Plan_sized a1 =
 (q_plan_within a1.Workers 1 16).bind fun (y1 : Bool × Unit) =>
 bif y1.1 then
  (q_plan_within a1.Mutators 0 16).bind fun (y2 : Bool × Unit) =>
  bif y2.1 then
   (q_plan_within a1.Cap 1 16).bind fun (y3 : Bool × Unit) =>
   bif y3.1 then
    (q_plan_within a1.Buf 1 8).bind fun (y4 : Bool × Unit) =>
    bif y4.1 then
     (q_plan_within a1.Bin 1 8).bind fun (y5 : Bool × Unit) =>
     bif y5.1 then
      bif decide (0 ≤ (bif decide (a1.Limit < a1.Price) then a1.Limit else a1.Price)) then
       some (decide ((bif decide (a1.Price < a1.Limit) then a1.Limit else a1.Price) ≤ 1000000), ())
      else
       some (false, ())
     else
      some (false, ())
    else
     some (false, ())
   else
    some (false, ())
  else
   some (false, ())
 else
  some (false, ()) := mk_is (by kernel_rfl)
theorem q_heap_RightF1F1_eq (a1 : Int) (a2 : Sheap_Heap) : q_heap_RightF1F1 a1 a2 =
 bif decide (a1 < 0) then
  some (true, ())
 else
  some (decide (((a2.Objs.length : Int)) < a1), ()) := mk_is (by kernel_rfl)
theorem p_slices_IndexFunc_Lint_int_r2_eq (s1 : List Int) (s2 : Int) (s3 : Int) (s4 : Sheap_Heap) : p_slices_IndexFunc_Lint_int_r2 (s1, s2, s3, s4, ()) =
 bif decide (s3 < s2) then
  (idx s1 s3).bind fun x1 =>
  (q_heap_RightF1F1 x1 s4).bind fun (y2 : Bool × Unit) =>
  bif y2.1 then
   some (.ret (s3, ()))
  else
   some (.again (s1, s2, w64 (s3 + 1), s4, ()))
 else
  some (.brk (())) := by kernel_rfl
theorem q_slices_IndexFunc_Lint_int_eq (a1 : List Int) (a2 : Sheap_Heap) : q_slices_IndexFunc_Lint_int a1 a2 =
 (loopF p_slices_IndexFunc_Lint_int_r2 (a1, (a1.length : Int), 0, a2, ())).bind fun st => match st with
  | .again _ => none
  | .brk (y1 : Unit) =>
   some (-1, ())
  | .ret (y1 : Int × Unit) =>
   some (y1.1, ()) := mk_is (by kernel_rfl)
theorem q_slices_ContainsFunc_Lint_int_eq (a1 : List Int) (a2 : Sheap_Heap) : q_slices_ContainsFunc_Lint_int a1 a2 =
 (q_slices_IndexFunc_Lint_int a1 a2).bind fun (y1 : Int × Unit) =>
 some (decide (0 ≤ y1.1), ()) := mk_is (by kernel_rfl)
theorem q_heap_RightF1_eq (a1 : List Int) (a2 : Sheap_Heap) : q_heap_RightF1 a1 a2 =
 bif !(decide (((a1.length : Int)) = a2.Slots)) then
  some (true, ())
 else
  (q_slices_ContainsFunc_Lint_int a1 a2).bind fun (y1 : Bool × Unit) =>
  some (y1.1, ()) := mk_is (by kernel_rfl)
theorem p_slices_IndexFunc_LLint_Lint_r2_eq (s1 : List (List Int)) (s2 : Int) (s3 : Int) (s4 : Sheap_Heap) : p_slices_IndexFunc_LLint_Lint_r2 (s1, s2, s3, s4, ()) =
 bif decide (s3 < s2) then
  (idx s1 s3).bind fun x1 =>
  (q_heap_RightF1 x1 s4).bind fun (y2 : Bool × Unit) =>
  bif y2.1 then
   some (.ret (s3, ()))
  else
   some (.again (s1, s2, w64 (s3 + 1), s4, ()))
 else
  some (.brk (())) := by kernel_rfl
theorem q_slices_IndexFunc_LLint_Lint_eq (a1 : List (List Int)) (a2 : Sheap_Heap) : q_slices_IndexFunc_LLint_Lint a1 a2 =
 (loopF p_slices_IndexFunc_LLint_Lint_r2 (a1, (a1.length : Int), 0, a2, ())).bind fun st => match st with
  | .again _ => none
  | .brk (y1 : Unit) =>
   some (-1, ())
  | .ret (y1 : Int × Unit) =>
   some (y1.1, ()) := mk_is (by kernel_rfl)
theorem q_slices_ContainsFunc_LLint_Lint_eq (a1 : List (List Int)) (a2 : Sheap_Heap) : q_slices_ContainsFunc_LLint_Lint a1 a2 =
 (q_slices_IndexFunc_LLint_Lint a1 a2).bind fun (y1 : Int × Unit) =>
 some (decide (0 ≤ y1.1), ()) := mk_is (by kernel_rfl)
theorem q_heap_Right_eq (a1 : Sheap_Heap) : q_heap_Right a1 =
 bif decide (1 ≤ a1.Slots) then
  bif decide (a1.Slots ≤ 4) then
   bif decide (((a1.Objs.length : Int)) ≤ 64) then
    (q_slices_ContainsFunc_LLint_Lint a1.Objs a1).bind fun (y1 : Bool × Unit) =>
    some (!y1.1, ())
   else
    some (false, ())
  else
   some (false, ())
 else
  some (false, ()) := mk_is (by kernel_rfl)
theorem q_set_Under_eq (a1 : BitVec 64) (a2 : BitVec 64) : q_set_Under a1 a2 =
 some (decide ((a1 &&& ~~~a2) = 0#64), ()) := mk_is (by kernel_rfl)
theorem q_set_First_eq (a1 : Int) : q_set_First a1 =
 bif decide (a1 < 1) then
  some (0#64, ())
 else
  bif decide ((w64 (64 - (bif decide (64 < a1) then 64 else a1))) < 0) then
   none
  else
   some (18446744073709551615#64 >>> min (w64 (64 - (bif decide (64 < a1) then 64 else a1))).toNat 64, ()) := mk_is (by kernel_rfl)
theorem q_plan_RightF1_eq (a1 : Int) (a2 : Int) : q_plan_RightF1 a1 a2 =
 (q_plan_within a1 0 a2).bind fun (y1 : Bool × Unit) =>
 some (!y1.1, ()) := mk_is (by kernel_rfl)
theorem p_slices_IndexFunc_Lint_int_v1_r2_eq (s1 : List Int) (s2 : Int) (s3 : Int) (s4 : Int) : p_slices_IndexFunc_Lint_int_v1_r2 (s1, s2, s3, s4, ()) =
 bif decide (s3 < s2) then
  (idx s1 s3).bind fun x1 =>
  (q_plan_RightF1 x1 s4).bind fun (y2 : Bool × Unit) =>
  bif y2.1 then
   some (.ret (s3, ()))
  else
   some (.again (s1, s2, w64 (s3 + 1), s4, ()))
 else
  some (.brk (())) := by kernel_rfl
theorem q_slices_IndexFunc_Lint_int_v1_eq (a1 : List Int) (a2 : Int) : q_slices_IndexFunc_Lint_int_v1 a1 a2 =
 (loopF p_slices_IndexFunc_Lint_int_v1_r2 (a1, (a1.length : Int), 0, a2, ())).bind fun st => match st with
  | .again _ => none
  | .brk (y1 : Unit) =>
   some (-1, ())
  | .ret (y1 : Int × Unit) =>
   some (y1.1, ()) := mk_is (by kernel_rfl)
theorem q_slices_ContainsFunc_Lint_int_v1_eq (a1 : List Int) (a2 : Int) : q_slices_ContainsFunc_Lint_int_v1 a1 a2 =
 (q_slices_IndexFunc_Lint_int_v1 a1 a2).bind fun (y1 : Int × Unit) =>
 some (decide (0 ≤ y1.1), ()) := mk_is (by kernel_rfl)
theorem q_code_RightF1_eq (a1 : Int) (a2 : Int) : q_code_RightF1 a1 a2 =
 bif decide (0 ≤ a1) then
  some (decide (a1 < (bif decide (4 < a2) then 4 else a2)), ())
 else
  some (false, ()) := mk_is (by kernel_rfl)
theorem q_code_Right_eq (a1 : Scode_Op) (a2 : Int) (a3 : Int) : q_code_Right a1 a2 a3 =
 bif decide (0 ≤ a1.S) then
  bif decide (a1.Kind = 1) then
   bif decide (a1.Kind = 1) then
    (q_code_RightF1 a1.R a2).bind fun (y1 : Bool × Unit) =>
    bif y1.1 then
     (q_code_RightF1 a1.A a2).bind fun (y2 : Bool × Unit) =>
     bif y2.1 then
      some (decide (a1.S < (bif decide (4 < a3) then 4 else a3)), ())
     else
      some (false, ())
    else
     some (false, ())
   else
    bif decide (a1.Kind = 4) then
     (q_code_RightF1 a1.R a2).bind fun (y3 : Bool × Unit) =>
     bif y3.1 then
      (q_code_RightF1 a1.A a2).bind fun (y4 : Bool × Unit) =>
      bif y4.1 then
       some (decide (a1.S = 0), ())
      else
       some (false, ())
     else
      some (false, ())
    else
     bif decide (a1.Kind = 3) then
      bif decide (a1.Kind = 3) then
       (q_code_RightF1 a1.R a2).bind fun (y5 : Bool × Unit) =>
       bif y5.1 then
        bif decide (a1.A = 0) then
         some (decide (a1.S = 0), ())
        else
         some (false, ())
       else
        some (false, ())
      else
       some (false, ())
     else
      bif decide (a1.Kind = 5) then
       (q_code_RightF1 a1.R a2).bind fun (y6 : Bool × Unit) =>
       bif y6.1 then
        bif decide (a1.A = 0) then
         some (decide (a1.S = 0), ())
        else
         some (false, ())
       else
        some (false, ())
      else
       some (false, ())
  else
   bif decide (a1.Kind = 2) then
    (q_code_RightF1 a1.R a2).bind fun (y7 : Bool × Unit) =>
    bif y7.1 then
     (q_code_RightF1 a1.A a2).bind fun (y8 : Bool × Unit) =>
     bif y8.1 then
      some (decide (a1.S < (bif decide (4 < a3) then 4 else a3)), ())
     else
      some (false, ())
    else
     some (false, ())
   else
    bif decide (a1.Kind = 4) then
     (q_code_RightF1 a1.R a2).bind fun (y9 : Bool × Unit) =>
     bif y9.1 then
      (q_code_RightF1 a1.A a2).bind fun (y10 : Bool × Unit) =>
      bif y10.1 then
       some (decide (a1.S = 0), ())
      else
       some (false, ())
     else
      some (false, ())
    else
     bif decide (a1.Kind = 3) then
      bif decide (a1.Kind = 3) then
       (q_code_RightF1 a1.R a2).bind fun (y11 : Bool × Unit) =>
       bif y11.1 then
        bif decide (a1.A = 0) then
         some (decide (a1.S = 0), ())
        else
         some (false, ())
       else
        some (false, ())
      else
       some (false, ())
     else
      bif decide (a1.Kind = 5) then
       (q_code_RightF1 a1.R a2).bind fun (y12 : Bool × Unit) =>
       bif y12.1 then
        bif decide (a1.A = 0) then
         some (decide (a1.S = 0), ())
        else
         some (false, ())
       else
        some (false, ())
      else
       some (false, ())
 else
  bif decide (a1.Kind = 1) then
   bif decide (a1.Kind = 1) then
    (q_code_RightF1 a1.R a2).bind fun (y13 : Bool × Unit) =>
    bif y13.1 then
     (q_code_RightF1 a1.A a2).bind fun (y14 : Bool × Unit) =>
     bif y14.1 then
      some (false, ())
     else
      some (false, ())
    else
     some (false, ())
   else
    bif decide (a1.Kind = 4) then
     (q_code_RightF1 a1.R a2).bind fun (y15 : Bool × Unit) =>
     bif y15.1 then
      (q_code_RightF1 a1.A a2).bind fun (y16 : Bool × Unit) =>
      bif y16.1 then
       some (decide (a1.S = 0), ())
      else
       some (false, ())
     else
      some (false, ())
    else
     bif decide (a1.Kind = 3) then
      bif decide (a1.Kind = 3) then
       (q_code_RightF1 a1.R a2).bind fun (y17 : Bool × Unit) =>
       bif y17.1 then
        bif decide (a1.A = 0) then
         some (decide (a1.S = 0), ())
        else
         some (false, ())
       else
        some (false, ())
      else
       some (false, ())
     else
      bif decide (a1.Kind = 5) then
       (q_code_RightF1 a1.R a2).bind fun (y18 : Bool × Unit) =>
       bif y18.1 then
        bif decide (a1.A = 0) then
         some (decide (a1.S = 0), ())
        else
         some (false, ())
       else
        some (false, ())
      else
       some (false, ())
  else
   bif decide (a1.Kind = 2) then
    (q_code_RightF1 a1.R a2).bind fun (y19 : Bool × Unit) =>
    bif y19.1 then
     (q_code_RightF1 a1.A a2).bind fun (y20 : Bool × Unit) =>
     bif y20.1 then
      some (false, ())
     else
      some (false, ())
    else
     some (false, ())
   else
    bif decide (a1.Kind = 4) then
     (q_code_RightF1 a1.R a2).bind fun (y21 : Bool × Unit) =>
     bif y21.1 then
      (q_code_RightF1 a1.A a2).bind fun (y22 : Bool × Unit) =>
      bif y22.1 then
       some (decide (a1.S = 0), ())
      else
       some (false, ())
     else
      some (false, ())
    else
     bif decide (a1.Kind = 3) then
      bif decide (a1.Kind = 3) then
       (q_code_RightF1 a1.R a2).bind fun (y23 : Bool × Unit) =>
       bif y23.1 then
        bif decide (a1.A = 0) then
         some (decide (a1.S = 0), ())
        else
         some (false, ())
       else
        some (false, ())
      else
       some (false, ())
     else
      bif decide (a1.Kind = 5) then
       (q_code_RightF1 a1.R a2).bind fun (y24 : Bool × Unit) =>
       bif y24.1 then
        bif decide (a1.A = 0) then
         some (decide (a1.S = 0), ())
        else
         some (false, ())
       else
        some (false, ())
      else
       some (false, ()) := mk_is (by kernel_rfl)
theorem q_code_FitsF1_eq (a1 : Scode_Op) (a2 : Int) (a3 : Int) : q_code_FitsF1 a1 a2 a3 =
 (q_code_Right a1 a2 a3).bind fun (y1 : Bool × Unit) =>
 some (!y1.1, ()) := mk_is (by kernel_rfl)
theorem p_slices_IndexFunc_Lcode_Op_code_Op_r2_eq (s1 : List Scode_Op) (s2 : Int) (s3 : Int) (s4 : Int) (s5 : Int) : p_slices_IndexFunc_Lcode_Op_code_Op_r2 (s1, s2, s3, s4, s5, ()) =
 bif decide (s3 < s2) then
  (idx s1 s3).bind fun x1 =>
  (q_code_FitsF1 x1 s4 s5).bind fun (y2 : Bool × Unit) =>
  bif y2.1 then
   some (.ret (s3, ()))
  else
   some (.again (s1, s2, w64 (s3 + 1), s4, s5, ()))
 else
  some (.brk (())) := by kernel_rfl
theorem q_slices_IndexFunc_Lcode_Op_code_Op_eq (a1 : List Scode_Op) (a2 : Int) (a3 : Int) : q_slices_IndexFunc_Lcode_Op_code_Op a1 a2 a3 =
 (loopF p_slices_IndexFunc_Lcode_Op_code_Op_r2 (a1, (a1.length : Int), 0, a2, a3, ())).bind fun st => match st with
  | .again _ => none
  | .brk (y1 : Unit) =>
   some (-1, ())
  | .ret (y1 : Int × Unit) =>
   some (y1.1, ()) := mk_is (by kernel_rfl)
theorem q_slices_ContainsFunc_Lcode_Op_code_Op_eq (a1 : List Scode_Op) (a2 : Int) (a3 : Int) : q_slices_ContainsFunc_Lcode_Op_code_Op a1 a2 a3 =
 (q_slices_IndexFunc_Lcode_Op_code_Op a1 a2 a3).bind fun (y1 : Int × Unit) =>
 some (decide (0 ≤ y1.1), ()) := mk_is (by kernel_rfl)
theorem q_code_Fits_eq (a1 : List Scode_Op) (a2 : Int) (a3 : Int) : q_code_Fits a1 a2 a3 =
 bif decide (((a1.length : Int)) ≤ 64) then
  (q_slices_ContainsFunc_Lcode_Op_code_Op a1 a2 a3).bind fun (y1 : Bool × Unit) =>
  some (!y1.1, ())
 else
  some (false, ()) := mk_is (by kernel_rfl)
theorem q_pick_Right_eq (a1 : Spick_Pick) : q_pick_Right a1 =
 bif decide (a1.Kind = 0) then
  some (decide (a1.N = 0), ())
 else
  bif decide (a1.Kind = 1) then
   bif decide (1 ≤ a1.N) then
    some (decide (a1.N ≤ 16), ())
   else
    some (false, ())
  else
   bif decide (a1.Kind = 2) then
    bif decide (1 ≤ a1.N) then
     some (decide (a1.N ≤ 16), ())
    else
     some (false, ())
   else
    some (false, ()) := mk_is (by kernel_rfl)
theorem q_pick_KnownF1_eq (a1 : Spick_Pick) (a2 : Int) (a3 : Int) : q_pick_KnownF1 a1 a2 a3 =
 (q_pick_Right a1).bind fun (y1 : Bool × Unit) =>
 bif !y1.1 then
  some (true, ())
 else
  bif decide (a1.Kind = 1) then
   some (decide (a2 < a1.N), ())
  else
   bif decide (a1.Kind = 2) then
    some (decide (a3 < a1.N), ())
   else
    some (decide (0 < a1.N), ()) := mk_is (by kernel_rfl)
theorem p_slices_IndexFunc_Lpick_Pick_pick_Pick_r2_eq (s1 : List Spick_Pick) (s2 : Int) (s3 : Int) (s4 : Int) (s5 : Int) : p_slices_IndexFunc_Lpick_Pick_pick_Pick_r2 (s1, s2, s3, s4, s5, ()) =
 bif decide (s3 < s2) then
  (idx s1 s3).bind fun x1 =>
  (q_pick_KnownF1 x1 s4 s5).bind fun (y2 : Bool × Unit) =>
  bif y2.1 then
   some (.ret (s3, ()))
  else
   some (.again (s1, s2, w64 (s3 + 1), s4, s5, ()))
 else
  some (.brk (())) := by kernel_rfl
theorem q_slices_IndexFunc_Lpick_Pick_pick_Pick_eq (a1 : List Spick_Pick) (a2 : Int) (a3 : Int) : q_slices_IndexFunc_Lpick_Pick_pick_Pick a1 a2 a3 =
 (loopF p_slices_IndexFunc_Lpick_Pick_pick_Pick_r2 (a1, (a1.length : Int), 0, a2, a3, ())).bind fun st => match st with
  | .again _ => none
  | .brk (y1 : Unit) =>
   some (-1, ())
  | .ret (y1 : Int × Unit) =>
   some (y1.1, ()) := mk_is (by kernel_rfl)
theorem q_slices_ContainsFunc_Lpick_Pick_pick_Pick_eq (a1 : List Spick_Pick) (a2 : Int) (a3 : Int) : q_slices_ContainsFunc_Lpick_Pick_pick_Pick a1 a2 a3 =
 (q_slices_IndexFunc_Lpick_Pick_pick_Pick a1 a2 a3).bind fun (y1 : Int × Unit) =>
 some (decide (0 ≤ y1.1), ()) := mk_is (by kernel_rfl)
theorem q_pick_Known_eq (a1 : List Spick_Pick) (a2 : Int) (a3 : Int) : q_pick_Known a1 a2 a3 =
 (q_slices_ContainsFunc_Lpick_Pick_pick_Pick a1 a2 a3).bind fun (y1 : Bool × Unit) =>
 some (!y1.1, ()) := mk_is (by kernel_rfl)
theorem p_plan_Right_r5_eq (s1 : List (List Int)) (s2 : Int) (s3 : Int) (s4 : Splan_Plan) (s5 : Int) : p_plan_Right_r5 (s1, s2, s3, s4, s5, ()) =
 bif decide (s3 < s2) then
  (idx s1 s3).bind fun x1 =>
  (q_plan_within ((x1.length : Int)) 1 4).bind fun (y2 : Bool × Unit) =>
  bif !y2.1 then
   some (.ret (false, ()))
  else
   (q_slices_ContainsFunc_Lint_int_v1 x1 s5).bind fun (y3 : Bool × Unit) =>
   bif y3.1 then
    some (.ret (false, ()))
   else
    (idx s4.Progs s3).bind fun x4 =>
    (q_code_Fits x4 ((x1.length : Int)) s4.H.Slots).bind fun (y5 : Bool × Unit) =>
    bif !y5.1 then
     some (.ret (false, ()))
    else
     some (.again (s1, s2, w64 (s3 + 1), s4, s5, ()))
 else
  some (.brk (s4, ())) := by kernel_rfl
theorem q_plan_Right_eq (a1 : Splan_Plan) : q_plan_Right a1 =
 (q_plan_Plan_sized a1).bind fun (y1 : Bool × Unit) =>
 bif !y1.1 then
  some (false, ())
 else
  (q_heap_Right a1.H).bind fun (y2 : Bool × Unit) =>
  bif !y2.1 then
   some (false, ())
  else
   (q_plan_within a1.Most ((a1.H.Objs.length : Int)) 64).bind fun (y3 : Bool × Unit) =>
   bif !y3.1 then
    some (false, ())
   else
    (q_set_First ((a1.H.Objs.length : Int))).bind fun (y4 : (BitVec 64) × Unit) =>
    (q_set_Under a1.Roots y4.1).bind fun (y5 : Bool × Unit) =>
    bif !y5.1 then
     some (false, ())
    else
     bif !(decide (((a1.Regs.length : Int)) = a1.Mutators)) then
      some (false, ())
     else
      bif !(decide (((a1.Progs.length : Int)) = a1.Mutators)) then
       some (false, ())
      else
       (loopF p_plan_Right_r5 (a1.Regs, (a1.Regs.length : Int), 0, a1, (a1.H.Objs.length : Int), ())).bind fun st => match st with
        | .again _ => none
        | .brk (y6 : Splan_Plan × Unit) =>
         bif decide (((y6.1.Picks.length : Int)) ≤ 100000) then
          (q_pick_Known y6.1.Picks y6.1.Workers y6.1.Mutators).bind fun (y7 : Bool × Unit) =>
          some (y7.1, ())
         else
          some (false, ())
        | .ret (y6 : Bool × Unit) =>
         some (y6.1, ()) := mk_is (by kernel_rfl)
theorem q_set_bit_eq (a1 : Int) : q_set_bit a1 =
 bif decide (a1 < 1) then
  some (0#64, ())
 else
  bif decide (64 < a1) then
   some (0#64, ())
  else
   bif decide ((w64 (a1 - 1)) < 0) then
    none
   else
    some (1#64 <<< min (w64 (a1 - 1)).toNat 64, ()) := mk_is (by kernel_rfl)
theorem q_set_Add_eq (a1 : BitVec 64) (a2 : Int) : q_set_Add a1 a2 =
 (q_set_bit a2).bind fun (y1 : (BitVec 64) × Unit) =>
 some (a1 ||| y1.1, ()) := mk_is (by kernel_rfl)
theorem p_set_Of_r3_eq (s1 : BitVec 64) (s2 : List Int) (s3 : Int) (s4 : Int) : p_set_Of_r3 (s1, s2, s3, s4, ()) =
 bif decide (s4 < s3) then
  (idx s2 s4).bind fun x1 =>
  (q_set_Add s1 x1).bind fun (y2 : (BitVec 64) × Unit) =>
  some (.again (y2.1, s2, s3, w64 (s4 + 1), ()))
 else
  some (.brk (s1, ())) := by kernel_rfl
theorem q_set_Of_eq (a1 : List Int) : q_set_Of a1 =
 (loopF p_set_Of_r3 (0#64, a1, (a1.length : Int), 0, ())).bind fun st => match st with
  | .again _ => none
  | .brk (y1 : (BitVec 64) × Unit) =>
   some (y1.1, ())
  | .ret (y1 : Unit) =>
   none := mk_is (by kernel_rfl)
theorem p_plan_Greys_r3_eq (s1 : BitVec 64) (s2 : List (List Int)) (s3 : Int) (s4 : Int) : p_plan_Greys_r3 (s1, s2, s3, s4, ()) =
 bif decide (s4 < s3) then
  (idx s2 s4).bind fun x1 =>
  (q_set_Of x1).bind fun (y2 : (BitVec 64) × Unit) =>
  some (.again (s1 ||| y2.1, s2, s3, w64 (s4 + 1), ()))
 else
  some (.brk (s1, ())) := by kernel_rfl
theorem q_plan_Greys_eq (a1 : Splan_Plan) : q_plan_Greys a1 =
 (loopF p_plan_Greys_r3 (a1.Roots, a1.Regs, (a1.Regs.length : Int), 0, ())).bind fun st => match st with
  | .again _ => none
  | .brk (y1 : (BitVec 64) × Unit) =>
   some (y1.1, ())
  | .ret (y1 : Unit) =>
   none := mk_is (by kernel_rfl)
theorem q_ledger_New_eq (a1 : Int) : q_ledger_New a1 =
 bif decide ((bif decide ((bif decide (16 < a1) then 16 else a1) < 0) then 0 else (bif decide (16 < a1) then 16 else a1)) = (bif decide ((bif decide (16 < a1) then 16 else a1) < 0) then 0 else (bif decide (16 < a1) then 16 else a1))) then
  (count (bif decide ((bif decide (16 < a1) then 16 else a1) < 0) then 0 else (bif decide (16 < a1) then 16 else a1))).bind fun n1 =>
  some (Sledger_Ledger.mk 0 0 0 (List.replicate n1 0), ())
 else
  none := mk_is (by kernel_rfl)
theorem q_slices_Clone_Lint_int_eq (a1 : List Int) : q_slices_Clone_Lint_int a1 =
 bif a1.isEmpty then
  both (
   some (([] : List Int), ())) (
   (room (([] : List Int) ++ a1)).bind fun l1 =>
   some (l1, ()))
 else
  (room (([] : List Int) ++ a1)).bind fun l2 =>
  some (l2, ()) := mk_is (by kernel_rfl)
theorem p_state_each_Lint_r4_eq (s1 : Int) (s2 : Int) (s3 : List (List Int)) : p_state_each_Lint_r4 (s1, s2, s3, ()) =
 bif decide (s2 < s1) then
  (idxn s3 s2).bind fun n1 =>
  (s3[n1]?).bind fun x2 =>
  (q_slices_Clone_Lint_int x2).bind fun (y3 : (List Int) × Unit) =>
  (idxn s3 s2).bind fun n4 =>
  some (.again (s1, w64 (s2 + 1), s3.set n4 y3.1, ()))
 else
  some (.brk (s3, ())) := by kernel_rfl
theorem q_state_each_Lint_eq (a1 : List (List Int)) : q_state_each_Lint a1 =
 bif decide (((a1.length : Int)) = ((a1.length : Int))) then
  (count ((a1.length : Int))).bind fun n1 =>
  bif decide (a1.length = ((List.replicate n1 ([] : List Int)).length)) then
   bif a1.isEmpty then
    (loopF p_state_each_Lint_r4 (((List.replicate n1 ([] : List Int)).length : Int), 0, List.replicate n1 ([] : List Int), ())).bind fun st => match st with
     | .again _ => none
     | .brk (y2 : (List (List Int)) × Unit) =>
      some (y2.1, ())
     | .ret (y2 : Unit) =>
      none
   else
    (loopF p_state_each_Lint_r4 ((a1.length : Int), 0, a1, ())).bind fun st => match st with
     | .again _ => none
     | .brk (y3 : (List (List Int)) × Unit) =>
      some (y3.1, ())
     | .ret (y3 : Unit) =>
      none
  else
   none
 else
  none := mk_is (by kernel_rfl)
theorem q_deque_Cells_eq (a1 : Int) : q_deque_Cells a1 =
 bif decide ((w64 (2 + (bif decide (64 < (bif decide (a1 < 1) then 1 else a1)) then 64 else (bif decide (a1 < 1) then 1 else a1)))) = (w64 (2 + (bif decide (64 < (bif decide (a1 < 1) then 1 else a1)) then 64 else (bif decide (a1 < 1) then 1 else a1))))) then
  (count (w64 (2 + (bif decide (64 < (bif decide (a1 < 1) then 1 else a1)) then 64 else (bif decide (a1 < 1) then 1 else a1))))).bind fun n1 =>
  (idxn (List.replicate n1 0#64) 0).bind fun n2 =>
  (idxn ((List.replicate n1 0#64).set n2 1#64) 1).bind fun n3 =>
  some (((List.replicate n1 0#64).set n2 1#64).set n3 1#64, ())
 else
  none := mk_is (by kernel_rfl)
theorem q_deque_Start_eq (a1 : Int) (a2 : Int) (a3 : Int) (a4 : Int) : q_deque_Start a1 a2 a3 a4 =
 some (Sdeque_Machine.mk a1 0 a2 a3 0#64 0#64 a4 0, ()) := mk_is (by kernel_rfl)
theorem q_plan_Bins_eq (a1 : Splan_Plan) : q_plan_Bins a1 =
 some (w64 ((w64 (a1.Most + a1.Workers)) + a1.Mutators), ()) := mk_is (by kernel_rfl)
theorem q_slices_Chunk_Lint_int_eq (a1 : List Int) (a2 : Int) : q_slices_Chunk_Lint_int a1 a2 =
 bif decide (a2 < 1) then
  none
 else
  some (a1, a2, ()) := mk_is (by kernel_rfl)
theorem q_set_each_eq (a1 : BitVec 64) : q_set_each a1 =
 some (a1, ()) := mk_is (by kernel_rfl)
theorem p_set_List_r3_eq (y : Int) (s1 : List Int) : p_set_List_r3 y (s1, ()) =
 (room (s1 ++ ([y] : List Int))).bind fun l1 =>
 some (l1, ()) := by kernel_rfl
theorem q_set_List_eq (a1 : BitVec 64) : q_set_List a1 =
 (q_set_each a1).bind fun (y1 : (BitVec 64) × Unit) =>
 (j_set_eachF1 y1.1).bind fun (ys2 : List Int) =>
 (foldY p_set_List_r3 ys2 (([] : List Int), ())).bind fun (y3 : (List Int) × Unit) =>
 some (y3.1, ()) := mk_is (by kernel_rfl)
theorem q_mem_DoF1_eq (a1 : BitVec 64) : q_mem_DoF1 a1 =
 some (a1, true, ()) := mk_is (by kernel_rfl)
theorem q_mem_DoF2_eq (a1 : BitVec 64) (a2 : Smem_Op) : q_mem_DoF2 a1 a2 =
 some (a2.A, true, ()) := mk_is (by kernel_rfl)
theorem q_mem_DoF3_eq (a1 : BitVec 64) (a2 : Smem_Op) : q_mem_DoF3 a1 a2 =
 some (a2.B, decide (a1 = a2.A), ()) := mk_is (by kernel_rfl)
theorem q_mem_DoF4_eq (a1 : BitVec 64) (a2 : Smem_Op) : q_mem_DoF4 a1 a2 =
 some (a1 + a2.A, true, ()) := mk_is (by kernel_rfl)
theorem q_slices_Clone_mem_Mem_uint64_eq (a1 : List (BitVec 64)) : q_slices_Clone_mem_Mem_uint64 a1 =
 bif a1.isEmpty then
  both (
   some (([] : List (BitVec 64)), ())) (
   (room ((([] : List (BitVec 64))) ++ a1)).bind fun l1 =>
   some (l1, ()))
 else
  (room ((([] : List (BitVec 64))) ++ a1)).bind fun l2 =>
  some (l2, ()) := mk_is (by kernel_rfl)
end Go.Pe.G
namespace Go.Pe.G
open Go.Pe
theorem q_mem_Do_eq (a1 : List (BitVec 64)) (a2 : Smem_Op) : q_mem_Do a1 a2 =
 bif decide (a2.Kind = 1) then
  bif decide (a2.At < 0) then
   some (a1, 0#64, false, ())
  else
   bif decide (((a1.length : Int)) ≤ a2.At) then
    some (a1, 0#64, false, ())
   else
    (idx a1 a2.At).bind fun x1 =>
    (q_mem_DoF1 x1).bind fun (y2 : (BitVec 64) × Bool × Unit) =>
    bif y2.2.1 then
     bif !(decide (x1 = y2.1)) then
      (q_slices_Clone_mem_Mem_uint64 a1).bind fun (y3 : (List (BitVec 64)) × Unit) =>
      (idxn y3.1 a2.At).bind fun n4 =>
      some (y3.1.set n4 y2.1, x1, y2.2.1, ())
     else
      some (a1, x1, y2.2.1, ())
    else
     some (a1, x1, y2.2.1, ())
 else
  bif decide (a2.Kind = 2) then
   bif decide (a2.At < 0) then
    some (a1, 0#64, false, ())
   else
    bif decide (((a1.length : Int)) ≤ a2.At) then
     some (a1, 0#64, false, ())
    else
     (idx a1 a2.At).bind fun x5 =>
     (q_mem_DoF2 x5 a2).bind fun (y6 : (BitVec 64) × Bool × Unit) =>
     bif y6.2.1 then
      bif !(decide (x5 = y6.1)) then
       (q_slices_Clone_mem_Mem_uint64 a1).bind fun (y7 : (List (BitVec 64)) × Unit) =>
       (idxn y7.1 a2.At).bind fun n8 =>
       some (y7.1.set n8 y6.1, x5, y6.2.1, ())
      else
       some (a1, x5, y6.2.1, ())
     else
      some (a1, x5, y6.2.1, ())
  else
   bif decide (a2.Kind = 3) then
    bif decide (a2.At < 0) then
     some (a1, 0#64, false, ())
    else
     bif decide (((a1.length : Int)) ≤ a2.At) then
      some (a1, 0#64, false, ())
     else
      (idx a1 a2.At).bind fun x9 =>
      (q_mem_DoF3 x9 a2).bind fun (y10 : (BitVec 64) × Bool × Unit) =>
      bif y10.2.1 then
       bif !(decide (x9 = y10.1)) then
        (q_slices_Clone_mem_Mem_uint64 a1).bind fun (y11 : (List (BitVec 64)) × Unit) =>
        (idxn y11.1 a2.At).bind fun n12 =>
        some (y11.1.set n12 y10.1, x9, y10.2.1, ())
       else
        some (a1, x9, y10.2.1, ())
      else
       some (a1, x9, y10.2.1, ())
   else
    bif decide (a2.Kind = 4) then
     bif decide (a2.At < 0) then
      some (a1, 0#64, false, ())
     else
      bif decide (((a1.length : Int)) ≤ a2.At) then
       some (a1, 0#64, false, ())
      else
       (idx a1 a2.At).bind fun x13 =>
       (q_mem_DoF4 x13 a2).bind fun (y14 : (BitVec 64) × Bool × Unit) =>
       bif y14.2.1 then
        bif !(decide (x13 = y14.1)) then
         (q_slices_Clone_mem_Mem_uint64 a1).bind fun (y15 : (List (BitVec 64)) × Unit) =>
         (idxn y15.1 a2.At).bind fun n16 =>
         some (y15.1.set n16 y14.1, x13, y14.2.1, ())
        else
         some (a1, x13, y14.2.1, ())
       else
        some (a1, x13, y14.2.1, ())
    else
     bif decide (a2.At < 0) then
      some (a1, 0#64, false, ())
     else
      bif decide (((a1.length : Int)) ≤ a2.At) then
       some (a1, 0#64, false, ())
      else
       some (a1, 0#64, false, ()) := mk_is (by kernel_rfl)
theorem q_chain_store_eq (a1 : List (BitVec 64)) (a2 : Int) (a3 : BitVec 64) : q_chain_store a1 a2 a3 =
 (q_mem_Do a1 (Smem_Op.mk 2 a2 a3 0#64)).bind fun (y1 : (List (BitVec 64)) × (BitVec 64) × Bool × Unit) =>
 some (y1.1, ()) := mk_is (by kernel_rfl)
theorem q_chain_Pack_eq (a1 : BitVec 64) (a2 : Int) : q_chain_Pack a1 a2 =
 some ((a1 <<< 32) ||| ((BitVec.ofInt 64 a2) &&& 4294967295#64), ()) := mk_is (by kernel_rfl)
theorem p_chain_Lay_r2_eq (s1 : List (BitVec 64)) (s2 : Int) (s3 : Int) (s4 : List Int) (s5 : Int) (s6 : Int) : p_chain_Lay_r2 (s1, s2, s3, s4, s5, s6, ()) =
 bif decide (s6 < s5) then
  bif decide ((w64 (s6 + 1)) < ((s4.length : Int))) then
   (idx s4 (w64 (s6 + 1))).bind fun x1 =>
   (idx s4 s6).bind fun x2 =>
   (q_chain_store s1 (w64 (s3 + x2)) (BitVec.ofInt 64 x1)).bind fun (y3 : (List (BitVec 64)) × Unit) =>
   some (.again (y3.1, s2, s3, s4, s5, w64 (s6 + 1), ()))
  else
   (idx s4 s6).bind fun x4 =>
   (q_chain_store s1 (w64 (s3 + x4)) 0#64).bind fun (y5 : (List (BitVec 64)) × Unit) =>
   some (.again (y5.1, s2, s3, s4, s5, w64 (s6 + 1), ()))
 else
  some (.brk (s1, s2, s4, ())) := by kernel_rfl
theorem q_chain_Lay_eq (a1 : List (BitVec 64)) (a2 : Int) (a3 : Int) (a4 : List Int) : q_chain_Lay a1 a2 a3 a4 =
 (loopF p_chain_Lay_r2 (a1, a2, a3, a4, (a4.length : Int), 0, ())).bind fun st => match st with
  | .again _ => none
  | .brk (y1 : (List (BitVec 64)) × Int × (List Int) × Unit) =>
   bif decide (0 < ((y1.2.2.1.length : Int))) then
    (idx y1.2.2.1 0).bind fun x2 =>
    (q_chain_Pack 0#64 x2).bind fun (y3 : (BitVec 64) × Unit) =>
    (q_chain_store y1.1 y1.2.1 y3.1).bind fun (y4 : (List (BitVec 64)) × Unit) =>
    some (y4.1, ())
   else
    (q_chain_Pack 0#64 0).bind fun (y5 : (BitVec 64) × Unit) =>
    (q_chain_store y1.1 y1.2.1 y5.1).bind fun (y6 : (List (BitVec 64)) × Unit) =>
    some (y6.1, ())
  | .ret (y1 : Unit) =>
   none := mk_is (by kernel_rfl)
theorem p_state_New_r7_eq (s1 : BitVec 64) (s2 : Int) (s3 : Int) (s4 : Splan_Plan) (s5 : Int) (s6 : Int) (s7 : Int) (s8 : Int) (s9 : Int) (s10 : Int) (s11 : Int) (s12 : Int) (s13 : Int) (s14 : BitVec 64) (s15 : Int) (s16 : Stint_Tint) (s17 : Int) (s18 : Int) (s19 : Bool) (s20 : Bool) (s21 : Int) (s22 : Int) (s23 : Int) (s24 : Int) (s25 : Sstate_Detect) (s26 : Splan_Plan) (s27 : Int) (s28 : Stint_Tint) (s29 : Int) (s30 : Int) (s31 : Bool) (s32 : Bool) (s33 : Int) (s34 : Sledger_Ledger) (s35 : Sstate_Detect) (s36 : List (List Int)) (s37 : List (List Int)) (s38 : List (List Scode_Op)) (s39 : List Spick_Pick) (s40 : List (List Int)) (s41 : List (BitVec 64)) (s42 : List (List Int)) (s43 : List Int) (s44 : List Int) (s45 : List Sstate_Worker) (s46 : List Sstate_Mutator) (s47 : List (List Int)) (s48 : List (BitVec 64)) (s49 : List (List Int)) (s50 : List Int) (s51 : List Sstate_Worker) (s52 : List Sstate_Mutator) : p_state_New_r7 (s1, s2, s3, s4, s5, s6, s7, s8, s9, s10, s11, s12, s13, s14, s15, s16, s17, s18, s19, s20, s21, s22, s23, s24, s25, s26, s27, s28, s29, s30, s31, s32, s33, s34, s35, s36, s37, s38, s39, s40, s41, s42, s43, s44, s45, s46, s47, s48, s49, s50, s51, s52, ()) =
 bif decide (s3 < s2) then
  (q_deque_Cells s4.Cap).bind fun (y1 : (List (BitVec 64)) × Unit) =>
  (room (s48 ++ y1.1)).bind fun l2 =>
  (q_state_Deque s4 (w64 (s3 + 1))).bind fun (y3 : Int × Unit) =>
  (q_deque_Start 2 y3.1 s4.Cap 0).bind fun (y4 : Sdeque_Machine × Unit) =>
  (room (s51 ++ (([(Sstate_Worker.mk 0 0 0 (w64 (s3 + 1)) 0 (([] : List Int)) y4.1 (Schain_Machine.mk 0 0 0 0 0#64 0 0 0) (Sstate_Grey.mk 0 0 0 0 (Sdeque_Machine.mk 0 0 0 0 0#64 0#64 0 0) (Schain_Machine.mk 0 0 0 0 0#64 0 0 0) 0 0))] : List Sstate_Worker)))).bind fun l5 =>
  some (.again (s1, s2, w64 (s3 + 1), s4, s5, s6, s7, s8, s9, s10, s11, s12, s13, s14, s15, s16, s17, s18, s19, s20, s21, s22, s23, s24, s25, s26, s27, s28, s29, s30, s31, s32, s33, s34, s35, s36, s37, s38, s39, s40, s41, s42, s43, s44, s45, s46, s47, l2, s49, s50, l5, s52, ()))
 else
  some (.brk (s1, s4, s5, s6, s7, s8, s9, s10, s11, s12, s13, s14, s15, s16, s17, s18, s19, s20, s21, s22, s23, s24, s25, s26, s27, s28, s29, s30, s31, s32, s33, s34, s35, s36, s37, s38, s39, s40, s41, s42, s43, s44, s45, s46, s47, s48, s49, s50, s51, s52, ())) := by kernel_rfl
theorem p_state_New_r15_eq (s1 : BitVec 64) (s2 : Int) (s3 : Int) (s4 : Splan_Plan) (s5 : Int) (s6 : Int) (s7 : Int) (s8 : Int) (s9 : Int) (s10 : Int) (s11 : Int) (s12 : Int) (s13 : Int) (s14 : BitVec 64) (s15 : Int) (s16 : Stint_Tint) (s17 : Int) (s18 : Int) (s19 : Bool) (s20 : Bool) (s21 : Int) (s22 : Int) (s23 : Int) (s24 : Int) (s25 : Sstate_Detect) (s26 : Splan_Plan) (s27 : Int) (s28 : Stint_Tint) (s29 : Int) (s30 : Int) (s31 : Bool) (s32 : Bool) (s33 : Int) (s34 : Sledger_Ledger) (s35 : Sstate_Detect) (s36 : List Int) (s37 : List (List Int)) (s38 : List (List Int)) (s39 : List (List Scode_Op)) (s40 : List Spick_Pick) (s41 : List (List Int)) (s42 : List (BitVec 64)) (s43 : List (List Int)) (s44 : List Int) (s45 : List Int) (s46 : List Sstate_Worker) (s47 : List Sstate_Mutator) (s48 : List (List Int)) (s49 : List (BitVec 64)) (s50 : List (List Int)) (s51 : List Int) (s52 : List Sstate_Worker) (s53 : List Sstate_Mutator) : p_state_New_r15 (s1, s2, s3, s4, s5, s6, s7, s8, s9, s10, s11, s12, s13, s14, s15, s16, s17, s18, s19, s20, s21, s22, s23, s24, s25, s26, s27, s28, s29, s30, s31, s32, s33, s34, s35, s36, s37, s38, s39, s40, s41, s42, s43, s44, s45, s46, s47, s48, s49, s50, s51, s52, s53, ()) =
 bif decide (s3 < s2) then
  (room (s36 ++ (([(w64 (s3 + 1))] : List Int)))).bind fun l1 =>
  some (.again (s1, s2, w64 (s3 + 1), s4, s5, s6, s7, s8, s9, s10, s11, s12, s13, s14, s15, s16, s17, s18, s19, s20, s21, s22, s23, s24, s25, s26, s27, s28, s29, s30, s31, s32, s33, s34, s35, l1, s37, s38, s39, s40, s41, s42, s43, s44, s45, s46, s47, s48, s49, s50, s51, s52, s53, ()))
 else
  some (.brk (s1, s4, s5, s6, s7, s8, s9, s10, s11, s12, s13, s14, s15, s16, s17, s18, s19, s20, s21, s22, s23, s24, s25, s26, s27, s28, s29, s30, s31, s32, s33, s34, s35, s36, s37, s38, s39, s40, s41, s42, s43, s44, s45, s46, s47, s48, s49, s50, s51, s52, s53, ())) := by kernel_rfl
theorem p_state_New_r20_eq (y : List Int) (s1 : Splan_Plan) (s2 : Int) (s3 : Int) (s4 : Int) (s5 : Int) (s6 : Int) (s7 : Int) (s8 : Int) (s9 : Int) (s10 : Int) (s11 : BitVec 64) (s12 : Int) (s13 : Stint_Tint) (s14 : Int) (s15 : Int) (s16 : Bool) (s17 : Bool) (s18 : Int) (s19 : Int) (s20 : Int) (s21 : Int) (s22 : Sstate_Detect) (s23 : Splan_Plan) (s24 : Int) (s25 : Stint_Tint) (s26 : Int) (s27 : Int) (s28 : Bool) (s29 : Bool) (s30 : Int) (s31 : Sledger_Ledger) (s32 : Sstate_Detect) (s33 : List Int) (s34 : List (List Int)) (s35 : List (List Int)) (s36 : List (List Scode_Op)) (s37 : List Spick_Pick) (s38 : List (List Int)) (s39 : List (BitVec 64)) (s40 : List (List Int)) (s41 : List Int) (s42 : List Int) (s43 : List Sstate_Worker) (s44 : List Sstate_Mutator) (s45 : List (List Int)) (s46 : List (BitVec 64)) (s47 : List (List Int)) (s48 : List Int) (s49 : List Sstate_Worker) (s50 : List Sstate_Mutator) : p_state_New_r20 y (s1, s2, s3, s4, s5, s6, s7, s8, s9, s10, s11, s12, s13, s14, s15, s16, s17, s18, s19, s20, s21, s22, s23, s24, s25, s26, s27, s28, s29, s30, s31, s32, s33, s34, s35, s36, s37, s38, s39, s40, s41, s42, s43, s44, s45, s46, s47, s48, s49, s50, ()) =
 (q_slices_Clone_Lint_int y).bind fun (y1 : (List Int) × Unit) =>
 (room (s47 ++ (([y1.1] : List (List Int))))).bind fun l2 =>
 some (s1, s2, s3, s4, s5, s6, s7, s8, s9, s10, s11, s12, s13, s14, s15, s16, s17, s18, s19, s20, s21, s22, s23, s24, s25, s26, s27, s28, s29, s30, s31, s32, s33, s34, s35, s36, s37, s38, s39, s40, s41, s42, s43, s44, s45, s46, l2, s48, s49, s50, ()) := by kernel_rfl
theorem p_state_New_r28_eq (s1 : List (List Int)) (s2 : Int) (s3 : Int) (s4 : Int) (s5 : Int) (s6 : Int) (s7 : Int) (s8 : Int) (s9 : Int) (s10 : Int) (s11 : Int) (s12 : Int) (s13 : BitVec 64) (s14 : Int) (s15 : Stint_Tint) (s16 : Int) (s17 : Int) (s18 : Bool) (s19 : Bool) (s20 : Int) (s21 : Int) (s22 : Int) (s23 : Int) (s24 : Sstate_Detect) (s25 : Splan_Plan) (s26 : Int) (s27 : List (BitVec 64)) (s28 : Stint_Tint) (s29 : Int) (s30 : Int) (s31 : Bool) (s32 : Bool) (s33 : Int) (s34 : Sledger_Ledger) (s35 : Sstate_Detect) (s36 : List (List Int)) (s37 : List (List Int)) (s38 : List (List Scode_Op)) (s39 : List Spick_Pick) (s40 : List (List Int)) (s41 : List (BitVec 64)) (s42 : List (List Int)) (s43 : List Int) (s44 : List Int) (s45 : List Sstate_Worker) (s46 : List Sstate_Mutator) (s47 : List (List Int)) (s48 : List (List Int)) (s49 : List Int) (s50 : List Sstate_Worker) (s51 : List Sstate_Mutator) : p_state_New_r28 (s1, s2, s3, s4, s5, s6, s7, s8, s9, s10, s11, s12, s13, s14, s15, s16, s17, s18, s19, s20, s21, s22, s23, s24, s25, s26, s27, s28, s29, s30, s31, s32, s33, s34, s35, s36, s37, s38, s39, s40, s41, s42, s43, s44, s45, s46, s47, s48, s49, s50, s51, ()) =
 bif decide (s3 < s2) then
  (idx s1 s3).bind fun x1 =>
  (q_slices_Clone_Lint_int x1).bind fun (y2 : (List Int) × Unit) =>
  (room (s51 ++ (([(Sstate_Mutator.mk 0 0 0 0 0 0 0 0 y2.1 (([] : List Int)) (([] : List Int)) (Schain_Machine.mk 0 0 0 0 0#64 0 0 0) (Sstate_Grey.mk 0 0 0 0 (Sdeque_Machine.mk 0 0 0 0 0#64 0#64 0 0) (Schain_Machine.mk 0 0 0 0 0#64 0 0 0) 0 0))] : List Sstate_Mutator)))).bind fun l3 =>
  some (.again (s1, s2, w64 (s3 + 1), s4, s5, s6, s7, s8, s9, s10, s11, s12, s13, s14, s15, s16, s17, s18, s19, s20, s21, s22, s23, s24, s25, s26, s27, s28, s29, s30, s31, s32, s33, s34, s35, s36, s37, s38, s39, s40, s41, s42, s43, s44, s45, s46, s47, s48, s49, s50, l3, ()))
 else
  some (.brk (s4, s5, s6, s7, s8, s9, s10, s11, s12, s13, s14, s15, s16, s17, s18, s19, s20, s21, s22, s23, s24, s25, s26, s27, s28, s29, s30, s31, s32, s33, s34, s35, s36, s37, s38, s39, s40, s41, s42, s43, s44, s45, s46, s47, s48, s49, s50, s51, ())) := by kernel_rfl
theorem q_state_New_eq (a1 : Splan_Plan) : q_state_New a1 =
 (q_plan_Right a1).bind fun (y1 : Bool × Unit) =>
 bif !y1.1 then
  some (Sstate_State.mk (Splan_Plan.mk 0 0 0 0 0 0 0 0 (Sheap_Heap.mk 0 (([] : List (List Int)))) 0#64 (([] : List (List Int))) (([] : List (List Scode_Op))) (([] : List Spick_Pick))) (Sheap_Heap.mk 0 (([] : List (List Int)))) (([] : List (BitVec 64))) (([] : List (List Int))) (Stint_Tint.mk 0#64 0#64) 0 0 false false 0 (([] : List Int)) (Sledger_Ledger.mk 0 0 0 (([] : List Int))) (([] : List Sstate_Worker)) (([] : List Sstate_Mutator)) (Sstate_Detect.mk 0 0), ())
 else
  (q_plan_Greys a1).bind fun (y2 : (BitVec 64) × Unit) =>
  (q_set_Count y2.1).bind fun (y3 : Int × Unit) =>
  (q_ledger_New a1.Mutators).bind fun (y4 : Sledger_Ledger × Unit) =>
  (q_state_each_Lint a1.H.Objs).bind fun (y5 : (List (List Int)) × Unit) =>
  (loopF p_state_New_r7 (y2.1, a1.Workers, 0, a1, 0, 0, 0, 0, 0, 0, 0, 0, 0, 0#64, 0, Stint_Tint.mk 0#64 0#64, 0, 0, false, false, 0, 0, 0, 0, Sstate_Detect.mk 0 0, a1, a1.H.Slots, Stint_Tint.mk y2.1 0#64, y3.1, 0, false, false, 0, y4.1, Sstate_Detect.mk 0 0, ([] : List (List Int)), ([] : List (List Int)), ([] : List (List Scode_Op)), ([] : List Spick_Pick), ([] : List (List Int)), ([] : List (BitVec 64)), ([] : List (List Int)), ([] : List Int), ([] : List Int), ([] : List Sstate_Worker), ([] : List Sstate_Mutator), y5.1, ([] : List (BitVec 64)), ([([] : List Int)] : List (List Int)), ([] : List Int), ([] : List Sstate_Worker), ([] : List Sstate_Mutator), ())).bind fun st => match st with
   | .again _ => none
   | .brk (y6 : (BitVec 64) × Splan_Plan × Int × Int × Int × Int × Int × Int × Int × Int × Int × (BitVec 64) × Int × Stint_Tint × Int × Int × Bool × Bool × Int × Int × Int × Int × Sstate_Detect × Splan_Plan × Int × Stint_Tint × Int × Int × Bool × Bool × Int × Sledger_Ledger × Sstate_Detect × (List (List Int)) × (List (List Int)) × (List (List Scode_Op)) × (List Spick_Pick) × (List (List Int)) × (List (BitVec 64)) × (List (List Int)) × (List Int) × (List Int) × (List Sstate_Worker) × (List Sstate_Mutator) × (List (List Int)) × (List (BitVec 64)) × (List (List Int)) × (List Int) × (List Sstate_Worker) × (List Sstate_Mutator) × Unit) =>
    (q_plan_Bins y6.2.1).bind fun (y7 : Int × Unit) =>
    (count1 (w64 (2 + y7.1))).bind fun n8 =>
    (room (y6.2.2.2.2.2.2.2.2.2.2.2.2.2.2.2.2.2.2.2.2.2.2.2.2.2.2.2.2.2.2.2.2.2.2.2.2.2.2.2.2.2.2.2.2.2.1 ++ (List.replicate n8 0#64))).bind fun l9 =>
    (q_plan_Bins y6.2.1).bind fun (y10 : Int × Unit) =>
    (loopF p_state_New_r15 (y6.1, y10.1, 0, y6.2.1, y6.2.2.1, y6.2.2.2.1, y6.2.2.2.2.1, y6.2.2.2.2.2.1, y6.2.2.2.2.2.2.1, y6.2.2.2.2.2.2.2.1, y6.2.2.2.2.2.2.2.2.1, y6.2.2.2.2.2.2.2.2.2.1, y6.2.2.2.2.2.2.2.2.2.2.1, y6.2.2.2.2.2.2.2.2.2.2.2.1, y6.2.2.2.2.2.2.2.2.2.2.2.2.1, y6.2.2.2.2.2.2.2.2.2.2.2.2.2.1, y6.2.2.2.2.2.2.2.2.2.2.2.2.2.2.1, y6.2.2.2.2.2.2.2.2.2.2.2.2.2.2.2.1, y6.2.2.2.2.2.2.2.2.2.2.2.2.2.2.2.2.1, y6.2.2.2.2.2.2.2.2.2.2.2.2.2.2.2.2.2.1, y6.2.2.2.2.2.2.2.2.2.2.2.2.2.2.2.2.2.2.1, y6.2.2.2.2.2.2.2.2.2.2.2.2.2.2.2.2.2.2.2.1, y6.2.2.2.2.2.2.2.2.2.2.2.2.2.2.2.2.2.2.2.2.1, y6.2.2.2.2.2.2.2.2.2.2.2.2.2.2.2.2.2.2.2.2.2.1, y6.2.2.2.2.2.2.2.2.2.2.2.2.2.2.2.2.2.2.2.2.2.2.1, y6.2.2.2.2.2.2.2.2.2.2.2.2.2.2.2.2.2.2.2.2.2.2.2.1, y6.2.2.2.2.2.2.2.2.2.2.2.2.2.2.2.2.2.2.2.2.2.2.2.2.1, y6.2.2.2.2.2.2.2.2.2.2.2.2.2.2.2.2.2.2.2.2.2.2.2.2.2.1, y6.2.2.2.2.2.2.2.2.2.2.2.2.2.2.2.2.2.2.2.2.2.2.2.2.2.2.1, y6.2.2.2.2.2.2.2.2.2.2.2.2.2.2.2.2.2.2.2.2.2.2.2.2.2.2.2.1, y6.2.2.2.2.2.2.2.2.2.2.2.2.2.2.2.2.2.2.2.2.2.2.2.2.2.2.2.2.1, y6.2.2.2.2.2.2.2.2.2.2.2.2.2.2.2.2.2.2.2.2.2.2.2.2.2.2.2.2.2.1, y6.2.2.2.2.2.2.2.2.2.2.2.2.2.2.2.2.2.2.2.2.2.2.2.2.2.2.2.2.2.2.1, y6.2.2.2.2.2.2.2.2.2.2.2.2.2.2.2.2.2.2.2.2.2.2.2.2.2.2.2.2.2.2.2.1, y6.2.2.2.2.2.2.2.2.2.2.2.2.2.2.2.2.2.2.2.2.2.2.2.2.2.2.2.2.2.2.2.2.1, ([] : List Int), y6.2.2.2.2.2.2.2.2.2.2.2.2.2.2.2.2.2.2.2.2.2.2.2.2.2.2.2.2.2.2.2.2.2.1, y6.2.2.2.2.2.2.2.2.2.2.2.2.2.2.2.2.2.2.2.2.2.2.2.2.2.2.2.2.2.2.2.2.2.2.1, y6.2.2.2.2.2.2.2.2.2.2.2.2.2.2.2.2.2.2.2.2.2.2.2.2.2.2.2.2.2.2.2.2.2.2.2.1, y6.2.2.2.2.2.2.2.2.2.2.2.2.2.2.2.2.2.2.2.2.2.2.2.2.2.2.2.2.2.2.2.2.2.2.2.2.1, y6.2.2.2.2.2.2.2.2.2.2.2.2.2.2.2.2.2.2.2.2.2.2.2.2.2.2.2.2.2.2.2.2.2.2.2.2.2.1, y6.2.2.2.2.2.2.2.2.2.2.2.2.2.2.2.2.2.2.2.2.2.2.2.2.2.2.2.2.2.2.2.2.2.2.2.2.2.2.1, y6.2.2.2.2.2.2.2.2.2.2.2.2.2.2.2.2.2.2.2.2.2.2.2.2.2.2.2.2.2.2.2.2.2.2.2.2.2.2.2.1, y6.2.2.2.2.2.2.2.2.2.2.2.2.2.2.2.2.2.2.2.2.2.2.2.2.2.2.2.2.2.2.2.2.2.2.2.2.2.2.2.2.1, y6.2.2.2.2.2.2.2.2.2.2.2.2.2.2.2.2.2.2.2.2.2.2.2.2.2.2.2.2.2.2.2.2.2.2.2.2.2.2.2.2.2.1, y6.2.2.2.2.2.2.2.2.2.2.2.2.2.2.2.2.2.2.2.2.2.2.2.2.2.2.2.2.2.2.2.2.2.2.2.2.2.2.2.2.2.2.1, y6.2.2.2.2.2.2.2.2.2.2.2.2.2.2.2.2.2.2.2.2.2.2.2.2.2.2.2.2.2.2.2.2.2.2.2.2.2.2.2.2.2.2.2.1, y6.2.2.2.2.2.2.2.2.2.2.2.2.2.2.2.2.2.2.2.2.2.2.2.2.2.2.2.2.2.2.2.2.2.2.2.2.2.2.2.2.2.2.2.2.1, l9, y6.2.2.2.2.2.2.2.2.2.2.2.2.2.2.2.2.2.2.2.2.2.2.2.2.2.2.2.2.2.2.2.2.2.2.2.2.2.2.2.2.2.2.2.2.2.2.1, y6.2.2.2.2.2.2.2.2.2.2.2.2.2.2.2.2.2.2.2.2.2.2.2.2.2.2.2.2.2.2.2.2.2.2.2.2.2.2.2.2.2.2.2.2.2.2.2.1, y6.2.2.2.2.2.2.2.2.2.2.2.2.2.2.2.2.2.2.2.2.2.2.2.2.2.2.2.2.2.2.2.2.2.2.2.2.2.2.2.2.2.2.2.2.2.2.2.2.1, y6.2.2.2.2.2.2.2.2.2.2.2.2.2.2.2.2.2.2.2.2.2.2.2.2.2.2.2.2.2.2.2.2.2.2.2.2.2.2.2.2.2.2.2.2.2.2.2.2.2.1, ())).bind fun st => match st with
     | .again _ => none
     | .brk (y11 : (BitVec 64) × Splan_Plan × Int × Int × Int × Int × Int × Int × Int × Int × Int × (BitVec 64) × Int × Stint_Tint × Int × Int × Bool × Bool × Int × Int × Int × Int × Sstate_Detect × Splan_Plan × Int × Stint_Tint × Int × Int × Bool × Bool × Int × Sledger_Ledger × Sstate_Detect × (List Int) × (List (List Int)) × (List (List Int)) × (List (List Scode_Op)) × (List Spick_Pick) × (List (List Int)) × (List (BitVec 64)) × (List (List Int)) × (List Int) × (List Int) × (List Sstate_Worker) × (List Sstate_Mutator) × (List (List Int)) × (List (BitVec 64)) × (List (List Int)) × (List Int) × (List Sstate_Worker) × (List Sstate_Mutator) × Unit) =>
      (q_set_List y11.1).bind fun (y12 : (List Int) × Unit) =>
      (q_slices_Chunk_Lint_int y12.1 y11.2.1.Bin).bind fun (y13 : (List Int) × Int × Unit) =>
      (j_slices_Chunk_Lint_int_F1 y13.1 y13.2.1).bind fun (ys14 : List (List Int)) =>
      (foldY p_state_New_r20 ys14 (y11.2.1, y11.2.2.1, y11.2.2.2.1, y11.2.2.2.2.1, y11.2.2.2.2.2.1, y11.2.2.2.2.2.2.1, y11.2.2.2.2.2.2.2.1, y11.2.2.2.2.2.2.2.2.1, y11.2.2.2.2.2.2.2.2.2.1, y11.2.2.2.2.2.2.2.2.2.2.1, y11.2.2.2.2.2.2.2.2.2.2.2.1, y11.2.2.2.2.2.2.2.2.2.2.2.2.1, y11.2.2.2.2.2.2.2.2.2.2.2.2.2.1, y11.2.2.2.2.2.2.2.2.2.2.2.2.2.2.1, y11.2.2.2.2.2.2.2.2.2.2.2.2.2.2.2.1, y11.2.2.2.2.2.2.2.2.2.2.2.2.2.2.2.2.1, y11.2.2.2.2.2.2.2.2.2.2.2.2.2.2.2.2.2.1, y11.2.2.2.2.2.2.2.2.2.2.2.2.2.2.2.2.2.2.1, y11.2.2.2.2.2.2.2.2.2.2.2.2.2.2.2.2.2.2.2.1, y11.2.2.2.2.2.2.2.2.2.2.2.2.2.2.2.2.2.2.2.2.1, y11.2.2.2.2.2.2.2.2.2.2.2.2.2.2.2.2.2.2.2.2.2.1, y11.2.2.2.2.2.2.2.2.2.2.2.2.2.2.2.2.2.2.2.2.2.2.1, y11.2.2.2.2.2.2.2.2.2.2.2.2.2.2.2.2.2.2.2.2.2.2.2.1, y11.2.2.2.2.2.2.2.2.2.2.2.2.2.2.2.2.2.2.2.2.2.2.2.2.1, y11.2.2.2.2.2.2.2.2.2.2.2.2.2.2.2.2.2.2.2.2.2.2.2.2.2.1, y11.2.2.2.2.2.2.2.2.2.2.2.2.2.2.2.2.2.2.2.2.2.2.2.2.2.2.1, y11.2.2.2.2.2.2.2.2.2.2.2.2.2.2.2.2.2.2.2.2.2.2.2.2.2.2.2.1, y11.2.2.2.2.2.2.2.2.2.2.2.2.2.2.2.2.2.2.2.2.2.2.2.2.2.2.2.2.1, y11.2.2.2.2.2.2.2.2.2.2.2.2.2.2.2.2.2.2.2.2.2.2.2.2.2.2.2.2.2.1, y11.2.2.2.2.2.2.2.2.2.2.2.2.2.2.2.2.2.2.2.2.2.2.2.2.2.2.2.2.2.2.1, y11.2.2.2.2.2.2.2.2.2.2.2.2.2.2.2.2.2.2.2.2.2.2.2.2.2.2.2.2.2.2.2.1, y11.2.2.2.2.2.2.2.2.2.2.2.2.2.2.2.2.2.2.2.2.2.2.2.2.2.2.2.2.2.2.2.2.1, y11.2.2.2.2.2.2.2.2.2.2.2.2.2.2.2.2.2.2.2.2.2.2.2.2.2.2.2.2.2.2.2.2.2.1, y11.2.2.2.2.2.2.2.2.2.2.2.2.2.2.2.2.2.2.2.2.2.2.2.2.2.2.2.2.2.2.2.2.2.2.1, y11.2.2.2.2.2.2.2.2.2.2.2.2.2.2.2.2.2.2.2.2.2.2.2.2.2.2.2.2.2.2.2.2.2.2.2.1, y11.2.2.2.2.2.2.2.2.2.2.2.2.2.2.2.2.2.2.2.2.2.2.2.2.2.2.2.2.2.2.2.2.2.2.2.2.1, y11.2.2.2.2.2.2.2.2.2.2.2.2.2.2.2.2.2.2.2.2.2.2.2.2.2.2.2.2.2.2.2.2.2.2.2.2.2.1, y11.2.2.2.2.2.2.2.2.2.2.2.2.2.2.2.2.2.2.2.2.2.2.2.2.2.2.2.2.2.2.2.2.2.2.2.2.2.2.1, y11.2.2.2.2.2.2.2.2.2.2.2.2.2.2.2.2.2.2.2.2.2.2.2.2.2.2.2.2.2.2.2.2.2.2.2.2.2.2.2.1, y11.2.2.2.2.2.2.2.2.2.2.2.2.2.2.2.2.2.2.2.2.2.2.2.2.2.2.2.2.2.2.2.2.2.2.2.2.2.2.2.2.1, y11.2.2.2.2.2.2.2.2.2.2.2.2.2.2.2.2.2.2.2.2.2.2.2.2.2.2.2.2.2.2.2.2.2.2.2.2.2.2.2.2.2.1, y11.2.2.2.2.2.2.2.2.2.2.2.2.2.2.2.2.2.2.2.2.2.2.2.2.2.2.2.2.2.2.2.2.2.2.2.2.2.2.2.2.2.2.1, y11.2.2.2.2.2.2.2.2.2.2.2.2.2.2.2.2.2.2.2.2.2.2.2.2.2.2.2.2.2.2.2.2.2.2.2.2.2.2.2.2.2.2.2.1, y11.2.2.2.2.2.2.2.2.2.2.2.2.2.2.2.2.2.2.2.2.2.2.2.2.2.2.2.2.2.2.2.2.2.2.2.2.2.2.2.2.2.2.2.2.1, y11.2.2.2.2.2.2.2.2.2.2.2.2.2.2.2.2.2.2.2.2.2.2.2.2.2.2.2.2.2.2.2.2.2.2.2.2.2.2.2.2.2.2.2.2.2.1, y11.2.2.2.2.2.2.2.2.2.2.2.2.2.2.2.2.2.2.2.2.2.2.2.2.2.2.2.2.2.2.2.2.2.2.2.2.2.2.2.2.2.2.2.2.2.2.1, y11.2.2.2.2.2.2.2.2.2.2.2.2.2.2.2.2.2.2.2.2.2.2.2.2.2.2.2.2.2.2.2.2.2.2.2.2.2.2.2.2.2.2.2.2.2.2.2.1, y11.2.2.2.2.2.2.2.2.2.2.2.2.2.2.2.2.2.2.2.2.2.2.2.2.2.2.2.2.2.2.2.2.2.2.2.2.2.2.2.2.2.2.2.2.2.2.2.2.1, y11.2.2.2.2.2.2.2.2.2.2.2.2.2.2.2.2.2.2.2.2.2.2.2.2.2.2.2.2.2.2.2.2.2.2.2.2.2.2.2.2.2.2.2.2.2.2.2.2.2.1, y11.2.2.2.2.2.2.2.2.2.2.2.2.2.2.2.2.2.2.2.2.2.2.2.2.2.2.2.2.2.2.2.2.2.2.2.2.2.2.2.2.2.2.2.2.2.2.2.2.2.2.1, ())).bind fun (y15 : Splan_Plan × Int × Int × Int × Int × Int × Int × Int × Int × Int × (BitVec 64) × Int × Stint_Tint × Int × Int × Bool × Bool × Int × Int × Int × Int × Sstate_Detect × Splan_Plan × Int × Stint_Tint × Int × Int × Bool × Bool × Int × Sledger_Ledger × Sstate_Detect × (List Int) × (List (List Int)) × (List (List Int)) × (List (List Scode_Op)) × (List Spick_Pick) × (List (List Int)) × (List (BitVec 64)) × (List (List Int)) × (List Int) × (List Int) × (List Sstate_Worker) × (List Sstate_Mutator) × (List (List Int)) × (List (BitVec 64)) × (List (List Int)) × (List Int) × (List Sstate_Worker) × (List Sstate_Mutator) × Unit) =>
      (count1 (w64 (((y15.2.2.2.2.2.2.2.2.2.2.2.2.2.2.2.2.2.2.2.2.2.2.2.2.2.2.2.2.2.2.2.2.1.length : Int)) - (w64 (((y15.2.2.2.2.2.2.2.2.2.2.2.2.2.2.2.2.2.2.2.2.2.2.2.2.2.2.2.2.2.2.2.2.2.2.2.2.2.2.2.2.2.2.2.2.2.2.1.length : Int)) - 1))))).bind fun n16 =>
      (room (y15.2.2.2.2.2.2.2.2.2.2.2.2.2.2.2.2.2.2.2.2.2.2.2.2.2.2.2.2.2.2.2.2.2.2.2.2.2.2.2.2.2.2.2.2.2.2.1 ++ (List.replicate n16 ([] : List Int)))).bind fun l17 =>
      (q_state_Full y15.1).bind fun (y18 : Int × Unit) =>
      (q_state_Next y15.1).bind fun (y19 : Int × Unit) =>
      (cut y15.2.2.2.2.2.2.2.2.2.2.2.2.2.2.2.2.2.2.2.2.2.2.2.2.2.2.2.2.2.2.2.2.1 0 (w64 (((y15.2.2.2.2.2.2.2.2.2.2.2.2.2.2.2.2.2.2.2.2.2.2.2.2.2.2.2.2.2.2.2.2.2.2.2.2.2.2.2.2.2.2.2.2.2.2.1.length : Int)) - 1))).bind fun l20 =>
      (q_chain_Lay y15.2.2.2.2.2.2.2.2.2.2.2.2.2.2.2.2.2.2.2.2.2.2.2.2.2.2.2.2.2.2.2.2.2.2.2.2.2.2.2.2.2.2.2.2.2.1 y18.1 y19.1 l20).bind fun (y21 : (List (BitVec 64)) × Unit) =>
      (q_state_Empty y15.1).bind fun (y22 : Int × Unit) =>
      (q_state_Next y15.1).bind fun (y23 : Int × Unit) =>
      (cut y15.2.2.2.2.2.2.2.2.2.2.2.2.2.2.2.2.2.2.2.2.2.2.2.2.2.2.2.2.2.2.2.2.1 (w64 (((y15.2.2.2.2.2.2.2.2.2.2.2.2.2.2.2.2.2.2.2.2.2.2.2.2.2.2.2.2.2.2.2.2.2.2.2.2.2.2.2.2.2.2.2.2.2.2.1.length : Int)) - 1)) ((y15.2.2.2.2.2.2.2.2.2.2.2.2.2.2.2.2.2.2.2.2.2.2.2.2.2.2.2.2.2.2.2.2.1.length : Int))).bind fun l24 =>
      (q_chain_Lay y21.1 y22.1 y23.1 l24).bind fun (y25 : (List (BitVec 64)) × Unit) =>
      bif decide (y15.1.Mutators = y15.1.Mutators) then
       (count y15.1.Mutators).bind fun n26 =>
       (loopF p_state_New_r28 (y15.1.Regs, (y15.1.Regs.length : Int), 0, y15.2.1, y15.2.2.1, y15.2.2.2.1, y15.2.2.2.2.1, y15.2.2.2.2.2.1, y15.2.2.2.2.2.2.1, y15.2.2.2.2.2.2.2.1, y15.2.2.2.2.2.2.2.2.1, y15.2.2.2.2.2.2.2.2.2.1, y15.2.2.2.2.2.2.2.2.2.2.1, y15.2.2.2.2.2.2.2.2.2.2.2.1, y15.2.2.2.2.2.2.2.2.2.2.2.2.1, y15.2.2.2.2.2.2.2.2.2.2.2.2.2.1, y15.2.2.2.2.2.2.2.2.2.2.2.2.2.2.1, y15.2.2.2.2.2.2.2.2.2.2.2.2.2.2.2.1, y15.2.2.2.2.2.2.2.2.2.2.2.2.2.2.2.2.1, y15.2.2.2.2.2.2.2.2.2.2.2.2.2.2.2.2.2.1, y15.2.2.2.2.2.2.2.2.2.2.2.2.2.2.2.2.2.2.1, y15.2.2.2.2.2.2.2.2.2.2.2.2.2.2.2.2.2.2.2.1, y15.2.2.2.2.2.2.2.2.2.2.2.2.2.2.2.2.2.2.2.2.1, y15.2.2.2.2.2.2.2.2.2.2.2.2.2.2.2.2.2.2.2.2.2.1, y15.2.2.2.2.2.2.2.2.2.2.2.2.2.2.2.2.2.2.2.2.2.2.1, y15.2.2.2.2.2.2.2.2.2.2.2.2.2.2.2.2.2.2.2.2.2.2.2.1, y25.1, y15.2.2.2.2.2.2.2.2.2.2.2.2.2.2.2.2.2.2.2.2.2.2.2.2.1, y15.2.2.2.2.2.2.2.2.2.2.2.2.2.2.2.2.2.2.2.2.2.2.2.2.2.1, y15.2.2.2.2.2.2.2.2.2.2.2.2.2.2.2.2.2.2.2.2.2.2.2.2.2.2.1, y15.2.2.2.2.2.2.2.2.2.2.2.2.2.2.2.2.2.2.2.2.2.2.2.2.2.2.2.1, y15.2.2.2.2.2.2.2.2.2.2.2.2.2.2.2.2.2.2.2.2.2.2.2.2.2.2.2.2.1, y15.2.2.2.2.2.2.2.2.2.2.2.2.2.2.2.2.2.2.2.2.2.2.2.2.2.2.2.2.2.1, y15.2.2.2.2.2.2.2.2.2.2.2.2.2.2.2.2.2.2.2.2.2.2.2.2.2.2.2.2.2.2.1, y15.2.2.2.2.2.2.2.2.2.2.2.2.2.2.2.2.2.2.2.2.2.2.2.2.2.2.2.2.2.2.2.1, y15.2.2.2.2.2.2.2.2.2.2.2.2.2.2.2.2.2.2.2.2.2.2.2.2.2.2.2.2.2.2.2.2.2.1, y15.2.2.2.2.2.2.2.2.2.2.2.2.2.2.2.2.2.2.2.2.2.2.2.2.2.2.2.2.2.2.2.2.2.2.1, y15.2.2.2.2.2.2.2.2.2.2.2.2.2.2.2.2.2.2.2.2.2.2.2.2.2.2.2.2.2.2.2.2.2.2.2.1, y15.2.2.2.2.2.2.2.2.2.2.2.2.2.2.2.2.2.2.2.2.2.2.2.2.2.2.2.2.2.2.2.2.2.2.2.2.1, y15.2.2.2.2.2.2.2.2.2.2.2.2.2.2.2.2.2.2.2.2.2.2.2.2.2.2.2.2.2.2.2.2.2.2.2.2.2.1, y15.2.2.2.2.2.2.2.2.2.2.2.2.2.2.2.2.2.2.2.2.2.2.2.2.2.2.2.2.2.2.2.2.2.2.2.2.2.2.1, y15.2.2.2.2.2.2.2.2.2.2.2.2.2.2.2.2.2.2.2.2.2.2.2.2.2.2.2.2.2.2.2.2.2.2.2.2.2.2.2.1, y15.2.2.2.2.2.2.2.2.2.2.2.2.2.2.2.2.2.2.2.2.2.2.2.2.2.2.2.2.2.2.2.2.2.2.2.2.2.2.2.2.1, y15.2.2.2.2.2.2.2.2.2.2.2.2.2.2.2.2.2.2.2.2.2.2.2.2.2.2.2.2.2.2.2.2.2.2.2.2.2.2.2.2.2.1, y15.2.2.2.2.2.2.2.2.2.2.2.2.2.2.2.2.2.2.2.2.2.2.2.2.2.2.2.2.2.2.2.2.2.2.2.2.2.2.2.2.2.2.1, y15.2.2.2.2.2.2.2.2.2.2.2.2.2.2.2.2.2.2.2.2.2.2.2.2.2.2.2.2.2.2.2.2.2.2.2.2.2.2.2.2.2.2.2.1, y15.2.2.2.2.2.2.2.2.2.2.2.2.2.2.2.2.2.2.2.2.2.2.2.2.2.2.2.2.2.2.2.2.2.2.2.2.2.2.2.2.2.2.2.2.1, l17, List.replicate n26 0, y15.2.2.2.2.2.2.2.2.2.2.2.2.2.2.2.2.2.2.2.2.2.2.2.2.2.2.2.2.2.2.2.2.2.2.2.2.2.2.2.2.2.2.2.2.2.2.2.2.1, y15.2.2.2.2.2.2.2.2.2.2.2.2.2.2.2.2.2.2.2.2.2.2.2.2.2.2.2.2.2.2.2.2.2.2.2.2.2.2.2.2.2.2.2.2.2.2.2.2.2.1, ())).bind fun st => match st with
        | .again _ => none
        | .brk (y27 : Int × Int × Int × Int × Int × Int × Int × Int × Int × (BitVec 64) × Int × Stint_Tint × Int × Int × Bool × Bool × Int × Int × Int × Int × Sstate_Detect × Splan_Plan × Int × (List (BitVec 64)) × Stint_Tint × Int × Int × Bool × Bool × Int × Sledger_Ledger × Sstate_Detect × (List (List Int)) × (List (List Int)) × (List (List Scode_Op)) × (List Spick_Pick) × (List (List Int)) × (List (BitVec 64)) × (List (List Int)) × (List Int) × (List Int) × (List Sstate_Worker) × (List Sstate_Mutator) × (List (List Int)) × (List (List Int)) × (List Int) × (List Sstate_Worker) × (List Sstate_Mutator) × Unit) =>
         some (Sstate_State.mk y27.2.2.2.2.2.2.2.2.2.2.2.2.2.2.2.2.2.2.2.2.2.1 (Sheap_Heap.mk y27.2.2.2.2.2.2.2.2.2.2.2.2.2.2.2.2.2.2.2.2.2.2.1 y27.2.2.2.2.2.2.2.2.2.2.2.2.2.2.2.2.2.2.2.2.2.2.2.2.2.2.2.2.2.2.2.2.2.2.2.2.2.2.2.2.2.2.2.1) y27.2.2.2.2.2.2.2.2.2.2.2.2.2.2.2.2.2.2.2.2.2.2.2.1 y27.2.2.2.2.2.2.2.2.2.2.2.2.2.2.2.2.2.2.2.2.2.2.2.2.2.2.2.2.2.2.2.2.2.2.2.2.2.2.2.2.2.2.2.2.1 y27.2.2.2.2.2.2.2.2.2.2.2.2.2.2.2.2.2.2.2.2.2.2.2.2.1 y27.2.2.2.2.2.2.2.2.2.2.2.2.2.2.2.2.2.2.2.2.2.2.2.2.2.1 y27.2.2.2.2.2.2.2.2.2.2.2.2.2.2.2.2.2.2.2.2.2.2.2.2.2.2.1 y27.2.2.2.2.2.2.2.2.2.2.2.2.2.2.2.2.2.2.2.2.2.2.2.2.2.2.2.1 y27.2.2.2.2.2.2.2.2.2.2.2.2.2.2.2.2.2.2.2.2.2.2.2.2.2.2.2.2.1 y27.2.2.2.2.2.2.2.2.2.2.2.2.2.2.2.2.2.2.2.2.2.2.2.2.2.2.2.2.2.1 y27.2.2.2.2.2.2.2.2.2.2.2.2.2.2.2.2.2.2.2.2.2.2.2.2.2.2.2.2.2.2.2.2.2.2.2.2.2.2.2.2.2.2.2.2.2.1 y27.2.2.2.2.2.2.2.2.2.2.2.2.2.2.2.2.2.2.2.2.2.2.2.2.2.2.2.2.2.2.1 y27.2.2.2.2.2.2.2.2.2.2.2.2.2.2.2.2.2.2.2.2.2.2.2.2.2.2.2.2.2.2.2.2.2.2.2.2.2.2.2.2.2.2.2.2.2.2.1 y27.2.2.2.2.2.2.2.2.2.2.2.2.2.2.2.2.2.2.2.2.2.2.2.2.2.2.2.2.2.2.2.2.2.2.2.2.2.2.2.2.2.2.2.2.2.2.2.1 y27.2.2.2.2.2.2.2.2.2.2.2.2.2.2.2.2.2.2.2.2.2.2.2.2.2.2.2.2.2.2.2.1, ())
        | .ret (y27 : Unit) =>
         none
      else
       none
     | .ret (y11 : Unit) =>
      none
   | .ret (y6 : Unit) =>
    none := mk_is (by kernel_rfl)
theorem q_grey_Begin_eq (a1 : Int) (a2 : Int) (a3 : Int) : q_grey_Begin a1 a2 a3 =
 some (Sstate_Grey.mk 0 a1 a2 a3 (Sdeque_Machine.mk 0 0 0 0 0#64 0#64 0 0) (Schain_Machine.mk 0 0 0 0 0#64 0 0 0) 0 0, ()) := mk_is (by kernel_rfl)
theorem q_grey_machine_reserve_v1_eq (a1 : Sgrey_machine) : q_grey_machine_reserve_v1 a1 =
 some (Sgrey_machine.mk { a1.Grey with PC := 1 } { a1.s with Work := w64 (a1.s.Work + 1) }, ()) := mk_is (by kernel_rfl)
theorem q_set_Has_eq (a1 : BitVec 64) (a2 : Int) : q_set_Has a1 a2 =
 (q_set_bit a2).bind fun (y1 : (BitVec 64) × Unit) =>
 some (!(decide ((a1 &&& y1.1) = 0#64)), ()) := mk_is (by kernel_rfl)
theorem q_tint_Shade_eq (a1 : Stint_Tint) (a2 : Int) : q_tint_Shade a1 a2 =
 (q_set_Add a1.Marks a2).bind fun (y1 : (BitVec 64) × Unit) =>
 bif decide (y1.1 = a1.Marks) then
  some (a1, false, ())
 else
  (q_set_Has a1.Black a2).bind fun (y2 : Bool × Unit) =>
  bif y2.1 then
   some (a1, false, ())
  else
   some ({ a1 with Marks := y1.1 }, true, ()) := mk_is (by kernel_rfl)
theorem q_chain_Start_eq (a1 : Int) (a2 : Int) (a3 : Int) (a4 : Int) : q_chain_Start a1 a2 a3 a4 =
 some (Schain_Machine.mk a1 0 a2 a3 0#64 a4 0 0, ()) := mk_is (by kernel_rfl)
theorem q_grey_machine_ask_v1_eq (a1 : Sgrey_machine) : q_grey_machine_ask_v1 a1 =
 (q_state_Empty a1.s.P).bind fun (y1 : Int × Unit) =>
 (q_state_Next a1.s.P).bind fun (y2 : Int × Unit) =>
 (q_chain_Start 2 y1.1 y2.1 0).bind fun (y3 : Schain_Machine × Unit) =>
 some ({ a1 with Grey := { a1.Grey with PC := 5, C := y3.1 } }, ()) := mk_is (by kernel_rfl)
theorem q_grey_machine_mark_v1_eq (a1 : Sgrey_machine) : q_grey_machine_mark_v1 a1 =
 (q_tint_Shade a1.s.T a1.Grey.Obj).bind fun (y1 : Stint_Tint × Bool × Unit) =>
 bif !y1.2.1 then
  some (Sgrey_machine.mk { a1.Grey with PC := 2 } { a1.s with T := y1.1 }, ())
 else
  bif decide (a1.Grey.Mode = 1) then
   (q_state_Deque a1.s.P a1.Grey.Who).bind fun (y2 : Int × Unit) =>
   (q_deque_Start 1 y2.1 a1.s.P.Cap a1.Grey.Obj).bind fun (y3 : Sdeque_Machine × Unit) =>
   some (Sgrey_machine.mk { a1.Grey with PC := 3, D := y3.1 } { a1.s with T := y1.1 }, ())
  else
   bif decide (a1.Grey.Mode = 2) then
    some (Sgrey_machine.mk { a1.Grey with PC := 4 } { a1.s with T := y1.1 }, ())
   else
    (q_grey_machine_ask_v1 ({ a1 with s := { a1.s with T := y1.1 } })).bind fun (y4 : Sgrey_machine × Unit) =>
    some (y4.1, ()) := mk_is (by kernel_rfl)
end Go.Pe.G
namespace Go.Pe.G
open Go.Pe
theorem q_grey_machine_back_v1_eq (a1 : Sgrey_machine) : q_grey_machine_back_v1 a1 =
 some (Sgrey_machine.mk { a1.Grey with Out := 1 } { a1.s with Work := w64 (a1.s.Work - 1) }, ()) := mk_is (by kernel_rfl)
theorem q_deque_stepsa_eq (a1 : Int) : q_deque_stepsa a1 =
 bif decide (a1 = 1) then
  some (())
 else
  bif decide (a1 = 2) then
   none
  else
   bif decide (a1 = 3) then
    none
   else
    none := mk_is (by kernel_rfl)
theorem q_deque_stepsb_eq (a1 : Int) : q_deque_stepsb a1 =
 bif decide (a1 = 1) then
  none
 else
  bif decide (a1 = 2) then
   some (())
  else
   bif decide (a1 = 3) then
    none
   else
    none := mk_is (by kernel_rfl)
theorem q_deque_stepsc_eq (a1 : Int) : q_deque_stepsc a1 =
 bif decide (a1 = 1) then
  none
 else
  bif decide (a1 = 2) then
   none
  else
   bif decide (a1 = 3) then
    some (())
   else
    none := mk_is (by kernel_rfl)
theorem q_deque_stepsd_eq (a1 : Int) : q_deque_stepsd a1 =
 bif decide (a1 = 1) then
  none
 else
  bif decide (a1 = 2) then
   none
  else
   bif decide (a1 = 3) then
    none
   else
    some (([] : List Bool), ()) := mk_is (by kernel_rfl)
theorem q_deque_load_eq (a1 : List (BitVec 64)) (a2 : Int) : q_deque_load a1 a2 =
 (q_mem_Do a1 (Smem_Op.mk 1 a2 0#64 0#64)).bind fun (y1 : (List (BitVec 64)) × (BitVec 64) × Bool × Unit) =>
 some (y1.2.1, ()) := mk_is (by kernel_rfl)
theorem q_deque_Machine_bottom_eq (a1 : Sdeque_Machine) : q_deque_Machine_bottom a1 =
 some (w64 (a1.Base + 1), ()) := mk_is (by kernel_rfl)
theorem q_deque_Machine_seeBottom_v1_eq (a1 : List (BitVec 64)) (a2 : Sdeque_Machine) : q_deque_Machine_seeBottom_v1 a1 a2 =
 (q_deque_Machine_bottom a2).bind fun (y1 : Int × Unit) =>
 (q_deque_load a1 y1.1).bind fun (y2 : (BitVec 64) × Unit) =>
 some (a1, { a2 with B := y2.1 }, ()) := mk_is (by kernel_rfl)
theorem q_deque_Machine_top_eq (a1 : Sdeque_Machine) : q_deque_Machine_top a1 =
 some (a1.Base, ()) := mk_is (by kernel_rfl)
theorem q_deque_Machine_size_eq (a1 : Sdeque_Machine) : q_deque_Machine_size a1 =
 some (BitVec.ofInt 64 (bif decide (a1.Cap < 1) then 1 else a1.Cap), ()) := mk_is (by kernel_rfl)
theorem q_deque_Machine_end_v1_eq (a1 : Int) (a2 : Sdeque_Machine) : q_deque_Machine_end_v1 a1 a2 =
 bif !(decide (a1 = 1)) then
  bif !(decide (a2.Kind = 1)) then
   some ({ a2 with X := 0, Out := a1 }, ())
  else
   some ({ a2 with Out := a1 }, ())
 else
  some ({ a2 with Out := a1 }, ()) := mk_is (by kernel_rfl)
theorem q_deque_Machine_room_v1_eq (a1 : List (BitVec 64)) (a2 : Sdeque_Machine) : q_deque_Machine_room_v1 a1 a2 =
 (q_deque_Machine_top a2).bind fun (y1 : Int × Unit) =>
 (q_deque_load a1 y1.1).bind fun (y2 : (BitVec 64) × Unit) =>
 (q_deque_Machine_size ({ a2 with T := y2.1 })).bind fun (y3 : (BitVec 64) × Unit) =>
 bif decide (y3.1 ≤ (a2.B - y2.1)) then
  (q_deque_Machine_end_v1 3 ({ a2 with T := y2.1 })).bind fun (y4 : Sdeque_Machine × Unit) =>
  some (a1, y4.1, ())
 else
  some (a1, { a2 with T := y2.1 }, ()) := mk_is (by kernel_rfl)
theorem q_deque_Machine_place_eq (a1 : BitVec 64) (a2 : Sdeque_Machine) : q_deque_Machine_place a1 a2 =
 (q_deque_Machine_size a2).bind fun (y1 : (BitVec 64) × Unit) =>
 bif decide (y1.1 = 0#64) then
  none
 else
  some (w64 ((w64 (a2.Base + 2)) + ((a1 % y1.1).toInt)), ()) := mk_is (by kernel_rfl)
theorem q_deque_store_eq (a1 : List (BitVec 64)) (a2 : Int) (a3 : BitVec 64) : q_deque_store a1 a2 a3 =
 (q_mem_Do a1 (Smem_Op.mk 2 a2 a3 0#64)).bind fun (y1 : (List (BitVec 64)) × (BitVec 64) × Bool × Unit) =>
 some (y1.1, ()) := mk_is (by kernel_rfl)
theorem q_deque_Machine_put_eq (a1 : List (BitVec 64)) (a2 : Sdeque_Machine) : q_deque_Machine_put a1 a2 =
 (q_deque_Machine_place a2.B a2).bind fun (y1 : Int × Unit) =>
 (q_deque_store a1 y1.1 (BitVec.ofInt 64 a2.X)).bind fun (y2 : (List (BitVec 64)) × Unit) =>
 some (y2.1, ()) := mk_is (by kernel_rfl)
theorem q_deque_Machine_publish_v1_eq (a1 : List (BitVec 64)) (a2 : Sdeque_Machine) : q_deque_Machine_publish_v1 a1 a2 =
 (q_deque_Machine_end_v1 1 a2).bind fun (y1 : Sdeque_Machine × Unit) =>
 (q_deque_Machine_bottom y1.1).bind fun (y2 : Int × Unit) =>
 (q_deque_store a1 y2.1 (y1.1.B + 1#64)).bind fun (y3 : (List (BitVec 64)) × Unit) =>
 some (y3.1, y1.1, ()) := mk_is (by kernel_rfl)
theorem q_deque_Machine_claim_eq (a1 : List (BitVec 64)) (a2 : Sdeque_Machine) : q_deque_Machine_claim a1 a2 =
 (q_deque_Machine_bottom a2).bind fun (y1 : Int × Unit) =>
 (q_deque_store a1 y1.1 (a2.B - 1#64)).bind fun (y2 : (List (BitVec 64)) × Unit) =>
 some (y2.1, ()) := mk_is (by kernel_rfl)
theorem q_deque_above_eq (a1 : BitVec 64) (a2 : BitVec 64) : q_deque_above a1 a2 =
 some (decide (0 < ((a1 - a2).toInt)), ()) := mk_is (by kernel_rfl)
theorem q_deque_Machine_seeTop_v1_eq (a1 : List (BitVec 64)) (a2 : Sdeque_Machine) : q_deque_Machine_seeTop_v1 a1 a2 =
 (q_deque_Machine_top a2).bind fun (y1 : Int × Unit) =>
 (q_deque_load a1 y1.1).bind fun (y2 : (BitVec 64) × Unit) =>
 (q_deque_above y2.1 (a2.B - 1#64)).bind fun (y3 : Bool × Unit) =>
 bif y3.1 then
  some (a1, { a2 with PC := 4, T := y2.1 }, ())
 else
  some (a1, { a2 with T := y2.1 }, ()) := mk_is (by kernel_rfl)
theorem q_deque_Machine_get_v1_eq (a1 : List (BitVec 64)) (a2 : Sdeque_Machine) : q_deque_Machine_get_v1 a1 a2 =
 (q_deque_Machine_place (a2.B - 1#64) a2).bind fun (y1 : Int × Unit) =>
 (q_deque_load a1 y1.1).bind fun (y2 : (BitVec 64) × Unit) =>
 bif !(decide (a2.T = (a2.B - 1#64))) then
  (q_deque_Machine_end_v1 1 ({ a2 with X := y2.1.toInt })).bind fun (y3 : Sdeque_Machine × Unit) =>
  some (a1, y3.1, ())
 else
  some (a1, { a2 with X := y2.1.toInt }, ()) := mk_is (by kernel_rfl)
theorem q_deque_Machine_take_eq (a1 : List (BitVec 64)) (a2 : Sdeque_Machine) : q_deque_Machine_take a1 a2 =
 (q_deque_Machine_top a2).bind fun (y1 : Int × Unit) =>
 (q_mem_Do a1 (Smem_Op.mk 3 y1.1 a2.T (a2.T + 1#64))).bind fun (y2 : (List (BitVec 64)) × (BitVec 64) × Bool × Unit) =>
 some (y2.1, y2.2.2.1, ()) := mk_is (by kernel_rfl)
theorem q_deque_Machine_race_v1_eq (a1 : List (BitVec 64)) (a2 : Sdeque_Machine) : q_deque_Machine_race_v1 a1 a2 =
 (q_deque_Machine_take a1 a2).bind fun (y1 : (List (BitVec 64)) × Bool × Unit) =>
 bif y1.2.1 then
  some (y1.1, { a2 with PC := 5 }, ())
 else
  some (y1.1, a2, ()) := mk_is (by kernel_rfl)
theorem q_deque_Machine_fail_v1_eq (a1 : List (BitVec 64)) (a2 : Sdeque_Machine) : q_deque_Machine_fail_v1 a1 a2 =
 (q_deque_Machine_end_v1 2 a2).bind fun (y1 : Sdeque_Machine × Unit) =>
 (q_deque_Machine_bottom y1.1).bind fun (y2 : Int × Unit) =>
 (q_deque_store a1 y2.1 y1.1.B).bind fun (y3 : (List (BitVec 64)) × Unit) =>
 some (y3.1, y1.1, ()) := mk_is (by kernel_rfl)
theorem q_deque_Machine_won_v1_eq (a1 : List (BitVec 64)) (a2 : Sdeque_Machine) : q_deque_Machine_won_v1 a1 a2 =
 (q_deque_Machine_end_v1 1 a2).bind fun (y1 : Sdeque_Machine × Unit) =>
 (q_deque_Machine_bottom y1.1).bind fun (y2 : Int × Unit) =>
 (q_deque_store a1 y2.1 y1.1.B).bind fun (y3 : (List (BitVec 64)) × Unit) =>
 some (y3.1, y1.1, ()) := mk_is (by kernel_rfl)
theorem q_deque_Machine_aim_v1_eq (a1 : List (BitVec 64)) (a2 : Sdeque_Machine) : q_deque_Machine_aim_v1 a1 a2 =
 (q_deque_Machine_top a2).bind fun (y1 : Int × Unit) =>
 (q_deque_load a1 y1.1).bind fun (y2 : (BitVec 64) × Unit) =>
 some (a1, { a2 with T := y2.1 }, ()) := mk_is (by kernel_rfl)
theorem q_deque_Machine_any_v1_eq (a1 : List (BitVec 64)) (a2 : Sdeque_Machine) : q_deque_Machine_any_v1 a1 a2 =
 (q_deque_Machine_bottom a2).bind fun (y1 : Int × Unit) =>
 (q_deque_load a1 y1.1).bind fun (y2 : (BitVec 64) × Unit) =>
 (q_deque_above y2.1 a2.T).bind fun (y3 : Bool × Unit) =>
 bif !y3.1 then
  some (a1, { a2 with B := y2.1, Out := 2 }, ())
 else
  some (a1, { a2 with B := y2.1 }, ()) := mk_is (by kernel_rfl)
theorem q_deque_Machine_peek_v1_eq (a1 : List (BitVec 64)) (a2 : Sdeque_Machine) : q_deque_Machine_peek_v1 a1 a2 =
 (q_deque_Machine_place a2.T a2).bind fun (y1 : Int × Unit) =>
 (q_deque_load a1 y1.1).bind fun (y2 : (BitVec 64) × Unit) =>
 some (a1, { a2 with X := y2.1.toInt }, ()) := mk_is (by kernel_rfl)
theorem q_deque_Machine_snatch_v1_eq (a1 : List (BitVec 64)) (a2 : Sdeque_Machine) : q_deque_Machine_snatch_v1 a1 a2 =
 (q_deque_Machine_take a1 a2).bind fun (y1 : (List (BitVec 64)) × Bool × Unit) =>
 bif y1.2.1 then
  (q_deque_Machine_end_v1 1 a2).bind fun (y2 : Sdeque_Machine × Unit) =>
  some (y1.1, y2.1, ())
 else
  (q_deque_Machine_end_v1 4 a2).bind fun (y3 : Sdeque_Machine × Unit) =>
  some (y1.1, y3.1, ()) := mk_is (by kernel_rfl)
theorem q_deque_Step_eq (a1 : List (BitVec 64)) (a2 : Sdeque_Machine) : q_deque_Step a1 a2 =
 Option.or (
  (q_deque_stepsa a2.Kind).bind fun (y1 : Unit) =>
  bif !(decide (a2.Out = 0)) then
   some (a1, a2, ())
  else
   bif decide (a2.PC < 0) then
    some (a1, a2, ())
   else
    bif decide (4 ≤ a2.PC) then
     some (a1, a2, ())
    else
     bif decide (a2.PC = 3) then
      (q_deque_Machine_publish_v1 a1 a2).bind fun (y2 : (List (BitVec 64)) × Sdeque_Machine × Unit) =>
      some (y2.1, { y2.2.1 with PC := w64 (y2.2.1.PC + 1) }, ())
     else
      bif decide (a2.PC = 2) then
       (q_deque_Machine_put a1 a2).bind fun (y3 : (List (BitVec 64)) × Unit) =>
       some (y3.1, { a2 with PC := w64 (a2.PC + 1) }, ())
      else
       bif decide (a2.PC = 1) then
        (q_deque_Machine_room_v1 a1 a2).bind fun (y4 : (List (BitVec 64)) × Sdeque_Machine × Unit) =>
        some (y4.1, { y4.2.1 with PC := w64 (y4.2.1.PC + 1) }, ())
       else
        bif decide (a2.PC = 0) then
         (q_deque_Machine_seeBottom_v1 a1 a2).bind fun (y5 : (List (BitVec 64)) × Sdeque_Machine × Unit) =>
         some (y5.1, { y5.2.1 with PC := w64 (y5.2.1.PC + 1) }, ())
        else
         none) (
  Option.or (
   (q_deque_stepsb a2.Kind).bind fun (y6 : Unit) =>
   bif !(decide (a2.Out = 0)) then
    some (a1, a2, ())
   else
    bif decide (a2.PC < 0) then
     some (a1, a2, ())
    else
     bif decide (7 ≤ a2.PC) then
      some (a1, a2, ())
     else
      bif decide (a2.PC = 6) then
       (q_deque_Machine_won_v1 a1 a2).bind fun (y7 : (List (BitVec 64)) × Sdeque_Machine × Unit) =>
       some (y7.1, { y7.2.1 with PC := w64 (y7.2.1.PC + 1) }, ())
      else
       bif decide (a2.PC = 5) then
        (q_deque_Machine_fail_v1 a1 a2).bind fun (y8 : (List (BitVec 64)) × Sdeque_Machine × Unit) =>
        some (y8.1, { y8.2.1 with PC := w64 (y8.2.1.PC + 1) }, ())
       else
        bif decide (a2.PC = 4) then
         (q_deque_Machine_race_v1 a1 a2).bind fun (y9 : (List (BitVec 64)) × Sdeque_Machine × Unit) =>
         some (y9.1, { y9.2.1 with PC := w64 (y9.2.1.PC + 1) }, ())
        else
         bif decide (a2.PC = 3) then
          (q_deque_Machine_get_v1 a1 a2).bind fun (y10 : (List (BitVec 64)) × Sdeque_Machine × Unit) =>
          some (y10.1, { y10.2.1 with PC := w64 (y10.2.1.PC + 1) }, ())
         else
          bif decide (a2.PC = 2) then
           (q_deque_Machine_seeTop_v1 a1 a2).bind fun (y11 : (List (BitVec 64)) × Sdeque_Machine × Unit) =>
           some (y11.1, { y11.2.1 with PC := w64 (y11.2.1.PC + 1) }, ())
          else
           bif decide (a2.PC = 1) then
            (q_deque_Machine_claim a1 a2).bind fun (y12 : (List (BitVec 64)) × Unit) =>
            some (y12.1, { a2 with PC := w64 (a2.PC + 1) }, ())
           else
            bif decide (a2.PC = 0) then
             (q_deque_Machine_seeBottom_v1 a1 a2).bind fun (y13 : (List (BitVec 64)) × Sdeque_Machine × Unit) =>
             some (y13.1, { y13.2.1 with PC := w64 (y13.2.1.PC + 1) }, ())
            else
             none) (
   Option.or (
    (q_deque_stepsc a2.Kind).bind fun (y14 : Unit) =>
    bif !(decide (a2.Out = 0)) then
     some (a1, a2, ())
    else
     bif decide (a2.PC < 0) then
      some (a1, a2, ())
     else
      bif decide (4 ≤ a2.PC) then
       some (a1, a2, ())
      else
       bif decide (a2.PC = 3) then
        (q_deque_Machine_snatch_v1 a1 a2).bind fun (y15 : (List (BitVec 64)) × Sdeque_Machine × Unit) =>
        some (y15.1, { y15.2.1 with PC := w64 (y15.2.1.PC + 1) }, ())
       else
        bif decide (a2.PC = 2) then
         (q_deque_Machine_peek_v1 a1 a2).bind fun (y16 : (List (BitVec 64)) × Sdeque_Machine × Unit) =>
         some (y16.1, { y16.2.1 with PC := w64 (y16.2.1.PC + 1) }, ())
        else
         bif decide (a2.PC = 1) then
          (q_deque_Machine_any_v1 a1 a2).bind fun (y17 : (List (BitVec 64)) × Sdeque_Machine × Unit) =>
          some (y17.1, { y17.2.1 with PC := w64 (y17.2.1.PC + 1) }, ())
         else
          bif decide (a2.PC = 0) then
           (q_deque_Machine_aim_v1 a1 a2).bind fun (y18 : (List (BitVec 64)) × Sdeque_Machine × Unit) =>
           some (y18.1, { y18.2.1 with PC := w64 (y18.2.1.PC + 1) }, ())
          else
           none) (
    (q_deque_stepsd a2.Kind).bind fun (y19 : (List Bool) × Unit) =>
    bif !(decide (a2.Out = 0)) then
     some (a1, a2, ())
    else
     bif decide (a2.PC < 0) then
      some (a1, a2, ())
     else
      bif decide (((y19.1.length : Int)) ≤ a2.PC) then
       some (a1, a2, ())
      else
       none))) := mk_is (by kernel_rfl)
theorem q_grey_machine_push_v1_eq (a1 : Sgrey_machine) : q_grey_machine_push_v1 a1 =
 (q_deque_Step a1.s.M a1.Grey.D).bind fun (y1 : (List (BitVec 64)) × Sdeque_Machine × Unit) =>
 bif decide (y1.2.1.Out = 1) then
  some (Sgrey_machine.mk { a1.Grey with D := y1.2.1, Out := 1 } { a1.s with M := y1.1 }, ())
 else
  bif decide (y1.2.1.Out = 3) then
   (q_grey_machine_ask_v1 (Sgrey_machine.mk { a1.Grey with D := y1.2.1 } { a1.s with M := y1.1 })).bind fun (y2 : Sgrey_machine × Unit) =>
   some (y2.1, ())
  else
   some (Sgrey_machine.mk { a1.Grey with D := y1.2.1 } { a1.s with M := y1.1 }, ()) := mk_is (by kernel_rfl)
theorem q_grey_machine_tell_v1_eq (a1 : Sgrey_machine) : q_grey_machine_tell_v1 a1 =
 (q_grey_machine_ask_v1 ({ a1 with s := { a1.s with Flag := true } })).bind fun (y1 : Sgrey_machine × Unit) =>
 some (y1.1, ()) := mk_is (by kernel_rfl)
theorem q_chain_Node_eq (a1 : BitVec 64) : q_chain_Node a1 =
 some ((a1 &&& 4294967295#64).toInt, ()) := mk_is (by kernel_rfl)
theorem q_chain_load_eq (a1 : List (BitVec 64)) (a2 : Int) : q_chain_load a1 a2 =
 (q_mem_Do a1 (Smem_Op.mk 1 a2 0#64 0#64)).bind fun (y1 : (List (BitVec 64)) × (BitVec 64) × Bool × Unit) =>
 some (y1.2.1, ()) := mk_is (by kernel_rfl)
theorem q_chain_Machine_see_v1_eq (a1 : List (BitVec 64)) (a2 : Schain_Machine) : q_chain_Machine_see_v1 a1 a2 =
 (q_chain_load a1 a2.Head).bind fun (y1 : (BitVec 64) × Unit) =>
 bif decide (a2.Kind = 2) then
  (q_chain_Node y1.1).bind fun (y2 : Int × Unit) =>
  bif decide (y2.1 = 0) then
   some (a1, { a2 with H := y1.1, Out := 2 }, ())
  else
   some (a1, { a2 with H := y1.1 }, ())
 else
  some (a1, { a2 with H := y1.1 }, ()) := mk_is (by kernel_rfl)
theorem q_chain_Machine_link_eq (a1 : List (BitVec 64)) (a2 : Schain_Machine) : q_chain_Machine_link a1 a2 =
 (q_chain_Node a2.H).bind fun (y1 : Int × Unit) =>
 (q_chain_store a1 (w64 (a2.Next + a2.X)) (BitVec.ofInt 64 y1.1)).bind fun (y2 : (List (BitVec 64)) × Unit) =>
 some (y2.1, ()) := mk_is (by kernel_rfl)
theorem q_chain_Machine_swap_v1_eq (a1 : List (BitVec 64)) (a2 : Schain_Machine) : q_chain_Machine_swap_v1 a1 a2 =
 bif decide (a2.Kind = 2) then
  (q_chain_Pack ((a2.H >>> 32) + 1#64) a2.Y).bind fun (y1 : (BitVec 64) × Unit) =>
  (q_mem_Do a1 (Smem_Op.mk 3 a2.Head a2.H y1.1)).bind fun (y2 : (List (BitVec 64)) × (BitVec 64) × Bool × Unit) =>
  bif !y2.2.2.1 then
   some (y2.1, { a2 with PC := -1 }, ())
  else
   bif decide (a2.Kind = 2) then
    (q_chain_Node a2.H).bind fun (y3 : Int × Unit) =>
    some (y2.1, { a2 with X := y3.1, Out := 1 }, ())
   else
    some (y2.1, { a2 with Out := 1 }, ())
 else
  (q_chain_Pack ((a2.H >>> 32) + 1#64) a2.X).bind fun (y4 : (BitVec 64) × Unit) =>
  (q_mem_Do a1 (Smem_Op.mk 3 a2.Head a2.H y4.1)).bind fun (y5 : (List (BitVec 64)) × (BitVec 64) × Bool × Unit) =>
  bif !y5.2.2.1 then
   some (y5.1, { a2 with PC := -1 }, ())
  else
   bif decide (a2.Kind = 2) then
    (q_chain_Node a2.H).bind fun (y6 : Int × Unit) =>
    some (y5.1, { a2 with X := y6.1, Out := 1 }, ())
   else
    some (y5.1, { a2 with Out := 1 }, ()) := mk_is (by kernel_rfl)
theorem q_chain_Machine_behind_v1_eq (a1 : List (BitVec 64)) (a2 : Schain_Machine) : q_chain_Machine_behind_v1 a1 a2 =
 (q_chain_Node a2.H).bind fun (y1 : Int × Unit) =>
 (q_chain_load a1 (w64 (a2.Next + y1.1))).bind fun (y2 : (BitVec 64) × Unit) =>
 some (a1, { a2 with Y := y2.1.toInt }, ()) := mk_is (by kernel_rfl)
theorem q_chain_Step_eq (a1 : List (BitVec 64)) (a2 : Schain_Machine) : q_chain_Step a1 a2 =
 bif decide (a2.Kind = 2) then
  bif !(decide (a2.Out = 0)) then
   some (a1, a2, ())
  else
   bif !(decide (a2.Kind = 1)) then
    bif !(decide (a2.Kind = 2)) then
     some (a1, a2, ())
    else
     bif decide (a2.PC < 0) then
      some (a1, a2, ())
     else
      bif decide (3 ≤ a2.PC) then
       some (a1, a2, ())
      else
       bif decide (a2.PC = 2) then
        (q_chain_Machine_swap_v1 a1 a2).bind fun (y1 : (List (BitVec 64)) × Schain_Machine × Unit) =>
        some (y1.1, { y1.2.1 with PC := w64 (y1.2.1.PC + 1) }, ())
       else
        bif decide (a2.PC = 1) then
         (q_chain_Machine_behind_v1 a1 a2).bind fun (y2 : (List (BitVec 64)) × Schain_Machine × Unit) =>
         some (y2.1, { y2.2.1 with PC := w64 (y2.2.1.PC + 1) }, ())
        else
         bif decide (a2.PC = 0) then
          (q_chain_Machine_see_v1 a1 a2).bind fun (y3 : (List (BitVec 64)) × Schain_Machine × Unit) =>
          some (y3.1, { y3.2.1 with PC := w64 (y3.2.1.PC + 1) }, ())
         else
          none
   else
    bif decide (a2.PC < 0) then
     some (a1, a2, ())
    else
     bif decide (3 ≤ a2.PC) then
      some (a1, a2, ())
     else
      bif decide (a2.PC = 2) then
       (q_chain_Machine_swap_v1 a1 a2).bind fun (y4 : (List (BitVec 64)) × Schain_Machine × Unit) =>
       some (y4.1, { y4.2.1 with PC := w64 (y4.2.1.PC + 1) }, ())
      else
       bif decide (a2.PC = 1) then
        (q_chain_Machine_behind_v1 a1 a2).bind fun (y5 : (List (BitVec 64)) × Schain_Machine × Unit) =>
        some (y5.1, { y5.2.1 with PC := w64 (y5.2.1.PC + 1) }, ())
       else
        bif decide (a2.PC = 0) then
         (q_chain_Machine_see_v1 a1 a2).bind fun (y6 : (List (BitVec 64)) × Schain_Machine × Unit) =>
         some (y6.1, { y6.2.1 with PC := w64 (y6.2.1.PC + 1) }, ())
        else
         none
 else
  bif !(decide (a2.Out = 0)) then
   some (a1, a2, ())
  else
   bif !(decide (a2.Kind = 1)) then
    bif !(decide (a2.Kind = 2)) then
     some (a1, a2, ())
    else
     bif decide (a2.PC < 0) then
      some (a1, a2, ())
     else
      bif decide (3 ≤ a2.PC) then
       some (a1, a2, ())
      else
       bif decide (a2.PC = 2) then
        (q_chain_Machine_swap_v1 a1 a2).bind fun (y7 : (List (BitVec 64)) × Schain_Machine × Unit) =>
        some (y7.1, { y7.2.1 with PC := w64 (y7.2.1.PC + 1) }, ())
       else
        bif decide (a2.PC = 1) then
         (q_chain_Machine_link a1 a2).bind fun (y8 : (List (BitVec 64)) × Unit) =>
         some (y8.1, { a2 with PC := w64 (a2.PC + 1) }, ())
        else
         bif decide (a2.PC = 0) then
          (q_chain_Machine_see_v1 a1 a2).bind fun (y9 : (List (BitVec 64)) × Schain_Machine × Unit) =>
          some (y9.1, { y9.2.1 with PC := w64 (y9.2.1.PC + 1) }, ())
         else
          none
   else
    bif decide (a2.PC < 0) then
     some (a1, a2, ())
    else
     bif decide (3 ≤ a2.PC) then
      some (a1, a2, ())
     else
      bif decide (a2.PC = 2) then
       (q_chain_Machine_swap_v1 a1 a2).bind fun (y10 : (List (BitVec 64)) × Schain_Machine × Unit) =>
       some (y10.1, { y10.2.1 with PC := w64 (y10.2.1.PC + 1) }, ())
      else
       bif decide (a2.PC = 1) then
        (q_chain_Machine_link a1 a2).bind fun (y11 : (List (BitVec 64)) × Unit) =>
        some (y11.1, { a2 with PC := w64 (a2.PC + 1) }, ())
       else
        bif decide (a2.PC = 0) then
         (q_chain_Machine_see_v1 a1 a2).bind fun (y12 : (List (BitVec 64)) × Schain_Machine × Unit) =>
         some (y12.1, { y12.2.1 with PC := w64 (y12.2.1.PC + 1) }, ())
        else
         none := mk_is (by kernel_rfl)
theorem q_grey_machine_take_v1_eq (a1 : Sgrey_machine) : q_grey_machine_take_v1 a1 =
 (q_chain_Step a1.s.M a1.Grey.C).bind fun (y1 : (List (BitVec 64)) × Schain_Machine × Unit) =>
 bif decide (y1.2.1.Out = 1) then
  some (Sgrey_machine.mk { a1.Grey with PC := 6, C := y1.2.1, Bin := y1.2.1.X } { a1.s with M := y1.1 }, ())
 else
  bif decide (y1.2.1.Out = 2) then
   (q_grey_machine_ask_v1 (Sgrey_machine.mk { a1.Grey with C := y1.2.1 } { a1.s with M := y1.1 })).bind fun (y2 : Sgrey_machine × Unit) =>
   some (y2.1, ())
  else
   some (Sgrey_machine.mk { a1.Grey with C := y1.2.1 } { a1.s with M := y1.1 }, ()) := mk_is (by kernel_rfl)
theorem q_slices_Clone_LLint_Lint_eq (a1 : List (List Int)) : q_slices_Clone_LLint_Lint a1 =
 bif a1.isEmpty then
  both (
   some (([] : List (List Int)), ())) (
   (room ((([] : List (List Int))) ++ a1)).bind fun l1 =>
   some (l1, ()))
 else
  (room ((([] : List (List Int))) ++ a1)).bind fun l2 =>
  some (l2, ()) := mk_is (by kernel_rfl)
theorem q_grey_machine_fill_v1_eq (a1 : Sgrey_machine) : q_grey_machine_fill_v1 a1 =
 (q_slices_Clone_LLint_Lint a1.s.Bins).bind fun (y1 : (List (List Int)) × Unit) =>
 (idxn y1.1 a1.Grey.Bin).bind fun n2 =>
 (q_state_Full a1.s.P).bind fun (y3 : Int × Unit) =>
 (q_state_Next a1.s.P).bind fun (y4 : Int × Unit) =>
 (q_chain_Start 1 y3.1 y4.1 a1.Grey.Bin).bind fun (y5 : Schain_Machine × Unit) =>
 some ({ a1.Grey with PC := 7, C := y5.1 }, a1.s.P, a1.s.H, a1.s.M, a1.s.T, a1.s.Work, a1.s.Epoch, a1.s.Flag, a1.s.Done, a1.s.Restarts, a1.s.Acks, a1.s.L, a1.s.Ws, a1.s.Ms, a1.s.D, y1.1.set n2 ([a1.Grey.Obj] : List Int), ()) := mk_is (by kernel_rfl)
theorem q_grey_machine_publish_v1_eq (a1 : Sgrey_machine) : q_grey_machine_publish_v1 a1 =
 (q_chain_Step a1.s.M a1.Grey.C).bind fun (y1 : (List (BitVec 64)) × Schain_Machine × Unit) =>
 bif decide (y1.2.1.Out = 1) then
  some (Sgrey_machine.mk { a1.Grey with C := y1.2.1, Out := 1 } { a1.s with M := y1.1 }, ())
 else
  some (Sgrey_machine.mk { a1.Grey with C := y1.2.1 } { a1.s with M := y1.1 }, ()) := mk_is (by kernel_rfl)
theorem q_grey_Step_eq (a1 : Sstate_State) (a2 : Sstate_Grey) : q_grey_Step a1 a2 =
 bif !(decide (a2.Out = 0)) then
  some (a1, a2, ())
 else
  bif decide (a2.Mode < 1) then
   some (a1, a2, ())
  else
   bif decide (3 < a2.Mode) then
    some (a1, a2, ())
   else
    bif decide (a2.PC < 0) then
     some (a1, a2, ())
    else
     bif decide (8 ≤ a2.PC) then
      some (a1, a2, ())
     else
      bif decide (a2.PC = 7) then
       (q_grey_machine_publish_v1 (Sgrey_machine.mk a2 a1)).bind fun (y1 : Sgrey_machine × Unit) =>
       some (y1.1.s, y1.1.Grey, ())
      else
       bif decide (a2.PC = 6) then
        (q_grey_machine_fill_v1 (Sgrey_machine.mk a2 a1)).bind fun (y2 : Sstate_Grey × Splan_Plan × Sheap_Heap × (List (BitVec 64)) × Stint_Tint × Int × Int × Bool × Bool × Int × (List Int) × Sledger_Ledger × (List Sstate_Worker) × (List Sstate_Mutator) × Sstate_Detect × (List (List Int)) × Unit) =>
        some (Sstate_State.mk y2.2.1 y2.2.2.1 y2.2.2.2.1 y2.2.2.2.2.2.2.2.2.2.2.2.2.2.2.2.1 y2.2.2.2.2.1 y2.2.2.2.2.2.1 y2.2.2.2.2.2.2.1 y2.2.2.2.2.2.2.2.1 y2.2.2.2.2.2.2.2.2.1 y2.2.2.2.2.2.2.2.2.2.1 y2.2.2.2.2.2.2.2.2.2.2.1 y2.2.2.2.2.2.2.2.2.2.2.2.1 y2.2.2.2.2.2.2.2.2.2.2.2.2.1 y2.2.2.2.2.2.2.2.2.2.2.2.2.2.1 y2.2.2.2.2.2.2.2.2.2.2.2.2.2.2.1, y2.1, ())
       else
        bif decide (a2.PC = 5) then
         (q_grey_machine_take_v1 (Sgrey_machine.mk a2 a1)).bind fun (y3 : Sgrey_machine × Unit) =>
         some (y3.1.s, y3.1.Grey, ())
        else
         bif decide (a2.PC = 4) then
          (q_grey_machine_tell_v1 (Sgrey_machine.mk a2 a1)).bind fun (y4 : Sgrey_machine × Unit) =>
          some (y4.1.s, y4.1.Grey, ())
         else
          bif decide (a2.PC = 3) then
           (q_grey_machine_push_v1 (Sgrey_machine.mk a2 a1)).bind fun (y5 : Sgrey_machine × Unit) =>
           some (y5.1.s, y5.1.Grey, ())
          else
           bif decide (a2.PC = 2) then
            (q_grey_machine_back_v1 (Sgrey_machine.mk a2 a1)).bind fun (y6 : Sgrey_machine × Unit) =>
            some (y6.1.s, y6.1.Grey, ())
           else
            bif decide (a2.PC = 1) then
             (q_grey_machine_mark_v1 (Sgrey_machine.mk a2 a1)).bind fun (y7 : Sgrey_machine × Unit) =>
             some (y7.1.s, y7.1.Grey, ())
            else
             bif decide (a2.PC = 0) then
              (q_grey_machine_reserve_v1 (Sgrey_machine.mk a2 a1)).bind fun (y8 : Sgrey_machine × Unit) =>
              some (y8.1.s, y8.1.Grey, ())
             else
              none := mk_is (by kernel_rfl)
theorem q_grey_at_eq (a1 : Sstate_Grey) (a2 : Int) (a3 : Int) (a4 : Int) : q_grey_at a1 a2 a3 a4 =
 bif decide (a1.Out = 0) then
  bif decide (a2 ≤ a1.PC) then
   bif decide (a1.PC ≤ a3) then
    some (a4, ())
   else
    some (0, ())
  else
   some (0, ())
 else
  some (0, ()) := mk_is (by kernel_rfl)
theorem q_grey_Holds_eq (a1 : Sstate_Grey) : q_grey_Holds a1 =
 (q_grey_at a1 3 7 a1.Obj).bind fun (y1 : Int × Unit) =>
 some (y1.1, ()) := mk_is (by kernel_rfl)
theorem q_grey_Asks_eq (a1 : Sstate_Grey) : q_grey_Asks a1 =
 (q_grey_at a1 0 1 a1.Obj).bind fun (y1 : Int × Unit) =>
 some (y1.1, ()) := mk_is (by kernel_rfl)
theorem q_grey_Owes_eq (a1 : Sstate_Grey) : q_grey_Owes a1 =
 (q_grey_at a1 1 2 1).bind fun (y1 : Int × Unit) =>
 some (y1.1, ()) := mk_is (by kernel_rfl)
theorem p_besomlaw14_run_r2_eq (s1 : Int) (s2 : Int) (s3 : Sstate_State) (s4 : Sstate_Grey) (s5 : Int) (s6 : Int) (s7 : Int) (s8 : Int) (s9 : Int) (s10 : Int) (s11 : Int) (s12 : Int) (s13 : Int) (s14 : BitVec 64) (s15 : Int) (s16 : Stint_Tint) (s17 : Int) (s18 : Int) (s19 : Bool) (s20 : Bool) (s21 : Int) (s22 : Int) (s23 : Int) (s24 : Int) (s25 : Sstate_Detect) (s26 : Sstate_Grey) (s27 : List (List Int)) (s28 : List (List Int)) (s29 : List (List Scode_Op)) (s30 : List Spick_Pick) (s31 : List (List Int)) (s32 : List (BitVec 64)) (s33 : List (List Int)) (s34 : List Int) (s35 : List Int) (s36 : List Sstate_Worker) (s37 : List Sstate_Mutator) : p_besomlaw14_run_r2 (s1, s2, s3, s4, s5, s6, s7, s8, s9, s10, s11, s12, s13, s14, s15, s16, s17, s18, s19, s20, s21, s22, s23, s24, s25, s26, s27, s28, s29, s30, s31, s32, s33, s34, s35, s36, s37, ()) =
 bif decide (s2 < s1) then
  bif decide (s4.Out = 0) then
   (q_grey_Step s3 s4).bind fun (y1 : Sstate_State × Sstate_Grey × Unit) =>
   some (.again (s1, w64 (s2 + 1), y1.1, y1.2.1, s5, s6, s7, s8, s9, s10, s11, s12, s13, s14, s15, s16, s17, s18, s19, s20, s21, s22, s23, s24, s25, s26, s27, s28, s29, s30, s31, s32, s33, s34, s35, s36, s37, ()))
  else
   some (.brk (s2, s3, s4, s5, s6, s7, s8, s9, s10, s11, s12, s13, s14, s15, s16, s17, s18, s19, s20, s21, s22, s23, s24, s25, s26, s27, s28, s29, s30, s31, s32, s33, s34, s35, s36, s37, ()))
 else
  some (.brk (s2, s3, s4, s5, s6, s7, s8, s9, s10, s11, s12, s13, s14, s15, s16, s17, s18, s19, s20, s21, s22, s23, s24, s25, s26, s27, s28, s29, s30, s31, s32, s33, s34, s35, s36, s37, ())) := by kernel_rfl
theorem q_besomlaw14_run_eq (a1 : Sstate_State) (a2 : Sstate_Grey) (a3 : Int) : q_besomlaw14_run a1 a2 a3 =
 (loopF p_besomlaw14_run_r2 (a3, 0, a1, a2, 0, 0, 0, 0, 0, 0, 0, 0, 0, 0#64, 0, Stint_Tint.mk 0#64 0#64, 0, 0, false, false, 0, 0, 0, 0, Sstate_Detect.mk 0 0, Sstate_Grey.mk 0 0 0 0 (Sdeque_Machine.mk 0 0 0 0 0#64 0#64 0 0) (Schain_Machine.mk 0 0 0 0 0#64 0 0 0) 0 0, ([] : List (List Int)), ([] : List (List Int)), ([] : List (List Scode_Op)), ([] : List Spick_Pick), ([] : List (List Int)), ([] : List (BitVec 64)), ([] : List (List Int)), ([] : List Int), ([] : List Int), ([] : List Sstate_Worker), ([] : List Sstate_Mutator), ())).bind fun st => match st with
  | .again _ => none
  | .brk (y1 : Int × Sstate_State × Sstate_Grey × Int × Int × Int × Int × Int × Int × Int × Int × Int × (BitVec 64) × Int × Stint_Tint × Int × Int × Bool × Bool × Int × Int × Int × Int × Sstate_Detect × Sstate_Grey × (List (List Int)) × (List (List Int)) × (List (List Scode_Op)) × (List Spick_Pick) × (List (List Int)) × (List (BitVec 64)) × (List (List Int)) × (List Int) × (List Int) × (List Sstate_Worker) × (List Sstate_Mutator) × Unit) =>
   some (y1.2.1, y1.2.2.1, y1.1, ())
  | .ret (y1 : Unit) =>
   none := mk_is (by kernel_rfl)
theorem p_chain_List_r3_eq (s1 : List (BitVec 64)) (s2 : Int) (s3 : Int) (s4 : Int) (s5 : List Int) : p_chain_List_r3 (s1, s2, s3, s4, s5, ()) =
 bif !(decide (s4 = 0)) then
  bif decide (((s5.length : Int)) < (bif decide (1000 < s3) then 1000 else s3)) then
   (room (s5 ++ ([s4] : List Int))).bind fun l1 =>
   (q_chain_load s1 (w64 (s2 + s4))).bind fun (y2 : (BitVec 64) × Unit) =>
   some (.again (s1, s2, s3, y2.1.toInt, l1, ()))
  else
   some (.brk (s5, ()))
 else
  some (.brk (s5, ())) := by kernel_rfl
theorem q_chain_List_eq (a1 : List (BitVec 64)) (a2 : Int) (a3 : Int) (a4 : Int) : q_chain_List a1 a2 a3 a4 =
 (q_chain_load a1 a2).bind fun (y1 : (BitVec 64) × Unit) =>
 (q_chain_Node y1.1).bind fun (y2 : Int × Unit) =>
 (loopF p_chain_List_r3 (a1, a3, a4, y2.1, ([] : List Int), ())).bind fun st => match st with
  | .again _ => none
  | .brk (y3 : (List Int) × Unit) =>
   some (y3.1, ())
  | .ret (y3 : Unit) =>
   none := mk_is (by kernel_rfl)
end Go.Pe.G
namespace Go.Pe.G
open Go.Pe
theorem p_besomlaw14_small_r3_eq (s1 : List (List Scode_Op)) (s2 : Int) (s3 : Int) (s4 : Int) (s5 : Int) (s6 : Int) (s7 : Int) (s8 : Int) (s9 : Int) (s10 : Int) (s11 : Int) (s12 : BitVec 64) (s13 : Int) (s14 : Int) (s15 : Int) (s16 : Int) (s17 : Int) (s18 : Int) (s19 : Int) (s20 : Int) (s21 : Int) (s22 : BitVec 64) (s23 : List (List Int)) (s24 : List (List Int)) (s25 : List (List Scode_Op)) (s26 : List Spick_Pick) (s27 : List (List Int)) (s28 : List (List Int)) (s29 : List (List Scode_Op)) (s30 : List Spick_Pick) : p_besomlaw14_small_r3 (s1, s2, s3, s4, s5, s6, s7, s8, s9, s10, s11, s12, s13, s14, s15, s16, s17, s18, s19, s20, s21, s22, s23, s24, s25, s26, s27, s28, s29, s30, ()) =
 bif decide (s2 < ((s1.length : Int))) then
  (room (s28 ++ (([([1, 0] : List Int)] : List (List Int))))).bind fun l1 =>
  (idx s1 s2).bind fun x2 =>
  (room (s29 ++ (([x2] : List (List Scode_Op))))).bind fun l3 =>
  some (.again (s1, w64 (s2 + 1), s3, s4, s5, s6, s7, s8, s9, s10, s11, s12, s13, s14, s15, s16, s17, s18, s19, s20, s21, s22, s23, s24, s25, s26, s27, l1, l3, s30, ()))
 else
  some (.brk (s3, s4, s5, s6, s7, s8, s9, s10, s11, s12, s13, s14, s15, s16, s17, s18, s19, s20, s21, s22, s23, s24, s25, s26, s27, s28, s29, s30, ())) := by kernel_rfl
theorem q_besomlaw14_small_eq (a1 : List (List Scode_Op)) : q_besomlaw14_small a1 =
 (loopF p_besomlaw14_small_r3 (a1, 0, 0, 0, 0, 0, 0, 0, 0, 0, 0, 0#64, 1, (a1.length : Int), 2, 1, 1, 4, 2, 2, 1, 1#64, ([] : List (List Int)), ([] : List (List Int)), ([] : List (List Scode_Op)), ([] : List Spick_Pick), ([([2] : List Int), ([0] : List Int), ([0] : List Int)] : List (List Int)), ([] : List (List Int)), ([] : List (List Scode_Op)), ([] : List Spick_Pick), ())).bind fun st => match st with
  | .again _ => none
  | .brk (y1 : Int × Int × Int × Int × Int × Int × Int × Int × Int × (BitVec 64) × Int × Int × Int × Int × Int × Int × Int × Int × Int × (BitVec 64) × (List (List Int)) × (List (List Int)) × (List (List Scode_Op)) × (List Spick_Pick) × (List (List Int)) × (List (List Int)) × (List (List Scode_Op)) × (List Spick_Pick) × Unit) =>
   some (Splan_Plan.mk y1.2.2.2.2.2.2.2.2.2.2.1 y1.2.2.2.2.2.2.2.2.2.2.2.1 y1.2.2.2.2.2.2.2.2.2.2.2.2.1 y1.2.2.2.2.2.2.2.2.2.2.2.2.2.1 y1.2.2.2.2.2.2.2.2.2.2.2.2.2.2.1 y1.2.2.2.2.2.2.2.2.2.2.2.2.2.2.2.1 y1.2.2.2.2.2.2.2.2.2.2.2.2.2.2.2.2.1 y1.2.2.2.2.2.2.2.2.2.2.2.2.2.2.2.2.2.1 (Sheap_Heap.mk y1.2.2.2.2.2.2.2.2.2.2.2.2.2.2.2.2.2.2.1 y1.2.2.2.2.2.2.2.2.2.2.2.2.2.2.2.2.2.2.2.2.2.2.2.2.1) y1.2.2.2.2.2.2.2.2.2.2.2.2.2.2.2.2.2.2.2.1 y1.2.2.2.2.2.2.2.2.2.2.2.2.2.2.2.2.2.2.2.2.2.2.2.2.2.1 y1.2.2.2.2.2.2.2.2.2.2.2.2.2.2.2.2.2.2.2.2.2.2.2.2.2.2.1 y1.2.2.2.2.2.2.2.2.2.2.2.2.2.2.2.2.2.2.2.2.2.2.2.2.2.2.2.1, ())
  | .ret (y1 : Unit) =>
   none := mk_is (by kernel_rfl)
theorem q_besomlaw14_examples_eq  : q_besomlaw14_examples  =
 (q_besomlaw14_small (([] : List (List Scode_Op)))).bind fun (y1 : Splan_Plan × Unit) =>
 (q_state_New y1.1).bind fun (y2 : Sstate_State × Unit) =>
 (q_grey_Begin 1 1 1).bind fun (y3 : Sstate_Grey × Unit) =>
 (q_besomlaw14_run y2.1 y3.1 30).bind fun (y4 : Sstate_State × Sstate_Grey × Int × Unit) =>
 (q_grey_Begin 1 2 1).bind fun (y5 : Sstate_Grey × Unit) =>
 (q_besomlaw14_run y2.1 y5.1 30).bind fun (y6 : Sstate_State × Sstate_Grey × Int × Unit) =>
 (q_grey_Begin 2 2 1).bind fun (y7 : Sstate_Grey × Unit) =>
 (q_besomlaw14_run y2.1 y7.1 30).bind fun (y8 : Sstate_State × Sstate_Grey × Int × Unit) =>
 (q_grey_Begin 3 3 1).bind fun (y9 : Sstate_Grey × Unit) =>
 (q_besomlaw14_run y2.1 y9.1 30).bind fun (y10 : Sstate_State × Sstate_Grey × Int × Unit) =>
 (q_grey_Begin 1 2 1).bind fun (y11 : Sstate_Grey × Unit) =>
 (q_grey_Step y2.1 y11.1).bind fun (y12 : Sstate_State × Sstate_Grey × Unit) =>
 bif !(decide (((y2.1.Bins.length : Int)) = 6)) then
  some (false, ())
 else
  bif !(decide (((y8.1.Bins.length : Int)) = 6)) then
   some (false, ())
  else
   bif !(decide (((y10.1.Bins.length : Int)) = 6)) then
    some (false, ())
   else
    bif decide (y4.2.1.Out = 1) then
     bif decide (y4.2.2.1 = 3) then
      bif decide (y4.1.Work = 1) then
       bif (decide (y4.1.T.Marks = y2.1.T.Marks)) && (decide (y4.1.T.Black = y2.1.T.Black)) then
        bif decide (y6.2.1.Out = 1) then
         bif decide (y6.2.2.1 = 6) then
          bif decide (y6.1.Work = 2) then
           bif decide (y6.1.T.Marks = 3#64) then
            bif decide (y8.2.1.Out = 1) then
             bif decide (y8.2.2.1 = 10) then
              bif y8.1.Flag then
               (idx y8.1.Bins 2).bind fun x13 =>
               bif decide (((x13.length : Int)) = 1) then
                (idx y8.1.Bins 2).bind fun x14 =>
                (idx x14 0).bind fun x15 =>
                bif decide (x15 = 2) then
                 (q_state_Full y8.1.P).bind fun (y16 : Int × Unit) =>
                 (q_state_Next y8.1.P).bind fun (y17 : Int × Unit) =>
                 (q_chain_List y8.1.M y16.1 y17.1 9).bind fun (y18 : (List Int) × Unit) =>
                 bif decide (((y18.1.length : Int)) = 2) then
                  (q_state_Full y8.1.P).bind fun (y19 : Int × Unit) =>
                  (q_state_Next y8.1.P).bind fun (y20 : Int × Unit) =>
                  (q_chain_List y8.1.M y19.1 y20.1 9).bind fun (y21 : (List Int) × Unit) =>
                  (idxn y21.1 0).bind fun n22 =>
                  (y21.1[n22]?).bind fun x23 =>
                  bif decide (x23 = 2) then
                   bif decide (y10.2.1.Out = 1) then
                    bif !y10.1.Flag then
                     bif decide (y10.1.T.Marks = 5#64) then
                      (q_grey_Asks y12.2.1).bind fun (y24 : Int × Unit) =>
                      bif decide (y24.1 = 2) then
                       (q_grey_Owes y12.2.1).bind fun (y25 : Int × Unit) =>
                       bif decide (y25.1 = 1) then
                        (q_grey_Holds y12.2.1).bind fun (y26 : Int × Unit) =>
                        bif decide (y26.1 = 0) then
                         (q_grey_Holds y6.2.1).bind fun (y27 : Int × Unit) =>
                         some (decide (y27.1 = 0), ())
                        else
                         some (false, ())
                       else
                        some (false, ())
                      else
                       some (false, ())
                     else
                      some (false, ())
                    else
                     some (false, ())
                   else
                    some (false, ())
                  else
                   some (false, ())
                 else
                  some (false, ())
                else
                 some (false, ())
               else
                some (false, ())
              else
               some (false, ())
             else
              some (false, ())
            else
             some (false, ())
           else
            some (false, ())
          else
           some (false, ())
         else
          some (false, ())
        else
         some (false, ())
       else
        some (false, ())
      else
       some (false, ())
     else
      some (false, ())
    else
     some (false, ()) := mk_is (by kernel_rfl)
theorem q_besomlaw14_Maker_byte_v1_eq (a1 : Sbesomlaw14_Maker) : q_besomlaw14_Maker_byte_v1 a1 =
 bif decide (((a1.L.length : Int)) ≤ a1.At) then
  some (0, a1, ())
 else
  (idx a1.L (w64 ((w64 (a1.At + 1)) - 1))).bind fun x1 =>
  some ((x1.toNat : Int), { a1 with At := w64 (a1.At + 1) }, ()) := mk_is (by kernel_rfl)
theorem q_besomlaw14_Maker_op_v1_eq (a1 : Int) (a2 : Int) (a3 : Sbesomlaw14_Maker) : q_besomlaw14_Maker_op_v1 a1 a2 a3 =
 (q_besomlaw14_Maker_byte_v1 a3).bind fun (y1 : Int × Sbesomlaw14_Maker × Unit) =>
 (idxn ([1, 1, 2, 2, 2, 3, 4, 5] : List Int) (y1.1.tmod 8)).bind fun n2 =>
 (([1, 1, 2, 2, 2, 3, 4, 5] : List Int)[n2]?).bind fun x3 =>
 (q_besomlaw14_Maker_byte_v1 y1.2.1).bind fun (y4 : Int × Sbesomlaw14_Maker × Unit) =>
 bif decide (a1 = 0) then
  none
 else
  bif decide (x3 = 1) then
   (q_besomlaw14_Maker_byte_v1 y4.2.1).bind fun (y5 : Int × Sbesomlaw14_Maker × Unit) =>
   bif decide (a1 = 0) then
    none
   else
    bif decide (x3 < 3) then
     (q_besomlaw14_Maker_byte_v1 y5.2.1).bind fun (y6 : Int × Sbesomlaw14_Maker × Unit) =>
     bif decide (a2 = 0) then
      none
     else
      some (Scode_Op.mk x3 (y4.1.tmod a1) (y5.1.tmod a1) (y6.1.tmod a2), y6.2.1, ())
    else
     some (Scode_Op.mk x3 (y4.1.tmod a1) (y5.1.tmod a1) 0, y5.2.1, ())
  else
   bif decide (x3 = 2) then
    (q_besomlaw14_Maker_byte_v1 y4.2.1).bind fun (y7 : Int × Sbesomlaw14_Maker × Unit) =>
    bif decide (a1 = 0) then
     none
    else
     bif decide (x3 < 3) then
      (q_besomlaw14_Maker_byte_v1 y7.2.1).bind fun (y8 : Int × Sbesomlaw14_Maker × Unit) =>
      bif decide (a2 = 0) then
       none
      else
       some (Scode_Op.mk x3 (y4.1.tmod a1) (y7.1.tmod a1) (y8.1.tmod a2), y8.2.1, ())
     else
      some (Scode_Op.mk x3 (y4.1.tmod a1) (y7.1.tmod a1) 0, y7.2.1, ())
   else
    bif decide (x3 = 4) then
     (q_besomlaw14_Maker_byte_v1 y4.2.1).bind fun (y9 : Int × Sbesomlaw14_Maker × Unit) =>
     bif decide (a1 = 0) then
      none
     else
      bif decide (x3 < 3) then
       (q_besomlaw14_Maker_byte_v1 y9.2.1).bind fun (y10 : Int × Sbesomlaw14_Maker × Unit) =>
       bif decide (a2 = 0) then
        none
       else
        some (Scode_Op.mk x3 (y4.1.tmod a1) (y9.1.tmod a1) (y10.1.tmod a2), y10.2.1, ())
      else
       some (Scode_Op.mk x3 (y4.1.tmod a1) (y9.1.tmod a1) 0, y9.2.1, ())
    else
     bif decide (x3 < 3) then
      (q_besomlaw14_Maker_byte_v1 y4.2.1).bind fun (y11 : Int × Sbesomlaw14_Maker × Unit) =>
      bif decide (a2 = 0) then
       none
      else
       some (Scode_Op.mk x3 (y4.1.tmod a1) 0 (y11.1.tmod a2), y11.2.1, ())
     else
      some (Scode_Op.mk x3 (y4.1.tmod a1) 0 0, y4.2.1, ()) := mk_is (by kernel_rfl)
theorem p_besomlaw14_made_r7_eq (s1 : Int) (s2 : Int) (s3 : Int) (s4 : Int) (s5 : Int) (s6 : Int) (s7 : Int) (s8 : Int) (s9 : Int) (s10 : Int) (s11 : Int) (s12 : BitVec 64) (s13 : Sbesomlaw14_Maker) (s14 : Int) (s15 : Int) (s16 : Int) (s17 : Int) (s18 : Int) (s19 : Int) (s20 : Int) (s21 : Int) (s22 : Int) (s23 : BitVec 64) (s24 : List (List Int)) (s25 : List (List Int)) (s26 : List (List Scode_Op)) (s27 : List Spick_Pick) (s28 : List (List Int)) (s29 : List (List Int)) (s30 : List (List Scode_Op)) (s31 : List Spick_Pick) : p_besomlaw14_made_r7 (s1, s2, s3, s4, s5, s6, s7, s8, s9, s10, s11, s12, s13, s14, s15, s16, s17, s18, s19, s20, s21, s22, s23, s24, s25, s26, s27, s28, s29, s30, s31, ()) =
 bif decide (s2 < s1) then
  (loopF p_besomlaw14_made_r11 (s1, s2, 0, s3, s4, s5, s6, s7, s8, s9, s10, s11, s12, s13, s14, s15, s16, s17, s18, s19, s20, s21, s22, s23, ([] : List Int), s24, s25, s26, s27, s28, s29, s30, s31, ())).bind fun st => match st with
   | .again _ => none
   | .brk (y1 : Int × Int × Int × Int × Int × Int × Int × Int × Int × Int × Int × (BitVec 64) × Sbesomlaw14_Maker × Int × Int × Int × Int × Int × Int × Int × Int × Int × (BitVec 64) × (List Int) × (List (List Int)) × (List (List Int)) × (List (List Scode_Op)) × (List Spick_Pick) × (List (List Int)) × (List (List Int)) × (List (List Scode_Op)) × (List Spick_Pick) × Unit) =>
    (room (y1.2.2.2.2.2.2.2.2.2.2.2.2.2.2.2.2.2.2.2.2.2.2.2.2.2.2.2.2.1 ++ (([y1.2.2.2.2.2.2.2.2.2.2.2.2.2.2.2.2.2.2.2.2.2.2.2.1] : List (List Int))))).bind fun l2 =>
    some (.again (y1.1, w64 (y1.2.1 + 1), y1.2.2.1, y1.2.2.2.1, y1.2.2.2.2.1, y1.2.2.2.2.2.1, y1.2.2.2.2.2.2.1, y1.2.2.2.2.2.2.2.1, y1.2.2.2.2.2.2.2.2.1, y1.2.2.2.2.2.2.2.2.2.1, y1.2.2.2.2.2.2.2.2.2.2.1, y1.2.2.2.2.2.2.2.2.2.2.2.1, y1.2.2.2.2.2.2.2.2.2.2.2.2.1, y1.2.2.2.2.2.2.2.2.2.2.2.2.2.1, y1.2.2.2.2.2.2.2.2.2.2.2.2.2.2.1, y1.2.2.2.2.2.2.2.2.2.2.2.2.2.2.2.1, y1.2.2.2.2.2.2.2.2.2.2.2.2.2.2.2.2.1, y1.2.2.2.2.2.2.2.2.2.2.2.2.2.2.2.2.2.1, y1.2.2.2.2.2.2.2.2.2.2.2.2.2.2.2.2.2.2.1, y1.2.2.2.2.2.2.2.2.2.2.2.2.2.2.2.2.2.2.2.1, y1.2.2.2.2.2.2.2.2.2.2.2.2.2.2.2.2.2.2.2.2.1, y1.2.2.2.2.2.2.2.2.2.2.2.2.2.2.2.2.2.2.2.2.2.1, y1.2.2.2.2.2.2.2.2.2.2.2.2.2.2.2.2.2.2.2.2.2.2.1, y1.2.2.2.2.2.2.2.2.2.2.2.2.2.2.2.2.2.2.2.2.2.2.2.2.1, y1.2.2.2.2.2.2.2.2.2.2.2.2.2.2.2.2.2.2.2.2.2.2.2.2.2.1, y1.2.2.2.2.2.2.2.2.2.2.2.2.2.2.2.2.2.2.2.2.2.2.2.2.2.2.1, y1.2.2.2.2.2.2.2.2.2.2.2.2.2.2.2.2.2.2.2.2.2.2.2.2.2.2.2.1, l2, y1.2.2.2.2.2.2.2.2.2.2.2.2.2.2.2.2.2.2.2.2.2.2.2.2.2.2.2.2.2.1, y1.2.2.2.2.2.2.2.2.2.2.2.2.2.2.2.2.2.2.2.2.2.2.2.2.2.2.2.2.2.2.1, y1.2.2.2.2.2.2.2.2.2.2.2.2.2.2.2.2.2.2.2.2.2.2.2.2.2.2.2.2.2.2.2.1, ()))
   | .ret (y1 : Unit) =>
    some (.ret (()))
 else
  some (.brk (s1, s3, s4, s5, s6, s7, s8, s9, s10, s11, s12, s13, s14, s15, s16, s17, s18, s19, s20, s21, s22, s23, s24, s25, s26, s27, s28, s29, s30, s31, ())) := by kernel_rfl
theorem p_besomlaw14_made_r11_eq (s1 : Int) (s2 : Int) (s3 : Int) (s4 : Int) (s5 : Int) (s6 : Int) (s7 : Int) (s8 : Int) (s9 : Int) (s10 : Int) (s11 : Int) (s12 : Int) (s13 : BitVec 64) (s14 : Sbesomlaw14_Maker) (s15 : Int) (s16 : Int) (s17 : Int) (s18 : Int) (s19 : Int) (s20 : Int) (s21 : Int) (s22 : Int) (s23 : Int) (s24 : BitVec 64) (s25 : List Int) (s26 : List (List Int)) (s27 : List (List Int)) (s28 : List (List Scode_Op)) (s29 : List Spick_Pick) (s30 : List (List Int)) (s31 : List (List Int)) (s32 : List (List Scode_Op)) (s33 : List Spick_Pick) : p_besomlaw14_made_r11 (s1, s2, s3, s4, s5, s6, s7, s8, s9, s10, s11, s12, s13, s14, s15, s16, s17, s18, s19, s20, s21, s22, s23, s24, s25, s26, s27, s28, s29, s30, s31, s32, s33, ()) =
 bif decide (s3 < s23) then
  (q_besomlaw14_Maker_byte_v1 s14).bind fun (y1 : Int × Sbesomlaw14_Maker × Unit) =>
  bif decide ((w64 (s1 + 1)) = 0) then
   none
  else
   (room (s25 ++ (([(y1.1.tmod (w64 (s1 + 1)))] : List Int)))).bind fun l2 =>
   some (.again (s1, s2, w64 (s3 + 1), s4, s5, s6, s7, s8, s9, s10, s11, s12, s13, y1.2.1, s15, s16, s17, s18, s19, s20, s21, s22, s23, s24, l2, s26, s27, s28, s29, s30, s31, s32, s33, ()))
 else
  some (.brk (s1, s2, s4, s5, s6, s7, s8, s9, s10, s11, s12, s13, s14, s15, s16, s17, s18, s19, s20, s21, s22, s23, s24, s25, s26, s27, s28, s29, s30, s31, s32, s33, ())) := by kernel_rfl
theorem p_besomlaw14_made_r17_eq (s1 : Int) (s2 : Int) (s3 : Int) (s4 : Int) (s5 : Int) (s6 : Int) (s7 : Int) (s8 : Int) (s9 : Int) (s10 : Int) (s11 : Int) (s12 : BitVec 64) (s13 : Sbesomlaw14_Maker) (s14 : Int) (s15 : Int) (s16 : Int) (s17 : Int) (s18 : Int) (s19 : Int) (s20 : Int) (s21 : Int) (s22 : Int) (s23 : BitVec 64) (s24 : List (List Int)) (s25 : List (List Int)) (s26 : List (List Scode_Op)) (s27 : List Spick_Pick) (s28 : List (List Int)) (s29 : List (List Int)) (s30 : List (List Scode_Op)) (s31 : List Spick_Pick) : p_besomlaw14_made_r17 (s1, s2, s3, s4, s5, s6, s7, s8, s9, s10, s11, s12, s13, s14, s15, s16, s17, s18, s19, s20, s21, s22, s23, s24, s25, s26, s27, s28, s29, s30, s31, ()) =
 bif decide (s2 < s15) then
  (loopF p_besomlaw14_made_r21 (s1, s2, 0, s3, s4, s5, s6, s7, s8, s9, s10, s11, s12, s13, s14, s15, s16, s17, s18, s19, s20, s21, s22, s23, ([] : List Int), s24, s25, s26, s27, s28, s29, s30, s31, ())).bind fun st => match st with
   | .again _ => none
   | .brk (y1 : Int × Int × Int × Int × Int × Int × Int × Int × Int × Int × Int × (BitVec 64) × Sbesomlaw14_Maker × Int × Int × Int × Int × Int × Int × Int × Int × Int × (BitVec 64) × (List Int) × (List (List Int)) × (List (List Int)) × (List (List Scode_Op)) × (List Spick_Pick) × (List (List Int)) × (List (List Int)) × (List (List Scode_Op)) × (List Spick_Pick) × Unit) =>
    bif decide (((y1.2.2.2.2.2.2.2.2.2.2.2.2.2.2.2.2.2.2.2.2.2.2.2.1.length : Int)) = 0) then
     (q_besomlaw14_Maker_byte_v1 y1.2.2.2.2.2.2.2.2.2.2.2.2.1).bind fun (y2 : Int × Sbesomlaw14_Maker × Unit) =>
     (loopF p_besomlaw14_made_r28 (y1.1, y1.2.1, y2.1.tmod 8, y1.2.2.1, y1.2.2.2.1, y1.2.2.2.2.1, y1.2.2.2.2.2.1, y1.2.2.2.2.2.2.1, y1.2.2.2.2.2.2.2.1, y1.2.2.2.2.2.2.2.2.1, y1.2.2.2.2.2.2.2.2.2.1, y1.2.2.2.2.2.2.2.2.2.2.1, y1.2.2.2.2.2.2.2.2.2.2.2.1, y2.2.1, y1.2.2.2.2.2.2.2.2.2.2.2.2.2.1, y1.2.2.2.2.2.2.2.2.2.2.2.2.2.2.1, y1.2.2.2.2.2.2.2.2.2.2.2.2.2.2.2.1, y1.2.2.2.2.2.2.2.2.2.2.2.2.2.2.2.2.1, y1.2.2.2.2.2.2.2.2.2.2.2.2.2.2.2.2.2.1, y1.2.2.2.2.2.2.2.2.2.2.2.2.2.2.2.2.2.2.1, y1.2.2.2.2.2.2.2.2.2.2.2.2.2.2.2.2.2.2.2.1, y1.2.2.2.2.2.2.2.2.2.2.2.2.2.2.2.2.2.2.2.2.1, y1.2.2.2.2.2.2.2.2.2.2.2.2.2.2.2.2.2.2.2.2.2.1, y1.2.2.2.2.2.2.2.2.2.2.2.2.2.2.2.2.2.2.2.2.2.2.1, ([0] : List Int), ([] : List Scode_Op), y1.2.2.2.2.2.2.2.2.2.2.2.2.2.2.2.2.2.2.2.2.2.2.2.2.1, y1.2.2.2.2.2.2.2.2.2.2.2.2.2.2.2.2.2.2.2.2.2.2.2.2.2.1, y1.2.2.2.2.2.2.2.2.2.2.2.2.2.2.2.2.2.2.2.2.2.2.2.2.2.2.1, y1.2.2.2.2.2.2.2.2.2.2.2.2.2.2.2.2.2.2.2.2.2.2.2.2.2.2.2.1, y1.2.2.2.2.2.2.2.2.2.2.2.2.2.2.2.2.2.2.2.2.2.2.2.2.2.2.2.2.1, y1.2.2.2.2.2.2.2.2.2.2.2.2.2.2.2.2.2.2.2.2.2.2.2.2.2.2.2.2.2.1, y1.2.2.2.2.2.2.2.2.2.2.2.2.2.2.2.2.2.2.2.2.2.2.2.2.2.2.2.2.2.2.1, y1.2.2.2.2.2.2.2.2.2.2.2.2.2.2.2.2.2.2.2.2.2.2.2.2.2.2.2.2.2.2.2.1, ())).bind fun st => match st with
      | .again _ => none
      | .brk (y3 : Int × Int × Int × Int × Int × Int × Int × Int × Int × Int × Int × (BitVec 64) × Sbesomlaw14_Maker × Int × Int × Int × Int × Int × Int × Int × Int × Int × (BitVec 64) × (List Int) × (List Scode_Op) × (List (List Int)) × (List (List Int)) × (List (List Scode_Op)) × (List Spick_Pick) × (List (List Int)) × (List (List Int)) × (List (List Scode_Op)) × (List Spick_Pick) × Unit) =>
       (room (y3.2.2.2.2.2.2.2.2.2.2.2.2.2.2.2.2.2.2.2.2.2.2.2.2.2.2.2.2.2.2.1 ++ (([y3.2.2.2.2.2.2.2.2.2.2.2.2.2.2.2.2.2.2.2.2.2.2.2.1] : List (List Int))))).bind fun l4 =>
       (room (y3.2.2.2.2.2.2.2.2.2.2.2.2.2.2.2.2.2.2.2.2.2.2.2.2.2.2.2.2.2.2.2.1 ++ (([y3.2.2.2.2.2.2.2.2.2.2.2.2.2.2.2.2.2.2.2.2.2.2.2.2.1] : List (List Scode_Op))))).bind fun l5 =>
       some (.again (y3.1, w64 (y3.2.1 + 1), y3.2.2.1, y3.2.2.2.1, y3.2.2.2.2.1, y3.2.2.2.2.2.1, y3.2.2.2.2.2.2.1, y3.2.2.2.2.2.2.2.1, y3.2.2.2.2.2.2.2.2.1, y3.2.2.2.2.2.2.2.2.2.1, y3.2.2.2.2.2.2.2.2.2.2.1, y3.2.2.2.2.2.2.2.2.2.2.2.1, y3.2.2.2.2.2.2.2.2.2.2.2.2.1, y3.2.2.2.2.2.2.2.2.2.2.2.2.2.1, y3.2.2.2.2.2.2.2.2.2.2.2.2.2.2.1, y3.2.2.2.2.2.2.2.2.2.2.2.2.2.2.2.1, y3.2.2.2.2.2.2.2.2.2.2.2.2.2.2.2.2.1, y3.2.2.2.2.2.2.2.2.2.2.2.2.2.2.2.2.2.1, y3.2.2.2.2.2.2.2.2.2.2.2.2.2.2.2.2.2.2.1, y3.2.2.2.2.2.2.2.2.2.2.2.2.2.2.2.2.2.2.2.1, y3.2.2.2.2.2.2.2.2.2.2.2.2.2.2.2.2.2.2.2.2.1, y3.2.2.2.2.2.2.2.2.2.2.2.2.2.2.2.2.2.2.2.2.2.1, y3.2.2.2.2.2.2.2.2.2.2.2.2.2.2.2.2.2.2.2.2.2.2.1, y3.2.2.2.2.2.2.2.2.2.2.2.2.2.2.2.2.2.2.2.2.2.2.2.2.2.1, y3.2.2.2.2.2.2.2.2.2.2.2.2.2.2.2.2.2.2.2.2.2.2.2.2.2.2.1, y3.2.2.2.2.2.2.2.2.2.2.2.2.2.2.2.2.2.2.2.2.2.2.2.2.2.2.2.1, y3.2.2.2.2.2.2.2.2.2.2.2.2.2.2.2.2.2.2.2.2.2.2.2.2.2.2.2.2.1, y3.2.2.2.2.2.2.2.2.2.2.2.2.2.2.2.2.2.2.2.2.2.2.2.2.2.2.2.2.2.1, l4, l5, y3.2.2.2.2.2.2.2.2.2.2.2.2.2.2.2.2.2.2.2.2.2.2.2.2.2.2.2.2.2.2.2.2.1, ()))
      | .ret (y3 : Unit) =>
       some (.ret (()))
    else
     (q_besomlaw14_Maker_byte_v1 y1.2.2.2.2.2.2.2.2.2.2.2.2.1).bind fun (y6 : Int × Sbesomlaw14_Maker × Unit) =>
     (loopF p_besomlaw14_made_r28 (y1.1, y1.2.1, y6.1.tmod 8, y1.2.2.1, y1.2.2.2.1, y1.2.2.2.2.1, y1.2.2.2.2.2.1, y1.2.2.2.2.2.2.1, y1.2.2.2.2.2.2.2.1, y1.2.2.2.2.2.2.2.2.1, y1.2.2.2.2.2.2.2.2.2.1, y1.2.2.2.2.2.2.2.2.2.2.1, y1.2.2.2.2.2.2.2.2.2.2.2.1, y6.2.1, y1.2.2.2.2.2.2.2.2.2.2.2.2.2.1, y1.2.2.2.2.2.2.2.2.2.2.2.2.2.2.1, y1.2.2.2.2.2.2.2.2.2.2.2.2.2.2.2.1, y1.2.2.2.2.2.2.2.2.2.2.2.2.2.2.2.2.1, y1.2.2.2.2.2.2.2.2.2.2.2.2.2.2.2.2.2.1, y1.2.2.2.2.2.2.2.2.2.2.2.2.2.2.2.2.2.2.1, y1.2.2.2.2.2.2.2.2.2.2.2.2.2.2.2.2.2.2.2.1, y1.2.2.2.2.2.2.2.2.2.2.2.2.2.2.2.2.2.2.2.2.1, y1.2.2.2.2.2.2.2.2.2.2.2.2.2.2.2.2.2.2.2.2.2.1, y1.2.2.2.2.2.2.2.2.2.2.2.2.2.2.2.2.2.2.2.2.2.2.1, y1.2.2.2.2.2.2.2.2.2.2.2.2.2.2.2.2.2.2.2.2.2.2.2.1, ([] : List Scode_Op), y1.2.2.2.2.2.2.2.2.2.2.2.2.2.2.2.2.2.2.2.2.2.2.2.2.1, y1.2.2.2.2.2.2.2.2.2.2.2.2.2.2.2.2.2.2.2.2.2.2.2.2.2.1, y1.2.2.2.2.2.2.2.2.2.2.2.2.2.2.2.2.2.2.2.2.2.2.2.2.2.2.1, y1.2.2.2.2.2.2.2.2.2.2.2.2.2.2.2.2.2.2.2.2.2.2.2.2.2.2.2.1, y1.2.2.2.2.2.2.2.2.2.2.2.2.2.2.2.2.2.2.2.2.2.2.2.2.2.2.2.2.1, y1.2.2.2.2.2.2.2.2.2.2.2.2.2.2.2.2.2.2.2.2.2.2.2.2.2.2.2.2.2.1, y1.2.2.2.2.2.2.2.2.2.2.2.2.2.2.2.2.2.2.2.2.2.2.2.2.2.2.2.2.2.2.1, y1.2.2.2.2.2.2.2.2.2.2.2.2.2.2.2.2.2.2.2.2.2.2.2.2.2.2.2.2.2.2.2.1, ())).bind fun st => match st with
      | .again _ => none
      | .brk (y7 : Int × Int × Int × Int × Int × Int × Int × Int × Int × Int × Int × (BitVec 64) × Sbesomlaw14_Maker × Int × Int × Int × Int × Int × Int × Int × Int × Int × (BitVec 64) × (List Int) × (List Scode_Op) × (List (List Int)) × (List (List Int)) × (List (List Scode_Op)) × (List Spick_Pick) × (List (List Int)) × (List (List Int)) × (List (List Scode_Op)) × (List Spick_Pick) × Unit) =>
       (room (y7.2.2.2.2.2.2.2.2.2.2.2.2.2.2.2.2.2.2.2.2.2.2.2.2.2.2.2.2.2.2.1 ++ (([y7.2.2.2.2.2.2.2.2.2.2.2.2.2.2.2.2.2.2.2.2.2.2.2.1] : List (List Int))))).bind fun l8 =>
       (room (y7.2.2.2.2.2.2.2.2.2.2.2.2.2.2.2.2.2.2.2.2.2.2.2.2.2.2.2.2.2.2.2.1 ++ (([y7.2.2.2.2.2.2.2.2.2.2.2.2.2.2.2.2.2.2.2.2.2.2.2.2.1] : List (List Scode_Op))))).bind fun l9 =>
       some (.again (y7.1, w64 (y7.2.1 + 1), y7.2.2.1, y7.2.2.2.1, y7.2.2.2.2.1, y7.2.2.2.2.2.1, y7.2.2.2.2.2.2.1, y7.2.2.2.2.2.2.2.1, y7.2.2.2.2.2.2.2.2.1, y7.2.2.2.2.2.2.2.2.2.1, y7.2.2.2.2.2.2.2.2.2.2.1, y7.2.2.2.2.2.2.2.2.2.2.2.1, y7.2.2.2.2.2.2.2.2.2.2.2.2.1, y7.2.2.2.2.2.2.2.2.2.2.2.2.2.1, y7.2.2.2.2.2.2.2.2.2.2.2.2.2.2.1, y7.2.2.2.2.2.2.2.2.2.2.2.2.2.2.2.1, y7.2.2.2.2.2.2.2.2.2.2.2.2.2.2.2.2.1, y7.2.2.2.2.2.2.2.2.2.2.2.2.2.2.2.2.2.1, y7.2.2.2.2.2.2.2.2.2.2.2.2.2.2.2.2.2.2.1, y7.2.2.2.2.2.2.2.2.2.2.2.2.2.2.2.2.2.2.2.1, y7.2.2.2.2.2.2.2.2.2.2.2.2.2.2.2.2.2.2.2.2.1, y7.2.2.2.2.2.2.2.2.2.2.2.2.2.2.2.2.2.2.2.2.2.1, y7.2.2.2.2.2.2.2.2.2.2.2.2.2.2.2.2.2.2.2.2.2.2.1, y7.2.2.2.2.2.2.2.2.2.2.2.2.2.2.2.2.2.2.2.2.2.2.2.2.2.1, y7.2.2.2.2.2.2.2.2.2.2.2.2.2.2.2.2.2.2.2.2.2.2.2.2.2.2.1, y7.2.2.2.2.2.2.2.2.2.2.2.2.2.2.2.2.2.2.2.2.2.2.2.2.2.2.2.1, y7.2.2.2.2.2.2.2.2.2.2.2.2.2.2.2.2.2.2.2.2.2.2.2.2.2.2.2.2.1, y7.2.2.2.2.2.2.2.2.2.2.2.2.2.2.2.2.2.2.2.2.2.2.2.2.2.2.2.2.2.1, l8, l9, y7.2.2.2.2.2.2.2.2.2.2.2.2.2.2.2.2.2.2.2.2.2.2.2.2.2.2.2.2.2.2.2.2.1, ()))
      | .ret (y7 : Unit) =>
       some (.ret (()))
   | .ret (y1 : Unit) =>
    some (.ret (()))
 else
  some (.brk (s3, s4, s5, s6, s7, s8, s9, s10, s11, s12, s14, s15, s16, s17, s18, s19, s20, s21, s22, s23, s24, s25, s26, s27, s28, s29, s30, s31, ())) := by kernel_rfl
theorem p_besomlaw14_made_r21_eq (s1 : Int) (s2 : Int) (s3 : Int) (s4 : Int) (s5 : Int) (s6 : Int) (s7 : Int) (s8 : Int) (s9 : Int) (s10 : Int) (s11 : Int) (s12 : Int) (s13 : BitVec 64) (s14 : Sbesomlaw14_Maker) (s15 : Int) (s16 : Int) (s17 : Int) (s18 : Int) (s19 : Int) (s20 : Int) (s21 : Int) (s22 : Int) (s23 : Int) (s24 : BitVec 64) (s25 : List Int) (s26 : List (List Int)) (s27 : List (List Int)) (s28 : List (List Scode_Op)) (s29 : List Spick_Pick) (s30 : List (List Int)) (s31 : List (List Int)) (s32 : List (List Scode_Op)) (s33 : List Spick_Pick) : p_besomlaw14_made_r21 (s1, s2, s3, s4, s5, s6, s7, s8, s9, s10, s11, s12, s13, s14, s15, s16, s17, s18, s19, s20, s21, s22, s23, s24, s25, s26, s27, s28, s29, s30, s31, s32, s33, ()) =
 (q_besomlaw14_Maker_byte_v1 s14).bind fun (y1 : Int × Sbesomlaw14_Maker × Unit) =>
 bif decide (s3 < (w64 (1 + (y1.1.tmod 3)))) then
  (q_besomlaw14_Maker_byte_v1 y1.2.1).bind fun (y2 : Int × Sbesomlaw14_Maker × Unit) =>
  bif decide ((w64 (s1 + 1)) = 0) then
   none
  else
   (room (s25 ++ (([(y2.1.tmod (w64 (s1 + 1)))] : List Int)))).bind fun l3 =>
   some (.again (s1, s2, w64 (s3 + 1), s4, s5, s6, s7, s8, s9, s10, s11, s12, s13, y2.2.1, s15, s16, s17, s18, s19, s20, s21, s22, s23, s24, l3, s26, s27, s28, s29, s30, s31, s32, s33, ()))
 else
  some (.brk (s1, s2, s4, s5, s6, s7, s8, s9, s10, s11, s12, s13, y1.2.1, s15, s16, s17, s18, s19, s20, s21, s22, s23, s24, s25, s26, s27, s28, s29, s30, s31, s32, s33, ())) := by kernel_rfl
theorem p_besomlaw14_made_r28_eq (s1 : Int) (s2 : Int) (s3 : Int) (s4 : Int) (s5 : Int) (s6 : Int) (s7 : Int) (s8 : Int) (s9 : Int) (s10 : Int) (s11 : Int) (s12 : Int) (s13 : BitVec 64) (s14 : Sbesomlaw14_Maker) (s15 : Int) (s16 : Int) (s17 : Int) (s18 : Int) (s19 : Int) (s20 : Int) (s21 : Int) (s22 : Int) (s23 : Int) (s24 : BitVec 64) (s25 : List Int) (s26 : List Scode_Op) (s27 : List (List Int)) (s28 : List (List Int)) (s29 : List (List Scode_Op)) (s30 : List Spick_Pick) (s31 : List (List Int)) (s32 : List (List Int)) (s33 : List (List Scode_Op)) (s34 : List Spick_Pick) : p_besomlaw14_made_r28 (s1, s2, s3, s4, s5, s6, s7, s8, s9, s10, s11, s12, s13, s14, s15, s16, s17, s18, s19, s20, s21, s22, s23, s24, s25, s26, s27, s28, s29, s30, s31, s32, s33, s34, ()) =
 bif decide (0 < s3) then
  (q_besomlaw14_Maker_op_v1 ((s25.length : Int)) s23 s14).bind fun (y1 : Scode_Op × Sbesomlaw14_Maker × Unit) =>
  (room (s26 ++ ([y1.1] : List Scode_Op))).bind fun l2 =>
  some (.again (s1, s2, w64 (s3 - 1), s4, s5, s6, s7, s8, s9, s10, s11, s12, s13, y1.2.1, s15, s16, s17, s18, s19, s20, s21, s22, s23, s24, s25, l2, s27, s28, s29, s30, s31, s32, s33, s34, ()))
 else
  some (.brk (s1, s2, s4, s5, s6, s7, s8, s9, s10, s11, s12, s13, s14, s15, s16, s17, s18, s19, s20, s21, s22, s23, s24, s25, s26, s27, s28, s29, s30, s31, s32, s33, s34, ())) := by kernel_rfl
theorem q_besomlaw14_made_eq (a1 : List (BitVec 8)) : q_besomlaw14_made a1 =
 (cut a1 0 (bif decide (90 < ((a1.length : Int))) then 90 else ((a1.length : Int)))).bind fun l1 =>
 (q_besomlaw14_Maker_byte_v1 (Sbesomlaw14_Maker.mk l1 0)).bind fun (y2 : Int × Sbesomlaw14_Maker × Unit) =>
 (q_besomlaw14_Maker_byte_v1 y2.2.1).bind fun (y3 : Int × Sbesomlaw14_Maker × Unit) =>
 (q_besomlaw14_Maker_byte_v1 y3.2.1).bind fun (y4 : Int × Sbesomlaw14_Maker × Unit) =>
 (q_besomlaw14_Maker_byte_v1 y4.2.1).bind fun (y5 : Int × Sbesomlaw14_Maker × Unit) =>
 (q_besomlaw14_Maker_byte_v1 y5.2.1).bind fun (y6 : Int × Sbesomlaw14_Maker × Unit) =>
 (q_besomlaw14_Maker_byte_v1 y6.2.1).bind fun (y7 : Int × Sbesomlaw14_Maker × Unit) =>
 (q_besomlaw14_Maker_byte_v1 y7.2.1).bind fun (y8 : Int × Sbesomlaw14_Maker × Unit) =>
 (q_besomlaw14_Maker_byte_v1 y8.2.1).bind fun (y9 : Int × Sbesomlaw14_Maker × Unit) =>
 (q_besomlaw14_Maker_byte_v1 y9.2.1).bind fun (y10 : Int × Sbesomlaw14_Maker × Unit) =>
 (q_besomlaw14_Maker_byte_v1 y10.2.1).bind fun (y11 : Int × Sbesomlaw14_Maker × Unit) =>
 (loopF p_besomlaw14_made_r7 (w64 (1 + (y10.1.tmod 6)), 0, 0, 0, 0, 0, 0, 0, 0, 0, 0, 0#64, y11.2.1, w64 (1 + (y2.1.tmod 3)), y3.1.tmod 3, w64 (1 + (y4.1.tmod 3)), w64 (1 + (y5.1.tmod 2)), w64 (1 + (y6.1.tmod 3)), w64 ((w64 (1 + (y10.1.tmod 6))) + (y11.1.tmod 4)), y7.1.tmod 4, y8.1.tmod 4, w64 (1 + (y9.1.tmod 2)), 0#64, ([] : List (List Int)), ([] : List (List Int)), ([] : List (List Scode_Op)), ([] : List Spick_Pick), ([] : List (List Int)), ([] : List (List Int)), ([] : List (List Scode_Op)), ([] : List Spick_Pick), ())).bind fun st => match st with
  | .again _ => none
  | .brk (y12 : Int × Int × Int × Int × Int × Int × Int × Int × Int × Int × (BitVec 64) × Sbesomlaw14_Maker × Int × Int × Int × Int × Int × Int × Int × Int × Int × (BitVec 64) × (List (List Int)) × (List (List Int)) × (List (List Scode_Op)) × (List Spick_Pick) × (List (List Int)) × (List (List Int)) × (List (List Scode_Op)) × (List Spick_Pick) × Unit) =>
   (q_besomlaw14_Maker_byte_v1 y12.2.2.2.2.2.2.2.2.2.2.2.1).bind fun (y13 : Int × Sbesomlaw14_Maker × Unit) =>
   bif decide ((w64 (y12.1 + 1)) = 0) then
    none
   else
    (q_set_Add 0#64 (y13.1.tmod (w64 (y12.1 + 1)))).bind fun (y14 : (BitVec 64) × Unit) =>
    (loopF p_besomlaw14_made_r17 (y12.1, 0, y12.2.1, y12.2.2.1, y12.2.2.2.1, y12.2.2.2.2.1, y12.2.2.2.2.2.1, y12.2.2.2.2.2.2.1, y12.2.2.2.2.2.2.2.1, y12.2.2.2.2.2.2.2.2.1, y12.2.2.2.2.2.2.2.2.2.1, y12.2.2.2.2.2.2.2.2.2.2.1, y13.2.1, y12.2.2.2.2.2.2.2.2.2.2.2.2.1, y12.2.2.2.2.2.2.2.2.2.2.2.2.2.1, y12.2.2.2.2.2.2.2.2.2.2.2.2.2.2.1, y12.2.2.2.2.2.2.2.2.2.2.2.2.2.2.2.1, y12.2.2.2.2.2.2.2.2.2.2.2.2.2.2.2.2.1, y12.2.2.2.2.2.2.2.2.2.2.2.2.2.2.2.2.2.1, y12.2.2.2.2.2.2.2.2.2.2.2.2.2.2.2.2.2.2.1, y12.2.2.2.2.2.2.2.2.2.2.2.2.2.2.2.2.2.2.2.1, y12.2.2.2.2.2.2.2.2.2.2.2.2.2.2.2.2.2.2.2.2.1, y14.1, y12.2.2.2.2.2.2.2.2.2.2.2.2.2.2.2.2.2.2.2.2.2.2.1, y12.2.2.2.2.2.2.2.2.2.2.2.2.2.2.2.2.2.2.2.2.2.2.2.1, y12.2.2.2.2.2.2.2.2.2.2.2.2.2.2.2.2.2.2.2.2.2.2.2.2.1, y12.2.2.2.2.2.2.2.2.2.2.2.2.2.2.2.2.2.2.2.2.2.2.2.2.2.1, y12.2.2.2.2.2.2.2.2.2.2.2.2.2.2.2.2.2.2.2.2.2.2.2.2.2.2.1, y12.2.2.2.2.2.2.2.2.2.2.2.2.2.2.2.2.2.2.2.2.2.2.2.2.2.2.2.1, y12.2.2.2.2.2.2.2.2.2.2.2.2.2.2.2.2.2.2.2.2.2.2.2.2.2.2.2.2.1, y12.2.2.2.2.2.2.2.2.2.2.2.2.2.2.2.2.2.2.2.2.2.2.2.2.2.2.2.2.2.1, ())).bind fun st => match st with
     | .again _ => none
     | .brk (y15 : Int × Int × Int × Int × Int × Int × Int × Int × Int × (BitVec 64) × Int × Int × Int × Int × Int × Int × Int × Int × Int × (BitVec 64) × (List (List Int)) × (List (List Int)) × (List (List Scode_Op)) × (List Spick_Pick) × (List (List Int)) × (List (List Int)) × (List (List Scode_Op)) × (List Spick_Pick) × Unit) =>
      some (Splan_Plan.mk y15.2.2.2.2.2.2.2.2.2.2.1 y15.2.2.2.2.2.2.2.2.2.2.2.1 y15.2.2.2.2.2.2.2.2.2.2.2.2.1 y15.2.2.2.2.2.2.2.2.2.2.2.2.2.1 y15.2.2.2.2.2.2.2.2.2.2.2.2.2.2.1 y15.2.2.2.2.2.2.2.2.2.2.2.2.2.2.2.1 y15.2.2.2.2.2.2.2.2.2.2.2.2.2.2.2.2.1 y15.2.2.2.2.2.2.2.2.2.2.2.2.2.2.2.2.2.1 (Sheap_Heap.mk y15.2.2.2.2.2.2.2.2.2.2.2.2.2.2.2.2.2.2.1 y15.2.2.2.2.2.2.2.2.2.2.2.2.2.2.2.2.2.2.2.2.2.2.2.2.1) y15.2.2.2.2.2.2.2.2.2.2.2.2.2.2.2.2.2.2.2.1 y15.2.2.2.2.2.2.2.2.2.2.2.2.2.2.2.2.2.2.2.2.2.2.2.2.2.1 y15.2.2.2.2.2.2.2.2.2.2.2.2.2.2.2.2.2.2.2.2.2.2.2.2.2.2.1 y15.2.2.2.2.2.2.2.2.2.2.2.2.2.2.2.2.2.2.2.2.2.2.2.2.2.2.2.1, ())
     | .ret (y15 : Unit) =>
      none
  | .ret (y12 : Unit) =>
   none := mk_is (by kernel_rfl)
theorem q_besomlaw14_Grow_begin_eq (a1 : Sbesomlaw14_Grow) (a2 : Splan_Plan) : q_besomlaw14_Grow_begin a1 a2 =
 bif decide (((a2.H.Objs.length : Int)) = 0) then
  none
 else
  bif decide (a2.Workers = 0) then
   none
  else
   (q_grey_Begin (w64 (1 + (((a1.Mode % 3#8).toNat : Int)))) (w64 (1 + (((a1.Obj.toNat : Int)).tmod ((a2.H.Objs.length : Int))))) (w64 (1 + (((a1.Who.toNat : Int)).tmod a2.Workers)))).bind fun (y1 : Sstate_Grey × Unit) =>
   some (y1.1, ()) := mk_is (by kernel_rfl)
end Go.Pe.G
namespace Go.Pe.G
open Go.Pe
theorem q_besomlaw14_refHeap_eq (a1 : Sheap_Heap) : q_besomlaw14_refHeap a1 =
 some (Sbesomref03_Heap.mk a1.Slots a1.Objs, ()) := mk_is (by kernel_rfl)
theorem p_besomlaw14_refPicks_r3_eq (s1 : List Spick_Pick) (s2 : Int) (s3 : List Sbesomref01_Pick) : p_besomlaw14_refPicks_r3 (s1, s2, s3, ()) =
 bif decide (s2 < ((s1.length : Int))) then
  (idx s1 s2).bind fun x1 =>
  (idx s1 s2).bind fun x2 =>
  (room (s3 ++ (([(Sbesomref01_Pick.mk x1.Kind x2.N)] : List Sbesomref01_Pick)))).bind fun l3 =>
  some (.again (s1, w64 (s2 + 1), l3, ()))
 else
  some (.brk (s3, ())) := by kernel_rfl
theorem q_besomlaw14_refPicks_eq (a1 : List Spick_Pick) : q_besomlaw14_refPicks a1 =
 (loopF p_besomlaw14_refPicks_r3 (a1, 0, ([] : List Sbesomref01_Pick), ())).bind fun st => match st with
  | .again _ => none
  | .brk (y1 : (List Sbesomref01_Pick) × Unit) =>
   some (y1.1, ())
  | .ret (y1 : Unit) =>
   none := mk_is (by kernel_rfl)
theorem p_besomlaw14_refOps_r3_eq (s1 : List Scode_Op) (s2 : Int) (s3 : List Sbesomref11_Op) : p_besomlaw14_refOps_r3 (s1, s2, s3, ()) =
 bif decide (s2 < ((s1.length : Int))) then
  (idx s1 s2).bind fun x1 =>
  (idx s1 s2).bind fun x2 =>
  (idx s1 s2).bind fun x3 =>
  (idx s1 s2).bind fun x4 =>
  (room (s3 ++ (([(Sbesomref11_Op.mk x1.Kind x2.R x3.A x4.S)] : List Sbesomref11_Op)))).bind fun l5 =>
  some (.again (s1, w64 (s2 + 1), l5, ()))
 else
  some (.brk (s3, ())) := by kernel_rfl
theorem q_besomlaw14_refOps_eq (a1 : List Scode_Op) : q_besomlaw14_refOps a1 =
 (loopF p_besomlaw14_refOps_r3 (a1, 0, ([] : List Sbesomref11_Op), ())).bind fun st => match st with
  | .again _ => none
  | .brk (y1 : (List Sbesomref11_Op) × Unit) =>
   some (y1.1, ())
  | .ret (y1 : Unit) =>
   none := mk_is (by kernel_rfl)
theorem p_besomlaw14_refPlan_r3_eq (s1 : Int) (s2 : Splan_Plan) (s3 : Int) (s4 : Int) (s5 : Int) (s6 : Int) (s7 : Int) (s8 : Int) (s9 : Int) (s10 : Int) (s11 : Int) (s12 : BitVec 64) (s13 : Int) (s14 : Int) (s15 : Int) (s16 : Int) (s17 : Int) (s18 : Int) (s19 : Int) (s20 : Int) (s21 : Sbesomref03_Heap) (s22 : BitVec 64) (s23 : List (List Int)) (s24 : List (List Int)) (s25 : List (List Int)) (s26 : List (List Sbesomref11_Op)) (s27 : List Sbesomref01_Pick) (s28 : List (List Sbesomref11_Op)) (s29 : List Sbesomref01_Pick) : p_besomlaw14_refPlan_r3 (s1, s2, s3, s4, s5, s6, s7, s8, s9, s10, s11, s12, s13, s14, s15, s16, s17, s18, s19, s20, s21, s22, s23, s24, s25, s26, s27, s28, s29, ()) =
 bif decide (s1 < ((s2.Progs.length : Int))) then
  (idx s2.Progs s1).bind fun x1 =>
  (q_besomlaw14_refOps x1).bind fun (y2 : (List Sbesomref11_Op) × Unit) =>
  (room (s28 ++ (([y2.1] : List (List Sbesomref11_Op))))).bind fun l3 =>
  some (.again (w64 (s1 + 1), s2, s3, s4, s5, s6, s7, s8, s9, s10, s11, s12, s13, s14, s15, s16, s17, s18, s19, s20, s21, s22, s23, s24, s25, s26, s27, l3, s29, ()))
 else
  some (.brk (s3, s4, s5, s6, s7, s8, s9, s10, s11, s12, s13, s14, s15, s16, s17, s18, s19, s20, s21, s22, s23, s24, s25, s26, s27, s28, s29, ())) := by kernel_rfl
theorem q_besomlaw14_refPlan_eq (a1 : Splan_Plan) : q_besomlaw14_refPlan a1 =
 (q_besomlaw14_refHeap a1.H).bind fun (y1 : Sbesomref03_Heap × Unit) =>
 (q_besomlaw14_refPicks a1.Picks).bind fun (y2 : (List Sbesomref01_Pick) × Unit) =>
 (loopF p_besomlaw14_refPlan_r3 (0, a1, 0, 0, 0, 0, 0, 0, 0, 0, 0, 0#64, a1.Workers, a1.Mutators, a1.Cap, a1.Buf, a1.Bin, a1.Most, a1.Price, a1.Limit, y1.1, a1.Roots, a1.Regs, ([] : List (List Int)), ([] : List (List Int)), ([] : List (List Sbesomref11_Op)), ([] : List Sbesomref01_Pick), ([] : List (List Sbesomref11_Op)), y2.1, ())).bind fun st => match st with
  | .again _ => none
  | .brk (y3 : Int × Int × Int × Int × Int × Int × Int × Int × Int × (BitVec 64) × Int × Int × Int × Int × Int × Int × Int × Int × Sbesomref03_Heap × (BitVec 64) × (List (List Int)) × (List (List Int)) × (List (List Int)) × (List (List Sbesomref11_Op)) × (List Sbesomref01_Pick) × (List (List Sbesomref11_Op)) × (List Sbesomref01_Pick) × Unit) =>
   some (Sbesomref12_Plan.mk y3.2.2.2.2.2.2.2.2.2.2.1 y3.2.2.2.2.2.2.2.2.2.2.2.1 y3.2.2.2.2.2.2.2.2.2.2.2.2.1 y3.2.2.2.2.2.2.2.2.2.2.2.2.2.1 y3.2.2.2.2.2.2.2.2.2.2.2.2.2.2.1 y3.2.2.2.2.2.2.2.2.2.2.2.2.2.2.2.1 y3.2.2.2.2.2.2.2.2.2.2.2.2.2.2.2.2.1 y3.2.2.2.2.2.2.2.2.2.2.2.2.2.2.2.2.2.1 y3.2.2.2.2.2.2.2.2.2.2.2.2.2.2.2.2.2.2.1 y3.2.2.2.2.2.2.2.2.2.2.2.2.2.2.2.2.2.2.2.1 y3.2.2.2.2.2.2.2.2.2.2.2.2.2.2.2.2.2.2.2.2.1 y3.2.2.2.2.2.2.2.2.2.2.2.2.2.2.2.2.2.2.2.2.2.2.2.2.2.1 y3.2.2.2.2.2.2.2.2.2.2.2.2.2.2.2.2.2.2.2.2.2.2.2.2.2.2.1, ())
  | .ret (y3 : Unit) =>
   none := mk_is (by kernel_rfl)
theorem q_besomlaw14_refTint_eq (a1 : Stint_Tint) : q_besomlaw14_refTint a1 =
 some (Sbesomref09_Tint.mk a1.Marks a1.Black, ()) := mk_is (by kernel_rfl)
theorem q_besomlaw14_refLedger_eq (a1 : Sledger_Ledger) : q_besomlaw14_refLedger a1 =
 some (Sbesomref10_Ledger.mk a1.Scanned a1.Spent a1.Pool a1.Bal, ()) := mk_is (by kernel_rfl)
theorem q_besomlaw14_refDeque_eq (a1 : Sdeque_Machine) : q_besomlaw14_refDeque a1 =
 some (Sbesomref07_Machine.mk a1.Kind a1.PC a1.Base a1.Cap a1.B a1.T a1.X a1.Out, ()) := mk_is (by kernel_rfl)
theorem q_besomlaw14_refChain_eq (a1 : Schain_Machine) : q_besomlaw14_refChain a1 =
 some (Sbesomref08_Machine.mk a1.Kind a1.PC a1.Head a1.Next a1.H a1.X a1.Y a1.Out, ()) := mk_is (by kernel_rfl)
theorem q_besomlaw14_refGrey_eq (a1 : Sstate_Grey) : q_besomlaw14_refGrey a1 =
 (q_besomlaw14_refDeque a1.D).bind fun (y1 : Sbesomref07_Machine × Unit) =>
 (q_besomlaw14_refChain a1.C).bind fun (y2 : Sbesomref08_Machine × Unit) =>
 some (Sbesomref13_Grey.mk a1.PC a1.Mode a1.Obj a1.Who y1.1 y2.1 a1.Bin a1.Out, ()) := mk_is (by kernel_rfl)
theorem q_besomlaw14_refWorker_eq (a1 : Sstate_Worker) : q_besomlaw14_refWorker a1 =
 (q_besomlaw14_refDeque a1.D).bind fun (y1 : Sbesomref07_Machine × Unit) =>
 (q_besomlaw14_refChain a1.C).bind fun (y2 : Sbesomref08_Machine × Unit) =>
 (q_besomlaw14_refGrey a1.G).bind fun (y3 : Sbesomref13_Grey × Unit) =>
 some (Sbesomref13_Worker.mk a1.PC a1.Obj a1.Slot a1.Victim a1.Bin a1.Batch y1.1 y2.1 y3.1, ()) := mk_is (by kernel_rfl)
theorem q_besomlaw14_refMutator_eq (a1 : Sstate_Mutator) : q_besomlaw14_refMutator a1 =
 (q_besomlaw14_refChain a1.C).bind fun (y1 : Sbesomref08_Machine × Unit) =>
 (q_besomlaw14_refGrey a1.G).bind fun (y2 : Sbesomref13_Grey × Unit) =>
 some (Sbesomref13_Mutator.mk a1.PC a1.IP a1.Ret a1.Want a1.Old a1.Obj a1.Slot a1.Bin a1.Regs a1.Buf a1.Batch y1.1 y2.1, ()) := mk_is (by kernel_rfl)
theorem p_besomlaw14_refState_r3_eq (s1 : Int) (s2 : Sstate_State) (s3 : Int) (s4 : Int) (s5 : Int) (s6 : Int) (s7 : Int) (s8 : Int) (s9 : Int) (s10 : Int) (s11 : Int) (s12 : BitVec 64) (s13 : Int) (s14 : Sbesomref09_Tint) (s15 : Int) (s16 : Int) (s17 : Bool) (s18 : Bool) (s19 : Int) (s20 : Int) (s21 : Int) (s22 : Int) (s23 : Sbesomref13_Detect) (s24 : Sbesomref12_Plan) (s25 : Sbesomref03_Heap) (s26 : List (BitVec 64)) (s27 : List (List Int)) (s28 : Sbesomref09_Tint) (s29 : Int) (s30 : Int) (s31 : Bool) (s32 : Bool) (s33 : Int) (s34 : List Int) (s35 : Sbesomref10_Ledger) (s36 : Sbesomref13_Detect) (s37 : List (List Int)) (s38 : List (List Int)) (s39 : List (List Sbesomref11_Op)) (s40 : List Sbesomref01_Pick) (s41 : List (List Int)) (s42 : List (BitVec 64)) (s43 : List (List Int)) (s44 : List Int) (s45 : List Int) (s46 : List Sbesomref13_Worker) (s47 : List Sbesomref13_Mutator) (s48 : List Sbesomref13_Worker) (s49 : List Sbesomref13_Mutator) : p_besomlaw14_refState_r3 (s1, s2, s3, s4, s5, s6, s7, s8, s9, s10, s11, s12, s13, s14, s15, s16, s17, s18, s19, s20, s21, s22, s23, s24, s25, s26, s27, s28, s29, s30, s31, s32, s33, s34, s35, s36, s37, s38, s39, s40, s41, s42, s43, s44, s45, s46, s47, s48, s49, ()) =
 bif decide (s1 < ((s2.Ws.length : Int))) then
  (idx s2.Ws s1).bind fun x1 =>
  (q_besomlaw14_refWorker x1).bind fun (y2 : Sbesomref13_Worker × Unit) =>
  (room (s48 ++ ([y2.1] : List Sbesomref13_Worker))).bind fun l3 =>
  some (.again (w64 (s1 + 1), s2, s3, s4, s5, s6, s7, s8, s9, s10, s11, s12, s13, s14, s15, s16, s17, s18, s19, s20, s21, s22, s23, s24, s25, s26, s27, s28, s29, s30, s31, s32, s33, s34, s35, s36, s37, s38, s39, s40, s41, s42, s43, s44, s45, s46, s47, l3, s49, ()))
 else
  some (.brk (s2, s3, s4, s5, s6, s7, s8, s9, s10, s11, s12, s13, s14, s15, s16, s17, s18, s19, s20, s21, s22, s23, s24, s25, s26, s27, s28, s29, s30, s31, s32, s33, s34, s35, s36, s37, s38, s39, s40, s41, s42, s43, s44, s45, s46, s47, s48, s49, ())) := by kernel_rfl
theorem p_besomlaw14_refState_r7_eq (s1 : Int) (s2 : Sstate_State) (s3 : Int) (s4 : Int) (s5 : Int) (s6 : Int) (s7 : Int) (s8 : Int) (s9 : Int) (s10 : Int) (s11 : Int) (s12 : BitVec 64) (s13 : Int) (s14 : Sbesomref09_Tint) (s15 : Int) (s16 : Int) (s17 : Bool) (s18 : Bool) (s19 : Int) (s20 : Int) (s21 : Int) (s22 : Int) (s23 : Sbesomref13_Detect) (s24 : Sbesomref12_Plan) (s25 : Sbesomref03_Heap) (s26 : List (BitVec 64)) (s27 : List (List Int)) (s28 : Sbesomref09_Tint) (s29 : Int) (s30 : Int) (s31 : Bool) (s32 : Bool) (s33 : Int) (s34 : List Int) (s35 : Sbesomref10_Ledger) (s36 : Sbesomref13_Detect) (s37 : List (List Int)) (s38 : List (List Int)) (s39 : List (List Sbesomref11_Op)) (s40 : List Sbesomref01_Pick) (s41 : List (List Int)) (s42 : List (BitVec 64)) (s43 : List (List Int)) (s44 : List Int) (s45 : List Int) (s46 : List Sbesomref13_Worker) (s47 : List Sbesomref13_Mutator) (s48 : List Sbesomref13_Worker) (s49 : List Sbesomref13_Mutator) : p_besomlaw14_refState_r7 (s1, s2, s3, s4, s5, s6, s7, s8, s9, s10, s11, s12, s13, s14, s15, s16, s17, s18, s19, s20, s21, s22, s23, s24, s25, s26, s27, s28, s29, s30, s31, s32, s33, s34, s35, s36, s37, s38, s39, s40, s41, s42, s43, s44, s45, s46, s47, s48, s49, ()) =
 bif decide (s1 < ((s2.Ms.length : Int))) then
  (idx s2.Ms s1).bind fun x1 =>
  (q_besomlaw14_refMutator x1).bind fun (y2 : Sbesomref13_Mutator × Unit) =>
  (room (s49 ++ ([y2.1] : List Sbesomref13_Mutator))).bind fun l3 =>
  some (.again (w64 (s1 + 1), s2, s3, s4, s5, s6, s7, s8, s9, s10, s11, s12, s13, s14, s15, s16, s17, s18, s19, s20, s21, s22, s23, s24, s25, s26, s27, s28, s29, s30, s31, s32, s33, s34, s35, s36, s37, s38, s39, s40, s41, s42, s43, s44, s45, s46, s47, s48, l3, ()))
 else
  some (.brk (s3, s4, s5, s6, s7, s8, s9, s10, s11, s12, s13, s14, s15, s16, s17, s18, s19, s20, s21, s22, s23, s24, s25, s26, s27, s28, s29, s30, s31, s32, s33, s34, s35, s36, s37, s38, s39, s40, s41, s42, s43, s44, s45, s46, s47, s48, s49, ())) := by kernel_rfl
theorem q_besomlaw14_refState_eq (a1 : Sstate_State) : q_besomlaw14_refState a1 =
 (q_besomlaw14_refPlan a1.P).bind fun (y1 : Sbesomref12_Plan × Unit) =>
 (q_besomlaw14_refHeap a1.H).bind fun (y2 : Sbesomref03_Heap × Unit) =>
 (q_besomlaw14_refTint a1.T).bind fun (y3 : Sbesomref09_Tint × Unit) =>
 (q_besomlaw14_refLedger a1.L).bind fun (y4 : Sbesomref10_Ledger × Unit) =>
 (loopF p_besomlaw14_refState_r3 (0, a1, 0, 0, 0, 0, 0, 0, 0, 0, 0, 0#64, 0, Sbesomref09_Tint.mk 0#64 0#64, 0, 0, false, false, 0, 0, 0, 0, Sbesomref13_Detect.mk 0 0, y1.1, y2.1, a1.M, a1.Bins, y3.1, a1.Work, a1.Epoch, a1.Flag, a1.Done, a1.Restarts, a1.Acks, y4.1, Sbesomref13_Detect.mk a1.D.PC a1.D.I, ([] : List (List Int)), ([] : List (List Int)), ([] : List (List Sbesomref11_Op)), ([] : List Sbesomref01_Pick), ([] : List (List Int)), ([] : List (BitVec 64)), ([] : List (List Int)), ([] : List Int), ([] : List Int), ([] : List Sbesomref13_Worker), ([] : List Sbesomref13_Mutator), ([] : List Sbesomref13_Worker), ([] : List Sbesomref13_Mutator), ())).bind fun st => match st with
  | .again _ => none
  | .brk (y5 : Sstate_State × Int × Int × Int × Int × Int × Int × Int × Int × Int × (BitVec 64) × Int × Sbesomref09_Tint × Int × Int × Bool × Bool × Int × Int × Int × Int × Sbesomref13_Detect × Sbesomref12_Plan × Sbesomref03_Heap × (List (BitVec 64)) × (List (List Int)) × Sbesomref09_Tint × Int × Int × Bool × Bool × Int × (List Int) × Sbesomref10_Ledger × Sbesomref13_Detect × (List (List Int)) × (List (List Int)) × (List (List Sbesomref11_Op)) × (List Sbesomref01_Pick) × (List (List Int)) × (List (BitVec 64)) × (List (List Int)) × (List Int) × (List Int) × (List Sbesomref13_Worker) × (List Sbesomref13_Mutator) × (List Sbesomref13_Worker) × (List Sbesomref13_Mutator) × Unit) =>
   (loopF p_besomlaw14_refState_r7 (0, y5.1, y5.2.1, y5.2.2.1, y5.2.2.2.1, y5.2.2.2.2.1, y5.2.2.2.2.2.1, y5.2.2.2.2.2.2.1, y5.2.2.2.2.2.2.2.1, y5.2.2.2.2.2.2.2.2.1, y5.2.2.2.2.2.2.2.2.2.1, y5.2.2.2.2.2.2.2.2.2.2.1, y5.2.2.2.2.2.2.2.2.2.2.2.1, y5.2.2.2.2.2.2.2.2.2.2.2.2.1, y5.2.2.2.2.2.2.2.2.2.2.2.2.2.1, y5.2.2.2.2.2.2.2.2.2.2.2.2.2.2.1, y5.2.2.2.2.2.2.2.2.2.2.2.2.2.2.2.1, y5.2.2.2.2.2.2.2.2.2.2.2.2.2.2.2.2.1, y5.2.2.2.2.2.2.2.2.2.2.2.2.2.2.2.2.2.1, y5.2.2.2.2.2.2.2.2.2.2.2.2.2.2.2.2.2.2.1, y5.2.2.2.2.2.2.2.2.2.2.2.2.2.2.2.2.2.2.2.1, y5.2.2.2.2.2.2.2.2.2.2.2.2.2.2.2.2.2.2.2.2.1, y5.2.2.2.2.2.2.2.2.2.2.2.2.2.2.2.2.2.2.2.2.2.1, y5.2.2.2.2.2.2.2.2.2.2.2.2.2.2.2.2.2.2.2.2.2.2.1, y5.2.2.2.2.2.2.2.2.2.2.2.2.2.2.2.2.2.2.2.2.2.2.2.1, y5.2.2.2.2.2.2.2.2.2.2.2.2.2.2.2.2.2.2.2.2.2.2.2.2.1, y5.2.2.2.2.2.2.2.2.2.2.2.2.2.2.2.2.2.2.2.2.2.2.2.2.2.1, y5.2.2.2.2.2.2.2.2.2.2.2.2.2.2.2.2.2.2.2.2.2.2.2.2.2.2.1, y5.2.2.2.2.2.2.2.2.2.2.2.2.2.2.2.2.2.2.2.2.2.2.2.2.2.2.2.1, y5.2.2.2.2.2.2.2.2.2.2.2.2.2.2.2.2.2.2.2.2.2.2.2.2.2.2.2.2.1, y5.2.2.2.2.2.2.2.2.2.2.2.2.2.2.2.2.2.2.2.2.2.2.2.2.2.2.2.2.2.1, y5.2.2.2.2.2.2.2.2.2.2.2.2.2.2.2.2.2.2.2.2.2.2.2.2.2.2.2.2.2.2.1, y5.2.2.2.2.2.2.2.2.2.2.2.2.2.2.2.2.2.2.2.2.2.2.2.2.2.2.2.2.2.2.2.1, y5.2.2.2.2.2.2.2.2.2.2.2.2.2.2.2.2.2.2.2.2.2.2.2.2.2.2.2.2.2.2.2.2.1, y5.2.2.2.2.2.2.2.2.2.2.2.2.2.2.2.2.2.2.2.2.2.2.2.2.2.2.2.2.2.2.2.2.2.1, y5.2.2.2.2.2.2.2.2.2.2.2.2.2.2.2.2.2.2.2.2.2.2.2.2.2.2.2.2.2.2.2.2.2.2.1, y5.2.2.2.2.2.2.2.2.2.2.2.2.2.2.2.2.2.2.2.2.2.2.2.2.2.2.2.2.2.2.2.2.2.2.2.1, y5.2.2.2.2.2.2.2.2.2.2.2.2.2.2.2.2.2.2.2.2.2.2.2.2.2.2.2.2.2.2.2.2.2.2.2.2.1, y5.2.2.2.2.2.2.2.2.2.2.2.2.2.2.2.2.2.2.2.2.2.2.2.2.2.2.2.2.2.2.2.2.2.2.2.2.2.1, y5.2.2.2.2.2.2.2.2.2.2.2.2.2.2.2.2.2.2.2.2.2.2.2.2.2.2.2.2.2.2.2.2.2.2.2.2.2.2.1, y5.2.2.2.2.2.2.2.2.2.2.2.2.2.2.2.2.2.2.2.2.2.2.2.2.2.2.2.2.2.2.2.2.2.2.2.2.2.2.2.1, y5.2.2.2.2.2.2.2.2.2.2.2.2.2.2.2.2.2.2.2.2.2.2.2.2.2.2.2.2.2.2.2.2.2.2.2.2.2.2.2.2.1, y5.2.2.2.2.2.2.2.2.2.2.2.2.2.2.2.2.2.2.2.2.2.2.2.2.2.2.2.2.2.2.2.2.2.2.2.2.2.2.2.2.2.1, y5.2.2.2.2.2.2.2.2.2.2.2.2.2.2.2.2.2.2.2.2.2.2.2.2.2.2.2.2.2.2.2.2.2.2.2.2.2.2.2.2.2.2.1, y5.2.2.2.2.2.2.2.2.2.2.2.2.2.2.2.2.2.2.2.2.2.2.2.2.2.2.2.2.2.2.2.2.2.2.2.2.2.2.2.2.2.2.2.1, y5.2.2.2.2.2.2.2.2.2.2.2.2.2.2.2.2.2.2.2.2.2.2.2.2.2.2.2.2.2.2.2.2.2.2.2.2.2.2.2.2.2.2.2.2.1, y5.2.2.2.2.2.2.2.2.2.2.2.2.2.2.2.2.2.2.2.2.2.2.2.2.2.2.2.2.2.2.2.2.2.2.2.2.2.2.2.2.2.2.2.2.2.1, y5.2.2.2.2.2.2.2.2.2.2.2.2.2.2.2.2.2.2.2.2.2.2.2.2.2.2.2.2.2.2.2.2.2.2.2.2.2.2.2.2.2.2.2.2.2.2.1, y5.2.2.2.2.2.2.2.2.2.2.2.2.2.2.2.2.2.2.2.2.2.2.2.2.2.2.2.2.2.2.2.2.2.2.2.2.2.2.2.2.2.2.2.2.2.2.2.1, ())).bind fun st => match st with
    | .again _ => none
    | .brk (y6 : Int × Int × Int × Int × Int × Int × Int × Int × Int × (BitVec 64) × Int × Sbesomref09_Tint × Int × Int × Bool × Bool × Int × Int × Int × Int × Sbesomref13_Detect × Sbesomref12_Plan × Sbesomref03_Heap × (List (BitVec 64)) × (List (List Int)) × Sbesomref09_Tint × Int × Int × Bool × Bool × Int × (List Int) × Sbesomref10_Ledger × Sbesomref13_Detect × (List (List Int)) × (List (List Int)) × (List (List Sbesomref11_Op)) × (List Sbesomref01_Pick) × (List (List Int)) × (List (BitVec 64)) × (List (List Int)) × (List Int) × (List Int) × (List Sbesomref13_Worker) × (List Sbesomref13_Mutator) × (List Sbesomref13_Worker) × (List Sbesomref13_Mutator) × Unit) =>
     some (Sbesomref13_State.mk y6.2.2.2.2.2.2.2.2.2.2.2.2.2.2.2.2.2.2.2.2.2.1 y6.2.2.2.2.2.2.2.2.2.2.2.2.2.2.2.2.2.2.2.2.2.2.1 y6.2.2.2.2.2.2.2.2.2.2.2.2.2.2.2.2.2.2.2.2.2.2.2.1 y6.2.2.2.2.2.2.2.2.2.2.2.2.2.2.2.2.2.2.2.2.2.2.2.2.1 y6.2.2.2.2.2.2.2.2.2.2.2.2.2.2.2.2.2.2.2.2.2.2.2.2.2.1 y6.2.2.2.2.2.2.2.2.2.2.2.2.2.2.2.2.2.2.2.2.2.2.2.2.2.2.1 y6.2.2.2.2.2.2.2.2.2.2.2.2.2.2.2.2.2.2.2.2.2.2.2.2.2.2.2.1 y6.2.2.2.2.2.2.2.2.2.2.2.2.2.2.2.2.2.2.2.2.2.2.2.2.2.2.2.2.1 y6.2.2.2.2.2.2.2.2.2.2.2.2.2.2.2.2.2.2.2.2.2.2.2.2.2.2.2.2.2.1 y6.2.2.2.2.2.2.2.2.2.2.2.2.2.2.2.2.2.2.2.2.2.2.2.2.2.2.2.2.2.2.1 y6.2.2.2.2.2.2.2.2.2.2.2.2.2.2.2.2.2.2.2.2.2.2.2.2.2.2.2.2.2.2.2.1 y6.2.2.2.2.2.2.2.2.2.2.2.2.2.2.2.2.2.2.2.2.2.2.2.2.2.2.2.2.2.2.2.2.1 y6.2.2.2.2.2.2.2.2.2.2.2.2.2.2.2.2.2.2.2.2.2.2.2.2.2.2.2.2.2.2.2.2.2.2.2.2.2.2.2.2.2.2.2.2.2.1 y6.2.2.2.2.2.2.2.2.2.2.2.2.2.2.2.2.2.2.2.2.2.2.2.2.2.2.2.2.2.2.2.2.2.2.2.2.2.2.2.2.2.2.2.2.2.2.1 y6.2.2.2.2.2.2.2.2.2.2.2.2.2.2.2.2.2.2.2.2.2.2.2.2.2.2.2.2.2.2.2.2.2.1, ())
    | .ret (y6 : Unit) =>
     none
  | .ret (y5 : Unit) =>
   none := mk_is (by kernel_rfl)
theorem q_besomref08_Start_eq (a1 : Int) (a2 : Int) (a3 : Int) (a4 : Int) : q_besomref08_Start a1 a2 a3 a4 =
 some (Sbesomref08_Machine.mk a1 0 a2 a3 0#64 a4 0 0, ()) := mk_is (by kernel_rfl)
theorem q_besomref13_Deque_eq (a1 : Sbesomref12_Plan) (a2 : Int) : q_besomref13_Deque a1 a2 =
 some (w64 ((w64 (a2 - 1)) * (w64 (a1.Cap + 2))), ()) := mk_is (by kernel_rfl)
theorem q_besomref13_Full_eq (a1 : Sbesomref12_Plan) : q_besomref13_Full a1 =
 (q_besomref13_Deque a1 (w64 (a1.Workers + 1))).bind fun (y1 : Int × Unit) =>
 some (y1.1, ()) := mk_is (by kernel_rfl)
theorem q_besomref13_Empty_eq (a1 : Sbesomref12_Plan) : q_besomref13_Empty a1 =
 (q_besomref13_Full a1).bind fun (y1 : Int × Unit) =>
 some (w64 (y1.1 + 1), ()) := mk_is (by kernel_rfl)
theorem q_besomref13_Next_eq (a1 : Sbesomref12_Plan) : q_besomref13_Next a1 =
 (q_besomref13_Empty a1).bind fun (y1 : Int × Unit) =>
 some (y1.1, ()) := mk_is (by kernel_rfl)
theorem q_besomref14_List_eq (a1 : Sbesomref13_State) (a2 : Int) : q_besomref14_List a1 a2 =
 bif decide (a2 = 0) then
  (q_besomref13_Empty a1.P).bind fun (y1 : Int × Unit) =>
  (q_besomref13_Next a1.P).bind fun (y2 : Int × Unit) =>
  (q_besomref08_Start 2 y1.1 y2.1 0).bind fun (y3 : Sbesomref08_Machine × Unit) =>
  some (y3.1, ())
 else
  (q_besomref13_Full a1.P).bind fun (y4 : Int × Unit) =>
  (q_besomref13_Next a1.P).bind fun (y5 : Int × Unit) =>
  (q_besomref08_Start 1 y4.1 y5.1 a2).bind fun (y6 : Sbesomref08_Machine × Unit) =>
  some (y6.1, ()) := mk_is (by kernel_rfl)
theorem q_besomref02_object_eq (a1 : Int) : q_besomref02_object a1 =
 bif decide (1 ≤ a1) then
  some (decide (a1 ≤ 64), ())
 else
  some (false, ()) := mk_is (by kernel_rfl)
theorem q_besomref02_Has_eq (a1 : BitVec 64) (a2 : Int) : q_besomref02_Has a1 a2 =
 (q_besomref02_object a2).bind fun (y1 : Bool × Unit) =>
 bif y1.1 then
  bif decide ((w64 (a2 - 1)) < 0) then
   none
  else
   some (decide (((a1 >>> min (w64 (a2 - 1)).toNat 64) % 2#64) = 1#64), ())
 else
  some (false, ()) := mk_is (by kernel_rfl)
theorem q_besomref02_Add_eq (a1 : BitVec 64) (a2 : Int) : q_besomref02_Add a1 a2 =
 (q_besomref02_object a2).bind fun (y1 : Bool × Unit) =>
 bif !y1.1 then
  some (a1, ())
 else
  bif decide ((w64 (a2 - 1)) < 0) then
   none
  else
   some (a1 ||| (1#64 <<< min (w64 (a2 - 1)).toNat 64), ()) := mk_is (by kernel_rfl)
theorem q_besomref09_Shade_eq (a1 : Sbesomref09_Tint) (a2 : Int) : q_besomref09_Shade a1 a2 =
 bif decide (a2 < 1) then
  some (a1, false, ())
 else
  bif decide (64 < a2) then
   some (a1, false, ())
  else
   (q_besomref02_Has a1.Marks a2).bind fun (y1 : Bool × Unit) =>
   bif y1.1 then
    some (a1, false, ())
   else
    (q_besomref02_Has a1.Black a2).bind fun (y2 : Bool × Unit) =>
    bif y2.1 then
     some (a1, false, ())
    else
     (q_besomref02_Add a1.Marks a2).bind fun (y3 : (BitVec 64) × Unit) =>
     some ({ a1 with Marks := y3.1 }, true, ()) := mk_is (by kernel_rfl)
theorem q_besomref07_Start_eq (a1 : Int) (a2 : Int) (a3 : Int) (a4 : Int) : q_besomref07_Start a1 a2 a3 a4 =
 some (Sbesomref07_Machine.mk a1 0 a2 a3 0#64 0#64 a4 0, ()) := mk_is (by kernel_rfl)
theorem q_besomref14_mark_eq (a1 : Sbesomref13_State) (a2 : Sbesomref13_Grey) : q_besomref14_mark a1 a2 =
 (q_besomref09_Shade a1.T a2.Obj).bind fun (y1 : Sbesomref09_Tint × Bool × Unit) =>
 bif !y1.2.1 then
  some (a1, { a2 with PC := 2 }, ())
 else
  bif decide (a2.Mode = 1) then
   (q_besomref13_Deque a1.P a2.Who).bind fun (y2 : Int × Unit) =>
   (q_besomref07_Start 1 y2.1 a1.P.Cap a2.Obj).bind fun (y3 : Sbesomref07_Machine × Unit) =>
   some ({ a1 with T := y1.1 }, { a2 with PC := 3, D := y3.1 }, ())
  else
   bif decide (a2.Mode = 2) then
    some ({ a1 with T := y1.1 }, { a2 with PC := 4 }, ())
   else
    (q_besomref14_List ({ a1 with T := y1.1 }) 0).bind fun (y4 : Sbesomref08_Machine × Unit) =>
    some ({ a1 with T := y1.1 }, { a2 with PC := 5, C := y4.1 }, ()) := mk_is (by kernel_rfl)
theorem q_besomref05_Do_eq (a1 : List (BitVec 64)) (a2 : Sbesomref05_Op) : q_besomref05_Do a1 a2 =
 bif decide (a2.At < 0) then
  some (a1, 0#64, false, ())
 else
  bif decide (((a1.length : Int)) ≤ a2.At) then
   some (a1, 0#64, false, ())
  else
   bif decide (a2.Kind < 1) then
    some (a1, 0#64, false, ())
   else
    bif decide (4 < a2.Kind) then
     some (a1, 0#64, false, ())
    else
     (idx a1 a2.At).bind fun x1 =>
     bif decide (a2.Kind = 1) then
      some (a1, x1, true, ())
     else
      bif decide (a2.Kind = 3) then
       bif !(decide (x1 = a2.A)) then
        some (a1, x1, false, ())
       else
        (room a1).bind fun l2 =>
        bif decide (a2.Kind = 2) then
         (idxn l2 a2.At).bind fun n3 =>
         some (l2.set n3 a2.A, x1, true, ())
        else
         bif decide (a2.Kind = 3) then
          (idxn l2 a2.At).bind fun n4 =>
          some (l2.set n4 a2.B, x1, true, ())
         else
          bif decide (a2.Kind = 4) then
           (idxn l2 a2.At).bind fun n5 =>
           some (l2.set n5 (x1 + a2.A), x1, true, ())
          else
           some (l2, x1, true, ())
      else
       (room a1).bind fun l6 =>
       bif decide (a2.Kind = 2) then
        (idxn l6 a2.At).bind fun n7 =>
        some (l6.set n7 a2.A, x1, true, ())
       else
        bif decide (a2.Kind = 3) then
         (idxn l6 a2.At).bind fun n8 =>
         some (l6.set n8 a2.B, x1, true, ())
        else
         bif decide (a2.Kind = 4) then
          (idxn l6 a2.At).bind fun n9 =>
          some (l6.set n9 (x1 + a2.A), x1, true, ())
         else
          some (l6, x1, true, ()) := mk_is (by kernel_rfl)
theorem q_besomref07_load_eq (a1 : List (BitVec 64)) (a2 : Int) : q_besomref07_load a1 a2 =
 (q_besomref05_Do a1 (Sbesomref05_Op.mk 1 a2 0#64 0#64)).bind fun (y1 : (List (BitVec 64)) × (BitVec 64) × Bool × Unit) =>
 some (y1.2.1, ()) := mk_is (by kernel_rfl)
theorem q_besomref07_store_eq (a1 : List (BitVec 64)) (a2 : Int) (a3 : BitVec 64) : q_besomref07_store a1 a2 a3 =
 (q_besomref05_Do a1 (Sbesomref05_Op.mk 2 a2 a3 0#64)).bind fun (y1 : (List (BitVec 64)) × (BitVec 64) × Bool × Unit) =>
 some (y1.1, ()) := mk_is (by kernel_rfl)
theorem q_besomref07_place_eq (a1 : Sbesomref07_Machine) (a2 : BitVec 64) : q_besomref07_place a1 a2 =
 bif decide ((BitVec.ofInt 64 (bif decide (a1.Cap < 1) then 1 else a1.Cap)) = 0#64) then
  none
 else
  some (w64 ((w64 (a1.Base + 2)) + ((a2 % (BitVec.ofInt 64 (bif decide (a1.Cap < 1) then 1 else a1.Cap))).toInt)), ()) := mk_is (by kernel_rfl)
theorem q_besomref07_push_eq (a1 : List (BitVec 64)) (a2 : Sbesomref07_Machine) : q_besomref07_push a1 a2 =
 bif decide (a2.PC = 0) then
  (q_besomref07_load a1 (w64 (a2.Base + 1))).bind fun (y1 : (BitVec 64) × Unit) =>
  some (a1, { a2 with PC := w64 (a2.PC + 1), B := y1.1 }, ())
 else
  bif decide (a2.PC = 1) then
   (q_besomref07_load a1 a2.Base).bind fun (y2 : (BitVec 64) × Unit) =>
   bif decide ((BitVec.ofInt 64 (bif decide (a2.Cap < 1) then 1 else a2.Cap)) ≤ (a2.B - y2.1)) then
    some (a1, { a2 with PC := w64 (a2.PC + 1), T := y2.1, Out := 3 }, ())
   else
    some (a1, { a2 with PC := w64 (a2.PC + 1), T := y2.1 }, ())
  else
   bif decide (a2.PC = 2) then
    (q_besomref07_place a2 a2.B).bind fun (y3 : Int × Unit) =>
    (q_besomref07_store a1 y3.1 (BitVec.ofInt 64 a2.X)).bind fun (y4 : (List (BitVec 64)) × Unit) =>
    some (y4.1, { a2 with PC := w64 (a2.PC + 1) }, ())
   else
    bif decide (a2.PC = 3) then
     (q_besomref07_store a1 (w64 (a2.Base + 1)) (a2.B + 1#64)).bind fun (y5 : (List (BitVec 64)) × Unit) =>
     some (y5.1, { a2 with PC := w64 (a2.PC + 1), Out := 1 }, ())
    else
     some (a1, a2, ()) := mk_is (by kernel_rfl)
theorem q_besomref07_swap_eq (a1 : List (BitVec 64)) (a2 : Int) (a3 : BitVec 64) (a4 : BitVec 64) : q_besomref07_swap a1 a2 a3 a4 =
 (q_besomref05_Do a1 (Sbesomref05_Op.mk 3 a2 a3 a4)).bind fun (y1 : (List (BitVec 64)) × (BitVec 64) × Bool × Unit) =>
 some (y1.1, y1.2.2.1, ()) := mk_is (by kernel_rfl)
theorem q_besomref07_pop_eq (a1 : List (BitVec 64)) (a2 : Sbesomref07_Machine) : q_besomref07_pop a1 a2 =
 bif decide (a2.PC = 0) then
  (q_besomref07_load a1 (w64 (a2.Base + 1))).bind fun (y1 : (BitVec 64) × Unit) =>
  some (a1, { a2 with PC := w64 (a2.PC + 1), B := y1.1 }, ())
 else
  bif decide (a2.PC = 1) then
   (q_besomref07_store a1 (w64 (a2.Base + 1)) (a2.B - 1#64)).bind fun (y2 : (List (BitVec 64)) × Unit) =>
   some (y2.1, { a2 with PC := w64 (a2.PC + 1) }, ())
  else
   bif decide (a2.PC = 2) then
    (q_besomref07_load a1 a2.Base).bind fun (y3 : (BitVec 64) × Unit) =>
    bif decide (0 < ((y3.1 - (a2.B - 1#64)).toInt)) then
     some (a1, { a2 with PC := 5, T := y3.1 }, ())
    else
     some (a1, { a2 with PC := w64 (a2.PC + 1), T := y3.1 }, ())
   else
    bif decide (a2.PC = 3) then
     (q_besomref07_place a2 (a2.B - 1#64)).bind fun (y4 : Int × Unit) =>
     (q_besomref07_load a1 y4.1).bind fun (y5 : (BitVec 64) × Unit) =>
     bif !(decide (a2.T = (a2.B - 1#64))) then
      some (a1, { a2 with PC := w64 (a2.PC + 1), X := y5.1.toInt, Out := 1 }, ())
     else
      some (a1, { a2 with PC := w64 (a2.PC + 1), X := y5.1.toInt }, ())
    else
     bif decide (a2.PC = 4) then
      (q_besomref07_swap a1 a2.Base a2.T (a2.T + 1#64)).bind fun (y6 : (List (BitVec 64)) × Bool × Unit) =>
      bif y6.2.1 then
       some (y6.1, { a2 with PC := 6 }, ())
      else
       some (y6.1, { a2 with PC := w64 (a2.PC + 1) }, ())
     else
      bif decide (a2.PC = 5) then
       (q_besomref07_store a1 (w64 (a2.Base + 1)) a2.B).bind fun (y7 : (List (BitVec 64)) × Unit) =>
       some (y7.1, { a2 with PC := w64 (a2.PC + 1), X := 0, Out := 2 }, ())
      else
       bif decide (a2.PC = 6) then
        (q_besomref07_store a1 (w64 (a2.Base + 1)) a2.B).bind fun (y8 : (List (BitVec 64)) × Unit) =>
        some (y8.1, { a2 with PC := w64 (a2.PC + 1), Out := 1 }, ())
       else
        some (a1, a2, ()) := mk_is (by kernel_rfl)
theorem q_besomref07_steal_eq (a1 : List (BitVec 64)) (a2 : Sbesomref07_Machine) : q_besomref07_steal a1 a2 =
 bif decide (a2.PC = 0) then
  (q_besomref07_load a1 a2.Base).bind fun (y1 : (BitVec 64) × Unit) =>
  some (a1, { a2 with PC := w64 (a2.PC + 1), T := y1.1 }, ())
 else
  bif decide (a2.PC = 1) then
   (q_besomref07_load a1 (w64 (a2.Base + 1))).bind fun (y2 : (BitVec 64) × Unit) =>
   bif decide (((y2.1 - a2.T).toInt) ≤ 0) then
    some (a1, { a2 with PC := w64 (a2.PC + 1), B := y2.1, Out := 2 }, ())
   else
    some (a1, { a2 with PC := w64 (a2.PC + 1), B := y2.1 }, ())
  else
   bif decide (a2.PC = 2) then
    (q_besomref07_place a2 a2.T).bind fun (y3 : Int × Unit) =>
    (q_besomref07_load a1 y3.1).bind fun (y4 : (BitVec 64) × Unit) =>
    some (a1, { a2 with PC := w64 (a2.PC + 1), X := y4.1.toInt }, ())
   else
    bif decide (a2.PC = 3) then
     (q_besomref07_swap a1 a2.Base a2.T (a2.T + 1#64)).bind fun (y5 : (List (BitVec 64)) × Bool × Unit) =>
     bif !y5.2.1 then
      some (y5.1, { a2 with PC := w64 (a2.PC + 1), X := 0, Out := 4 }, ())
     else
      some (y5.1, { a2 with PC := w64 (a2.PC + 1), Out := 1 }, ())
    else
     some (a1, a2, ()) := mk_is (by kernel_rfl)
theorem q_besomref07_Step_eq (a1 : List (BitVec 64)) (a2 : Sbesomref07_Machine) : q_besomref07_Step a1 a2 =
 bif !(decide (a2.Out = 0)) then
  some (a1, a2, ())
 else
  bif decide (a2.Kind = 1) then
   (q_besomref07_push a1 a2).bind fun (y1 : (List (BitVec 64)) × Sbesomref07_Machine × Unit) =>
   some (y1.1, y1.2.1, ())
  else
   bif decide (a2.Kind = 2) then
    (q_besomref07_pop a1 a2).bind fun (y2 : (List (BitVec 64)) × Sbesomref07_Machine × Unit) =>
    some (y2.1, y2.2.1, ())
   else
    bif decide (a2.Kind = 3) then
     (q_besomref07_steal a1 a2).bind fun (y3 : (List (BitVec 64)) × Sbesomref07_Machine × Unit) =>
     some (y3.1, y3.2.1, ())
    else
     some (a1, a2, ()) := mk_is (by kernel_rfl)
theorem q_besomref08_load_eq (a1 : List (BitVec 64)) (a2 : Int) : q_besomref08_load a1 a2 =
 (q_besomref05_Do a1 (Sbesomref05_Op.mk 1 a2 0#64 0#64)).bind fun (y1 : (List (BitVec 64)) × (BitVec 64) × Bool × Unit) =>
 some (y1.2.1, ()) := mk_is (by kernel_rfl)
theorem q_besomref08_Node_eq (a1 : BitVec 64) : q_besomref08_Node a1 =
 some ((a1 % 4294967296#64).toInt, ()) := mk_is (by kernel_rfl)
theorem q_besomref08_store_eq (a1 : List (BitVec 64)) (a2 : Int) (a3 : BitVec 64) : q_besomref08_store a1 a2 a3 =
 (q_besomref05_Do a1 (Sbesomref05_Op.mk 2 a2 a3 0#64)).bind fun (y1 : (List (BitVec 64)) × (BitVec 64) × Bool × Unit) =>
 some (y1.1, ()) := mk_is (by kernel_rfl)
theorem q_besomref08_Pack_eq (a1 : BitVec 64) (a2 : Int) : q_besomref08_Pack a1 a2 =
 some (((a1 % 4294967296#64) <<< 32) + ((BitVec.ofInt 64 a2) % 4294967296#64), ()) := mk_is (by kernel_rfl)
theorem q_besomref08_swap_eq (a1 : List (BitVec 64)) (a2 : Sbesomref08_Machine) (a3 : Int) : q_besomref08_swap a1 a2 a3 =
 (q_besomref08_Pack ((a2.H >>> 32) + 1#64) a3).bind fun (y1 : (BitVec 64) × Unit) =>
 (q_besomref05_Do a1 (Sbesomref05_Op.mk 3 a2.Head a2.H y1.1)).bind fun (y2 : (List (BitVec 64)) × (BitVec 64) × Bool × Unit) =>
 some (y2.1, y2.2.2.1, ()) := mk_is (by kernel_rfl)
end Go.Pe.G
namespace Go.Pe.G
open Go.Pe
theorem q_besomref08_Step_eq (a1 : List (BitVec 64)) (a2 : Sbesomref08_Machine) : q_besomref08_Step a1 a2 =
 bif !(decide (a2.Out = 0)) then
  some (a1, a2, ())
 else
  bif decide (a2.PC < 0) then
   some (a1, a2, ())
  else
   bif decide (2 < a2.PC) then
    some (a1, a2, ())
   else
    bif !(decide (a2.Kind = 1)) then
     bif !(decide (a2.Kind = 2)) then
      some (a1, a2, ())
     else
      bif decide (a2.PC = 0) then
       (q_besomref08_load a1 a2.Head).bind fun (y1 : (BitVec 64) × Unit) =>
       bif !(decide (a2.Kind = 1)) then
        (q_besomref08_Node y1.1).bind fun (y2 : Int × Unit) =>
        bif decide (y2.1 = 0) then
         some (a1, { a2 with PC := w64 (a2.PC + 1), H := y1.1, Out := 2 }, ())
        else
         some (a1, { a2 with PC := w64 (a2.PC + 1), H := y1.1 }, ())
       else
        some (a1, { a2 with PC := w64 (a2.PC + 1), H := y1.1 }, ())
      else
       bif decide (a2.PC = 1) then
        bif decide (a2.Kind = 1) then
         (q_besomref08_Node a2.H).bind fun (y3 : Int × Unit) =>
         (q_besomref08_store a1 (w64 (a2.Next + a2.X)) (BitVec.ofInt 64 y3.1)).bind fun (y4 : (List (BitVec 64)) × Unit) =>
         some (y4.1, { a2 with PC := w64 (a2.PC + 1) }, ())
        else
         bif decide (a2.PC = 1) then
          (q_besomref08_Node a2.H).bind fun (y5 : Int × Unit) =>
          (q_besomref08_load a1 (w64 (a2.Next + y5.1))).bind fun (y6 : (BitVec 64) × Unit) =>
          some (a1, { a2 with PC := w64 (a2.PC + 1), Y := y6.1.toInt }, ())
         else
          bif decide (a2.Kind = 1) then
           (q_besomref08_swap a1 a2 a2.X).bind fun (y7 : (List (BitVec 64)) × Bool × Unit) =>
           bif !y7.2.1 then
            some (y7.1, { a2 with PC := 0 }, ())
           else
            bif !(decide (a2.Kind = 1)) then
             (q_besomref08_Node a2.H).bind fun (y8 : Int × Unit) =>
             some (y7.1, { a2 with PC := w64 (a2.PC + 1), X := y8.1, Out := 1 }, ())
            else
             some (y7.1, { a2 with PC := w64 (a2.PC + 1), Out := 1 }, ())
          else
           (q_besomref08_swap a1 a2 a2.Y).bind fun (y9 : (List (BitVec 64)) × Bool × Unit) =>
           bif !y9.2.1 then
            some (y9.1, { a2 with PC := 0 }, ())
           else
            bif !(decide (a2.Kind = 1)) then
             (q_besomref08_Node a2.H).bind fun (y10 : Int × Unit) =>
             some (y9.1, { a2 with PC := w64 (a2.PC + 1), X := y10.1, Out := 1 }, ())
            else
             some (y9.1, { a2 with PC := w64 (a2.PC + 1), Out := 1 }, ())
       else
        bif decide (a2.PC = 1) then
         (q_besomref08_Node a2.H).bind fun (y11 : Int × Unit) =>
         (q_besomref08_load a1 (w64 (a2.Next + y11.1))).bind fun (y12 : (BitVec 64) × Unit) =>
         some (a1, { a2 with PC := w64 (a2.PC + 1), Y := y12.1.toInt }, ())
        else
         bif decide (a2.Kind = 1) then
          (q_besomref08_swap a1 a2 a2.X).bind fun (y13 : (List (BitVec 64)) × Bool × Unit) =>
          bif !y13.2.1 then
           some (y13.1, { a2 with PC := 0 }, ())
          else
           bif !(decide (a2.Kind = 1)) then
            (q_besomref08_Node a2.H).bind fun (y14 : Int × Unit) =>
            some (y13.1, { a2 with PC := w64 (a2.PC + 1), X := y14.1, Out := 1 }, ())
           else
            some (y13.1, { a2 with PC := w64 (a2.PC + 1), Out := 1 }, ())
         else
          (q_besomref08_swap a1 a2 a2.Y).bind fun (y15 : (List (BitVec 64)) × Bool × Unit) =>
          bif !y15.2.1 then
           some (y15.1, { a2 with PC := 0 }, ())
          else
           bif !(decide (a2.Kind = 1)) then
            (q_besomref08_Node a2.H).bind fun (y16 : Int × Unit) =>
            some (y15.1, { a2 with PC := w64 (a2.PC + 1), X := y16.1, Out := 1 }, ())
           else
            some (y15.1, { a2 with PC := w64 (a2.PC + 1), Out := 1 }, ())
    else
     bif decide (a2.PC = 0) then
      (q_besomref08_load a1 a2.Head).bind fun (y17 : (BitVec 64) × Unit) =>
      bif !(decide (a2.Kind = 1)) then
       (q_besomref08_Node y17.1).bind fun (y18 : Int × Unit) =>
       bif decide (y18.1 = 0) then
        some (a1, { a2 with PC := w64 (a2.PC + 1), H := y17.1, Out := 2 }, ())
       else
        some (a1, { a2 with PC := w64 (a2.PC + 1), H := y17.1 }, ())
      else
       some (a1, { a2 with PC := w64 (a2.PC + 1), H := y17.1 }, ())
     else
      bif decide (a2.PC = 1) then
       bif decide (a2.Kind = 1) then
        (q_besomref08_Node a2.H).bind fun (y19 : Int × Unit) =>
        (q_besomref08_store a1 (w64 (a2.Next + a2.X)) (BitVec.ofInt 64 y19.1)).bind fun (y20 : (List (BitVec 64)) × Unit) =>
        some (y20.1, { a2 with PC := w64 (a2.PC + 1) }, ())
       else
        bif decide (a2.PC = 1) then
         (q_besomref08_Node a2.H).bind fun (y21 : Int × Unit) =>
         (q_besomref08_load a1 (w64 (a2.Next + y21.1))).bind fun (y22 : (BitVec 64) × Unit) =>
         some (a1, { a2 with PC := w64 (a2.PC + 1), Y := y22.1.toInt }, ())
        else
         bif decide (a2.Kind = 1) then
          (q_besomref08_swap a1 a2 a2.X).bind fun (y23 : (List (BitVec 64)) × Bool × Unit) =>
          bif !y23.2.1 then
           some (y23.1, { a2 with PC := 0 }, ())
          else
           bif !(decide (a2.Kind = 1)) then
            (q_besomref08_Node a2.H).bind fun (y24 : Int × Unit) =>
            some (y23.1, { a2 with PC := w64 (a2.PC + 1), X := y24.1, Out := 1 }, ())
           else
            some (y23.1, { a2 with PC := w64 (a2.PC + 1), Out := 1 }, ())
         else
          (q_besomref08_swap a1 a2 a2.Y).bind fun (y25 : (List (BitVec 64)) × Bool × Unit) =>
          bif !y25.2.1 then
           some (y25.1, { a2 with PC := 0 }, ())
          else
           bif !(decide (a2.Kind = 1)) then
            (q_besomref08_Node a2.H).bind fun (y26 : Int × Unit) =>
            some (y25.1, { a2 with PC := w64 (a2.PC + 1), X := y26.1, Out := 1 }, ())
           else
            some (y25.1, { a2 with PC := w64 (a2.PC + 1), Out := 1 }, ())
      else
       bif decide (a2.PC = 1) then
        (q_besomref08_Node a2.H).bind fun (y27 : Int × Unit) =>
        (q_besomref08_load a1 (w64 (a2.Next + y27.1))).bind fun (y28 : (BitVec 64) × Unit) =>
        some (a1, { a2 with PC := w64 (a2.PC + 1), Y := y28.1.toInt }, ())
       else
        bif decide (a2.Kind = 1) then
         (q_besomref08_swap a1 a2 a2.X).bind fun (y29 : (List (BitVec 64)) × Bool × Unit) =>
         bif !y29.2.1 then
          some (y29.1, { a2 with PC := 0 }, ())
         else
          bif !(decide (a2.Kind = 1)) then
           (q_besomref08_Node a2.H).bind fun (y30 : Int × Unit) =>
           some (y29.1, { a2 with PC := w64 (a2.PC + 1), X := y30.1, Out := 1 }, ())
          else
           some (y29.1, { a2 with PC := w64 (a2.PC + 1), Out := 1 }, ())
        else
         (q_besomref08_swap a1 a2 a2.Y).bind fun (y31 : (List (BitVec 64)) × Bool × Unit) =>
         bif !y31.2.1 then
          some (y31.1, { a2 with PC := 0 }, ())
         else
          bif !(decide (a2.Kind = 1)) then
           (q_besomref08_Node a2.H).bind fun (y32 : Int × Unit) =>
           some (y31.1, { a2 with PC := w64 (a2.PC + 1), X := y32.1, Out := 1 }, ())
          else
           some (y31.1, { a2 with PC := w64 (a2.PC + 1), Out := 1 }, ()) := mk_is (by kernel_rfl)
theorem q_besomref14_Put_eq (a1 : Sbesomref13_State) (a2 : Int) (a3 : List Int) : q_besomref14_Put a1 a2 a3 =
 (room a1.Bins).bind fun l1 =>
 (idxn l1 a2).bind fun n2 =>
 some ({ a1 with Bins := l1.set n2 a3 }, ()) := mk_is (by kernel_rfl)
theorem q_besomref14_Step_eq (a1 : Sbesomref13_State) (a2 : Sbesomref13_Grey) : q_besomref14_Step a1 a2 =
 bif !(decide (a2.Out = 0)) then
  some (a1, a2, ())
 else
  bif decide (a2.Mode < 1) then
   some (a1, a2, ())
  else
   bif decide (3 < a2.Mode) then
    some (a1, a2, ())
   else
    bif decide (a2.PC = 0) then
     some ({ a1 with Work := w64 (a1.Work + 1) }, { a2 with PC := 1 }, ())
    else
     bif decide (a2.PC = 1) then
      (q_besomref14_mark a1 a2).bind fun (y1 : Sbesomref13_State × Sbesomref13_Grey × Unit) =>
      some (y1.1, y1.2.1, ())
     else
      bif decide (a2.PC = 2) then
       some ({ a1 with Work := w64 (a1.Work - 1) }, { a2 with Out := 1 }, ())
      else
       bif decide (a2.PC = 3) then
        (q_besomref07_Step a1.M a2.D).bind fun (y2 : (List (BitVec 64)) × Sbesomref07_Machine × Unit) =>
        bif decide (y2.2.1.Out = 1) then
         bif decide (y2.2.1.Out = 3) then
          (q_besomref14_List ({ a1 with M := y2.1 }) 0).bind fun (y3 : Sbesomref08_Machine × Unit) =>
          some ({ a1 with M := y2.1 }, { a2 with PC := 5, D := y2.2.1, C := y3.1, Out := 1 }, ())
         else
          some ({ a1 with M := y2.1 }, { a2 with D := y2.2.1, Out := 1 }, ())
        else
         bif decide (y2.2.1.Out = 3) then
          (q_besomref14_List ({ a1 with M := y2.1 }) 0).bind fun (y4 : Sbesomref08_Machine × Unit) =>
          some ({ a1 with M := y2.1 }, { a2 with PC := 5, D := y2.2.1, C := y4.1 }, ())
         else
          some ({ a1 with M := y2.1 }, { a2 with D := y2.2.1 }, ())
       else
        bif decide (a2.PC = 4) then
         (q_besomref14_List ({ a1 with Flag := true }) 0).bind fun (y5 : Sbesomref08_Machine × Unit) =>
         some ({ a1 with Flag := true }, { a2 with PC := 5, C := y5.1 }, ())
        else
         bif decide (a2.PC = 5) then
          (q_besomref08_Step a1.M a2.C).bind fun (y6 : (List (BitVec 64)) × Sbesomref08_Machine × Unit) =>
          bif decide (y6.2.1.Out = 1) then
           bif decide (y6.2.1.Out = 2) then
            (q_besomref14_List ({ a1 with M := y6.1 }) 0).bind fun (y7 : Sbesomref08_Machine × Unit) =>
            some ({ a1 with M := y6.1 }, { a2 with PC := 6, C := y7.1, Bin := y6.2.1.X }, ())
           else
            some ({ a1 with M := y6.1 }, { a2 with PC := 6, C := y6.2.1, Bin := y6.2.1.X }, ())
          else
           bif decide (y6.2.1.Out = 2) then
            (q_besomref14_List ({ a1 with M := y6.1 }) 0).bind fun (y8 : Sbesomref08_Machine × Unit) =>
            some ({ a1 with M := y6.1 }, { a2 with C := y8.1 }, ())
           else
            some ({ a1 with M := y6.1 }, { a2 with C := y6.2.1 }, ())
         else
          bif decide (a2.PC = 6) then
           (q_besomref14_Put a1 a2.Bin ([a2.Obj] : List Int)).bind fun (y9 : Sbesomref13_State × Unit) =>
           (q_besomref14_List y9.1 a2.Bin).bind fun (y10 : Sbesomref08_Machine × Unit) =>
           some (y9.1, { a2 with PC := 7, C := y10.1 }, ())
          else
           bif decide (a2.PC = 7) then
            (q_besomref08_Step a1.M a2.C).bind fun (y11 : (List (BitVec 64)) × Sbesomref08_Machine × Unit) =>
            bif decide (y11.2.1.Out = 1) then
             some ({ a1 with M := y11.1 }, { a2 with C := y11.2.1, Out := 1 }, ())
            else
             some ({ a1 with M := y11.1 }, { a2 with C := y11.2.1 }, ())
           else
            some (a1, a2, ()) := mk_is (by kernel_rfl)
theorem p_besomref03_Same_r4_eq (s1 : Int) (s2 : Sbesomref03_Heap) (s3 : Sbesomref03_Heap) : p_besomref03_Same_r4 (s1, s2, s3, ()) =
 bif decide (s1 < ((s2.Objs.length : Int))) then
  (idx s2.Objs s1).bind fun x1 =>
  (idx s3.Objs s1).bind fun x2 =>
  bif !(decide (((x1.length : Int)) = ((x2.length : Int)))) then
   some (.ret (false, ()))
  else
   (loopF p_besomref03_Same_r9 (s1, 0, s2, s3, ())).bind fun st => match st with
    | .again _ => none
    | .brk (y3 : Int × Sbesomref03_Heap × Sbesomref03_Heap × Unit) =>
     some (.again (w64 (y3.1 + 1), y3.2.1, y3.2.2.1, ()))
    | .ret (y3 : Bool × Unit) =>
     some (.ret (y3.1, ()))
 else
  some (.brk (())) := by kernel_rfl
theorem p_besomref03_Same_r9_eq (s1 : Int) (s2 : Int) (s3 : Sbesomref03_Heap) (s4 : Sbesomref03_Heap) : p_besomref03_Same_r9 (s1, s2, s3, s4, ()) =
 (idx s3.Objs s1).bind fun x1 =>
 bif decide (s2 < ((x1.length : Int))) then
  (idx s3.Objs s1).bind fun x2 =>
  (idx x2 s2).bind fun x3 =>
  (idx s4.Objs s1).bind fun x4 =>
  (idx x4 s2).bind fun x5 =>
  bif !(decide (x3 = x5)) then
   some (.ret (false, ()))
  else
   some (.again (s1, w64 (s2 + 1), s3, s4, ()))
 else
  some (.brk (s1, s3, s4, ())) := by kernel_rfl
theorem q_besomref03_Same_eq (a1 : Sbesomref03_Heap) (a2 : Sbesomref03_Heap) : q_besomref03_Same a1 a2 =
 bif !(decide (a1.Slots = a2.Slots)) then
  some (false, ())
 else
  bif !(decide (((a1.Objs.length : Int)) = ((a2.Objs.length : Int)))) then
   some (false, ())
  else
   (loopF p_besomref03_Same_r4 (0, a1, a2, ())).bind fun st => match st with
    | .again _ => none
    | .brk (y1 : Unit) =>
     some (true, ())
    | .ret (y1 : Bool × Unit) =>
     some (y1.1, ()) := mk_is (by kernel_rfl)
theorem p_besomref12_Same_r4_eq (s1 : Int) (s2 : Sbesomref12_Plan) (s3 : Sbesomref12_Plan) : p_besomref12_Same_r4 (s1, s2, s3, ()) =
 bif decide (s1 < ((s2.Regs.length : Int))) then
  (idx s2.Regs s1).bind fun x1 =>
  (idx s3.Regs s1).bind fun x2 =>
  bif !(decide (((x1.length : Int)) = ((x2.length : Int)))) then
   some (.ret (false, ()))
  else
   (loopF p_besomref12_Same_r9 (s1, 0, s2, s3, ())).bind fun st => match st with
    | .again _ => none
    | .brk (y3 : Int × Sbesomref12_Plan × Sbesomref12_Plan × Unit) =>
     some (.again (w64 (y3.1 + 1), y3.2.1, y3.2.2.1, ()))
    | .ret (y3 : Bool × Unit) =>
     some (.ret (y3.1, ()))
 else
  some (.brk (s2, s3, ())) := by kernel_rfl
theorem p_besomref12_Same_r9_eq (s1 : Int) (s2 : Int) (s3 : Sbesomref12_Plan) (s4 : Sbesomref12_Plan) : p_besomref12_Same_r9 (s1, s2, s3, s4, ()) =
 (idx s3.Regs s1).bind fun x1 =>
 bif decide (s2 < ((x1.length : Int))) then
  (idx s3.Regs s1).bind fun x2 =>
  (idx x2 s2).bind fun x3 =>
  (idx s4.Regs s1).bind fun x4 =>
  (idx x4 s2).bind fun x5 =>
  bif !(decide (x3 = x5)) then
   some (.ret (false, ()))
  else
   some (.again (s1, w64 (s2 + 1), s3, s4, ()))
 else
  some (.brk (s1, s3, s4, ())) := by kernel_rfl
theorem p_besomref12_Same_r14_eq (s1 : Int) (s2 : Sbesomref12_Plan) (s3 : Sbesomref12_Plan) : p_besomref12_Same_r14 (s1, s2, s3, ()) =
 bif decide (s1 < ((s2.Progs.length : Int))) then
  (idx s2.Progs s1).bind fun x1 =>
  (idx s3.Progs s1).bind fun x2 =>
  bif !(decide (((x1.length : Int)) = ((x2.length : Int)))) then
   some (.ret (false, ()))
  else
   (loopF p_besomref12_Same_r19 (s1, 0, s2, s3, ())).bind fun st => match st with
    | .again _ => none
    | .brk (y3 : Int × Sbesomref12_Plan × Sbesomref12_Plan × Unit) =>
     some (.again (w64 (y3.1 + 1), y3.2.1, y3.2.2.1, ()))
    | .ret (y3 : Bool × Unit) =>
     some (.ret (y3.1, ()))
 else
  some (.brk (s2, s3, ())) := by kernel_rfl
theorem p_besomref12_Same_r19_eq (s1 : Int) (s2 : Int) (s3 : Sbesomref12_Plan) (s4 : Sbesomref12_Plan) : p_besomref12_Same_r19 (s1, s2, s3, s4, ()) =
 (idx s3.Progs s1).bind fun x1 =>
 bif decide (s2 < ((x1.length : Int))) then
  (idx s3.Progs s1).bind fun x2 =>
  (idx x2 s2).bind fun x3 =>
  (idx s4.Progs s1).bind fun x4 =>
  (idx x4 s2).bind fun x5 =>
  bif !((decide (x3.Kind = x5.Kind)) && ((decide (x3.R = x5.R)) && ((decide (x3.A = x5.A)) && (decide (x3.S = x5.S))))) then
   some (.ret (false, ()))
  else
   some (.again (s1, w64 (s2 + 1), s3, s4, ()))
 else
  some (.brk (s1, s3, s4, ())) := by kernel_rfl
theorem p_besomref12_Same_r24_eq (s1 : Int) (s2 : Sbesomref12_Plan) (s3 : Sbesomref12_Plan) : p_besomref12_Same_r24 (s1, s2, s3, ()) =
 bif decide (s1 < ((s2.Picks.length : Int))) then
  (idx s2.Picks s1).bind fun x1 =>
  (idx s3.Picks s1).bind fun x2 =>
  bif !((decide (x1.Kind = x2.Kind)) && (decide (x1.N = x2.N))) then
   some (.ret (false, ()))
  else
   some (.again (w64 (s1 + 1), s2, s3, ()))
 else
  some (.brk (())) := by kernel_rfl
theorem q_besomref12_Same_eq (a1 : Sbesomref12_Plan) (a2 : Sbesomref12_Plan) : q_besomref12_Same a1 a2 =
 bif !(decide (a1.Workers = a2.Workers)) then
  some (false, ())
 else
  bif !(decide (a1.Mutators = a2.Mutators)) then
   some (false, ())
  else
   bif !(decide (a1.Cap = a2.Cap)) then
    some (false, ())
   else
    bif !(decide (a1.Buf = a2.Buf)) then
     some (false, ())
    else
     bif !(decide (a1.Bin = a2.Bin)) then
      some (false, ())
     else
      bif !(decide (a1.Most = a2.Most)) then
       some (false, ())
      else
       bif !(decide (a1.Price = a2.Price)) then
        some (false, ())
       else
        bif !(decide (a1.Limit = a2.Limit)) then
         some (false, ())
        else
         bif !(decide (a1.Roots = a2.Roots)) then
          some (false, ())
         else
          (q_besomref03_Same a1.H a2.H).bind fun (y1 : Bool × Unit) =>
          bif !y1.1 then
           some (false, ())
          else
           bif !(decide (((a1.Regs.length : Int)) = ((a2.Regs.length : Int)))) then
            some (false, ())
           else
            bif !(decide (((a1.Progs.length : Int)) = ((a2.Progs.length : Int)))) then
             some (false, ())
            else
             bif !(decide (((a1.Picks.length : Int)) = ((a2.Picks.length : Int)))) then
              some (false, ())
             else
              (loopF p_besomref12_Same_r4 (0, a1, a2, ())).bind fun st => match st with
               | .again _ => none
               | .brk (y2 : Sbesomref12_Plan × Sbesomref12_Plan × Unit) =>
                (loopF p_besomref12_Same_r14 (0, y2.1, y2.2.1, ())).bind fun st => match st with
                 | .again _ => none
                 | .brk (y3 : Sbesomref12_Plan × Sbesomref12_Plan × Unit) =>
                  (loopF p_besomref12_Same_r24 (0, y3.1, y3.2.1, ())).bind fun st => match st with
                   | .again _ => none
                   | .brk (y4 : Unit) =>
                    some (true, ())
                   | .ret (y4 : Bool × Unit) =>
                    some (y4.1, ())
                 | .ret (y3 : Bool × Unit) =>
                  some (y3.1, ())
               | .ret (y2 : Bool × Unit) =>
                some (y2.1, ()) := mk_is (by kernel_rfl)
theorem p_besomref05_Same_r4_eq (s1 : List (BitVec 64)) (s2 : List (BitVec 64)) (s3 : Int) : p_besomref05_Same_r4 (s1, s2, s3, ()) =
 bif decide (s3 < ((s1.length : Int))) then
  (idx s1 s3).bind fun x1 =>
  (idx s2 s3).bind fun x2 =>
  bif !(decide (x1 = x2)) then
   some (.ret (false, ()))
  else
   some (.again (s1, s2, w64 (s3 + 1), ()))
 else
  some (.brk (())) := by kernel_rfl
theorem q_besomref05_Same_eq (a1 : List (BitVec 64)) (a2 : List (BitVec 64)) : q_besomref05_Same a1 a2 =
 bif !(decide (((a1.length : Int)) = ((a2.length : Int)))) then
  some (false, ())
 else
  (loopF p_besomref05_Same_r4 (a1, a2, 0, ())).bind fun st => match st with
   | .again _ => none
   | .brk (y1 : Unit) =>
    some (true, ())
   | .ret (y1 : Bool × Unit) =>
    some (y1.1, ()) := mk_is (by kernel_rfl)
theorem p_besomref13_sameInts_r4_eq (s1 : List Int) (s2 : List Int) (s3 : Int) : p_besomref13_sameInts_r4 (s1, s2, s3, ()) =
 bif decide (s3 < ((s1.length : Int))) then
  (idx s1 s3).bind fun x1 =>
  (idx s2 s3).bind fun x2 =>
  bif !(decide (x1 = x2)) then
   some (.ret (false, ()))
  else
   some (.again (s1, s2, w64 (s3 + 1), ()))
 else
  some (.brk (())) := by kernel_rfl
theorem q_besomref13_sameInts_eq (a1 : List Int) (a2 : List Int) : q_besomref13_sameInts a1 a2 =
 bif !(decide (((a1.length : Int)) = ((a2.length : Int)))) then
  some (false, ())
 else
  (loopF p_besomref13_sameInts_r4 (a1, a2, 0, ())).bind fun st => match st with
   | .again _ => none
   | .brk (y1 : Unit) =>
    some (true, ())
   | .ret (y1 : Bool × Unit) =>
    some (y1.1, ()) := mk_is (by kernel_rfl)
theorem p_besomref10_Same_r4_eq (s1 : Int) (s2 : Sbesomref10_Ledger) (s3 : Sbesomref10_Ledger) : p_besomref10_Same_r4 (s1, s2, s3, ()) =
 bif decide (s1 < ((s2.Bal.length : Int))) then
  (idx s2.Bal s1).bind fun x1 =>
  (idx s3.Bal s1).bind fun x2 =>
  bif !(decide (x1 = x2)) then
   some (.ret (false, ()))
  else
   some (.again (w64 (s1 + 1), s2, s3, ()))
 else
  some (.brk (())) := by kernel_rfl
theorem q_besomref10_Same_eq (a1 : Sbesomref10_Ledger) (a2 : Sbesomref10_Ledger) : q_besomref10_Same a1 a2 =
 bif !(decide (a1.Scanned = a2.Scanned)) then
  some (false, ())
 else
  bif !(decide (a1.Spent = a2.Spent)) then
   some (false, ())
  else
   bif !(decide (a1.Pool = a2.Pool)) then
    some (false, ())
   else
    bif !(decide (((a1.Bal.length : Int)) = ((a2.Bal.length : Int)))) then
     some (false, ())
    else
     (loopF p_besomref10_Same_r4 (0, a1, a2, ())).bind fun st => match st with
      | .again _ => none
      | .brk (y1 : Unit) =>
       some (true, ())
      | .ret (y1 : Bool × Unit) =>
       some (y1.1, ()) := mk_is (by kernel_rfl)
theorem q_besomref13_sameWorker_eq (a1 : Sbesomref13_Worker) (a2 : Sbesomref13_Worker) : q_besomref13_sameWorker a1 a2 =
 bif decide (a1.PC = a2.PC) then
  bif decide (a1.Obj = a2.Obj) then
   bif decide (a1.Slot = a2.Slot) then
    bif decide (a1.Victim = a2.Victim) then
     bif decide (a1.Bin = a2.Bin) then
      (q_besomref13_sameInts a1.Batch a2.Batch).bind fun (y1 : Bool × Unit) =>
      bif y1.1 then
       bif (decide (a1.D.Kind = a2.D.Kind)) && ((decide (a1.D.PC = a2.D.PC)) && ((decide (a1.D.Base = a2.D.Base)) && ((decide (a1.D.Cap = a2.D.Cap)) && ((decide (a1.D.B = a2.D.B)) && ((decide (a1.D.T = a2.D.T)) && ((decide (a1.D.X = a2.D.X)) && (decide (a1.D.Out = a2.D.Out)))))))) then
        bif (decide (a1.C.Kind = a2.C.Kind)) && ((decide (a1.C.PC = a2.C.PC)) && ((decide (a1.C.Head = a2.C.Head)) && ((decide (a1.C.Next = a2.C.Next)) && ((decide (a1.C.H = a2.C.H)) && ((decide (a1.C.X = a2.C.X)) && ((decide (a1.C.Y = a2.C.Y)) && (decide (a1.C.Out = a2.C.Out)))))))) then
         some ((decide (a1.G.PC = a2.G.PC)) && ((decide (a1.G.Mode = a2.G.Mode)) && ((decide (a1.G.Obj = a2.G.Obj)) && ((decide (a1.G.Who = a2.G.Who)) && (((decide (a1.G.D.Kind = a2.G.D.Kind)) && ((decide (a1.G.D.PC = a2.G.D.PC)) && ((decide (a1.G.D.Base = a2.G.D.Base)) && ((decide (a1.G.D.Cap = a2.G.D.Cap)) && ((decide (a1.G.D.B = a2.G.D.B)) && ((decide (a1.G.D.T = a2.G.D.T)) && ((decide (a1.G.D.X = a2.G.D.X)) && (decide (a1.G.D.Out = a2.G.D.Out))))))))) && (((decide (a1.G.C.Kind = a2.G.C.Kind)) && ((decide (a1.G.C.PC = a2.G.C.PC)) && ((decide (a1.G.C.Head = a2.G.C.Head)) && ((decide (a1.G.C.Next = a2.G.C.Next)) && ((decide (a1.G.C.H = a2.G.C.H)) && ((decide (a1.G.C.X = a2.G.C.X)) && ((decide (a1.G.C.Y = a2.G.C.Y)) && (decide (a1.G.C.Out = a2.G.C.Out))))))))) && ((decide (a1.G.Bin = a2.G.Bin)) && (decide (a1.G.Out = a2.G.Out)))))))), ())
        else
         some (false, ())
       else
        some (false, ())
      else
       some (false, ())
     else
      some (false, ())
    else
     some (false, ())
   else
    some (false, ())
  else
   some (false, ())
 else
  some (false, ()) := mk_is (by kernel_rfl)
theorem q_besomref13_sameMutator_eq (a1 : Sbesomref13_Mutator) (a2 : Sbesomref13_Mutator) : q_besomref13_sameMutator a1 a2 =
 bif decide (a1.PC = a2.PC) then
  bif decide (a1.IP = a2.IP) then
   bif decide (a1.Ret = a2.Ret) then
    bif decide (a1.Want = a2.Want) then
     bif decide (a1.Old = a2.Old) then
      bif decide (a1.Obj = a2.Obj) then
       bif decide (a1.Slot = a2.Slot) then
        bif decide (a1.Bin = a2.Bin) then
         (q_besomref13_sameInts a1.Regs a2.Regs).bind fun (y1 : Bool × Unit) =>
         bif y1.1 then
          (q_besomref13_sameInts a1.Buf a2.Buf).bind fun (y2 : Bool × Unit) =>
          bif y2.1 then
           (q_besomref13_sameInts a1.Batch a2.Batch).bind fun (y3 : Bool × Unit) =>
           bif y3.1 then
            bif (decide (a1.C.Kind = a2.C.Kind)) && ((decide (a1.C.PC = a2.C.PC)) && ((decide (a1.C.Head = a2.C.Head)) && ((decide (a1.C.Next = a2.C.Next)) && ((decide (a1.C.H = a2.C.H)) && ((decide (a1.C.X = a2.C.X)) && ((decide (a1.C.Y = a2.C.Y)) && (decide (a1.C.Out = a2.C.Out)))))))) then
             some ((decide (a1.G.PC = a2.G.PC)) && ((decide (a1.G.Mode = a2.G.Mode)) && ((decide (a1.G.Obj = a2.G.Obj)) && ((decide (a1.G.Who = a2.G.Who)) && (((decide (a1.G.D.Kind = a2.G.D.Kind)) && ((decide (a1.G.D.PC = a2.G.D.PC)) && ((decide (a1.G.D.Base = a2.G.D.Base)) && ((decide (a1.G.D.Cap = a2.G.D.Cap)) && ((decide (a1.G.D.B = a2.G.D.B)) && ((decide (a1.G.D.T = a2.G.D.T)) && ((decide (a1.G.D.X = a2.G.D.X)) && (decide (a1.G.D.Out = a2.G.D.Out))))))))) && (((decide (a1.G.C.Kind = a2.G.C.Kind)) && ((decide (a1.G.C.PC = a2.G.C.PC)) && ((decide (a1.G.C.Head = a2.G.C.Head)) && ((decide (a1.G.C.Next = a2.G.C.Next)) && ((decide (a1.G.C.H = a2.G.C.H)) && ((decide (a1.G.C.X = a2.G.C.X)) && ((decide (a1.G.C.Y = a2.G.C.Y)) && (decide (a1.G.C.Out = a2.G.C.Out))))))))) && ((decide (a1.G.Bin = a2.G.Bin)) && (decide (a1.G.Out = a2.G.Out)))))))), ())
            else
             some (false, ())
           else
            some (false, ())
          else
           some (false, ())
         else
          some (false, ())
        else
         some (false, ())
       else
        some (false, ())
      else
       some (false, ())
     else
      some (false, ())
    else
     some (false, ())
   else
    some (false, ())
  else
   some (false, ())
 else
  some (false, ()) := mk_is (by kernel_rfl)
end Go.Pe.G
namespace Go.Pe.G
open Go.Pe
theorem p_besomref13_Same_r4_eq (s1 : Int) (s2 : Sbesomref13_State) (s3 : Sbesomref13_State) : p_besomref13_Same_r4 (s1, s2, s3, ()) =
 bif decide (s1 < ((s2.Bins.length : Int))) then
  (idx s2.Bins s1).bind fun x1 =>
  (idx s3.Bins s1).bind fun x2 =>
  (q_besomref13_sameInts x1 x2).bind fun (y3 : Bool × Unit) =>
  bif !y3.1 then
   some (.ret (false, ()))
  else
   some (.again (w64 (s1 + 1), s2, s3, ()))
 else
  some (.brk (s2, s3, ())) := by kernel_rfl
theorem p_besomref13_Same_r9_eq (s1 : Int) (s2 : Sbesomref13_State) (s3 : Sbesomref13_State) : p_besomref13_Same_r9 (s1, s2, s3, ()) =
 bif decide (s1 < ((s2.Ws.length : Int))) then
  (idx s2.Ws s1).bind fun x1 =>
  (idx s3.Ws s1).bind fun x2 =>
  (q_besomref13_sameWorker x1 x2).bind fun (y3 : Bool × Unit) =>
  bif !y3.1 then
   some (.ret (false, ()))
  else
   some (.again (w64 (s1 + 1), s2, s3, ()))
 else
  some (.brk (s2, s3, ())) := by kernel_rfl
theorem p_besomref13_Same_r14_eq (s1 : Int) (s2 : Sbesomref13_State) (s3 : Sbesomref13_State) : p_besomref13_Same_r14 (s1, s2, s3, ()) =
 bif decide (s1 < ((s2.Ms.length : Int))) then
  (idx s2.Ms s1).bind fun x1 =>
  (idx s3.Ms s1).bind fun x2 =>
  (q_besomref13_sameMutator x1 x2).bind fun (y3 : Bool × Unit) =>
  bif !y3.1 then
   some (.ret (false, ()))
  else
   some (.again (w64 (s1 + 1), s2, s3, ()))
 else
  some (.brk (())) := by kernel_rfl
theorem q_besomref13_Same_eq (a1 : Sbesomref13_State) (a2 : Sbesomref13_State) : q_besomref13_Same a1 a2 =
 (q_besomref12_Same a1.P a2.P).bind fun (y1 : Bool × Unit) =>
 bif !y1.1 then
  some (false, ())
 else
  (q_besomref03_Same a1.H a2.H).bind fun (y2 : Bool × Unit) =>
  bif !y2.1 then
   some (false, ())
  else
   (q_besomref05_Same a1.M a2.M).bind fun (y3 : Bool × Unit) =>
   bif !y3.1 then
    some (false, ())
   else
    bif !((decide (a1.T.Marks = a2.T.Marks)) && (decide (a1.T.Black = a2.T.Black))) then
     some (false, ())
    else
     bif !(decide (a1.Work = a2.Work)) then
      some (false, ())
     else
      bif !(decide (a1.Epoch = a2.Epoch)) then
       some (false, ())
      else
       bif !(decide (a1.Flag = a2.Flag)) then
        some (false, ())
       else
        bif !(decide (a1.Done = a2.Done)) then
         some (false, ())
        else
         bif !(decide (a1.Restarts = a2.Restarts)) then
          some (false, ())
         else
          (q_besomref13_sameInts a1.Acks a2.Acks).bind fun (y4 : Bool × Unit) =>
          bif !y4.1 then
           some (false, ())
          else
           (q_besomref10_Same a1.L a2.L).bind fun (y5 : Bool × Unit) =>
           bif !y5.1 then
            some (false, ())
           else
            bif !((decide (a1.D.PC = a2.D.PC)) && (decide (a1.D.I = a2.D.I))) then
             some (false, ())
            else
             bif !(decide (((a1.Bins.length : Int)) = ((a2.Bins.length : Int)))) then
              some (false, ())
             else
              bif !(decide (((a1.Ws.length : Int)) = ((a2.Ws.length : Int)))) then
               some (false, ())
              else
               bif !(decide (((a1.Ms.length : Int)) = ((a2.Ms.length : Int)))) then
                some (false, ())
               else
                (loopF p_besomref13_Same_r4 (0, a1, a2, ())).bind fun st => match st with
                 | .again _ => none
                 | .brk (y6 : Sbesomref13_State × Sbesomref13_State × Unit) =>
                  (loopF p_besomref13_Same_r9 (0, y6.1, y6.2.1, ())).bind fun st => match st with
                   | .again _ => none
                   | .brk (y7 : Sbesomref13_State × Sbesomref13_State × Unit) =>
                    (loopF p_besomref13_Same_r14 (0, y7.1, y7.2.1, ())).bind fun st => match st with
                     | .again _ => none
                     | .brk (y8 : Unit) =>
                      some (true, ())
                     | .ret (y8 : Bool × Unit) =>
                      some (y8.1, ())
                   | .ret (y7 : Bool × Unit) =>
                    some (y7.1, ())
                 | .ret (y6 : Bool × Unit) =>
                  some (y6.1, ()) := mk_is (by kernel_rfl)
theorem q_besomref14_Holds_eq (a1 : Sbesomref13_Grey) : q_besomref14_Holds a1 =
 bif decide (a1.Out = 0) then
  bif decide (3 ≤ a1.PC) then
   bif decide (a1.PC ≤ 7) then
    some (a1.Obj, ())
   else
    some (0, ())
  else
   some (0, ())
 else
  some (0, ()) := mk_is (by kernel_rfl)
theorem q_besomref14_Asks_eq (a1 : Sbesomref13_Grey) : q_besomref14_Asks a1 =
 bif decide (a1.Out = 0) then
  bif decide (a1.PC = 0) then
   some (a1.Obj, ())
  else
   bif decide (a1.PC = 1) then
    some (a1.Obj, ())
   else
    some (0, ())
 else
  some (0, ()) := mk_is (by kernel_rfl)
theorem q_besomref14_Owes_eq (a1 : Sbesomref13_Grey) : q_besomref14_Owes a1 =
 bif decide (a1.Out = 0) then
  bif decide (a1.PC = 1) then
   some (1, ())
  else
   bif decide (a1.PC = 2) then
    some (1, ())
   else
    some (0, ())
 else
  some (0, ()) := mk_is (by kernel_rfl)
theorem q_besomref14_Begin_eq (a1 : Int) (a2 : Int) (a3 : Int) : q_besomref14_Begin a1 a2 a3 =
 some (Sbesomref13_Grey.mk 0 a1 a2 a3 (Sbesomref07_Machine.mk 0 0 0 0 0#64 0#64 0 0) (Sbesomref08_Machine.mk 0 0 0 0 0#64 0 0 0) 0 0, ()) := mk_is (by kernel_rfl)
theorem p_besomlaw14_GreyTells_r12_eq (s1 : List (BitVec 8)) (s2 : Bool) (s3 : Int) (s4 : Sbesomlaw14_Grow) (s5 : Sstate_State) (s6 : List Sstate_Grey) (s7 : Sbesomref13_State) (s8 : List Sbesomref13_Grey) : p_besomlaw14_GreyTells_r12 (s1, s2, s3, s4, s5, s6, s7, s8, ()) =
 bif decide (s3 < ((s1.length : Int))) then
  bif decide (s3 < 60) then
   (idx s1 s3).bind fun x1 =>
   (idxn s6 (((x1 % 2#8).toNat : Int))).bind fun n2 =>
   (s6[n2]?).bind fun x3 =>
   (q_grey_Step s5 x3).bind fun (y4 : Sstate_State × Sstate_Grey × Unit) =>
   (idxn s6 (((x1 % 2#8).toNat : Int))).bind fun n5 =>
   (idxn s8 (((x1 % 2#8).toNat : Int))).bind fun n6 =>
   (s8[n6]?).bind fun x7 =>
   (q_besomref14_Step s7 x7).bind fun (y8 : Sbesomref13_State × Sbesomref13_Grey × Unit) =>
   (idxn s8 (((x1 % 2#8).toNat : Int))).bind fun n9 =>
   (q_besomlaw14_refState y4.1).bind fun (y10 : Sbesomref13_State × Unit) =>
   (q_besomref13_Same y10.1 y8.1).bind fun (y11 : Bool × Unit) =>
   bif !y11.1 then
    some (.ret (false, ()))
   else
    (idxn (s6.set n5 y4.2.1) (((x1 % 2#8).toNat : Int))).bind fun n12 =>
    ((s6.set n5 y4.2.1)[n12]?).bind fun x13 =>
    (q_besomlaw14_refGrey x13).bind fun (y14 : Sbesomref13_Grey × Unit) =>
    (idxn (s8.set n9 y8.2.1) (((x1 % 2#8).toNat : Int))).bind fun n15 =>
    ((s8.set n9 y8.2.1)[n15]?).bind fun x16 =>
    bif !((decide (y14.1.PC = x16.PC)) && ((decide (y14.1.Mode = x16.Mode)) && ((decide (y14.1.Obj = x16.Obj)) && ((decide (y14.1.Who = x16.Who)) && (((decide (y14.1.D.Kind = x16.D.Kind)) && ((decide (y14.1.D.PC = x16.D.PC)) && ((decide (y14.1.D.Base = x16.D.Base)) && ((decide (y14.1.D.Cap = x16.D.Cap)) && ((decide (y14.1.D.B = x16.D.B)) && ((decide (y14.1.D.T = x16.D.T)) && ((decide (y14.1.D.X = x16.D.X)) && (decide (y14.1.D.Out = x16.D.Out))))))))) && (((decide (y14.1.C.Kind = x16.C.Kind)) && ((decide (y14.1.C.PC = x16.C.PC)) && ((decide (y14.1.C.Head = x16.C.Head)) && ((decide (y14.1.C.Next = x16.C.Next)) && ((decide (y14.1.C.H = x16.C.H)) && ((decide (y14.1.C.X = x16.C.X)) && ((decide (y14.1.C.Y = x16.C.Y)) && (decide (y14.1.C.Out = x16.C.Out))))))))) && ((decide (y14.1.Bin = x16.Bin)) && (decide (y14.1.Out = x16.Out))))))))) then
     some (.ret (false, ()))
    else
     (idxn (s6.set n5 y4.2.1) (((x1 % 2#8).toNat : Int))).bind fun n17 =>
     ((s6.set n5 y4.2.1)[n17]?).bind fun x18 =>
     (q_grey_Holds x18).bind fun (y19 : Int × Unit) =>
     (idxn (s8.set n9 y8.2.1) (((x1 % 2#8).toNat : Int))).bind fun n20 =>
     ((s8.set n9 y8.2.1)[n20]?).bind fun x21 =>
     (q_besomref14_Holds x21).bind fun (y22 : Int × Unit) =>
     bif !(decide (y19.1 = y22.1)) then
      some (.ret (false, ()))
     else
      (idxn (s6.set n5 y4.2.1) (((x1 % 2#8).toNat : Int))).bind fun n23 =>
      ((s6.set n5 y4.2.1)[n23]?).bind fun x24 =>
      (q_grey_Asks x24).bind fun (y25 : Int × Unit) =>
      (idxn (s8.set n9 y8.2.1) (((x1 % 2#8).toNat : Int))).bind fun n26 =>
      ((s8.set n9 y8.2.1)[n26]?).bind fun x27 =>
      (q_besomref14_Asks x27).bind fun (y28 : Int × Unit) =>
      bif !(decide (y25.1 = y28.1)) then
       some (.ret (false, ()))
      else
       (idxn (s6.set n5 y4.2.1) (((x1 % 2#8).toNat : Int))).bind fun n29 =>
       ((s6.set n5 y4.2.1)[n29]?).bind fun x30 =>
       (q_grey_Owes x30).bind fun (y31 : Int × Unit) =>
       (idxn (s8.set n9 y8.2.1) (((x1 % 2#8).toNat : Int))).bind fun n32 =>
       ((s8.set n9 y8.2.1)[n32]?).bind fun x33 =>
       (q_besomref14_Owes x33).bind fun (y34 : Int × Unit) =>
       bif !(decide (y31.1 = y34.1)) then
        some (.ret (false, ()))
       else
        some (.again (s1, s2, w64 (s3 + 1), s4, y4.1, s6.set n5 y4.2.1, y8.1, s8.set n9 y8.2.1, ()))
  else
   some (.brk (s2, s4, ()))
 else
  some (.brk (s2, s4, ())) := by kernel_rfl
theorem q_besomlaw14_GreyTells_eq (a1 : List (BitVec 8)) (a2 : Sbesomlaw14_Grow) (a3 : Sbesomlaw14_Grow) (a4 : List (BitVec 8)) : q_besomlaw14_GreyTells a1 a2 a3 a4 =
 (q_besomlaw14_examples).bind fun (y1 : Bool × Unit) =>
 bif !y1.1 then
  some (false, ())
 else
  (q_besomlaw14_made a1).bind fun (y2 : Splan_Plan × Unit) =>
  (q_state_New y2.1).bind fun (y3 : Sstate_State × Unit) =>
  (q_besomlaw14_Grow_begin a2 y2.1).bind fun (y4 : Sstate_Grey × Unit) =>
  (q_besomlaw14_Grow_begin a3 y2.1).bind fun (y5 : Sstate_Grey × Unit) =>
  bif decide ((a2.Mode % 3#8) = 0#8) then
   bif decide ((a3.Mode % 3#8) = 0#8) then
    (idxn ([y4.1, y5.1] : List Sstate_Grey) 0).bind fun n6 =>
    (([y4.1, y5.1] : List Sstate_Grey)[n6]?).bind fun x7 =>
    (idxn ([y4.1, y5.1] : List Sstate_Grey) 1).bind fun n8 =>
    (([y4.1, y5.1] : List Sstate_Grey)[n8]?).bind fun x9 =>
    bif decide (x7.Who = x9.Who) then
     (idxn ([y4.1, y5.1] : List Sstate_Grey) 1).bind fun n10 =>
     (([y4.1, y5.1] : List Sstate_Grey)[n10]?).bind fun x11 =>
     (q_grey_Begin 3 x11.Obj 1).bind fun (y12 : Sstate_Grey × Unit) =>
     (idxn ([y4.1, y5.1] : List Sstate_Grey) 1).bind fun n13 =>
     (q_besomlaw14_refState y3.1).bind fun (y14 : Sbesomref13_State × Unit) =>
     (idxn (([y4.1, y5.1] : List Sstate_Grey).set n13 y12.1) 0).bind fun n15 =>
     ((([y4.1, y5.1] : List Sstate_Grey).set n13 y12.1)[n15]?).bind fun x16 =>
     (q_besomlaw14_refGrey x16).bind fun (y17 : Sbesomref13_Grey × Unit) =>
     (idxn (([y4.1, y5.1] : List Sstate_Grey).set n13 y12.1) 1).bind fun n18 =>
     ((([y4.1, y5.1] : List Sstate_Grey).set n13 y12.1)[n18]?).bind fun x19 =>
     (q_besomlaw14_refGrey x19).bind fun (y20 : Sbesomref13_Grey × Unit) =>
     (loopF p_besomlaw14_GreyTells_r12 (a4, y1.1, 0, a2, y3.1, ([y4.1, y5.1] : List Sstate_Grey).set n13 y12.1, y14.1, ([y17.1, y20.1] : List Sbesomref13_Grey), ())).bind fun st => match st with
      | .again _ => none
      | .brk (y21 : Bool × Sbesomlaw14_Grow × Unit) =>
       bif y21.1 then
        (q_grey_Begin ((y21.2.1.Mode.toNat : Int)) ((y21.2.1.Obj.toNat : Int)) ((y21.2.1.Who.toNat : Int))).bind fun (y22 : Sstate_Grey × Unit) =>
        (q_besomlaw14_refGrey y22.1).bind fun (y23 : Sbesomref13_Grey × Unit) =>
        (q_besomref14_Begin ((y21.2.1.Mode.toNat : Int)) ((y21.2.1.Obj.toNat : Int)) ((y21.2.1.Who.toNat : Int))).bind fun (y24 : Sbesomref13_Grey × Unit) =>
        some ((decide (y23.1.PC = y24.1.PC)) && ((decide (y23.1.Mode = y24.1.Mode)) && ((decide (y23.1.Obj = y24.1.Obj)) && ((decide (y23.1.Who = y24.1.Who)) && (((decide (y23.1.D.Kind = y24.1.D.Kind)) && ((decide (y23.1.D.PC = y24.1.D.PC)) && ((decide (y23.1.D.Base = y24.1.D.Base)) && ((decide (y23.1.D.Cap = y24.1.D.Cap)) && ((decide (y23.1.D.B = y24.1.D.B)) && ((decide (y23.1.D.T = y24.1.D.T)) && ((decide (y23.1.D.X = y24.1.D.X)) && (decide (y23.1.D.Out = y24.1.D.Out))))))))) && (((decide (y23.1.C.Kind = y24.1.C.Kind)) && ((decide (y23.1.C.PC = y24.1.C.PC)) && ((decide (y23.1.C.Head = y24.1.C.Head)) && ((decide (y23.1.C.Next = y24.1.C.Next)) && ((decide (y23.1.C.H = y24.1.C.H)) && ((decide (y23.1.C.X = y24.1.C.X)) && ((decide (y23.1.C.Y = y24.1.C.Y)) && (decide (y23.1.C.Out = y24.1.C.Out))))))))) && ((decide (y23.1.Bin = y24.1.Bin)) && (decide (y23.1.Out = y24.1.Out)))))))), ())
       else
        some (false, ())
      | .ret (y21 : Bool × Unit) =>
       some (y21.1, ())
    else
     (q_besomlaw14_refState y3.1).bind fun (y25 : Sbesomref13_State × Unit) =>
     (idxn ([y4.1, y5.1] : List Sstate_Grey) 0).bind fun n26 =>
     (([y4.1, y5.1] : List Sstate_Grey)[n26]?).bind fun x27 =>
     (q_besomlaw14_refGrey x27).bind fun (y28 : Sbesomref13_Grey × Unit) =>
     (idxn ([y4.1, y5.1] : List Sstate_Grey) 1).bind fun n29 =>
     (([y4.1, y5.1] : List Sstate_Grey)[n29]?).bind fun x30 =>
     (q_besomlaw14_refGrey x30).bind fun (y31 : Sbesomref13_Grey × Unit) =>
     (loopF p_besomlaw14_GreyTells_r12 (a4, y1.1, 0, a2, y3.1, ([y4.1, y5.1] : List Sstate_Grey), y25.1, ([y28.1, y31.1] : List Sbesomref13_Grey), ())).bind fun st => match st with
      | .again _ => none
      | .brk (y32 : Bool × Sbesomlaw14_Grow × Unit) =>
       bif y32.1 then
        (q_grey_Begin ((y32.2.1.Mode.toNat : Int)) ((y32.2.1.Obj.toNat : Int)) ((y32.2.1.Who.toNat : Int))).bind fun (y33 : Sstate_Grey × Unit) =>
        (q_besomlaw14_refGrey y33.1).bind fun (y34 : Sbesomref13_Grey × Unit) =>
        (q_besomref14_Begin ((y32.2.1.Mode.toNat : Int)) ((y32.2.1.Obj.toNat : Int)) ((y32.2.1.Who.toNat : Int))).bind fun (y35 : Sbesomref13_Grey × Unit) =>
        some ((decide (y34.1.PC = y35.1.PC)) && ((decide (y34.1.Mode = y35.1.Mode)) && ((decide (y34.1.Obj = y35.1.Obj)) && ((decide (y34.1.Who = y35.1.Who)) && (((decide (y34.1.D.Kind = y35.1.D.Kind)) && ((decide (y34.1.D.PC = y35.1.D.PC)) && ((decide (y34.1.D.Base = y35.1.D.Base)) && ((decide (y34.1.D.Cap = y35.1.D.Cap)) && ((decide (y34.1.D.B = y35.1.D.B)) && ((decide (y34.1.D.T = y35.1.D.T)) && ((decide (y34.1.D.X = y35.1.D.X)) && (decide (y34.1.D.Out = y35.1.D.Out))))))))) && (((decide (y34.1.C.Kind = y35.1.C.Kind)) && ((decide (y34.1.C.PC = y35.1.C.PC)) && ((decide (y34.1.C.Head = y35.1.C.Head)) && ((decide (y34.1.C.Next = y35.1.C.Next)) && ((decide (y34.1.C.H = y35.1.C.H)) && ((decide (y34.1.C.X = y35.1.C.X)) && ((decide (y34.1.C.Y = y35.1.C.Y)) && (decide (y34.1.C.Out = y35.1.C.Out))))))))) && ((decide (y34.1.Bin = y35.1.Bin)) && (decide (y34.1.Out = y35.1.Out)))))))), ())
       else
        some (false, ())
      | .ret (y32 : Bool × Unit) =>
       some (y32.1, ())
   else
    (q_besomlaw14_refState y3.1).bind fun (y36 : Sbesomref13_State × Unit) =>
    (idxn ([y4.1, y5.1] : List Sstate_Grey) 0).bind fun n37 =>
    (([y4.1, y5.1] : List Sstate_Grey)[n37]?).bind fun x38 =>
    (q_besomlaw14_refGrey x38).bind fun (y39 : Sbesomref13_Grey × Unit) =>
    (idxn ([y4.1, y5.1] : List Sstate_Grey) 1).bind fun n40 =>
    (([y4.1, y5.1] : List Sstate_Grey)[n40]?).bind fun x41 =>
    (q_besomlaw14_refGrey x41).bind fun (y42 : Sbesomref13_Grey × Unit) =>
    (loopF p_besomlaw14_GreyTells_r12 (a4, y1.1, 0, a2, y3.1, ([y4.1, y5.1] : List Sstate_Grey), y36.1, ([y39.1, y42.1] : List Sbesomref13_Grey), ())).bind fun st => match st with
     | .again _ => none
     | .brk (y43 : Bool × Sbesomlaw14_Grow × Unit) =>
      bif y43.1 then
       (q_grey_Begin ((y43.2.1.Mode.toNat : Int)) ((y43.2.1.Obj.toNat : Int)) ((y43.2.1.Who.toNat : Int))).bind fun (y44 : Sstate_Grey × Unit) =>
       (q_besomlaw14_refGrey y44.1).bind fun (y45 : Sbesomref13_Grey × Unit) =>
       (q_besomref14_Begin ((y43.2.1.Mode.toNat : Int)) ((y43.2.1.Obj.toNat : Int)) ((y43.2.1.Who.toNat : Int))).bind fun (y46 : Sbesomref13_Grey × Unit) =>
       some ((decide (y45.1.PC = y46.1.PC)) && ((decide (y45.1.Mode = y46.1.Mode)) && ((decide (y45.1.Obj = y46.1.Obj)) && ((decide (y45.1.Who = y46.1.Who)) && (((decide (y45.1.D.Kind = y46.1.D.Kind)) && ((decide (y45.1.D.PC = y46.1.D.PC)) && ((decide (y45.1.D.Base = y46.1.D.Base)) && ((decide (y45.1.D.Cap = y46.1.D.Cap)) && ((decide (y45.1.D.B = y46.1.D.B)) && ((decide (y45.1.D.T = y46.1.D.T)) && ((decide (y45.1.D.X = y46.1.D.X)) && (decide (y45.1.D.Out = y46.1.D.Out))))))))) && (((decide (y45.1.C.Kind = y46.1.C.Kind)) && ((decide (y45.1.C.PC = y46.1.C.PC)) && ((decide (y45.1.C.Head = y46.1.C.Head)) && ((decide (y45.1.C.Next = y46.1.C.Next)) && ((decide (y45.1.C.H = y46.1.C.H)) && ((decide (y45.1.C.X = y46.1.C.X)) && ((decide (y45.1.C.Y = y46.1.C.Y)) && (decide (y45.1.C.Out = y46.1.C.Out))))))))) && ((decide (y45.1.Bin = y46.1.Bin)) && (decide (y45.1.Out = y46.1.Out)))))))), ())
      else
       some (false, ())
     | .ret (y43 : Bool × Unit) =>
      some (y43.1, ())
  else
   (q_besomlaw14_refState y3.1).bind fun (y47 : Sbesomref13_State × Unit) =>
   (idxn ([y4.1, y5.1] : List Sstate_Grey) 0).bind fun n48 =>
   (([y4.1, y5.1] : List Sstate_Grey)[n48]?).bind fun x49 =>
   (q_besomlaw14_refGrey x49).bind fun (y50 : Sbesomref13_Grey × Unit) =>
   (idxn ([y4.1, y5.1] : List Sstate_Grey) 1).bind fun n51 =>
   (([y4.1, y5.1] : List Sstate_Grey)[n51]?).bind fun x52 =>
   (q_besomlaw14_refGrey x52).bind fun (y53 : Sbesomref13_Grey × Unit) =>
   (loopF p_besomlaw14_GreyTells_r12 (a4, y1.1, 0, a2, y3.1, ([y4.1, y5.1] : List Sstate_Grey), y47.1, ([y50.1, y53.1] : List Sbesomref13_Grey), ())).bind fun st => match st with
    | .again _ => none
    | .brk (y54 : Bool × Sbesomlaw14_Grow × Unit) =>
     bif y54.1 then
      (q_grey_Begin ((y54.2.1.Mode.toNat : Int)) ((y54.2.1.Obj.toNat : Int)) ((y54.2.1.Who.toNat : Int))).bind fun (y55 : Sstate_Grey × Unit) =>
      (q_besomlaw14_refGrey y55.1).bind fun (y56 : Sbesomref13_Grey × Unit) =>
      (q_besomref14_Begin ((y54.2.1.Mode.toNat : Int)) ((y54.2.1.Obj.toNat : Int)) ((y54.2.1.Who.toNat : Int))).bind fun (y57 : Sbesomref13_Grey × Unit) =>
      some ((decide (y56.1.PC = y57.1.PC)) && ((decide (y56.1.Mode = y57.1.Mode)) && ((decide (y56.1.Obj = y57.1.Obj)) && ((decide (y56.1.Who = y57.1.Who)) && (((decide (y56.1.D.Kind = y57.1.D.Kind)) && ((decide (y56.1.D.PC = y57.1.D.PC)) && ((decide (y56.1.D.Base = y57.1.D.Base)) && ((decide (y56.1.D.Cap = y57.1.D.Cap)) && ((decide (y56.1.D.B = y57.1.D.B)) && ((decide (y56.1.D.T = y57.1.D.T)) && ((decide (y56.1.D.X = y57.1.D.X)) && (decide (y56.1.D.Out = y57.1.D.Out))))))))) && (((decide (y56.1.C.Kind = y57.1.C.Kind)) && ((decide (y56.1.C.PC = y57.1.C.PC)) && ((decide (y56.1.C.Head = y57.1.C.Head)) && ((decide (y56.1.C.Next = y57.1.C.Next)) && ((decide (y56.1.C.H = y57.1.C.H)) && ((decide (y56.1.C.X = y57.1.C.X)) && ((decide (y56.1.C.Y = y57.1.C.Y)) && (decide (y56.1.C.Out = y57.1.C.Out))))))))) && ((decide (y56.1.Bin = y57.1.Bin)) && (decide (y56.1.Out = y57.1.Out)))))))), ())
     else
      some (false, ())
    | .ret (y54 : Bool × Unit) =>
     some (y54.1, ()) := mk_is (by kernel_rfl)
end Go.Pe.G

