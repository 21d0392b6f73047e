/-
  NARROWER THAN 'FOR EVERY INPUT', by the rows' own cells (each row's printed sentence says how): MutatorRuns: laid · MutatorBuffers: laid · MutatorNew: laid · MutatorApart: laid · MutatorRegs: laid · MutatorSnapshot: laid.
  DERIVED. THE GIVEN ROWS OF THIS SEAT. 6 by the template 'for every input the law returns true; each argument reads behind the call as it read before'; 0 by the template 'total and deterministic' (their statements: YtcjjhmfdiiookaaGreatDoorTotals.lean).
  GIVEN WITH THE SEED: the statements are not yours to turn. If you find one false, say at which input.
  Laid BY PROGRAM, IN A SANDBOX (cutbox-rows.mjs): the forced cells as the released guide's own fill.sh prints them over the translation 95d71a6867f0106d… (all of the seat's roots in one cut). By AI agents, Wed Nov 11 2026. No macro, syntax, notation, axiom, sorry.
-/
import Derived.Test.YtcjjhmfdiiookaaGreatDoorChecked
import GoSem.Claim
import GoSem.ClaimJoined
import GoSem.ClaimMapViews
import Derived.JoinedTies
import Derived.KernelRfl
namespace Go.Proofs.YtcjjhmfdiiookaaGreatDoor
/- THE CELL 'sum', in the pinned program and in every row, IS THE sha256 OF THE DUMP (.gsa) THAT YtcjjhmfdiiookaaGreatDoorProg.lean LOADS. Nothing in Lean hashes anything: it is a label: what it is worth is what the hold of that sum in a sandbox is worth. -/
noncomputable def Tryz.pinned : Pinned := { name := "ytcjjhmfdiiookaagreatdoor", sum := "95d71a6867f0106dfccc7eaa782e17a9b2e0456b67ec428bf7a83b5382b8c079", checked := Tryz.checked }
namespace Rows
def none {H : Type} : Left H := { results := [], args := [] }

/- WHAT THE LISTED PACKAGE-LEVEL VARIABLES READ AS WHEN THE CALL BEGINS. Each datum BY PROGRAM (the guide's laid-datum.mjs) off the statement by which the dump's own 'gosem.cut.vars' lays the variable. In a bare row this is a premise. The card (YtcjjhmfdiiookaaGreatDoorCards.lean) ties it to the program's text. -/
def laid_math_bits_deBruijn32tab {H : Type} : DataW H := .agg [.lit (.int .u8 0), .lit (.int .u8 1), .lit (.int .u8 28), .lit (.int .u8 2), .lit (.int .u8 29), .lit (.int .u8 14), .lit (.int .u8 24), .lit (.int .u8 3), .lit (.int .u8 30), .lit (.int .u8 22), .lit (.int .u8 20), .lit (.int .u8 15), .lit (.int .u8 25), .lit (.int .u8 17), .lit (.int .u8 4), .lit (.int .u8 8), .lit (.int .u8 31), .lit (.int .u8 27), .lit (.int .u8 13), .lit (.int .u8 23), .lit (.int .u8 21), .lit (.int .u8 19), .lit (.int .u8 16), .lit (.int .u8 7), .lit (.int .u8 26), .lit (.int .u8 12), .lit (.int .u8 18), .lit (.int .u8 6), .lit (.int .u8 11), .lit (.int .u8 5), .lit (.int .u8 10), .lit (.int .u8 9)]
def laid_math_bits_deBruijn64tab {H : Type} : DataW H := .agg [.lit (.int .u8 0), .lit (.int .u8 1), .lit (.int .u8 56), .lit (.int .u8 2), .lit (.int .u8 57), .lit (.int .u8 49), .lit (.int .u8 28), .lit (.int .u8 3), .lit (.int .u8 61), .lit (.int .u8 58), .lit (.int .u8 42), .lit (.int .u8 50), .lit (.int .u8 38), .lit (.int .u8 29), .lit (.int .u8 17), .lit (.int .u8 4), .lit (.int .u8 62), .lit (.int .u8 47), .lit (.int .u8 59), .lit (.int .u8 36), .lit (.int .u8 45), .lit (.int .u8 43), .lit (.int .u8 51), .lit (.int .u8 22), .lit (.int .u8 53), .lit (.int .u8 39), .lit (.int .u8 33), .lit (.int .u8 30), .lit (.int .u8 24), .lit (.int .u8 18), .lit (.int .u8 12), .lit (.int .u8 5), .lit (.int .u8 63), .lit (.int .u8 55), .lit (.int .u8 48), .lit (.int .u8 27), .lit (.int .u8 60), .lit (.int .u8 41), .lit (.int .u8 37), .lit (.int .u8 16), .lit (.int .u8 46), .lit (.int .u8 35), .lit (.int .u8 44), .lit (.int .u8 21), .lit (.int .u8 52), .lit (.int .u8 32), .lit (.int .u8 23), .lit (.int .u8 11), .lit (.int .u8 54), .lit (.int .u8 26), .lit (.int .u8 40), .lit (.int .u8 15), .lit (.int .u8 34), .lit (.int .u8 20), .lit (.int .u8 31), .lit (.int .u8 10), .lit (.int .u8 25), .lit (.int .u8 14), .lit (.int .u8 19), .lit (.int .u8 9), .lit (.int .u8 13), .lit (.int .u8 8), .lit (.int .u8 7), .lit (.int .u8 6)]
def laid_internal_strconv_uint64pow10 {H : Type} : DataW H := .agg [.lit (.int .u64 1), .lit (.int .u64 10), .lit (.int .u64 100), .lit (.int .u64 1000), .lit (.int .u64 10000), .lit (.int .u64 100000), .lit (.int .u64 1000000), .lit (.int .u64 10000000), .lit (.int .u64 100000000), .lit (.int .u64 1000000000), .lit (.int .u64 10000000000), .lit (.int .u64 100000000000), .lit (.int .u64 1000000000000), .lit (.int .u64 10000000000000), .lit (.int .u64 100000000000000), .lit (.int .u64 1000000000000000), .lit (.int .u64 10000000000000000), .lit (.int .u64 100000000000000000), .lit (.int .u64 1000000000000000000), .lit (.int .u64 10000000000000000000)]

/-- 'besomlaw16.MutatorRuns': WHATEVER THE INPUT: true; the input reads as it did. -/
def mutatorRunsSpec : ChangeSpec := { name := "mutatorRuns", fn := fun _ => fun
  | [d] => { results := [.lit (.bool true)], args := [d] }
  | _ => none }
def mutatorRunsRow : OpenClaim := { program := "ytcjjhmfdiiookaagreatdoor", sum := "95d71a6867f0106dfccc7eaa782e17a9b2e0456b67ec428bf7a83b5382b8c079", func := "besom/besomlaw16.MutatorRuns", spec := "mutatorRuns", inPlace := ["internal/abi.NoEscape", "internal/bytealg.MakeNoZero"], unfollowed := true, recurses := true, named := ["math/bits.deBruijn64tab", "internal/strconv.uint64pow10", "math/bits.deBruijn32tab"], apart := false, laid := [("math/bits.deBruijn32tab", laid_math_bits_deBruijn32tab), ("math/bits.deBruijn64tab", laid_math_bits_deBruijn64tab), ("internal/strconv.uint64pow10", laid_internal_strconv_uint64pow10)] }
def MutatorRunsSaid : Prop := mutatorRunsRow.holds Tryz.pinned (OpenSpec.ofChange mutatorRunsSpec)

/-- ITS FALSE NEIGHBOUR: 'it returns false'. Refute it at one input. -/
def mutatorRunsWrong : ChangeSpec := { name := "mutatorRuns", fn := fun _ => fun
  | [d] => { results := [.lit (.bool false)], args := [d] }
  | _ => none }
def MutatorRunsWrongFalsely : Prop := mutatorRunsRow.holds Tryz.pinned (OpenSpec.ofChange mutatorRunsWrong)

/-- 'besomlaw16.MutatorBuffers': WHATEVER THE INPUT: true; the input reads as it did. -/
def mutatorBuffersSpec : ChangeSpec := { name := "mutatorBuffers", fn := fun _ => fun
  | [d1, d2] => { results := [.lit (.bool true)], args := [d1, d2] }
  | _ => none }
def mutatorBuffersRow : OpenClaim := { program := "ytcjjhmfdiiookaagreatdoor", sum := "95d71a6867f0106dfccc7eaa782e17a9b2e0456b67ec428bf7a83b5382b8c079", func := "besom/besomlaw16.MutatorBuffers", spec := "mutatorBuffers", inPlace := ["internal/abi.NoEscape", "internal/bytealg.MakeNoZero"], unfollowed := true, recurses := true, named := ["math/bits.deBruijn64tab", "internal/strconv.uint64pow10", "math/bits.deBruijn32tab"], apart := false, laid := [("math/bits.deBruijn32tab", laid_math_bits_deBruijn32tab), ("math/bits.deBruijn64tab", laid_math_bits_deBruijn64tab), ("internal/strconv.uint64pow10", laid_internal_strconv_uint64pow10)] }
def MutatorBuffersSaid : Prop := mutatorBuffersRow.holds Tryz.pinned (OpenSpec.ofChange mutatorBuffersSpec)

/-- ITS FALSE NEIGHBOUR: 'it returns false'. Refute it at one input. -/
def mutatorBuffersWrong : ChangeSpec := { name := "mutatorBuffers", fn := fun _ => fun
  | [d1, d2] => { results := [.lit (.bool false)], args := [d1, d2] }
  | _ => none }
def MutatorBuffersWrongFalsely : Prop := mutatorBuffersRow.holds Tryz.pinned (OpenSpec.ofChange mutatorBuffersWrong)

/-- 'besomlaw16.MutatorNew': WHATEVER THE INPUT: true; the input reads as it did. -/
def mutatorNewSpec : ChangeSpec := { name := "mutatorNew", fn := fun _ => fun
  | [d1, d2] => { results := [.lit (.bool true)], args := [d1, d2] }
  | _ => none }
def mutatorNewRow : OpenClaim := { program := "ytcjjhmfdiiookaagreatdoor", sum := "95d71a6867f0106dfccc7eaa782e17a9b2e0456b67ec428bf7a83b5382b8c079", func := "besom/besomlaw16.MutatorNew", spec := "mutatorNew", inPlace := ["internal/abi.NoEscape", "internal/bytealg.MakeNoZero"], unfollowed := true, recurses := true, named := ["math/bits.deBruijn64tab", "internal/strconv.uint64pow10", "math/bits.deBruijn32tab"], apart := false, laid := [("math/bits.deBruijn32tab", laid_math_bits_deBruijn32tab), ("math/bits.deBruijn64tab", laid_math_bits_deBruijn64tab), ("internal/strconv.uint64pow10", laid_internal_strconv_uint64pow10)] }
def MutatorNewSaid : Prop := mutatorNewRow.holds Tryz.pinned (OpenSpec.ofChange mutatorNewSpec)

/-- ITS FALSE NEIGHBOUR: 'it returns false'. Refute it at one input. -/
def mutatorNewWrong : ChangeSpec := { name := "mutatorNew", fn := fun _ => fun
  | [d1, d2] => { results := [.lit (.bool false)], args := [d1, d2] }
  | _ => none }
def MutatorNewWrongFalsely : Prop := mutatorNewRow.holds Tryz.pinned (OpenSpec.ofChange mutatorNewWrong)

/-- 'besomlaw16.MutatorApart': WHATEVER THE INPUT: true; the input reads as it did. -/
def mutatorApartSpec : ChangeSpec := { name := "mutatorApart", fn := fun _ => fun
  | [d1, d2, d3] => { results := [.lit (.bool true)], args := [d1, d2, d3] }
  | _ => none }
def mutatorApartRow : OpenClaim := { program := "ytcjjhmfdiiookaagreatdoor", sum := "95d71a6867f0106dfccc7eaa782e17a9b2e0456b67ec428bf7a83b5382b8c079", func := "besom/besomlaw16.MutatorApart", spec := "mutatorApart", inPlace := ["internal/abi.NoEscape", "internal/bytealg.MakeNoZero"], unfollowed := true, recurses := true, named := ["math/bits.deBruijn64tab", "internal/strconv.uint64pow10", "math/bits.deBruijn32tab"], apart := false, laid := [("math/bits.deBruijn32tab", laid_math_bits_deBruijn32tab), ("math/bits.deBruijn64tab", laid_math_bits_deBruijn64tab), ("internal/strconv.uint64pow10", laid_internal_strconv_uint64pow10)] }
def MutatorApartSaid : Prop := mutatorApartRow.holds Tryz.pinned (OpenSpec.ofChange mutatorApartSpec)

/-- ITS FALSE NEIGHBOUR: 'it returns false'. Refute it at one input. -/
def mutatorApartWrong : ChangeSpec := { name := "mutatorApart", fn := fun _ => fun
  | [d1, d2, d3] => { results := [.lit (.bool false)], args := [d1, d2, d3] }
  | _ => none }
def MutatorApartWrongFalsely : Prop := mutatorApartRow.holds Tryz.pinned (OpenSpec.ofChange mutatorApartWrong)

/-- 'besomlaw16.MutatorRegs': WHATEVER THE INPUT: true; the input reads as it did. -/
def mutatorRegsSpec : ChangeSpec := { name := "mutatorRegs", fn := fun _ => fun
  | [d1, d2] => { results := [.lit (.bool true)], args := [d1, d2] }
  | _ => none }
def mutatorRegsRow : OpenClaim := { program := "ytcjjhmfdiiookaagreatdoor", sum := "95d71a6867f0106dfccc7eaa782e17a9b2e0456b67ec428bf7a83b5382b8c079", func := "besom/besomlaw16.MutatorRegs", spec := "mutatorRegs", inPlace := ["internal/abi.NoEscape", "internal/bytealg.MakeNoZero"], unfollowed := true, recurses := true, named := ["math/bits.deBruijn64tab", "internal/strconv.uint64pow10", "math/bits.deBruijn32tab"], apart := false, laid := [("math/bits.deBruijn32tab", laid_math_bits_deBruijn32tab), ("math/bits.deBruijn64tab", laid_math_bits_deBruijn64tab), ("internal/strconv.uint64pow10", laid_internal_strconv_uint64pow10)] }
def MutatorRegsSaid : Prop := mutatorRegsRow.holds Tryz.pinned (OpenSpec.ofChange mutatorRegsSpec)

/-- ITS FALSE NEIGHBOUR: 'it returns false'. Refute it at one input. -/
def mutatorRegsWrong : ChangeSpec := { name := "mutatorRegs", fn := fun _ => fun
  | [d1, d2] => { results := [.lit (.bool false)], args := [d1, d2] }
  | _ => none }
def MutatorRegsWrongFalsely : Prop := mutatorRegsRow.holds Tryz.pinned (OpenSpec.ofChange mutatorRegsWrong)

/-- 'besomlaw16.MutatorSnapshot': WHATEVER THE INPUT: true; the input reads as it did. -/
def mutatorSnapshotSpec : ChangeSpec := { name := "mutatorSnapshot", fn := fun _ => fun
  | [d1, d2] => { results := [.lit (.bool true)], args := [d1, d2] }
  | _ => none }
def mutatorSnapshotRow : OpenClaim := { program := "ytcjjhmfdiiookaagreatdoor", sum := "95d71a6867f0106dfccc7eaa782e17a9b2e0456b67ec428bf7a83b5382b8c079", func := "besom/besomlaw16.MutatorSnapshot", spec := "mutatorSnapshot", inPlace := ["internal/abi.NoEscape", "internal/bytealg.MakeNoZero"], unfollowed := true, recurses := true, named := ["math/bits.deBruijn64tab", "internal/strconv.uint64pow10", "math/bits.deBruijn32tab"], apart := false, laid := [("math/bits.deBruijn32tab", laid_math_bits_deBruijn32tab), ("math/bits.deBruijn64tab", laid_math_bits_deBruijn64tab), ("internal/strconv.uint64pow10", laid_internal_strconv_uint64pow10)] }
def MutatorSnapshotSaid : Prop := mutatorSnapshotRow.holds Tryz.pinned (OpenSpec.ofChange mutatorSnapshotSpec)

/-- ITS FALSE NEIGHBOUR: 'it returns false'. Refute it at one input. -/
def mutatorSnapshotWrong : ChangeSpec := { name := "mutatorSnapshot", fn := fun _ => fun
  | [d1, d2] => { results := [.lit (.bool false)], args := [d1, d2] }
  | _ => none }
def MutatorSnapshotWrongFalsely : Prop := mutatorSnapshotRow.holds Tryz.pinned (OpenSpec.ofChange mutatorSnapshotWrong)

/- THE SECOND FORM. 'bulk': how many values and letters a reading holds, each counted each time it is reached (what is shared counts as often as it is met; a slice's spare places count too). A statement '..UptoSaid' is the law's where the arguments, and the package variables that the reading takes, are together of bulk at most 1048576: NARROWER than '..Said'. Prove '..Said' where nothing that the law and all that it calls make is longer than what came in: it says more and counts as full. Else prove '..UptoSaid'. A law counts once. -/
mutual
def uptoBulk {H : Type} : DataW H → Nat
  | .lit (.string bytes) => bytes.length + 1
  | .lit _ => 1
  | .nil => 1
  | .ptr d => uptoBulk d + 1
  | .slice elems spare => uptoBulkAll elems + uptoBulkAll spare + 1
  | .agg parts => uptoBulkAll parts + 1
  | .iface _ d => uptoBulk d + 1
  | .map entries => uptoBulkEntries entries + 1
  | .held _ => 1
def uptoBulkAll {H : Type} : List (DataW H) → Nat
  | [] => 0
  | d :: r => uptoBulk d + uptoBulkAll r
def uptoBulkEntries {H : Type} : List (Lit × DataW H) → Nat
  | [] => 0
  | x :: r => uptoBulkEntry x + uptoBulkEntries r
def uptoBulkEntry {H : Type} : Lit × DataW H → Nat
  | (.string bytes, d) => bytes.length + uptoBulk d + 1
  | (_, d) => uptoBulk d + 1
 end
def uptoSmall : (H : Type) → List (DataW H) → Bool := fun _ ds => decide (uptoBulkAll ds ≤ 1048576)
def OpenSpec.upto (s : _root_.Go.ChangeSpec) : _root_.Go.OpenSpec := { _root_.Go.OpenSpec.ofChange s with cond := some uptoSmall }

/-- 'besomlaw16.MutatorRuns', WHERE WHAT IT READS IS OF BULK AT MOST 1048576: true; the input reads as it did. -/
def mutatorRunsUptoRow : OpenClaim := { program := "ytcjjhmfdiiookaagreatdoor", sum := "95d71a6867f0106dfccc7eaa782e17a9b2e0456b67ec428bf7a83b5382b8c079", func := "besom/besomlaw16.MutatorRuns", spec := "mutatorRuns", inPlace := ["internal/abi.NoEscape", "internal/bytealg.MakeNoZero"], unfollowed := true, recurses := true, named := ["math/bits.deBruijn64tab", "internal/strconv.uint64pow10", "math/bits.deBruijn32tab"], apart := false, laid := [("math/bits.deBruijn32tab", laid_math_bits_deBruijn32tab), ("math/bits.deBruijn64tab", laid_math_bits_deBruijn64tab), ("internal/strconv.uint64pow10", laid_internal_strconv_uint64pow10)], narrowed := true }
def MutatorRunsUptoSaid : Prop := mutatorRunsUptoRow.holds Tryz.pinned (OpenSpec.upto mutatorRunsSpec)

/-- 'besomlaw16.MutatorBuffers', WHERE WHAT IT READS IS OF BULK AT MOST 1048576: true; the input reads as it did. -/
def mutatorBuffersUptoRow : OpenClaim := { program := "ytcjjhmfdiiookaagreatdoor", sum := "95d71a6867f0106dfccc7eaa782e17a9b2e0456b67ec428bf7a83b5382b8c079", func := "besom/besomlaw16.MutatorBuffers", spec := "mutatorBuffers", inPlace := ["internal/abi.NoEscape", "internal/bytealg.MakeNoZero"], unfollowed := true, recurses := true, named := ["math/bits.deBruijn64tab", "internal/strconv.uint64pow10", "math/bits.deBruijn32tab"], apart := false, laid := [("math/bits.deBruijn32tab", laid_math_bits_deBruijn32tab), ("math/bits.deBruijn64tab", laid_math_bits_deBruijn64tab), ("internal/strconv.uint64pow10", laid_internal_strconv_uint64pow10)], narrowed := true }
def MutatorBuffersUptoSaid : Prop := mutatorBuffersUptoRow.holds Tryz.pinned (OpenSpec.upto mutatorBuffersSpec)

/-- 'besomlaw16.MutatorNew', WHERE WHAT IT READS IS OF BULK AT MOST 1048576: true; the input reads as it did. -/
def mutatorNewUptoRow : OpenClaim := { program := "ytcjjhmfdiiookaagreatdoor", sum := "95d71a6867f0106dfccc7eaa782e17a9b2e0456b67ec428bf7a83b5382b8c079", func := "besom/besomlaw16.MutatorNew", spec := "mutatorNew", inPlace := ["internal/abi.NoEscape", "internal/bytealg.MakeNoZero"], unfollowed := true, recurses := true, named := ["math/bits.deBruijn64tab", "internal/strconv.uint64pow10", "math/bits.deBruijn32tab"], apart := false, laid := [("math/bits.deBruijn32tab", laid_math_bits_deBruijn32tab), ("math/bits.deBruijn64tab", laid_math_bits_deBruijn64tab), ("internal/strconv.uint64pow10", laid_internal_strconv_uint64pow10)], narrowed := true }
def MutatorNewUptoSaid : Prop := mutatorNewUptoRow.holds Tryz.pinned (OpenSpec.upto mutatorNewSpec)

/-- 'besomlaw16.MutatorApart', WHERE WHAT IT READS IS OF BULK AT MOST 1048576: true; the input reads as it did. -/
def mutatorApartUptoRow : OpenClaim := { program := "ytcjjhmfdiiookaagreatdoor", sum := "95d71a6867f0106dfccc7eaa782e17a9b2e0456b67ec428bf7a83b5382b8c079", func := "besom/besomlaw16.MutatorApart", spec := "mutatorApart", inPlace := ["internal/abi.NoEscape", "internal/bytealg.MakeNoZero"], unfollowed := true, recurses := true, named := ["math/bits.deBruijn64tab", "internal/strconv.uint64pow10", "math/bits.deBruijn32tab"], apart := false, laid := [("math/bits.deBruijn32tab", laid_math_bits_deBruijn32tab), ("math/bits.deBruijn64tab", laid_math_bits_deBruijn64tab), ("internal/strconv.uint64pow10", laid_internal_strconv_uint64pow10)], narrowed := true }
def MutatorApartUptoSaid : Prop := mutatorApartUptoRow.holds Tryz.pinned (OpenSpec.upto mutatorApartSpec)

/-- 'besomlaw16.MutatorRegs', WHERE WHAT IT READS IS OF BULK AT MOST 1048576: true; the input reads as it did. -/
def mutatorRegsUptoRow : OpenClaim := { program := "ytcjjhmfdiiookaagreatdoor", sum := "95d71a6867f0106dfccc7eaa782e17a9b2e0456b67ec428bf7a83b5382b8c079", func := "besom/besomlaw16.MutatorRegs", spec := "mutatorRegs", inPlace := ["internal/abi.NoEscape", "internal/bytealg.MakeNoZero"], unfollowed := true, recurses := true, named := ["math/bits.deBruijn64tab", "internal/strconv.uint64pow10", "math/bits.deBruijn32tab"], apart := false, laid := [("math/bits.deBruijn32tab", laid_math_bits_deBruijn32tab), ("math/bits.deBruijn64tab", laid_math_bits_deBruijn64tab), ("internal/strconv.uint64pow10", laid_internal_strconv_uint64pow10)], narrowed := true }
def MutatorRegsUptoSaid : Prop := mutatorRegsUptoRow.holds Tryz.pinned (OpenSpec.upto mutatorRegsSpec)

/-- 'besomlaw16.MutatorSnapshot', WHERE WHAT IT READS IS OF BULK AT MOST 1048576: true; the input reads as it did. -/
def mutatorSnapshotUptoRow : OpenClaim := { program := "ytcjjhmfdiiookaagreatdoor", sum := "95d71a6867f0106dfccc7eaa782e17a9b2e0456b67ec428bf7a83b5382b8c079", func := "besom/besomlaw16.MutatorSnapshot", spec := "mutatorSnapshot", inPlace := ["internal/abi.NoEscape", "internal/bytealg.MakeNoZero"], unfollowed := true, recurses := true, named := ["math/bits.deBruijn64tab", "internal/strconv.uint64pow10", "math/bits.deBruijn32tab"], apart := false, laid := [("math/bits.deBruijn32tab", laid_math_bits_deBruijn32tab), ("math/bits.deBruijn64tab", laid_math_bits_deBruijn64tab), ("internal/strconv.uint64pow10", laid_internal_strconv_uint64pow10)], narrowed := true }
def MutatorSnapshotUptoSaid : Prop := mutatorSnapshotUptoRow.holds Tryz.pinned (OpenSpec.upto mutatorSnapshotSpec)

end Rows
end Go.Proofs.YtcjjhmfdiiookaaGreatDoor
