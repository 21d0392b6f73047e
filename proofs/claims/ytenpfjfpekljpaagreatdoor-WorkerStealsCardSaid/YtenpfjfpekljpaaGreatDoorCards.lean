/-
  DERIVED. GIVEN WITH THE SEED: THE CARDS: each row of YtenpfjfpekljpaaGreatDoorRows.lean that lists a variable, with what it lists TIED to the program's text (the seventh form; the later family's looks); each row that meets fmt, with fmt's text TOLD by the authors' own Lean function (tested against real Go, not proved from fmt's source: count such statements apart). THE CARD IS WHAT COUNTS. Prove the row's statement (the work); the ties are given (YtenpfjfpekljpaaGreatDoorTie.lean); close each card by the builder's one call (the guide's Derived/Test/ToyasCard.lean, 'card_holds'). Laid BY PROGRAM, IN A SANDBOX (cutbox-door.mjs). By AI agents, Wed Nov 11 2026. No macro, syntax, notation, axiom, sorry.
-/
import Derived.Test.YtenpfjfpekljpaaGreatDoorRows
import GoSem.ClaimSeven
namespace Go.Proofs.YtenpfjfpekljpaaGreatDoor
namespace Rows

/-- THE TIED CARD OF 'besomlaw15.WorkerStops'. -/
def workerStopsCard : Claim7 := { stood := { row := workerStopsRow, standIns := [], harness := (true, "aa4c054236b3066ea44ee7786633d4ce8f693b03848a14201af799f7f6f1f85f"), looks := false }, kinds := [], alts := [], laidByText := true, laidKinds := [.data], laidTests := true, laidLooks := .later }
def WorkerStopsCardSaid : Prop := Claim7.holds Tryz.pinned (.plain (OpenSpec.ofChange workerStopsSpec)) workerStopsCard

/-- THE TIED CARD OF 'besomlaw15.WorkerSteals'. -/
def workerStealsCard : Claim7 := { stood := { row := workerStealsRow, standIns := [], harness := (true, "aa4c054236b3066ea44ee7786633d4ce8f693b03848a14201af799f7f6f1f85f"), looks := false }, kinds := [], alts := [], laidByText := true, laidKinds := [.data], laidTests := true, laidLooks := .later }
def WorkerStealsCardSaid : Prop := Claim7.holds Tryz.pinned (.plain (OpenSpec.ofChange workerStealsSpec)) workerStealsCard

/-- THE TIED CARD OF 'besomlaw15.WorkerEnds'. -/
def workerEndsCard : Claim7 := { stood := { row := workerEndsRow, standIns := [], harness := (true, "aa4c054236b3066ea44ee7786633d4ce8f693b03848a14201af799f7f6f1f85f"), looks := false }, kinds := [], alts := [], laidByText := true, laidKinds := [.data], laidTests := true, laidLooks := .later }
def WorkerEndsCardSaid : Prop := Claim7.holds Tryz.pinned (.plain (OpenSpec.ofChange workerEndsSpec)) workerEndsCard

/-- THE TIED CARD OF 'besomlaw15.WorkerDarker'. -/
def workerDarkerCard : Claim7 := { stood := { row := workerDarkerRow, standIns := [], harness := (true, "aa4c054236b3066ea44ee7786633d4ce8f693b03848a14201af799f7f6f1f85f"), looks := false }, kinds := [], alts := [], laidByText := true, laidKinds := [.data], laidTests := true, laidLooks := .later }
def WorkerDarkerCardSaid : Prop := Claim7.holds Tryz.pinned (.plain (OpenSpec.ofChange workerDarkerSpec)) workerDarkerCard

/-- THE SECOND FORM's CARD OF 'besomlaw15.WorkerStops'. -/
def workerStopsUptoCard : Claim7 := { stood := { row := workerStopsUptoRow, standIns := [], harness := (true, "aa4c054236b3066ea44ee7786633d4ce8f693b03848a14201af799f7f6f1f85f"), looks := false }, kinds := [], alts := [], laidByText := true, laidKinds := [.data], laidTests := true, laidLooks := .later }
def WorkerStopsUptoCardSaid : Prop := Claim7.holds Tryz.pinned (.plain (OpenSpec.upto workerStopsSpec)) workerStopsUptoCard

/-- THE SECOND FORM's CARD OF 'besomlaw15.WorkerSteals'. -/
def workerStealsUptoCard : Claim7 := { stood := { row := workerStealsUptoRow, standIns := [], harness := (true, "aa4c054236b3066ea44ee7786633d4ce8f693b03848a14201af799f7f6f1f85f"), looks := false }, kinds := [], alts := [], laidByText := true, laidKinds := [.data], laidTests := true, laidLooks := .later }
def WorkerStealsUptoCardSaid : Prop := Claim7.holds Tryz.pinned (.plain (OpenSpec.upto workerStealsSpec)) workerStealsUptoCard

/-- THE SECOND FORM's CARD OF 'besomlaw15.WorkerEnds'. -/
def workerEndsUptoCard : Claim7 := { stood := { row := workerEndsUptoRow, standIns := [], harness := (true, "aa4c054236b3066ea44ee7786633d4ce8f693b03848a14201af799f7f6f1f85f"), looks := false }, kinds := [], alts := [], laidByText := true, laidKinds := [.data], laidTests := true, laidLooks := .later }
def WorkerEndsUptoCardSaid : Prop := Claim7.holds Tryz.pinned (.plain (OpenSpec.upto workerEndsSpec)) workerEndsUptoCard

/-- THE SECOND FORM's CARD OF 'besomlaw15.WorkerDarker'. -/
def workerDarkerUptoCard : Claim7 := { stood := { row := workerDarkerUptoRow, standIns := [], harness := (true, "aa4c054236b3066ea44ee7786633d4ce8f693b03848a14201af799f7f6f1f85f"), looks := false }, kinds := [], alts := [], laidByText := true, laidKinds := [.data], laidTests := true, laidLooks := .later }
def WorkerDarkerUptoCardSaid : Prop := Claim7.holds Tryz.pinned (.plain (OpenSpec.upto workerDarkerSpec)) workerDarkerUptoCard
end Rows
end Go.Proofs.YtenpfjfpekljpaaGreatDoor
