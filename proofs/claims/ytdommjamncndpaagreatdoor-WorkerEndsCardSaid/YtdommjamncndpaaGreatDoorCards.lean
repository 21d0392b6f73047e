/-
  DERIVED. GIVEN WITH THE SEED: THE CARDS: each row of YtdommjamncndpaaGreatDoorRows.lean that lists a variable, with what it lists TIED to the program's text (the seventh form; the later family's looks); each row that meets fmt, with fmt's text TOLD by the authors' own Lean function (tested against real Go, not proved from fmt's source: count such statements apart). THE CARD IS WHAT COUNTS. Prove the row's statement (the work); the ties are given (YtdommjamncndpaaGreatDoorTie.lean); close each card by the builder's one call (the guide's Derived/Test/ToyasCard.lean, 'card_holds'). Laid BY PROGRAM, IN A SANDBOX (cutbox-door.mjs). By AI agents, Wed Nov 11 2026. No macro, syntax, notation, axiom, sorry.
-/
import Derived.Test.YtdommjamncndpaaGreatDoorRows
import GoSem.ClaimSeven
namespace Go.Proofs.YtdommjamncndpaaGreatDoor
namespace Rows

/-- THE TIED CARD OF 'besomlaw15.WorkerEnds'. -/
def workerEndsCard : Claim7 := { stood := { row := workerEndsRow, standIns := [], harness := (true, "9e732a6327b321a1cbbf5ed1d49d37662991c6314a0c095aca0b39da0d9bbe76"), looks := false }, kinds := [], alts := [], laidByText := true, laidKinds := [.data], laidTests := true, laidLooks := .later }
def WorkerEndsCardSaid : Prop := Claim7.holds Tryz.pinned (.plain (OpenSpec.ofChange workerEndsSpec)) workerEndsCard

/-- THE SECOND FORM's CARD OF 'besomlaw15.WorkerEnds'. -/
def workerEndsUptoCard : Claim7 := { stood := { row := workerEndsUptoRow, standIns := [], harness := (true, "9e732a6327b321a1cbbf5ed1d49d37662991c6314a0c095aca0b39da0d9bbe76"), looks := false }, kinds := [], alts := [], laidByText := true, laidKinds := [.data], laidTests := true, laidLooks := .later }
def WorkerEndsUptoCardSaid : Prop := Claim7.holds Tryz.pinned (.plain (OpenSpec.upto workerEndsSpec)) workerEndsUptoCard
end Rows
end Go.Proofs.YtdommjamncndpaaGreatDoor
