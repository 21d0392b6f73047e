/-
  DERIVED. GIVEN WITH THE SEED: THE CARDS: each row of YthoplgeckmkhiaaGreatDoorRows.lean that lists a variable, with what it lists TIED to the program's text (the seventh form; the later family's looks); each row that meets fmt, with fmt's text TOLD by the authors' own Lean function (tested against real Go, not proved from fmt's source: count such statements apart). THE CARD IS WHAT COUNTS. Prove the row's statement (the work); the ties are given (YthoplgeckmkhiaaGreatDoorTie.lean); close each card by the builder's one call (the guide's Derived/Test/ToyasCard.lean, 'card_holds'). Laid BY PROGRAM, IN A SANDBOX (cutbox-door.mjs). By AI agents, Wed Nov 11 2026. No macro, syntax, notation, axiom, sorry.
-/
import Derived.Test.YthoplgeckmkhiaaGreatDoorRows
import GoSem.ClaimSeven
namespace Go.Proofs.YthoplgeckmkhiaaGreatDoor
namespace Rows

/-- THE TIED CARD OF 'besomlaw15.WorkerOnce'. -/
def workerOnceCard : Claim7 := { stood := { row := workerOnceRow, standIns := [], harness := (true, "137c9128dd51fda2f52a0d52e5688e3f7253e9af2dda9949ed375d8af1f3c6f7"), looks := false }, kinds := [], alts := [], laidByText := true, laidKinds := [.data], laidTests := true, laidLooks := .later }
def WorkerOnceCardSaid : Prop := Claim7.holds Tryz.pinned (.plain (OpenSpec.ofChange workerOnceSpec)) workerOnceCard

/-- THE SECOND FORM's CARD OF 'besomlaw15.WorkerOnce'. -/
def workerOnceUptoCard : Claim7 := { stood := { row := workerOnceUptoRow, standIns := [], harness := (true, "137c9128dd51fda2f52a0d52e5688e3f7253e9af2dda9949ed375d8af1f3c6f7"), looks := false }, kinds := [], alts := [], laidByText := true, laidKinds := [.data], laidTests := true, laidLooks := .later }
def WorkerOnceUptoCardSaid : Prop := Claim7.holds Tryz.pinned (.plain (OpenSpec.upto workerOnceSpec)) workerOnceUptoCard
end Rows
end Go.Proofs.YthoplgeckmkhiaaGreatDoor
