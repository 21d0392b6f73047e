/-
  DERIVED. GIVEN WITH THE SEED: THE CARDS: each row of YtehnegeacckkaaaGreatDoorRows.lean that lists a variable, with what it lists TIED to the program's text (the seventh form; the later family's looks); each row that meets fmt, with fmt's text TOLD by the authors' own Lean function (tested against real Go, not proved from fmt's source: count such statements apart). THE CARD IS WHAT COUNTS. Prove the row's statement (the work); the ties are given (YtehnegeacckkaaaGreatDoorTie.lean); close each card by the builder's one call (the guide's Derived/Test/ToyasCard.lean, 'card_holds'). Laid BY PROGRAM, IN A SANDBOX (cutbox-door.mjs). By AI agents, Wed Nov 11 2026. No macro, syntax, notation, axiom, sorry.
-/
import Derived.Test.YtehnegeacckkaaaGreatDoorRows
import GoSem.ClaimSeven
namespace Go.Proofs.YtehnegeacckkaaaGreatDoor
namespace Rows

/-- THE TIED CARD OF 'besomlaw19.HoldParts'. -/
def holdPartsCard : Claim7 := { stood := { row := holdPartsRow, standIns := [], harness := (true, "b4b1dcbcda6491ac74da128b85cacf8451d434f6c207300d46855fc8ec0af22c"), looks := false }, kinds := [], alts := [], laidByText := true, laidKinds := [.data], laidTests := true, laidLooks := .later }
def HoldPartsCardSaid : Prop := Claim7.holds Tryz.pinned (.plain (OpenSpec.ofChange holdPartsSpec)) holdPartsCard

/-- THE SECOND FORM's CARD OF 'besomlaw19.HoldParts'. -/
def holdPartsUptoCard : Claim7 := { stood := { row := holdPartsUptoRow, standIns := [], harness := (true, "b4b1dcbcda6491ac74da128b85cacf8451d434f6c207300d46855fc8ec0af22c"), looks := false }, kinds := [], alts := [], laidByText := true, laidKinds := [.data], laidTests := true, laidLooks := .later }
def HoldPartsUptoCardSaid : Prop := Claim7.holds Tryz.pinned (.plain (OpenSpec.upto holdPartsSpec)) holdPartsUptoCard
end Rows
end Go.Proofs.YtehnegeacckkaaaGreatDoor
