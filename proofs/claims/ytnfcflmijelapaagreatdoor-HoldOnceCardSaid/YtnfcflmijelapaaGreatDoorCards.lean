/-
  DERIVED. GIVEN WITH THE SEED: THE CARDS: each row of YtnfcflmijelapaaGreatDoorRows.lean that lists a variable, with what it lists TIED to the program's text (the seventh form; the later family's looks); each row that meets fmt, with fmt's text TOLD by the authors' own Lean function (tested against real Go, not proved from fmt's source: count such statements apart). THE CARD IS WHAT COUNTS. Prove the row's statement (the work); the ties are given (YtnfcflmijelapaaGreatDoorTie.lean); close each card by the builder's one call (the guide's Derived/Test/ToyasCard.lean, 'card_holds'). Laid BY PROGRAM, IN A SANDBOX (cutbox-door.mjs). By AI agents, Wed Nov 11 2026. No macro, syntax, notation, axiom, sorry.
-/
import Derived.Test.YtnfcflmijelapaaGreatDoorRows
import GoSem.ClaimSeven
namespace Go.Proofs.YtnfcflmijelapaaGreatDoor
namespace Rows

/-- THE TIED CARD OF 'besomlaw19.HoldOnce'. -/
def holdOnceCard : Claim7 := { stood := { row := holdOnceRow, standIns := [], harness := (true, "ccf7095ba5058e908113e397fd5d7459ff80be6114e24960f656b7ed27e4503b"), looks := false }, kinds := [], alts := [], laidByText := true, laidKinds := [.data], laidTests := true, laidLooks := .later }
def HoldOnceCardSaid : Prop := Claim7.holds Tryz.pinned (.plain (OpenSpec.ofChange holdOnceSpec)) holdOnceCard

/-- THE SECOND FORM's CARD OF 'besomlaw19.HoldOnce'. -/
def holdOnceUptoCard : Claim7 := { stood := { row := holdOnceUptoRow, standIns := [], harness := (true, "ccf7095ba5058e908113e397fd5d7459ff80be6114e24960f656b7ed27e4503b"), looks := false }, kinds := [], alts := [], laidByText := true, laidKinds := [.data], laidTests := true, laidLooks := .later }
def HoldOnceUptoCardSaid : Prop := Claim7.holds Tryz.pinned (.plain (OpenSpec.upto holdOnceSpec)) holdOnceUptoCard
end Rows
end Go.Proofs.YtnfcflmijelapaaGreatDoor
