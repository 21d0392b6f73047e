/-
  DERIVED. GIVEN WITH THE SEED: THE CARDS: each row of YtbppdaabhmmfiaaGreatDoorRows.lean that lists a variable, with what it lists TIED to the program's text (the seventh form; the later family's looks); each row that meets fmt, with fmt's text TOLD by the authors' own Lean function (tested against real Go, not proved from fmt's source: count such statements apart). THE CARD IS WHAT COUNTS. Prove the row's statement (the work); the ties are given (YtbppdaabhmmfiaaGreatDoorTie.lean); close each card by the builder's one call (the guide's Derived/Test/ToyasCard.lean, 'card_holds'). Laid BY PROGRAM, IN A SANDBOX (cutbox-door.mjs). By AI agents, Wed Nov 11 2026. No macro, syntax, notation, axiom, sorry.
-/
import Derived.Test.YtbppdaabhmmfiaaGreatDoorRows
import GoSem.ClaimSeven
namespace Go.Proofs.YtbppdaabhmmfiaaGreatDoor
namespace Rows

/-- THE TIED CARD OF 'besomlaw19.HoldPending'. -/
def holdPendingCard : Claim7 := { stood := { row := holdPendingRow, standIns := [], harness := (true, "e71f02ced0b07784c0be24ee95c2d7a7db48c9a9e7166b255f6ad55ce203f0b0"), looks := false }, kinds := [], alts := [], laidByText := true, laidKinds := [.data], laidTests := true, laidLooks := .later }
def HoldPendingCardSaid : Prop := Claim7.holds Tryz.pinned (.plain (OpenSpec.ofChange holdPendingSpec)) holdPendingCard

/-- THE SECOND FORM's CARD OF 'besomlaw19.HoldPending'. -/
def holdPendingUptoCard : Claim7 := { stood := { row := holdPendingUptoRow, standIns := [], harness := (true, "e71f02ced0b07784c0be24ee95c2d7a7db48c9a9e7166b255f6ad55ce203f0b0"), looks := false }, kinds := [], alts := [], laidByText := true, laidKinds := [.data], laidTests := true, laidLooks := .later }
def HoldPendingUptoCardSaid : Prop := Claim7.holds Tryz.pinned (.plain (OpenSpec.upto holdPendingSpec)) holdPendingUptoCard
end Rows
end Go.Proofs.YtbppdaabhmmfiaaGreatDoor
