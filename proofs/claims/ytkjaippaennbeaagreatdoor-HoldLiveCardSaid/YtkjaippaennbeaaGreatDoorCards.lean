/-
  DERIVED. GIVEN WITH THE SEED: THE CARDS: each row of YtkjaippaennbeaaGreatDoorRows.lean that lists a variable, with what it lists TIED to the program's text (the seventh form; the later family's looks); each row that meets fmt, with fmt's text TOLD by the authors' own Lean function (tested against real Go, not proved from fmt's source: count such statements apart). THE CARD IS WHAT COUNTS. Prove the row's statement (the work); the ties are given (YtkjaippaennbeaaGreatDoorTie.lean); close each card by the builder's one call (the guide's Derived/Test/ToyasCard.lean, 'card_holds'). Laid BY PROGRAM, IN A SANDBOX (cutbox-door.mjs). By AI agents, Wed Nov 11 2026. No macro, syntax, notation, axiom, sorry.
-/
import Derived.Test.YtkjaippaennbeaaGreatDoorRows
import GoSem.ClaimSeven
namespace Go.Proofs.YtkjaippaennbeaaGreatDoor
namespace Rows

/-- THE TIED CARD OF 'besomlaw19.HoldLive'. -/
def holdLiveCard : Claim7 := { stood := { row := holdLiveRow, standIns := [], harness := (true, "9212b72ad53065ad15fe58f04ba4d9d7c107a78e59f289334ae30ffddddccce9"), looks := false }, kinds := [], alts := [], laidByText := true, laidKinds := [.data], laidTests := true, laidLooks := .later }
def HoldLiveCardSaid : Prop := Claim7.holds Tryz.pinned (.plain (OpenSpec.ofChange holdLiveSpec)) holdLiveCard

/-- THE SECOND FORM's CARD OF 'besomlaw19.HoldLive'. -/
def holdLiveUptoCard : Claim7 := { stood := { row := holdLiveUptoRow, standIns := [], harness := (true, "9212b72ad53065ad15fe58f04ba4d9d7c107a78e59f289334ae30ffddddccce9"), looks := false }, kinds := [], alts := [], laidByText := true, laidKinds := [.data], laidTests := true, laidLooks := .later }
def HoldLiveUptoCardSaid : Prop := Claim7.holds Tryz.pinned (.plain (OpenSpec.upto holdLiveSpec)) holdLiveUptoCard
end Rows
end Go.Proofs.YtkjaippaennbeaaGreatDoor
