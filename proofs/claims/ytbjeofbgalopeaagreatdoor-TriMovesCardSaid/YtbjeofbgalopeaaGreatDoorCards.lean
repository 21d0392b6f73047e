/-
  DERIVED. GIVEN WITH THE SEED: THE CARDS: each row of YtbjeofbgalopeaaGreatDoorRows.lean that lists a variable, with what it lists TIED to the program's text (the seventh form; the later family's looks); each row that meets fmt, with fmt's text TOLD by the authors' own Lean function (tested against real Go, not proved from fmt's source: count such statements apart). THE CARD IS WHAT COUNTS. Prove the row's statement (the work); the ties are given (YtbjeofbgalopeaaGreatDoorTie.lean); close each card by the builder's one call (the guide's Derived/Test/ToyasCard.lean, 'card_holds'). Laid BY PROGRAM, IN A SANDBOX (cutbox-door.mjs). By AI agents, Wed Nov 11 2026. No macro, syntax, notation, axiom, sorry.
-/
import Derived.Test.YtbjeofbgalopeaaGreatDoorRows
import GoSem.ClaimSeven
namespace Go.Proofs.YtbjeofbgalopeaaGreatDoor
namespace Rows

/-- THE TIED CARD OF 'besomlaw20.TriMoves'. -/
def triMovesCard : Claim7 := { stood := { row := triMovesRow, standIns := [], harness := (true, "a41b2cef2c6efdca34e1e16c62af3ffd07513d411f61fc566553fa909661776e"), looks := false }, kinds := [], alts := [], laidByText := true, laidKinds := [.data], laidTests := true, laidLooks := .later }
def TriMovesCardSaid : Prop := Claim7.holds Tryz.pinned (.plain (OpenSpec.ofChange triMovesSpec)) triMovesCard

/-- THE SECOND FORM's CARD OF 'besomlaw20.TriMoves'. -/
def triMovesUptoCard : Claim7 := { stood := { row := triMovesUptoRow, standIns := [], harness := (true, "a41b2cef2c6efdca34e1e16c62af3ffd07513d411f61fc566553fa909661776e"), looks := false }, kinds := [], alts := [], laidByText := true, laidKinds := [.data], laidTests := true, laidLooks := .later }
def TriMovesUptoCardSaid : Prop := Claim7.holds Tryz.pinned (.plain (OpenSpec.upto triMovesSpec)) triMovesUptoCard
end Rows
end Go.Proofs.YtbjeofbgalopeaaGreatDoor
