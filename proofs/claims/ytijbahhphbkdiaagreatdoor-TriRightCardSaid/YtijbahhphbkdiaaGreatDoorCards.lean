/-
  DERIVED. GIVEN WITH THE SEED: THE CARDS: each row of YtijbahhphbkdiaaGreatDoorRows.lean that lists a variable, with what it lists TIED to the program's text (the seventh form; the later family's looks); each row that meets fmt, with fmt's text TOLD by the authors' own Lean function (tested against real Go, not proved from fmt's source: count such statements apart). THE CARD IS WHAT COUNTS. Prove the row's statement (the work); the ties are given (YtijbahhphbkdiaaGreatDoorTie.lean); close each card by the builder's one call (the guide's Derived/Test/ToyasCard.lean, 'card_holds'). Laid BY PROGRAM, IN A SANDBOX (cutbox-door.mjs). By AI agents, Wed Nov 11 2026. No macro, syntax, notation, axiom, sorry.
-/
import Derived.Test.YtijbahhphbkdiaaGreatDoorRows
import GoSem.ClaimSeven
namespace Go.Proofs.YtijbahhphbkdiaaGreatDoor
namespace Rows

/-- THE TIED CARD OF 'besomlaw20.TriRight'. -/
def triRightCard : Claim7 := { stood := { row := triRightRow, standIns := [], harness := (true, "6484e22c7a00cf977943383d44219ae5c51733dd961778e09fec67ed0fcf67a7"), looks := false }, kinds := [], alts := [], laidByText := true, laidKinds := [.data], laidTests := true, laidLooks := .later }
def TriRightCardSaid : Prop := Claim7.holds Tryz.pinned (.plain (OpenSpec.ofChange triRightSpec)) triRightCard

/-- THE SECOND FORM's CARD OF 'besomlaw20.TriRight'. -/
def triRightUptoCard : Claim7 := { stood := { row := triRightUptoRow, standIns := [], harness := (true, "6484e22c7a00cf977943383d44219ae5c51733dd961778e09fec67ed0fcf67a7"), looks := false }, kinds := [], alts := [], laidByText := true, laidKinds := [.data], laidTests := true, laidLooks := .later }
def TriRightUptoCardSaid : Prop := Claim7.holds Tryz.pinned (.plain (OpenSpec.upto triRightSpec)) triRightUptoCard
end Rows
end Go.Proofs.YtijbahhphbkdiaaGreatDoor
