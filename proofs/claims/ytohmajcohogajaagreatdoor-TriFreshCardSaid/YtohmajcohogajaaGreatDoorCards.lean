/-
  DERIVED. GIVEN WITH THE SEED: THE CARDS: each row of YtohmajcohogajaaGreatDoorRows.lean that lists a variable, with what it lists TIED to the program's text (the seventh form; the later family's looks); each row that meets fmt, with fmt's text TOLD by the authors' own Lean function (tested against real Go, not proved from fmt's source: count such statements apart). THE CARD IS WHAT COUNTS. Prove the row's statement (the work); the ties are given (YtohmajcohogajaaGreatDoorTie.lean); close each card by the builder's one call (the guide's Derived/Test/ToyasCard.lean, 'card_holds'). Laid BY PROGRAM, IN A SANDBOX (cutbox-door.mjs). By AI agents, Wed Nov 11 2026. No macro, syntax, notation, axiom, sorry.
-/
import Derived.Test.YtohmajcohogajaaGreatDoorRows
import GoSem.ClaimSeven
namespace Go.Proofs.YtohmajcohogajaaGreatDoor
namespace Rows

/-- THE TIED CARD OF 'besomlaw20.TriFresh'. -/
def triFreshCard : Claim7 := { stood := { row := triFreshRow, standIns := [], harness := (true, "896a3275330f14ff3cb60f7c9114058929f9e443ee23e987ceb47271a82eb156"), looks := false }, kinds := [], alts := [], laidByText := true, laidKinds := [.data], laidTests := true, laidLooks := .later }
def TriFreshCardSaid : Prop := Claim7.holds Tryz.pinned (.plain (OpenSpec.ofChange triFreshSpec)) triFreshCard

/-- THE SECOND FORM's CARD OF 'besomlaw20.TriFresh'. -/
def triFreshUptoCard : Claim7 := { stood := { row := triFreshUptoRow, standIns := [], harness := (true, "896a3275330f14ff3cb60f7c9114058929f9e443ee23e987ceb47271a82eb156"), looks := false }, kinds := [], alts := [], laidByText := true, laidKinds := [.data], laidTests := true, laidLooks := .later }
def TriFreshUptoCardSaid : Prop := Claim7.holds Tryz.pinned (.plain (OpenSpec.upto triFreshSpec)) triFreshUptoCard
end Rows
end Go.Proofs.YtohmajcohogajaaGreatDoor
