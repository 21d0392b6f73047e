/-
  DERIVED. GIVEN WITH THE SEED: THE CARDS: each row of YtcajmfphncfieaaGreatDoorRows.lean that lists a variable, with what it lists TIED to the program's text (the seventh form; the later family's looks); each row that meets fmt, with fmt's text TOLD by the authors' own Lean function (tested against real Go, not proved from fmt's source: count such statements apart). THE CARD IS WHAT COUNTS. Prove the row's statement (the work); the ties are given (YtcajmfphncfieaaGreatDoorTie.lean); close each card by the builder's one call (the guide's Derived/Test/ToyasCard.lean, 'card_holds'). Laid BY PROGRAM, IN A SANDBOX (cutbox-door.mjs). By AI agents, Wed Nov 11 2026. No macro, syntax, notation, axiom, sorry.
-/
import Derived.Test.YtcajmfphncfieaaGreatDoorRows
import GoSem.ClaimSeven
namespace Go.Proofs.YtcajmfphncfieaaGreatDoor
namespace Rows

/-- THE TIED CARD OF 'besomlaw20.TriLegal'. -/
def triLegalCard : Claim7 := { stood := { row := triLegalRow, standIns := [], harness := (true, "b866b03b612538019f9a84ed807a9062651ac59d46af365e816b7e7d833a9f02"), looks := false }, kinds := [], alts := [], laidByText := true, laidKinds := [.data], laidTests := true, laidLooks := .later }
def TriLegalCardSaid : Prop := Claim7.holds Tryz.pinned (.plain (OpenSpec.ofChange triLegalSpec)) triLegalCard

/-- THE SECOND FORM's CARD OF 'besomlaw20.TriLegal'. -/
def triLegalUptoCard : Claim7 := { stood := { row := triLegalUptoRow, standIns := [], harness := (true, "b866b03b612538019f9a84ed807a9062651ac59d46af365e816b7e7d833a9f02"), looks := false }, kinds := [], alts := [], laidByText := true, laidKinds := [.data], laidTests := true, laidLooks := .later }
def TriLegalUptoCardSaid : Prop := Claim7.holds Tryz.pinned (.plain (OpenSpec.upto triLegalSpec)) triLegalUptoCard
end Rows
end Go.Proofs.YtcajmfphncfieaaGreatDoor
