/-
  DERIVED. GIVEN WITH THE SEED: THE CARDS: each row of YtomijpphpgmfhaaGreatDoorRows.lean that lists a variable, with what it lists TIED to the program's text (the seventh form; the later family's looks); each row that meets fmt, with fmt's text TOLD by the authors' own Lean function (tested against real Go, not proved from fmt's source: count such statements apart). THE CARD IS WHAT COUNTS. Prove the row's statement (the work); the ties are given (YtomijpphpgmfhaaGreatDoorTie.lean); close each card by the builder's one call (the guide's Derived/Test/ToyasCard.lean, 'card_holds'). Laid BY PROGRAM, IN A SANDBOX (cutbox-door.mjs). By AI agents, Wed Nov 11 2026. No macro, syntax, notation, axiom, sorry.
-/
import Derived.Test.YtomijpphpgmfhaaGreatDoorRows
import GoSem.ClaimSeven
namespace Go.Proofs.YtomijpphpgmfhaaGreatDoor
namespace Rows

/-- THE TIED CARD OF 'besomlaw19.HoldWork'. -/
def holdWorkCard : Claim7 := { stood := { row := holdWorkRow, standIns := [], harness := (true, "1b955165f0c4b33afd5f40e1dba8365d232a4952b6c2a08653c53695033fbf6e"), looks := false }, kinds := [], alts := [], laidByText := true, laidKinds := [.data], laidTests := true, laidLooks := .later }
def HoldWorkCardSaid : Prop := Claim7.holds Tryz.pinned (.plain (OpenSpec.ofChange holdWorkSpec)) holdWorkCard

/-- THE SECOND FORM's CARD OF 'besomlaw19.HoldWork'. -/
def holdWorkUptoCard : Claim7 := { stood := { row := holdWorkUptoRow, standIns := [], harness := (true, "1b955165f0c4b33afd5f40e1dba8365d232a4952b6c2a08653c53695033fbf6e"), looks := false }, kinds := [], alts := [], laidByText := true, laidKinds := [.data], laidTests := true, laidLooks := .later }
def HoldWorkUptoCardSaid : Prop := Claim7.holds Tryz.pinned (.plain (OpenSpec.upto holdWorkSpec)) holdWorkUptoCard
end Rows
end Go.Proofs.YtomijpphpgmfhaaGreatDoor
