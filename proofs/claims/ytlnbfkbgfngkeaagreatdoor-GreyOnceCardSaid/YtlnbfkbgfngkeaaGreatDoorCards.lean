/-
  DERIVED. GIVEN WITH THE SEED: THE CARDS: each row of YtlnbfkbgfngkeaaGreatDoorRows.lean that lists a variable, with what it lists TIED to the program's text (the seventh form; the later family's looks); each row that meets fmt, with fmt's text TOLD by the authors' own Lean function (tested against real Go, not proved from fmt's source: count such statements apart). THE CARD IS WHAT COUNTS. Prove the row's statement (the work); the ties are given (YtlnbfkbgfngkeaaGreatDoorTie.lean); close each card by the builder's one call (the guide's Derived/Test/ToyasCard.lean, 'card_holds'). Laid BY PROGRAM, IN A SANDBOX (cutbox-door.mjs). By AI agents, Wed Nov 11 2026. No macro, syntax, notation, axiom, sorry.
-/
import Derived.Test.YtlnbfkbgfngkeaaGreatDoorRows
import GoSem.ClaimSeven
namespace Go.Proofs.YtlnbfkbgfngkeaaGreatDoor
namespace Rows

/-- THE TIED CARD OF 'besomlaw14.GreyOnce'. -/
def greyOnceCard : Claim7 := { stood := { row := greyOnceRow, standIns := [], harness := (true, "eee85302cfb1d4aff72376624aa97cd7b8c04b9016967735acc16ee3fb67e6b4"), looks := false }, kinds := [], alts := [], laidByText := true, laidKinds := [.data], laidTests := true, laidLooks := .later }
def GreyOnceCardSaid : Prop := Claim7.holds Tryz.pinned (.plain (OpenSpec.ofChange greyOnceSpec)) greyOnceCard

/-- THE SECOND FORM's CARD OF 'besomlaw14.GreyOnce'. -/
def greyOnceUptoCard : Claim7 := { stood := { row := greyOnceUptoRow, standIns := [], harness := (true, "eee85302cfb1d4aff72376624aa97cd7b8c04b9016967735acc16ee3fb67e6b4"), looks := false }, kinds := [], alts := [], laidByText := true, laidKinds := [.data], laidTests := true, laidLooks := .later }
def GreyOnceUptoCardSaid : Prop := Claim7.holds Tryz.pinned (.plain (OpenSpec.upto greyOnceSpec)) greyOnceUptoCard
end Rows
end Go.Proofs.YtlnbfkbgfngkeaaGreatDoor
