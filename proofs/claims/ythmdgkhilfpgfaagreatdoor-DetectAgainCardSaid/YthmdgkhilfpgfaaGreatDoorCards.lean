/-
  DERIVED. GIVEN WITH THE SEED: THE CARDS: each row of YthmdgkhilfpgfaaGreatDoorRows.lean that lists a variable, with what it lists TIED to the program's text (the seventh form; the later family's looks); each row that meets fmt, with fmt's text TOLD by the authors' own Lean function (tested against real Go, not proved from fmt's source: count such statements apart). THE CARD IS WHAT COUNTS. Prove the row's statement (the work); the ties are given (YthmdgkhilfpgfaaGreatDoorTie.lean); close each card by the builder's one call (the guide's Derived/Test/ToyasCard.lean, 'card_holds'). Laid BY PROGRAM, IN A SANDBOX (cutbox-door.mjs). By AI agents, Wed Nov 11 2026. No macro, syntax, notation, axiom, sorry.
-/
import Derived.Test.YthmdgkhilfpgfaaGreatDoorRows
import GoSem.ClaimSeven
namespace Go.Proofs.YthmdgkhilfpgfaaGreatDoor
namespace Rows

/-- THE TIED CARD OF 'besomlaw17.DetectAnswers'. -/
def detectAnswersCard : Claim7 := { stood := { row := detectAnswersRow, standIns := [], harness := (true, "081d3d68e67d7fd220978d0123d8488131cc871293f5aef05cfca55305a249fc"), looks := false }, kinds := [], alts := [], laidByText := true, laidKinds := [.data], laidTests := true, laidLooks := .later }
def DetectAnswersCardSaid : Prop := Claim7.holds Tryz.pinned (.plain (OpenSpec.ofChange detectAnswersSpec)) detectAnswersCard

/-- THE TIED CARD OF 'besomlaw17.DetectOnly'. -/
def detectOnlyCard : Claim7 := { stood := { row := detectOnlyRow, standIns := [], harness := (true, "081d3d68e67d7fd220978d0123d8488131cc871293f5aef05cfca55305a249fc"), looks := false }, kinds := [], alts := [], laidByText := true, laidKinds := [.data], laidTests := true, laidLooks := .later }
def DetectOnlyCardSaid : Prop := Claim7.holds Tryz.pinned (.plain (OpenSpec.ofChange detectOnlySpec)) detectOnlyCard

/-- THE TIED CARD OF 'besomlaw17.DetectAgain'. -/
def detectAgainCard : Claim7 := { stood := { row := detectAgainRow, standIns := [], harness := (true, "081d3d68e67d7fd220978d0123d8488131cc871293f5aef05cfca55305a249fc"), looks := false }, kinds := [], alts := [], laidByText := true, laidKinds := [.data], laidTests := true, laidLooks := .later }
def DetectAgainCardSaid : Prop := Claim7.holds Tryz.pinned (.plain (OpenSpec.ofChange detectAgainSpec)) detectAgainCard

/-- THE TIED CARD OF 'besomlaw17.DetectDone'. -/
def detectDoneCard : Claim7 := { stood := { row := detectDoneRow, standIns := [], harness := (true, "081d3d68e67d7fd220978d0123d8488131cc871293f5aef05cfca55305a249fc"), looks := false }, kinds := [], alts := [], laidByText := true, laidKinds := [.data], laidTests := true, laidLooks := .later }
def DetectDoneCardSaid : Prop := Claim7.holds Tryz.pinned (.plain (OpenSpec.ofChange detectDoneSpec)) detectDoneCard

/-- THE SECOND FORM's CARD OF 'besomlaw17.DetectAnswers'. -/
def detectAnswersUptoCard : Claim7 := { stood := { row := detectAnswersUptoRow, standIns := [], harness := (true, "081d3d68e67d7fd220978d0123d8488131cc871293f5aef05cfca55305a249fc"), looks := false }, kinds := [], alts := [], laidByText := true, laidKinds := [.data], laidTests := true, laidLooks := .later }
def DetectAnswersUptoCardSaid : Prop := Claim7.holds Tryz.pinned (.plain (OpenSpec.upto detectAnswersSpec)) detectAnswersUptoCard

/-- THE SECOND FORM's CARD OF 'besomlaw17.DetectOnly'. -/
def detectOnlyUptoCard : Claim7 := { stood := { row := detectOnlyUptoRow, standIns := [], harness := (true, "081d3d68e67d7fd220978d0123d8488131cc871293f5aef05cfca55305a249fc"), looks := false }, kinds := [], alts := [], laidByText := true, laidKinds := [.data], laidTests := true, laidLooks := .later }
def DetectOnlyUptoCardSaid : Prop := Claim7.holds Tryz.pinned (.plain (OpenSpec.upto detectOnlySpec)) detectOnlyUptoCard

/-- THE SECOND FORM's CARD OF 'besomlaw17.DetectAgain'. -/
def detectAgainUptoCard : Claim7 := { stood := { row := detectAgainUptoRow, standIns := [], harness := (true, "081d3d68e67d7fd220978d0123d8488131cc871293f5aef05cfca55305a249fc"), looks := false }, kinds := [], alts := [], laidByText := true, laidKinds := [.data], laidTests := true, laidLooks := .later }
def DetectAgainUptoCardSaid : Prop := Claim7.holds Tryz.pinned (.plain (OpenSpec.upto detectAgainSpec)) detectAgainUptoCard

/-- THE SECOND FORM's CARD OF 'besomlaw17.DetectDone'. -/
def detectDoneUptoCard : Claim7 := { stood := { row := detectDoneUptoRow, standIns := [], harness := (true, "081d3d68e67d7fd220978d0123d8488131cc871293f5aef05cfca55305a249fc"), looks := false }, kinds := [], alts := [], laidByText := true, laidKinds := [.data], laidTests := true, laidLooks := .later }
def DetectDoneUptoCardSaid : Prop := Claim7.holds Tryz.pinned (.plain (OpenSpec.upto detectDoneSpec)) detectDoneUptoCard
end Rows
end Go.Proofs.YthmdgkhilfpgfaaGreatDoor
