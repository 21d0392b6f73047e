/-
  DERIVED. GIVEN WITH THE SEED: THE CARDS: each row of YtofljjggmmcgjaaGreatDoorRows.lean that lists a variable, with what it lists TIED to the program's text (the seventh form; the later family's looks); each row that meets fmt, with fmt's text TOLD by the authors' own Lean function (tested against real Go, not proved from fmt's source: count such statements apart). THE CARD IS WHAT COUNTS. Prove the row's statement (the work); the ties are given (YtofljjggmmcgjaaGreatDoorTie.lean); close each card by the builder's one call (the guide's Derived/Test/ToyasCard.lean, 'card_holds'). Laid BY PROGRAM, IN A SANDBOX (cutbox-door.mjs). By AI agents, Wed Nov 11 2026. No macro, syntax, notation, axiom, sorry.
-/
import Derived.Test.YtofljjggmmcgjaaGreatDoorRows
import GoSem.ClaimSeven
namespace Go.Proofs.YtofljjggmmcgjaaGreatDoor
namespace Rows

/-- THE TIED CARD OF 'besomlaw14.GreyTells'. -/
def greyTellsCard : Claim7 := { stood := { row := greyTellsRow, standIns := [], harness := (true, "800f1f59b3e4b8d9cad0cd498b0d3411608c99fbe7a2f233265e51c93b54455c"), looks := false }, kinds := [], alts := [], laidByText := true, laidKinds := [.data], laidTests := true, laidLooks := .later }
def GreyTellsCardSaid : Prop := Claim7.holds Tryz.pinned (.plain (OpenSpec.ofChange greyTellsSpec)) greyTellsCard

/-- THE TIED CARD OF 'besomlaw14.GreyCounts'. -/
def greyCountsCard : Claim7 := { stood := { row := greyCountsRow, standIns := [], harness := (true, "800f1f59b3e4b8d9cad0cd498b0d3411608c99fbe7a2f233265e51c93b54455c"), looks := false }, kinds := [], alts := [], laidByText := true, laidKinds := [.data], laidTests := true, laidLooks := .later }
def GreyCountsCardSaid : Prop := Claim7.holds Tryz.pinned (.plain (OpenSpec.ofChange greyCountsSpec)) greyCountsCard

/-- THE TIED CARD OF 'besomlaw14.GreyOnce'. -/
def greyOnceCard : Claim7 := { stood := { row := greyOnceRow, standIns := [], harness := (true, "800f1f59b3e4b8d9cad0cd498b0d3411608c99fbe7a2f233265e51c93b54455c"), looks := false }, kinds := [], alts := [], laidByText := true, laidKinds := [.data], laidTests := true, laidLooks := .later }
def GreyOnceCardSaid : Prop := Claim7.holds Tryz.pinned (.plain (OpenSpec.ofChange greyOnceSpec)) greyOnceCard

/-- THE TIED CARD OF 'besomlaw14.GreyPlace'. -/
def greyPlaceCard : Claim7 := { stood := { row := greyPlaceRow, standIns := [], harness := (true, "800f1f59b3e4b8d9cad0cd498b0d3411608c99fbe7a2f233265e51c93b54455c"), looks := false }, kinds := [], alts := [], laidByText := true, laidKinds := [.data], laidTests := true, laidLooks := .later }
def GreyPlaceCardSaid : Prop := Claim7.holds Tryz.pinned (.plain (OpenSpec.ofChange greyPlaceSpec)) greyPlaceCard

/-- THE TIED CARD OF 'besomlaw14.GreyMarked'. -/
def greyMarkedCard : Claim7 := { stood := { row := greyMarkedRow, standIns := [], harness := (true, "800f1f59b3e4b8d9cad0cd498b0d3411608c99fbe7a2f233265e51c93b54455c"), looks := false }, kinds := [], alts := [], laidByText := true, laidKinds := [.data], laidTests := true, laidLooks := .later }
def GreyMarkedCardSaid : Prop := Claim7.holds Tryz.pinned (.plain (OpenSpec.ofChange greyMarkedSpec)) greyMarkedCard

/-- THE SECOND FORM's CARD OF 'besomlaw14.GreyTells'. -/
def greyTellsUptoCard : Claim7 := { stood := { row := greyTellsUptoRow, standIns := [], harness := (true, "800f1f59b3e4b8d9cad0cd498b0d3411608c99fbe7a2f233265e51c93b54455c"), looks := false }, kinds := [], alts := [], laidByText := true, laidKinds := [.data], laidTests := true, laidLooks := .later }
def GreyTellsUptoCardSaid : Prop := Claim7.holds Tryz.pinned (.plain (OpenSpec.upto greyTellsSpec)) greyTellsUptoCard

/-- THE SECOND FORM's CARD OF 'besomlaw14.GreyCounts'. -/
def greyCountsUptoCard : Claim7 := { stood := { row := greyCountsUptoRow, standIns := [], harness := (true, "800f1f59b3e4b8d9cad0cd498b0d3411608c99fbe7a2f233265e51c93b54455c"), looks := false }, kinds := [], alts := [], laidByText := true, laidKinds := [.data], laidTests := true, laidLooks := .later }
def GreyCountsUptoCardSaid : Prop := Claim7.holds Tryz.pinned (.plain (OpenSpec.upto greyCountsSpec)) greyCountsUptoCard

/-- THE SECOND FORM's CARD OF 'besomlaw14.GreyOnce'. -/
def greyOnceUptoCard : Claim7 := { stood := { row := greyOnceUptoRow, standIns := [], harness := (true, "800f1f59b3e4b8d9cad0cd498b0d3411608c99fbe7a2f233265e51c93b54455c"), looks := false }, kinds := [], alts := [], laidByText := true, laidKinds := [.data], laidTests := true, laidLooks := .later }
def GreyOnceUptoCardSaid : Prop := Claim7.holds Tryz.pinned (.plain (OpenSpec.upto greyOnceSpec)) greyOnceUptoCard

/-- THE SECOND FORM's CARD OF 'besomlaw14.GreyPlace'. -/
def greyPlaceUptoCard : Claim7 := { stood := { row := greyPlaceUptoRow, standIns := [], harness := (true, "800f1f59b3e4b8d9cad0cd498b0d3411608c99fbe7a2f233265e51c93b54455c"), looks := false }, kinds := [], alts := [], laidByText := true, laidKinds := [.data], laidTests := true, laidLooks := .later }
def GreyPlaceUptoCardSaid : Prop := Claim7.holds Tryz.pinned (.plain (OpenSpec.upto greyPlaceSpec)) greyPlaceUptoCard

/-- THE SECOND FORM's CARD OF 'besomlaw14.GreyMarked'. -/
def greyMarkedUptoCard : Claim7 := { stood := { row := greyMarkedUptoRow, standIns := [], harness := (true, "800f1f59b3e4b8d9cad0cd498b0d3411608c99fbe7a2f233265e51c93b54455c"), looks := false }, kinds := [], alts := [], laidByText := true, laidKinds := [.data], laidTests := true, laidLooks := .later }
def GreyMarkedUptoCardSaid : Prop := Claim7.holds Tryz.pinned (.plain (OpenSpec.upto greyMarkedSpec)) greyMarkedUptoCard
end Rows
end Go.Proofs.YtofljjggmmcgjaaGreatDoor
