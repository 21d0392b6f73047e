/-
  DERIVED. GIVEN WITH THE SEED: THE CARDS: each row of YtcjjhmfdiiookaaGreatDoorRows.lean that lists a variable, with what it lists TIED to the program's text (the seventh form; the later family's looks); each row that meets fmt, with fmt's text TOLD by the authors' own Lean function (tested against real Go, not proved from fmt's source: count such statements apart). THE CARD IS WHAT COUNTS. Prove the row's statement (the work); the ties are given (YtcjjhmfdiiookaaGreatDoorTie.lean); close each card by the builder's one call (the guide's Derived/Test/ToyasCard.lean, 'card_holds'). Laid BY PROGRAM, IN A SANDBOX (cutbox-door.mjs). By AI agents, Wed Nov 11 2026. No macro, syntax, notation, axiom, sorry.
-/
import Derived.Test.YtcjjhmfdiiookaaGreatDoorRows
import GoSem.ClaimSeven
namespace Go.Proofs.YtcjjhmfdiiookaaGreatDoor
namespace Rows

/-- THE TIED CARD OF 'besomlaw16.MutatorRuns'. -/
def mutatorRunsCard : Claim7 := { stood := { row := mutatorRunsRow, standIns := [], harness := (true, "aec18deb38c509edb89bcc0e87f260d5763973c5bdd4ed83b23d612a3144f6b9"), looks := false }, kinds := [], alts := [], laidByText := true, laidKinds := [.data, .data, .data], laidTests := true, laidLooks := .later }
def MutatorRunsCardSaid : Prop := Claim7.holds Tryz.pinned (.plain (OpenSpec.ofChange mutatorRunsSpec)) mutatorRunsCard

/-- THE TIED CARD OF 'besomlaw16.MutatorBuffers'. -/
def mutatorBuffersCard : Claim7 := { stood := { row := mutatorBuffersRow, standIns := [], harness := (true, "aec18deb38c509edb89bcc0e87f260d5763973c5bdd4ed83b23d612a3144f6b9"), looks := false }, kinds := [], alts := [], laidByText := true, laidKinds := [.data, .data, .data], laidTests := true, laidLooks := .later }
def MutatorBuffersCardSaid : Prop := Claim7.holds Tryz.pinned (.plain (OpenSpec.ofChange mutatorBuffersSpec)) mutatorBuffersCard

/-- THE TIED CARD OF 'besomlaw16.MutatorNew'. -/
def mutatorNewCard : Claim7 := { stood := { row := mutatorNewRow, standIns := [], harness := (true, "aec18deb38c509edb89bcc0e87f260d5763973c5bdd4ed83b23d612a3144f6b9"), looks := false }, kinds := [], alts := [], laidByText := true, laidKinds := [.data, .data, .data], laidTests := true, laidLooks := .later }
def MutatorNewCardSaid : Prop := Claim7.holds Tryz.pinned (.plain (OpenSpec.ofChange mutatorNewSpec)) mutatorNewCard

/-- THE TIED CARD OF 'besomlaw16.MutatorApart'. -/
def mutatorApartCard : Claim7 := { stood := { row := mutatorApartRow, standIns := [], harness := (true, "aec18deb38c509edb89bcc0e87f260d5763973c5bdd4ed83b23d612a3144f6b9"), looks := false }, kinds := [], alts := [], laidByText := true, laidKinds := [.data, .data, .data], laidTests := true, laidLooks := .later }
def MutatorApartCardSaid : Prop := Claim7.holds Tryz.pinned (.plain (OpenSpec.ofChange mutatorApartSpec)) mutatorApartCard

/-- THE TIED CARD OF 'besomlaw16.MutatorRegs'. -/
def mutatorRegsCard : Claim7 := { stood := { row := mutatorRegsRow, standIns := [], harness := (true, "aec18deb38c509edb89bcc0e87f260d5763973c5bdd4ed83b23d612a3144f6b9"), looks := false }, kinds := [], alts := [], laidByText := true, laidKinds := [.data, .data, .data], laidTests := true, laidLooks := .later }
def MutatorRegsCardSaid : Prop := Claim7.holds Tryz.pinned (.plain (OpenSpec.ofChange mutatorRegsSpec)) mutatorRegsCard

/-- THE TIED CARD OF 'besomlaw16.MutatorSnapshot'. -/
def mutatorSnapshotCard : Claim7 := { stood := { row := mutatorSnapshotRow, standIns := [], harness := (true, "aec18deb38c509edb89bcc0e87f260d5763973c5bdd4ed83b23d612a3144f6b9"), looks := false }, kinds := [], alts := [], laidByText := true, laidKinds := [.data, .data, .data], laidTests := true, laidLooks := .later }
def MutatorSnapshotCardSaid : Prop := Claim7.holds Tryz.pinned (.plain (OpenSpec.ofChange mutatorSnapshotSpec)) mutatorSnapshotCard

/-- THE SECOND FORM's CARD OF 'besomlaw16.MutatorRuns'. -/
def mutatorRunsUptoCard : Claim7 := { stood := { row := mutatorRunsUptoRow, standIns := [], harness := (true, "aec18deb38c509edb89bcc0e87f260d5763973c5bdd4ed83b23d612a3144f6b9"), looks := false }, kinds := [], alts := [], laidByText := true, laidKinds := [.data, .data, .data], laidTests := true, laidLooks := .later }
def MutatorRunsUptoCardSaid : Prop := Claim7.holds Tryz.pinned (.plain (OpenSpec.upto mutatorRunsSpec)) mutatorRunsUptoCard

/-- THE SECOND FORM's CARD OF 'besomlaw16.MutatorBuffers'. -/
def mutatorBuffersUptoCard : Claim7 := { stood := { row := mutatorBuffersUptoRow, standIns := [], harness := (true, "aec18deb38c509edb89bcc0e87f260d5763973c5bdd4ed83b23d612a3144f6b9"), looks := false }, kinds := [], alts := [], laidByText := true, laidKinds := [.data, .data, .data], laidTests := true, laidLooks := .later }
def MutatorBuffersUptoCardSaid : Prop := Claim7.holds Tryz.pinned (.plain (OpenSpec.upto mutatorBuffersSpec)) mutatorBuffersUptoCard

/-- THE SECOND FORM's CARD OF 'besomlaw16.MutatorNew'. -/
def mutatorNewUptoCard : Claim7 := { stood := { row := mutatorNewUptoRow, standIns := [], harness := (true, "aec18deb38c509edb89bcc0e87f260d5763973c5bdd4ed83b23d612a3144f6b9"), looks := false }, kinds := [], alts := [], laidByText := true, laidKinds := [.data, .data, .data], laidTests := true, laidLooks := .later }
def MutatorNewUptoCardSaid : Prop := Claim7.holds Tryz.pinned (.plain (OpenSpec.upto mutatorNewSpec)) mutatorNewUptoCard

/-- THE SECOND FORM's CARD OF 'besomlaw16.MutatorApart'. -/
def mutatorApartUptoCard : Claim7 := { stood := { row := mutatorApartUptoRow, standIns := [], harness := (true, "aec18deb38c509edb89bcc0e87f260d5763973c5bdd4ed83b23d612a3144f6b9"), looks := false }, kinds := [], alts := [], laidByText := true, laidKinds := [.data, .data, .data], laidTests := true, laidLooks := .later }
def MutatorApartUptoCardSaid : Prop := Claim7.holds Tryz.pinned (.plain (OpenSpec.upto mutatorApartSpec)) mutatorApartUptoCard

/-- THE SECOND FORM's CARD OF 'besomlaw16.MutatorRegs'. -/
def mutatorRegsUptoCard : Claim7 := { stood := { row := mutatorRegsUptoRow, standIns := [], harness := (true, "aec18deb38c509edb89bcc0e87f260d5763973c5bdd4ed83b23d612a3144f6b9"), looks := false }, kinds := [], alts := [], laidByText := true, laidKinds := [.data, .data, .data], laidTests := true, laidLooks := .later }
def MutatorRegsUptoCardSaid : Prop := Claim7.holds Tryz.pinned (.plain (OpenSpec.upto mutatorRegsSpec)) mutatorRegsUptoCard

/-- THE SECOND FORM's CARD OF 'besomlaw16.MutatorSnapshot'. -/
def mutatorSnapshotUptoCard : Claim7 := { stood := { row := mutatorSnapshotUptoRow, standIns := [], harness := (true, "aec18deb38c509edb89bcc0e87f260d5763973c5bdd4ed83b23d612a3144f6b9"), looks := false }, kinds := [], alts := [], laidByText := true, laidKinds := [.data, .data, .data], laidTests := true, laidLooks := .later }
def MutatorSnapshotUptoCardSaid : Prop := Claim7.holds Tryz.pinned (.plain (OpenSpec.upto mutatorSnapshotSpec)) mutatorSnapshotUptoCard
end Rows
end Go.Proofs.YtcjjhmfdiiookaaGreatDoor
