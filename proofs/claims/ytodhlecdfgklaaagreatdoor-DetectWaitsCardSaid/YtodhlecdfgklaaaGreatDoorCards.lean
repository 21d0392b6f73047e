/-
  DERIVED. GIVEN WITH THE SEED: THE CARDS: each row of YtodhlecdfgklaaaGreatDoorRows.lean that lists a variable, with what it lists TIED to the program's text (the seventh form; the later family's looks); each row that meets fmt, with fmt's text TOLD by the authors' own Lean function (tested against real Go, not proved from fmt's source: count such statements apart). THE CARD IS WHAT COUNTS. Prove the row's statement (the work); the ties are given (YtodhlecdfgklaaaGreatDoorTie.lean); close each card by the builder's one call (the guide's Derived/Test/ToyasCard.lean, 'card_holds'). Laid BY PROGRAM, IN A SANDBOX (cutbox-door.mjs). By AI agents, Wed Nov 11 2026. No macro, syntax, notation, axiom, sorry.
-/
import Derived.Test.YtodhlecdfgklaaaGreatDoorRows
import GoSem.ClaimSeven
namespace Go.Proofs.YtodhlecdfgklaaaGreatDoor
namespace Rows

/-- THE TIED CARD OF 'besomlaw15.WorkerTells'. -/
def workerTellsCard : Claim7 := { stood := { row := workerTellsRow, standIns := [], harness := (true, "d4dd41cb523a653fc2be43965d51f985f92ecd7d236fbc3f6539046b8fcccd68"), looks := false }, kinds := [], alts := [], laidByText := true, laidKinds := [.data], laidTests := true, laidLooks := .later }
def WorkerTellsCardSaid : Prop := Claim7.holds Tryz.pinned (.plain (OpenSpec.ofChange workerTellsSpec)) workerTellsCard

/-- THE TIED CARD OF 'besomlaw15.WorkerApart'. -/
def workerApartCard : Claim7 := { stood := { row := workerApartRow, standIns := [], harness := (true, "d4dd41cb523a653fc2be43965d51f985f92ecd7d236fbc3f6539046b8fcccd68"), looks := false }, kinds := [], alts := [], laidByText := true, laidKinds := [.data], laidTests := true, laidLooks := .later }
def WorkerApartCardSaid : Prop := Claim7.holds Tryz.pinned (.plain (OpenSpec.ofChange workerApartSpec)) workerApartCard

/-- THE TIED CARD OF 'besomlaw17.DetectWaits'. -/
def detectWaitsCard : Claim7 := { stood := { row := detectWaitsRow, standIns := [], harness := (true, "d4dd41cb523a653fc2be43965d51f985f92ecd7d236fbc3f6539046b8fcccd68"), looks := false }, kinds := [], alts := [], laidByText := true, laidKinds := [.data], laidTests := true, laidLooks := .later }
def DetectWaitsCardSaid : Prop := Claim7.holds Tryz.pinned (.plain (OpenSpec.ofChange detectWaitsSpec)) detectWaitsCard

/-- THE TIED CARD OF 'besomlaw17.DetectTells'. -/
def detectTellsCard : Claim7 := { stood := { row := detectTellsRow, standIns := [], harness := (true, "d4dd41cb523a653fc2be43965d51f985f92ecd7d236fbc3f6539046b8fcccd68"), looks := false }, kinds := [], alts := [], laidByText := true, laidKinds := [.data], laidTests := true, laidLooks := .later }
def DetectTellsCardSaid : Prop := Claim7.holds Tryz.pinned (.plain (OpenSpec.ofChange detectTellsSpec)) detectTellsCard

/-- THE TIED CARD OF 'besomlaw17.DetectAnswers'. -/
def detectAnswersCard : Claim7 := { stood := { row := detectAnswersRow, standIns := [], harness := (true, "d4dd41cb523a653fc2be43965d51f985f92ecd7d236fbc3f6539046b8fcccd68"), looks := false }, kinds := [], alts := [], laidByText := true, laidKinds := [.data], laidTests := true, laidLooks := .later }
def DetectAnswersCardSaid : Prop := Claim7.holds Tryz.pinned (.plain (OpenSpec.ofChange detectAnswersSpec)) detectAnswersCard

/-- THE TIED CARD OF 'besomlaw17.DetectOnly'. -/
def detectOnlyCard : Claim7 := { stood := { row := detectOnlyRow, standIns := [], harness := (true, "d4dd41cb523a653fc2be43965d51f985f92ecd7d236fbc3f6539046b8fcccd68"), looks := false }, kinds := [], alts := [], laidByText := true, laidKinds := [.data], laidTests := true, laidLooks := .later }
def DetectOnlyCardSaid : Prop := Claim7.holds Tryz.pinned (.plain (OpenSpec.ofChange detectOnlySpec)) detectOnlyCard

/-- THE TIED CARD OF 'besomlaw18.EngineTells'. -/
def engineTellsCard : Claim7 := { stood := { row := engineTellsRow, standIns := [], harness := (true, "d4dd41cb523a653fc2be43965d51f985f92ecd7d236fbc3f6539046b8fcccd68"), looks := false }, kinds := [], alts := [], laidByText := true, laidKinds := [.data], laidTests := true, laidLooks := .later }
def EngineTellsCardSaid : Prop := Claim7.holds Tryz.pinned (.plain (OpenSpec.ofChange engineTellsSpec)) engineTellsCard

/-- THE TIED CARD OF 'besomlaw18.EnginePlan'. -/
def enginePlanCard : Claim7 := { stood := { row := enginePlanRow, standIns := [], harness := (true, "d4dd41cb523a653fc2be43965d51f985f92ecd7d236fbc3f6539046b8fcccd68"), looks := false }, kinds := [], alts := [], laidByText := true, laidKinds := [.data], laidTests := true, laidLooks := .later }
def EnginePlanCardSaid : Prop := Claim7.holds Tryz.pinned (.plain (OpenSpec.ofChange enginePlanSpec)) enginePlanCard

/-- THE TIED CARD OF 'besomlaw16.MutatorTells'. -/
def mutatorTellsCard : Claim7 := { stood := { row := mutatorTellsRow, standIns := [], harness := (true, "d4dd41cb523a653fc2be43965d51f985f92ecd7d236fbc3f6539046b8fcccd68"), looks := false }, kinds := [], alts := [], laidByText := true, laidKinds := [.data, .data, .data], laidTests := true, laidLooks := .later }
def MutatorTellsCardSaid : Prop := Claim7.holds Tryz.pinned (.plain (OpenSpec.ofChange mutatorTellsSpec)) mutatorTellsCard

/-- THE TIED CARD OF 'besomlaw16.MutatorBuffers'. -/
def mutatorBuffersCard : Claim7 := { stood := { row := mutatorBuffersRow, standIns := [], harness := (true, "d4dd41cb523a653fc2be43965d51f985f92ecd7d236fbc3f6539046b8fcccd68"), looks := false }, kinds := [], alts := [], laidByText := true, laidKinds := [.data, .data, .data], laidTests := true, laidLooks := .later }
def MutatorBuffersCardSaid : Prop := Claim7.holds Tryz.pinned (.plain (OpenSpec.ofChange mutatorBuffersSpec)) mutatorBuffersCard

/-- THE TIED CARD OF 'besomlaw16.MutatorNew'. -/
def mutatorNewCard : Claim7 := { stood := { row := mutatorNewRow, standIns := [], harness := (true, "d4dd41cb523a653fc2be43965d51f985f92ecd7d236fbc3f6539046b8fcccd68"), looks := false }, kinds := [], alts := [], laidByText := true, laidKinds := [.data, .data, .data], laidTests := true, laidLooks := .later }
def MutatorNewCardSaid : Prop := Claim7.holds Tryz.pinned (.plain (OpenSpec.ofChange mutatorNewSpec)) mutatorNewCard

/-- THE TIED CARD OF 'besomlaw16.MutatorApart'. -/
def mutatorApartCard : Claim7 := { stood := { row := mutatorApartRow, standIns := [], harness := (true, "d4dd41cb523a653fc2be43965d51f985f92ecd7d236fbc3f6539046b8fcccd68"), looks := false }, kinds := [], alts := [], laidByText := true, laidKinds := [.data, .data, .data], laidTests := true, laidLooks := .later }
def MutatorApartCardSaid : Prop := Claim7.holds Tryz.pinned (.plain (OpenSpec.ofChange mutatorApartSpec)) mutatorApartCard

/-- THE SECOND FORM's CARD OF 'besomlaw15.WorkerTells'. -/
def workerTellsUptoCard : Claim7 := { stood := { row := workerTellsUptoRow, standIns := [], harness := (true, "d4dd41cb523a653fc2be43965d51f985f92ecd7d236fbc3f6539046b8fcccd68"), looks := false }, kinds := [], alts := [], laidByText := true, laidKinds := [.data], laidTests := true, laidLooks := .later }
def WorkerTellsUptoCardSaid : Prop := Claim7.holds Tryz.pinned (.plain (OpenSpec.upto workerTellsSpec)) workerTellsUptoCard

/-- THE SECOND FORM's CARD OF 'besomlaw15.WorkerApart'. -/
def workerApartUptoCard : Claim7 := { stood := { row := workerApartUptoRow, standIns := [], harness := (true, "d4dd41cb523a653fc2be43965d51f985f92ecd7d236fbc3f6539046b8fcccd68"), looks := false }, kinds := [], alts := [], laidByText := true, laidKinds := [.data], laidTests := true, laidLooks := .later }
def WorkerApartUptoCardSaid : Prop := Claim7.holds Tryz.pinned (.plain (OpenSpec.upto workerApartSpec)) workerApartUptoCard

/-- THE SECOND FORM's CARD OF 'besomlaw17.DetectWaits'. -/
def detectWaitsUptoCard : Claim7 := { stood := { row := detectWaitsUptoRow, standIns := [], harness := (true, "d4dd41cb523a653fc2be43965d51f985f92ecd7d236fbc3f6539046b8fcccd68"), looks := false }, kinds := [], alts := [], laidByText := true, laidKinds := [.data], laidTests := true, laidLooks := .later }
def DetectWaitsUptoCardSaid : Prop := Claim7.holds Tryz.pinned (.plain (OpenSpec.upto detectWaitsSpec)) detectWaitsUptoCard

/-- THE SECOND FORM's CARD OF 'besomlaw17.DetectTells'. -/
def detectTellsUptoCard : Claim7 := { stood := { row := detectTellsUptoRow, standIns := [], harness := (true, "d4dd41cb523a653fc2be43965d51f985f92ecd7d236fbc3f6539046b8fcccd68"), looks := false }, kinds := [], alts := [], laidByText := true, laidKinds := [.data], laidTests := true, laidLooks := .later }
def DetectTellsUptoCardSaid : Prop := Claim7.holds Tryz.pinned (.plain (OpenSpec.upto detectTellsSpec)) detectTellsUptoCard

/-- THE SECOND FORM's CARD OF 'besomlaw17.DetectAnswers'. -/
def detectAnswersUptoCard : Claim7 := { stood := { row := detectAnswersUptoRow, standIns := [], harness := (true, "d4dd41cb523a653fc2be43965d51f985f92ecd7d236fbc3f6539046b8fcccd68"), looks := false }, kinds := [], alts := [], laidByText := true, laidKinds := [.data], laidTests := true, laidLooks := .later }
def DetectAnswersUptoCardSaid : Prop := Claim7.holds Tryz.pinned (.plain (OpenSpec.upto detectAnswersSpec)) detectAnswersUptoCard

/-- THE SECOND FORM's CARD OF 'besomlaw17.DetectOnly'. -/
def detectOnlyUptoCard : Claim7 := { stood := { row := detectOnlyUptoRow, standIns := [], harness := (true, "d4dd41cb523a653fc2be43965d51f985f92ecd7d236fbc3f6539046b8fcccd68"), looks := false }, kinds := [], alts := [], laidByText := true, laidKinds := [.data], laidTests := true, laidLooks := .later }
def DetectOnlyUptoCardSaid : Prop := Claim7.holds Tryz.pinned (.plain (OpenSpec.upto detectOnlySpec)) detectOnlyUptoCard

/-- THE SECOND FORM's CARD OF 'besomlaw18.EngineTells'. -/
def engineTellsUptoCard : Claim7 := { stood := { row := engineTellsUptoRow, standIns := [], harness := (true, "d4dd41cb523a653fc2be43965d51f985f92ecd7d236fbc3f6539046b8fcccd68"), looks := false }, kinds := [], alts := [], laidByText := true, laidKinds := [.data], laidTests := true, laidLooks := .later }
def EngineTellsUptoCardSaid : Prop := Claim7.holds Tryz.pinned (.plain (OpenSpec.upto engineTellsSpec)) engineTellsUptoCard

/-- THE SECOND FORM's CARD OF 'besomlaw18.EnginePlan'. -/
def enginePlanUptoCard : Claim7 := { stood := { row := enginePlanUptoRow, standIns := [], harness := (true, "d4dd41cb523a653fc2be43965d51f985f92ecd7d236fbc3f6539046b8fcccd68"), looks := false }, kinds := [], alts := [], laidByText := true, laidKinds := [.data], laidTests := true, laidLooks := .later }
def EnginePlanUptoCardSaid : Prop := Claim7.holds Tryz.pinned (.plain (OpenSpec.upto enginePlanSpec)) enginePlanUptoCard

/-- THE SECOND FORM's CARD OF 'besomlaw16.MutatorTells'. -/
def mutatorTellsUptoCard : Claim7 := { stood := { row := mutatorTellsUptoRow, standIns := [], harness := (true, "d4dd41cb523a653fc2be43965d51f985f92ecd7d236fbc3f6539046b8fcccd68"), looks := false }, kinds := [], alts := [], laidByText := true, laidKinds := [.data, .data, .data], laidTests := true, laidLooks := .later }
def MutatorTellsUptoCardSaid : Prop := Claim7.holds Tryz.pinned (.plain (OpenSpec.upto mutatorTellsSpec)) mutatorTellsUptoCard

/-- THE SECOND FORM's CARD OF 'besomlaw16.MutatorBuffers'. -/
def mutatorBuffersUptoCard : Claim7 := { stood := { row := mutatorBuffersUptoRow, standIns := [], harness := (true, "d4dd41cb523a653fc2be43965d51f985f92ecd7d236fbc3f6539046b8fcccd68"), looks := false }, kinds := [], alts := [], laidByText := true, laidKinds := [.data, .data, .data], laidTests := true, laidLooks := .later }
def MutatorBuffersUptoCardSaid : Prop := Claim7.holds Tryz.pinned (.plain (OpenSpec.upto mutatorBuffersSpec)) mutatorBuffersUptoCard

/-- THE SECOND FORM's CARD OF 'besomlaw16.MutatorNew'. -/
def mutatorNewUptoCard : Claim7 := { stood := { row := mutatorNewUptoRow, standIns := [], harness := (true, "d4dd41cb523a653fc2be43965d51f985f92ecd7d236fbc3f6539046b8fcccd68"), looks := false }, kinds := [], alts := [], laidByText := true, laidKinds := [.data, .data, .data], laidTests := true, laidLooks := .later }
def MutatorNewUptoCardSaid : Prop := Claim7.holds Tryz.pinned (.plain (OpenSpec.upto mutatorNewSpec)) mutatorNewUptoCard

/-- THE SECOND FORM's CARD OF 'besomlaw16.MutatorApart'. -/
def mutatorApartUptoCard : Claim7 := { stood := { row := mutatorApartUptoRow, standIns := [], harness := (true, "d4dd41cb523a653fc2be43965d51f985f92ecd7d236fbc3f6539046b8fcccd68"), looks := false }, kinds := [], alts := [], laidByText := true, laidKinds := [.data, .data, .data], laidTests := true, laidLooks := .later }
def MutatorApartUptoCardSaid : Prop := Claim7.holds Tryz.pinned (.plain (OpenSpec.upto mutatorApartSpec)) mutatorApartUptoCard
end Rows
end Go.Proofs.YtodhlecdfgklaaaGreatDoor
