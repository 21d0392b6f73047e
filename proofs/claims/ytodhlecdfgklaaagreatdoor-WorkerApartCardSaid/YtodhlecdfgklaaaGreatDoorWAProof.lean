/- What is proved: WorkerApart of chapter 15, of every input: a step of a worker turns no other worker, no mutator, not the heap, and not the state that was there. Condition: the listed variables (Go's own tables) lie as the program's text lays them, which the card ties. -/
import Derived.Test.YtodhlecdfgklaaaGreatDoorWALa
import Derived.Test.YtodhlecdfgklaaaGreatDoorWAPa
set_option linter.unusedVariables false
set_option linter.unusedSimpArgs false
set_option linter.unnecessarySimpa false
set_option linter.unusedSectionVars false
set_option linter.deprecated false
namespace Go.Proofs.YtodhlecdfgklaaaGreatDoor
theorem workerApart_holds : Rows.WorkerApartCardSaid := Go.Pe.G.card_holds Go.Pe.G.B15.workerApart_plain
end Go.Proofs.YtodhlecdfgklaaaGreatDoor
