/- What is proved: WorkerTells of chapter 15, of every input: of workers that step in whatever order each step is what the document's answer says. Condition: the listed variables (Go's own tables) lie as the program's text lays them, which the card ties. -/
import Derived.Test.YtodhlecdfgklaaaGreatDoorWTLa
import Derived.Test.YtodhlecdfgklaaaGreatDoorWTPa
set_option linter.unusedVariables false
set_option linter.unusedSimpArgs false
set_option linter.unnecessarySimpa false
set_option linter.unusedSectionVars false
set_option linter.deprecated false
namespace Go.Proofs.YtodhlecdfgklaaaGreatDoor
theorem workerTells_holds : Rows.WorkerTellsCardSaid := Go.Pe.G.card_holds Go.Pe.G.B15.workerTells_plain
end Go.Proofs.YtodhlecdfgklaaaGreatDoor
