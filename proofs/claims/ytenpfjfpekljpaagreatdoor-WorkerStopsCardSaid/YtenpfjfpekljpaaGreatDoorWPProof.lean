/- What is proved: Whoever stops, wherever it stands: another one that goes on alone comes to look into its own deque again. Condition: the listed variables (Go's own tables) lie as the program's text lays them, which the card ties. -/
import Derived.Test.YtenpfjfpekljpaaGreatDoorWPLa
import Derived.Test.YtenpfjfpekljpaaGreatDoorWPPb
set_option linter.unusedVariables false
set_option linter.unusedSimpArgs false
set_option linter.unnecessarySimpa false
set_option linter.unusedSectionVars false
set_option linter.deprecated false
namespace Go.Proofs.YtenpfjfpekljpaaGreatDoor
theorem workerStops_holds:Rows.WorkerStopsCardSaid:=Go.Pe.G.card_holds Go.Pe.G.B15.workerStops_plain
end Go.Proofs.YtenpfjfpekljpaaGreatDoor
