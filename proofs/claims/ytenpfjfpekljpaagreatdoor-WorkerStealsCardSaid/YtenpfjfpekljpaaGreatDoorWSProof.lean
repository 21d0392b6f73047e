/- What is proved: A worker that goes on alone leaves nothing in any deque that it may take, and no full bin. Condition: the listed variables (Go's own tables) lie as the program's text lays them, which the card ties. -/
import Derived.Test.YtenpfjfpekljpaaGreatDoorWSLa
import Derived.Test.YtenpfjfpekljpaaGreatDoorWSPb
set_option linter.unusedVariables false
set_option linter.unusedSimpArgs false
set_option linter.unnecessarySimpa false
set_option linter.unusedSectionVars false
set_option linter.deprecated false
namespace Go.Proofs.YtenpfjfpekljpaaGreatDoor
theorem workerSteals_holds:Rows.WorkerStealsCardSaid:=Go.Pe.G.card_holds Go.Pe.G.B15.workerSteals_plain
end Go.Proofs.YtenpfjfpekljpaaGreatDoor
