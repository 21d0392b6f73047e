/- What is proved: At each step one object at most gets darker, none lighter, no white object that is not live gets grey, nothing is black that was not scanned. Condition: the listed variables (Go's own tables) lie as the program's text lays them, which the card ties. -/
import Derived.Test.YtenpfjfpekljpaaGreatDoorWKLa
import Derived.Test.YtenpfjfpekljpaaGreatDoorWKPb
set_option linter.unusedVariables false
set_option linter.unusedSimpArgs false
set_option linter.unnecessarySimpa false
set_option linter.unusedSectionVars false
set_option linter.deprecated false
namespace Go.Proofs.YtenpfjfpekljpaaGreatDoor
theorem workerDarker_holds : Rows.WorkerDarkerCardSaid := Go.Pe.G.card_holds Go.Pe.G.B15.workerDarker_plain
end Go.Proofs.YtenpfjfpekljpaaGreatDoor
