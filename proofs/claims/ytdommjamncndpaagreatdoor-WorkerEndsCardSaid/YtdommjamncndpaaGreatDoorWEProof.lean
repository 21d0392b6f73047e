/- What is proved: workers that step one by one, over and over, come to an end: all that is live is black, nothing else is marked. Condition: the listed variables (Go's own tables) lie as the program's text lays them, which the card ties. -/
import Derived.Test.YtdommjamncndpaaGreatDoorWELa
import Derived.Test.YtdommjamncndpaaGreatDoorWEPb
set_option linter.unusedVariables false
set_option linter.unusedSimpArgs false
set_option linter.unnecessarySimpa false
set_option linter.unusedSectionVars false
set_option linter.deprecated false
namespace Go.Proofs.YtdommjamncndpaaGreatDoor
theorem workerEnds_holds:Rows.WorkerEndsCardSaid:=Go.Pe.G.card_holds Go.Pe.G.B15.workerEnds_plain
end Go.Proofs.YtdommjamncndpaaGreatDoor
