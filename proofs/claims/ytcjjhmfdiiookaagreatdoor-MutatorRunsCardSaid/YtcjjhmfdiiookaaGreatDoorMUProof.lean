/- What is proved: One mutator alone, with credit for all, does what its program says. Condition: the listed variables (Go's own tables) lie as the program's text lays them, which the card ties. -/
import Derived.Test.YtcjjhmfdiiookaaGreatDoorMULa
import Derived.Test.YtcjjhmfdiiookaaGreatDoorMUPb
set_option linter.unusedVariables false
set_option linter.unusedSimpArgs false
set_option linter.unnecessarySimpa false
set_option linter.unusedSectionVars false
set_option linter.deprecated false
namespace Go.Proofs.YtcjjhmfdiiookaaGreatDoor
theorem mutatorRuns_holds:Rows.MutatorRunsCardSaid:=Go.Pe.G.card_holds Go.Pe.G.B16.mutatorRuns_plain
end Go.Proofs.YtcjjhmfdiiookaaGreatDoor
