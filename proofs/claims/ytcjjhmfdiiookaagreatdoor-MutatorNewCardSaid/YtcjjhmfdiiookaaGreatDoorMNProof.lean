/- What is proved: New objects are black, and paid for, nobody's balance is below the limit, the other way round, there are never more than there may be. Condition: the listed variables (Go's own tables) lie as the program's text lays them, which the card ties. -/
import Derived.Test.YtcjjhmfdiiookaaGreatDoorMNLa
import Derived.Test.YtcjjhmfdiiookaaGreatDoorMNPa
set_option linter.unusedVariables false
set_option linter.unusedSimpArgs false
set_option linter.unnecessarySimpa false
set_option linter.unusedSectionVars false
set_option linter.deprecated false
namespace Go.Proofs.YtcjjhmfdiiookaaGreatDoor
theorem mutatorNew_holds : Rows.MutatorNewCardSaid := Go.Pe.G.card_holds Go.Pe.G.B16.mutatorNew_plain
end Go.Proofs.YtcjjhmfdiiookaaGreatDoor
