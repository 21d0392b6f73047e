/- What is proved: A step of a mutator turns no other one, no worker, no detector, and not the state that was there. Condition: the listed variables (Go's own tables) lie as the program's text lays them, which the card ties. -/
import Derived.Test.YtcjjhmfdiiookaaGreatDoorMALa
import Derived.Test.YtcjjhmfdiiookaaGreatDoorMAPa
set_option linter.unusedVariables false
set_option linter.unusedSimpArgs false
set_option linter.unnecessarySimpa false
set_option linter.unusedSectionVars false
set_option linter.deprecated false
namespace Go.Proofs.YtcjjhmfdiiookaaGreatDoor
theorem mutatorApart_holds : Rows.MutatorApartCardSaid := Go.Pe.G.card_holds Go.Pe.G.B16.mutatorApart_plain
end Go.Proofs.YtcjjhmfdiiookaaGreatDoor
