/- What is proved: Whatever the order, each of both objects is marked in the end, and Work is more by as many as were white, and unlike. Condition: the listed variables (Go's own tables) lie as the program's text lays them, which the card ties. -/
import Derived.Test.YtlnbfkbgfngkeaaGreatDoorGOLa
import Derived.Test.YtlnbfkbgfngkeaaGreatDoorGOPb
set_option linter.unusedVariables false
set_option linter.unusedSimpArgs false
set_option linter.unnecessarySimpa false
set_option linter.unusedSectionVars false
set_option linter.deprecated false
namespace Go.Proofs.YtlnbfkbgfngkeaaGreatDoor
theorem greyOnce_holds : Rows.GreyOnceCardSaid := Go.Pe.G.card_holds Go.Pe.G.B14.greyOnce_plain
end Go.Proofs.YtlnbfkbgfngkeaaGreatDoor
