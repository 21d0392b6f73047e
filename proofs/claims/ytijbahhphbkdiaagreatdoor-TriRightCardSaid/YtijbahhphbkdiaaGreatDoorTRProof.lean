/- What is proved: whatever the schedule, all that must be so is so at each step. Condition: the listed variables (Go's own tables) lie as the program's text lays them, which the card ties. -/
import Derived.Test.YtijbahhphbkdiaaGreatDoorTRLa
import Derived.Test.YtijbahhphbkdiaaGreatDoorTRPc
set_option linter.unusedVariables false
set_option linter.unusedSimpArgs false
set_option linter.unnecessarySimpa false
set_option linter.unusedSectionVars false
set_option linter.deprecated false
namespace Go.Proofs.YtijbahhphbkdiaaGreatDoor
theorem triRight_holds:Rows.TriRightCardSaid:=Go.Pe.G.card_holds Go.Pe.G.B20.triRight_plain
end Go.Proofs.YtijbahhphbkdiaaGreatDoor
