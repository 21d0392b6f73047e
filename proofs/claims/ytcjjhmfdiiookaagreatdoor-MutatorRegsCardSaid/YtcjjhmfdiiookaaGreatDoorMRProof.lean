/- What is proved: Whatever mutators do, a register has none, or an object that was live at the start, or came since. Condition: the listed variables (Go's own tables) lie as the program's text lays them, which the card ties. -/
import Derived.Test.YtcjjhmfdiiookaaGreatDoorMRLa
import Derived.Test.YtcjjhmfdiiookaaGreatDoorMRPb
set_option linter.unusedVariables false
set_option linter.unusedSimpArgs false
set_option linter.unnecessarySimpa false
set_option linter.unusedSectionVars false
set_option linter.deprecated false
namespace Go.Proofs.YtcjjhmfdiiookaaGreatDoor
theorem mutatorRegs_holds : Rows.MutatorRegsCardSaid := Go.Pe.G.card_holds Go.Pe.G.B16.mutatorRegs_plain
end Go.Proofs.YtcjjhmfdiiookaaGreatDoor
