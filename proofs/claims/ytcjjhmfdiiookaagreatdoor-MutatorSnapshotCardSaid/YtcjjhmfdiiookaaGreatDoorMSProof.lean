/- What is proved: Whatever mutators do, what was live at the start is marked, or can be reached from what is grey, or on its way to be. Condition: the listed variables (Go's own tables) lie as the program's text lays them, which the card ties. -/
import Derived.Test.YtcjjhmfdiiookaaGreatDoorMSLa
import Derived.Test.YtcjjhmfdiiookaaGreatDoorMSPb
set_option linter.unusedVariables false
set_option linter.unusedSimpArgs false
set_option linter.unnecessarySimpa false
set_option linter.unusedSectionVars false
set_option linter.deprecated false
namespace Go.Proofs.YtcjjhmfdiiookaaGreatDoor
theorem mutatorSnapshot_holds : Rows.MutatorSnapshotCardSaid := Go.Pe.G.card_holds Go.Pe.G.B16.mutatorSnapshot_plain
end Go.Proofs.YtcjjhmfdiiookaaGreatDoor
