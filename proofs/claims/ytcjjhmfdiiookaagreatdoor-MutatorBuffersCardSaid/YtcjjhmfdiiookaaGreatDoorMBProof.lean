/- What is proved: A buffer never has more than it may, what is in it was white when it came, a write is done behind that alone. Condition: the listed variables (Go's own tables) lie as the program's text lays them, which the card ties. -/
import Derived.Test.YtcjjhmfdiiookaaGreatDoorMBLa
import Derived.Test.YtcjjhmfdiiookaaGreatDoorMBPa
set_option linter.unusedVariables false
set_option linter.unusedSimpArgs false
set_option linter.unnecessarySimpa false
set_option linter.unusedSectionVars false
set_option linter.deprecated false
namespace Go.Proofs.YtcjjhmfdiiookaaGreatDoor
theorem mutatorBuffers_holds : Rows.MutatorBuffersCardSaid := Go.Pe.G.card_holds Go.Pe.G.B16.mutatorBuffers_plain
end Go.Proofs.YtcjjhmfdiiookaaGreatDoor
