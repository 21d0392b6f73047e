/- What is proved: what a step did is what one sees of the heaps and the colours. Condition: the listed variables (Go's own tables) lie as the program's text lays them, which the card ties. -/
import Derived.Test.YtbjeofbgalopeaaGreatDoorTMLa
import Derived.Test.YtbjeofbgalopeaaGreatDoorTMPc
set_option linter.unusedVariables false
set_option linter.unusedSimpArgs false
set_option linter.unnecessarySimpa false
set_option linter.unusedSectionVars false
set_option linter.deprecated false
namespace Go.Proofs.YtbjeofbgalopeaaGreatDoor
theorem triMoves_holds:Rows.TriMovesCardSaid:=Go.Pe.G.card_holds Go.Pe.G.B20.triMoves_plain
end Go.Proofs.YtbjeofbgalopeaaGreatDoor
