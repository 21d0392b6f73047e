/- What is proved: At each step of whatever schedule what was live at the start is marked, or can be reached from what is grey, or is about to be greyed (HoldPending). Condition: the listed variables (Go's own tables) lie as the program's text lays them, which the card ties. -/
import Derived.Test.YtbppdaabhmmfiaaGreatDoorHPLa
import Derived.Test.YtbppdaabhmmfiaaGreatDoorHPPb
set_option linter.unusedVariables false
set_option linter.unusedSimpArgs false
set_option linter.unnecessarySimpa false
set_option linter.unusedSectionVars false
set_option linter.deprecated false
namespace Go.Proofs.YtbppdaabhmmfiaaGreatDoor
theorem holdPending_holds:Rows.HoldPendingCardSaid:=Go.Pe.G.card_holds Go.Pe.G.B19.holdPending_plain
end Go.Proofs.YtbppdaabhmmfiaaGreatDoor
