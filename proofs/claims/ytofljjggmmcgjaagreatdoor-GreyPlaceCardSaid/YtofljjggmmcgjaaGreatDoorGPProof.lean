/- What is proved: In the end, and at each step, each grey object is in one place: a deque, a full bin, or held by its machine. Condition: the listed variables (Go's own tables) lie as the program's text lays them, which the card ties. -/
import Derived.Test.YtofljjggmmcgjaaGreatDoorGPLa
import Derived.Test.YtofljjggmmcgjaaGreatDoorGPPb
set_option linter.unusedVariables false
set_option linter.unusedSimpArgs false
set_option linter.unnecessarySimpa false
set_option linter.unusedSectionVars false
set_option linter.deprecated false
namespace Go.Proofs.YtofljjggmmcgjaaGreatDoor
theorem greyPlace_holds : Rows.GreyPlaceCardSaid := Go.Pe.G.card_holds Go.Pe.G.B14.greyPlace_plain
end Go.Proofs.YtofljjggmmcgjaaGreatDoor
