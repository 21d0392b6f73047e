/- What is proved: At each step of whatever schedule each grey object is held in one place, once, and nothing else is held (HoldOnce). Condition: the listed variables (Go's own tables) lie as the program's text lays them, which the card ties. -/
import Derived.Test.YtnfcflmijelapaaGreatDoorHOLa
import Derived.Test.YtnfcflmijelapaaGreatDoorHOPb
set_option linter.unusedVariables false
set_option linter.unusedSimpArgs false
set_option linter.unnecessarySimpa false
set_option linter.unusedSectionVars false
set_option linter.deprecated false
namespace Go.Proofs.YtnfcflmijelapaaGreatDoor
theorem holdOnce_holds:Rows.HoldOnceCardSaid:=Go.Pe.G.card_holds Go.Pe.G.B19.holdOnce_plain
end Go.Proofs.YtnfcflmijelapaaGreatDoor
