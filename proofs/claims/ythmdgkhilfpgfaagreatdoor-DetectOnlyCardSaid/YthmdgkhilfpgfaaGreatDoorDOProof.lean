/- What is proved: A step of the detector turns nothing but the Flag (down), the Epoch (one more), Done, Restarts, and itself, and not the state that was there. Condition: the listed variables (Go's own tables) lie as the program's text lays them, which the card ties. -/
import Derived.Test.YthmdgkhilfpgfaaGreatDoorDOLa
import Derived.Test.YthmdgkhilfpgfaaGreatDoorDOPa
set_option linter.unusedVariables false
set_option linter.unusedSimpArgs false
set_option linter.unnecessarySimpa false
set_option linter.unusedSectionVars false
set_option linter.deprecated false
namespace Go.Proofs.YthmdgkhilfpgfaaGreatDoor
theorem detectOnly_holds : Rows.DetectOnlyCardSaid := Go.Pe.G.card_holds Go.Pe.G.B17.detectOnly_plain
end Go.Proofs.YthmdgkhilfpgfaaGreatDoor
