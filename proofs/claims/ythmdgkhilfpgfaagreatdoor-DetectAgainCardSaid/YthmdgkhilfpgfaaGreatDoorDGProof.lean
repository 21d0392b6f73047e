/- What is proved: It begins again at most twice for each write, and the Epoch is as often raised, or once more. Condition: the listed variables (Go's own tables) lie as the program's text lays them, which the card ties. -/
import Derived.Test.YthmdgkhilfpgfaaGreatDoorDGLa
import Derived.Test.YthmdgkhilfpgfaaGreatDoorDGPc
set_option linter.unusedVariables false
set_option linter.unusedSimpArgs false
set_option linter.unnecessarySimpa false
set_option linter.unusedSectionVars false
set_option linter.deprecated false
namespace Go.Proofs.YthmdgkhilfpgfaaGreatDoor
theorem detectAgain_holds:Rows.DetectAgainCardSaid:=Go.Pe.G.card_holds Go.Pe.G.B17.detectAgain_plain
end Go.Proofs.YthmdgkhilfpgfaaGreatDoor
