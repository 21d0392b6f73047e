/- What is proved: Where the end is declared, nothing is left to do and all that is live is marked. Condition: the listed variables (Go's own tables) lie as the program's text lays them, which the card ties. -/
import Derived.Test.YthmdgkhilfpgfaaGreatDoorDDLa
import Derived.Test.YthmdgkhilfpgfaaGreatDoorDDPc
set_option linter.unusedVariables false
set_option linter.unusedSimpArgs false
set_option linter.unnecessarySimpa false
set_option linter.unusedSectionVars false
set_option linter.deprecated false
namespace Go.Proofs.YthmdgkhilfpgfaaGreatDoor
theorem detectDone_holds:Rows.DetectDoneCardSaid:=Go.Pe.G.card_holds Go.Pe.G.B17.detectDone_plain
end Go.Proofs.YthmdgkhilfpgfaaGreatDoor
