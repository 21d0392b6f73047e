/- What is proved: At each step of whatever schedule Work is how many objects are grey and what is owed, what is owed is at most one for each machine, and Work is never below 0 (HoldWork). Condition: the listed variables (Go's own tables) lie as the program's text lays them, which the card ties. -/
import Derived.Test.YtomijpphpgmfhaaGreatDoorHWLa
import Derived.Test.YtomijpphpgmfhaaGreatDoorHWPb
set_option linter.unusedVariables false
set_option linter.unusedSimpArgs false
set_option linter.unnecessarySimpa false
set_option linter.unusedSectionVars false
set_option linter.deprecated false
namespace Go.Proofs.YtomijpphpgmfhaaGreatDoor
theorem holdWork_holds:Rows.HoldWorkCardSaid:=Go.Pe.G.card_holds Go.Pe.G.B19.holdWork_plain
end Go.Proofs.YtomijpphpgmfhaaGreatDoor
