/- What is proved: whatever the schedule, each step is a legal one. Condition: the listed variables (Go's own tables) lie as the program's text lays them, which the card ties. -/
import Derived.Test.YtcajmfphncfieaaGreatDoorTLLa
import Derived.Test.YtcajmfphncfieaaGreatDoorTLPc
set_option linter.unusedVariables false
set_option linter.unusedSimpArgs false
set_option linter.unnecessarySimpa false
set_option linter.unusedSectionVars false
set_option linter.deprecated false
namespace Go.Proofs.YtcajmfphncfieaaGreatDoor
theorem triLegal_holds:Rows.TriLegalCardSaid:=Go.Pe.G.card_holds Go.Pe.G.B20.triLegal_plain
end Go.Proofs.YtcajmfphncfieaaGreatDoor
