/- What is proved: whatever the schedule, new objects never get fewer, and each is black. Condition: the listed variables (Go's own tables) lie as the program's text lays them, which the card ties. -/
import Derived.Test.YtohmajcohogajaaGreatDoorTFLa
import Derived.Test.YtohmajcohogajaaGreatDoorTFPc
set_option linter.unusedVariables false
set_option linter.unusedSimpArgs false
set_option linter.unnecessarySimpa false
set_option linter.unusedSectionVars false
set_option linter.deprecated false
namespace Go.Proofs.YtohmajcohogajaaGreatDoor
theorem triFresh_holds:Rows.TriFreshCardSaid:=Go.Pe.G.card_holds Go.Pe.G.B20.triFresh_plain
end Go.Proofs.YtohmajcohogajaaGreatDoor
