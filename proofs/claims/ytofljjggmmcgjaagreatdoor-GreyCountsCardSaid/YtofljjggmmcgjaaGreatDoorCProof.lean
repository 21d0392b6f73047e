/- What is proved: GreyCounts of chapter 14, of every input: after every first part of whatever order two machines go on in, Work is how many objects are grey and what both machines owe. Condition: the listed variable (bits' table) lies as the program's text lays it, which the card ties. -/
import Derived.Test.YtofljjggmmcgjaaGreatDoorCLa
import Derived.Test.YtofljjggmmcgjaaGreatDoorCPa
set_option linter.unusedVariables false
set_option linter.unusedSimpArgs false
set_option linter.unnecessarySimpa false
set_option linter.unusedSectionVars false
set_option linter.deprecated false
namespace Go.Proofs.YtofljjggmmcgjaaGreatDoor
theorem greyCounts_holds : Rows.GreyCountsCardSaid := Go.Pe.G.card_holds Go.Pe.G.greyCounts_plain
end Go.Proofs.YtofljjggmmcgjaaGreatDoor
