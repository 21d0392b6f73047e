/- What is proved: GreyMarked of chapter 14, of every input: what has been greyed is asked for again in three steps that turn nothing but Work, and that back. Condition: the listed variable (bits' table) lies as the program's text lays it, which the card ties. -/
import Derived.Test.YtofljjggmmcgjaaGreatDoorLa
import Derived.Test.YtofljjggmmcgjaaGreatDoorPa
set_option linter.unusedVariables false
set_option linter.unusedSimpArgs false
set_option linter.unnecessarySimpa false
set_option linter.unusedSectionVars false
set_option linter.deprecated false
namespace Go.Proofs.YtofljjggmmcgjaaGreatDoor
theorem greyMarked_holds : Rows.GreyMarkedCardSaid := Go.Pe.G.card_holds Go.Pe.G.greyMarked_plain
end Go.Proofs.YtofljjggmmcgjaaGreatDoor
