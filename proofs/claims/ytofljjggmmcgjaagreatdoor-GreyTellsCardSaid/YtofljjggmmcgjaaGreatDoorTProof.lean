/- What is proved: GreyTells of chapter 14, of every input: of two machines that go on in whatever order each step is what the document's answer says. Condition: the listed variable (bits' table) lies as the program's text lays it, which the card ties. -/
import Derived.Test.YtofljjggmmcgjaaGreatDoorTLa
import Derived.Test.YtofljjggmmcgjaaGreatDoorTPa
set_option linter.unusedVariables false
set_option linter.unusedSimpArgs false
set_option linter.unnecessarySimpa false
set_option linter.unusedSectionVars false
set_option linter.deprecated false
namespace Go.Proofs.YtofljjggmmcgjaaGreatDoor
theorem greyTells_holds : Rows.GreyTellsCardSaid := Go.Pe.G.card_holds Go.Pe.G.greyTells_plain
end Go.Proofs.YtofljjggmmcgjaaGreatDoor
