/- What is proved: DetectWaits of chapter 17, of every input: while there is work the detector waits; while a mutator does not answer it declares nothing. Condition: the listed variables (Go's own tables) lie as the program's text lays them, which the card ties. -/
import Derived.Test.YtodhlecdfgklaaaGreatDoorDWLa
import Derived.Test.YtodhlecdfgklaaaGreatDoorDWPa
set_option linter.unusedVariables false
set_option linter.unusedSimpArgs false
set_option linter.unnecessarySimpa false
set_option linter.unusedSectionVars false
set_option linter.deprecated false
namespace Go.Proofs.YtodhlecdfgklaaaGreatDoor
theorem detectWaits_holds : Rows.DetectWaitsCardSaid := Go.Pe.G.card_holds Go.Pe.G.B17.detectWaits_plain
end Go.Proofs.YtodhlecdfgklaaaGreatDoor
