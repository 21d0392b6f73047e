/- What is proved: A mutator answers no Epoch that was not raised, and each in its turn, and its answer comes behind its buffer being empty. Condition: the listed variables (Go's own tables) lie as the program's text lays them, which the card ties. -/
import Derived.Test.YthmdgkhilfpgfaaGreatDoorDALa
import Derived.Test.YthmdgkhilfpgfaaGreatDoorDAPa
set_option linter.unusedVariables false
set_option linter.unusedSimpArgs false
set_option linter.unnecessarySimpa false
set_option linter.unusedSectionVars false
set_option linter.deprecated false
namespace Go.Proofs.YthmdgkhilfpgfaaGreatDoor
theorem detectAnswers_holds : Rows.DetectAnswersCardSaid := Go.Pe.G.card_holds Go.Pe.G.B17.detectAnswers_plain
end Go.Proofs.YthmdgkhilfpgfaaGreatDoor
