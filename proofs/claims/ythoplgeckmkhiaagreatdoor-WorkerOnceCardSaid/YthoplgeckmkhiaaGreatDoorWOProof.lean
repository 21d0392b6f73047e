/- What is proved: Whatever the order in which workers step: each grey object is in a full bin, or a worker has it, or its deque has it: once. Condition: the listed variables (Go's own tables) lie as the program's text lays them, which the card ties. -/
import Derived.Test.YthoplgeckmkhiaaGreatDoorWOLa
import Derived.Test.YthoplgeckmkhiaaGreatDoorWOPb
set_option linter.unusedVariables false
set_option linter.unusedSimpArgs false
set_option linter.unnecessarySimpa false
set_option linter.unusedSectionVars false
set_option linter.deprecated false
namespace Go.Proofs.YthoplgeckmkhiaaGreatDoor
theorem workerOnce_holds : Rows.WorkerOnceCardSaid := Go.Pe.G.card_holds Go.Pe.G.B15.workerOnce_plain
end Go.Proofs.YthoplgeckmkhiaaGreatDoor
