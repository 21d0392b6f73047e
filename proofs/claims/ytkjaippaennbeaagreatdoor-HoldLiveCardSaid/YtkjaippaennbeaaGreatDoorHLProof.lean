/- What is proved: Whatever the schedule: with each step what is live shrinks, but for new objects, and what registers hold is live (HoldLive). Condition: the listed variables (Go's own tables) lie as the program's text lays them, which the card ties. -/
import Derived.Test.YtkjaippaennbeaaGreatDoorHLLa
import Derived.Test.YtkjaippaennbeaaGreatDoorHLPb
set_option linter.unusedVariables false
set_option linter.unusedSimpArgs false
set_option linter.unnecessarySimpa false
set_option linter.unusedSectionVars false
set_option linter.deprecated false
namespace Go.Proofs.YtkjaippaennbeaaGreatDoor
theorem holdLive_holds:Rows.HoldLiveCardSaid:=Go.Pe.G.card_holds Go.Pe.G.B19.holdLive_plain
end Go.Proofs.YtkjaippaennbeaaGreatDoor
