/- What is proved: At whatever point of whatever schedule what all have is what the full bins, the workers and the mutators have, together (HoldParts). Condition: the listed variables (Go's own tables) lie as the program's text lays them, which the card ties. -/
import Derived.Test.YtehnegeacckkaaaGreatDoorHXLa
import Derived.Test.YtehnegeacckkaaaGreatDoorHXPb
set_option linter.unusedVariables false
set_option linter.unusedSimpArgs false
set_option linter.unnecessarySimpa false
set_option linter.unusedSectionVars false
set_option linter.deprecated false
namespace Go.Proofs.YtehnegeacckkaaaGreatDoor
theorem holdParts_holds:Rows.HoldPartsCardSaid:=Go.Pe.G.card_holds Go.Pe.G.B19.holdParts_plain
end Go.Proofs.YtehnegeacckkaaaGreatDoor
