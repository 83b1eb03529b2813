/- Structures for the struct types of this translation that hold others, with their cells. Printed by program. -/
import Derived.Test.YtgeknnclmhfjlaaGreatDoorTyP
namespace Go.Proofs.YtgeknnclmhfjlaaGreatDoor
open Go.RowKit Go.Sx
set_option maxRecDepth 100000
set_option linter.unusedSimpArgs false
set_option linter.unusedVariables false
set_option linter.unnecessarySimpa false

end Go.Proofs.YtgeknnclmhfjlaaGreatDoor
