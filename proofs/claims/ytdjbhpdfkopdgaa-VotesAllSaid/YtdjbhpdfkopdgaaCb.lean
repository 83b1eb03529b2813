/- The claim layer: facts on the whole program. -/
import Derived.Test.YtdjbhpdfkopdgaaOa
namespace Go.Proofs.Ytdjbhpdfkopdgaa
open Go.ChangeShapes Go.WideShapes Go.ChangeAt Go.RowKit Go.Sx
set_option maxRecDepth 100000
set_option linter.unusedSimpArgs false
set_option linter.unusedVariables false
theorem Try.own : ownKnob Try.prog.godebug = none := by kernel_rfl
theorem Try.laidOut : laidOutB Try.prog = true := by kernel_rfl
end Go.Proofs.Ytdjbhpdfkopdgaa
