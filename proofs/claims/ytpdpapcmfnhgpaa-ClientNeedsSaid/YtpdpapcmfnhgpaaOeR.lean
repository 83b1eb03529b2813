/- Views, worlds, slots as arguments: what they read as. -/
import Derived.Test.YtpdpapcmfnhgpaaSl
import Derived.Test.YtpdpapcmfnhgpaaTk
namespace Go.Proofs.Ytpdpapcmfnhgpaa
open Go.RowKit Go.Sx
set_option maxRecDepth 100000
set_option linter.unusedSimpArgs false
set_option linter.unusedVariables false
theorem Try.own : ownKnob Try.prog.godebug = none := by kernel_rfl
theorem Try.laidOut : laidOutB Try.prog = true := by kernel_rfl
end Go.Proofs.Ytpdpapcmfnhgpaa
