/- Views, worlds, slots as arguments: what they read as. -/
import Derived.Test.YtpdpapcmfnhgpaaSl
import Derived.Test.YtpdpapcmfnhgpaaTw
import Derived.Test.YtpdpapcmfnhgpaaTk
namespace Go.Proofs.Ytpdpapcmfnhgpaa
open Go.RowKit Go.Sx
set_option maxRecDepth 100000
set_option linter.unusedSimpArgs false
set_option linter.unusedVariables false
/-- A view as it reads in a world. -/
def ViewV.Here (w : World) (v : ViewV) : Prop := (Lit.int .i64 v.num).wf = true ∧ (Lit.int .u16 v.mask).wf = true
def CellV.Here (w : World) (v : CellV) : Prop := True ∧ (Lit.int .i64 v.n).wf = true
def ResV.Here (w : World) (v : ResV) : Prop := True ∧ (Lit.int .i64 v.n).wf = true
def ReplyV.Here (w : World) (v : ReplyV) : Prop := (Lit.int .i64 v.client).wf = true ∧ (Lit.int .i64 v.seq).wf = true ∧ (Lit.int .i64 v.slot).wf = true ∧ v.res.Here w
def WorldV.Here (w : World) (v : WorldV) : Prop := (Lit.int .i64 v.slot).wf = true ∧ (Lit.int .i64 v.first).wf = true ∧ v.view.Here w ∧ v.was.Here w ∧ (∀ y ∈ v.cs.toList, y.Here w) ∧ (∀ y ∈ v.last.toList, y.Here w)
theorem Try.own : ownKnob Try.prog.godebug = none := by kernel_rfl
theorem Try.laidOut : laidOutB Try.prog = true := by kernel_rfl
end Go.Proofs.Ytpdpapcmfnhgpaa
