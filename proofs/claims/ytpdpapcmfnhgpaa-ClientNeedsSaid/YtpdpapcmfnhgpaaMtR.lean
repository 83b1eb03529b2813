/- Walks: the reference on messages: Long, Copied, Same. -/
import Derived.Test.YtpdpapcmfnhgpaaMsR
namespace Go.Proofs.Ytpdpapcmfnhgpaa
open Go.RowKit Go.Sx
set_option maxRecDepth 100000
set_option linter.unusedSimpArgs false
set_option linter.unusedVariables false
theorem MsgD.ext_iff' (x y : MsgD) : x = y ↔ x.kind = y.kind ∧ x.frm = y.frm ∧ x.view = y.view ∧ x.reg = y.reg ∧ x.slot = y.slot ∧ x.hash = y.hash ∧ x.body = y.body ∧ x.parts = y.parts := by cases x; cases y; simp
instance : DecidableEq MsgD := fun x y => decidable_of_iff _ (MsgD.ext_iff' x y).symm
end Go.Proofs.Ytpdpapcmfnhgpaa
