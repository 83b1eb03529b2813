/- The law ReplicaNil: a fact of its row (CRnilq). -/
import Derived.Test.YtldnfbghjnhklaaGreatDoorCards
import Derived.Test.YtldnfbghjnhklaaGreatDoorTie
import Derived.SevenTiedAt
import Derived.Handed
import Derived.LaidLaws
namespace Go.Proofs.YtldnfbghjnhklaaGreatDoor
set_option maxRecDepth 100000
theorem replicaNil_named : Tryz.pinned.checked.prog.funcNamed Rows.replicaNilRow.func = some 3 := by kernel_rfl
theorem replicaNil_inst : Tryz.f3.isInstance Tryz.pinned.checked.prog Rows.replicaNilRow.origin Rows.replicaNilRow.targs := of_decide_eq_true (by kernel_rfl)
theorem replicaNil_wrap : Tryz.f3.isWrapper Tryz.pinned.checked.prog Rows.replicaNilRow.wrapper Rows.replicaNilRow.mainSum := by unfold Func.isWrapper; first | (rw [if_pos (by decide +kernel)]; kernel_rfl) | (rw [if_neg (by decide +kernel)]; exact ⟨rfl, rfl⟩)
theorem replicaNil_looks : true = Tryz.pinned.checked.prog.looks [] := by kernel_rfl
theorem replicaNil_wf : Rows.replicaNilRow.wfByText (OpenSpec.ofChange Rows.replicaNilSpec) = true := by kernel_rfl
theorem replicaNil_main : Tryz.pinned.checked.prog.mainIs = some ((true, "149752919549b9a6d5821c1e56296182b6b57b9ff7a12706421c408e3228de02").1, (true, "149752919549b9a6d5821c1e56296182b6b57b9ff7a12706421c408e3228de02").2.toList) := by kernel_rfl
end Go.Proofs.YtldnfbghjnhklaaGreatDoor
