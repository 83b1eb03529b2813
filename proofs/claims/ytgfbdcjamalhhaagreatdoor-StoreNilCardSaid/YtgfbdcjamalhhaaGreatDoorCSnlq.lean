/- The law StoreNil: a fact of its row (CSnlq). -/
import Derived.Test.YtgfbdcjamalhhaaGreatDoorCards
import Derived.Test.YtgfbdcjamalhhaaGreatDoorTie
import Derived.SevenTiedAt
import Derived.Handed
import Derived.LaidLaws
namespace Go.Proofs.YtgfbdcjamalhhaaGreatDoor
set_option maxRecDepth 100000
theorem storeNil_named : Tryz.pinned.checked.prog.funcNamed Rows.storeNilRow.func = some 6 := by kernel_rfl
theorem storeNil_inst : Tryz.f6.isInstance Tryz.pinned.checked.prog Rows.storeNilRow.origin Rows.storeNilRow.targs := of_decide_eq_true (by kernel_rfl)
theorem storeNil_wrap : Tryz.f6.isWrapper Tryz.pinned.checked.prog Rows.storeNilRow.wrapper Rows.storeNilRow.mainSum := by unfold Func.isWrapper; first | (rw [if_pos (by decide +kernel)]; kernel_rfl) | (rw [if_neg (by decide +kernel)]; exact ⟨rfl, rfl⟩)
end Go.Proofs.YtgfbdcjamalhhaaGreatDoor
