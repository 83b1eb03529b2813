/- The law StoreNil: a fact of its row (CSnlp3). -/
import Derived.Test.YtgfbdcjamalhhaaGreatDoorCards
import Derived.Test.YtgfbdcjamalhhaaGreatDoorTie
import Derived.SevenTiedAt
import Derived.Handed
import Derived.LaidLaws
namespace Go.Proofs.YtgfbdcjamalhhaaGreatDoor
set_option maxRecDepth 100000
theorem storeNil_recurses : (Rows.storeNilRow.recurses == Tryz.pinned.checked.prog.recurses 6) = true := by kernel_rfl
end Go.Proofs.YtgfbdcjamalhhaaGreatDoor
