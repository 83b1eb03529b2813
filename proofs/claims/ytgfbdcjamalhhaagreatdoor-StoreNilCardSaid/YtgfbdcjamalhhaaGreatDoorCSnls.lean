/- The law StoreNil: a fact of its row (CSnls). -/
import Derived.Test.YtgfbdcjamalhhaaGreatDoorCards
import Derived.Test.YtgfbdcjamalhhaaGreatDoorTie
import Derived.SevenTiedAt
import Derived.Handed
import Derived.LaidLaws
namespace Go.Proofs.YtgfbdcjamalhhaaGreatDoor
set_option maxRecDepth 100000
theorem storeNil_goes : false = Rows.storeNilRow.goesBy Tryz.pinned.checked.prog := by kernel_rfl
end Go.Proofs.YtgfbdcjamalhhaaGreatDoor
