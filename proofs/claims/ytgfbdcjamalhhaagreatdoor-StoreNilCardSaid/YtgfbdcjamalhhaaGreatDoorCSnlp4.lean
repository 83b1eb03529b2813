/- The law StoreNil: a fact of its row (CSnlp4). -/
import Derived.Test.YtgfbdcjamalhhaaGreatDoorCards
import Derived.Test.YtgfbdcjamalhhaaGreatDoorTie
import Derived.SevenTiedAt
import Derived.Handed
import Derived.LaidLaws
namespace Go.Proofs.YtgfbdcjamalhhaaGreatDoor
set_option maxRecDepth 100000
theorem storeNil_varsNamed : (Rows.storeNilRow.named == Tryz.pinned.checked.prog.varsNamed 6) = true := by kernel_rfl
end Go.Proofs.YtgfbdcjamalhhaaGreatDoor
