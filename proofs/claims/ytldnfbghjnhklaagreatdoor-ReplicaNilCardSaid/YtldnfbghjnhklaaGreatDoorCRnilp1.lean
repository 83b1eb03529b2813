/- The law ReplicaNil: a fact of its row (CRnilp1). -/
import Derived.Test.YtldnfbghjnhklaaGreatDoorCards
import Derived.Test.YtldnfbghjnhklaaGreatDoorTie
import Derived.SevenTiedAt
import Derived.Handed
import Derived.LaidLaws
namespace Go.Proofs.YtldnfbghjnhklaaGreatDoor
set_option maxRecDepth 100000
theorem replicaNil_inPlace : (Rows.replicaNilRow.inPlace == Tryz.pinned.checked.prog.inPlace 3) = true := by kernel_rfl
end Go.Proofs.YtldnfbghjnhklaaGreatDoor
