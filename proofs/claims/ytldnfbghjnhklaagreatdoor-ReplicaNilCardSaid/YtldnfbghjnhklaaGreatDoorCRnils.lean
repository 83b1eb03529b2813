/- The law ReplicaNil: a fact of its row (CRnils). -/
import Derived.Test.YtldnfbghjnhklaaGreatDoorCards
import Derived.Test.YtldnfbghjnhklaaGreatDoorTie
import Derived.SevenTiedAt
import Derived.Handed
import Derived.LaidLaws
namespace Go.Proofs.YtldnfbghjnhklaaGreatDoor
set_option maxRecDepth 100000
theorem replicaNil_goes : false = Rows.replicaNilRow.goesBy Tryz.pinned.checked.prog := by kernel_rfl
end Go.Proofs.YtldnfbghjnhklaaGreatDoor
