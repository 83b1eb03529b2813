/- The law ReplicaNil: a fact of its row (CRnilp4). -/
import Derived.Test.YtldnfbghjnhklaaGreatDoorCards
import Derived.Test.YtldnfbghjnhklaaGreatDoorTie
import Derived.SevenTiedAt
import Derived.Handed
import Derived.LaidLaws
namespace Go.Proofs.YtldnfbghjnhklaaGreatDoor
set_option maxRecDepth 100000
theorem replicaNil_varsNamed : (Rows.replicaNilRow.named == Tryz.pinned.checked.prog.varsNamed 3) = true := by kernel_rfl
end Go.Proofs.YtldnfbghjnhklaaGreatDoor
