/- The law ReplicaNil: a fact of its row (CRnilp). -/
import Derived.Test.YtldnfbghjnhklaaGreatDoorCards
import Derived.Test.YtldnfbghjnhklaaGreatDoorTie
import Derived.SevenTiedAt
import Derived.Handed
import Derived.LaidLaws
import Derived.Test.YtldnfbghjnhklaaGreatDoorCRnilp1
import Derived.Test.YtldnfbghjnhklaaGreatDoorCRnilp2
import Derived.Test.YtldnfbghjnhklaaGreatDoorCRnilp3
import Derived.Test.YtldnfbghjnhklaaGreatDoorCRnilp4
namespace Go.Proofs.YtldnfbghjnhklaaGreatDoor
set_option maxRecDepth 100000
theorem replicaNil_closed : joinedFacts Tryz.pinned.checked.prog 3 Tryz.f3 Rows.replicaNilSpec Rows.replicaNilRow = true := by
  unfold joinedFacts
  simp only [Bool.and_eq_true]
  repeat' apply And.intro
  all_goals first | with_reducible exact replicaNil_inPlace | with_reducible exact replicaNil_unfollowed | with_reducible exact replicaNil_recurses | with_reducible exact replicaNil_varsNamed | kernel_rfl
end Go.Proofs.YtldnfbghjnhklaaGreatDoor
