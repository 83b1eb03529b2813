/- The law StoreNil: a fact of its row (CSnlp). -/
import Derived.Test.YtgfbdcjamalhhaaGreatDoorCards
import Derived.Test.YtgfbdcjamalhhaaGreatDoorTie
import Derived.SevenTiedAt
import Derived.Handed
import Derived.LaidLaws
import Derived.Test.YtgfbdcjamalhhaaGreatDoorCSnlp1
import Derived.Test.YtgfbdcjamalhhaaGreatDoorCSnlp2
import Derived.Test.YtgfbdcjamalhhaaGreatDoorCSnlp3
import Derived.Test.YtgfbdcjamalhhaaGreatDoorCSnlp4
namespace Go.Proofs.YtgfbdcjamalhhaaGreatDoor
set_option maxRecDepth 100000
theorem storeNil_closed : joinedFacts Tryz.pinned.checked.prog 6 Tryz.f6 Rows.storeNilSpec Rows.storeNilRow = true := by
  unfold joinedFacts
  simp only [Bool.and_eq_true]
  repeat' apply And.intro
  all_goals first | with_reducible exact storeNil_inPlace | with_reducible exact storeNil_unfollowed | with_reducible exact storeNil_recurses | with_reducible exact storeNil_varsNamed | kernel_rfl
end Go.Proofs.YtgfbdcjamalhhaaGreatDoor
