/- The law StoreNil holds. (CSnlb) -/
import Derived.Test.YtgfbdcjamalhhaaGreatDoorCards
import Derived.Test.YtgfbdcjamalhhaaGreatDoorTie
import Derived.SevenTiedAt
import Derived.Handed
import Derived.Test.YtgfbdcjamalhhaaGreatDoorOl
import Derived.Test.YtgfbdcjamalhhaaGreatDoorOh
import Derived.Test.YtgfbdcjamalhhaaGreatDoorPb
import Derived.Test.YtgfbdcjamalhhaaGreatDoorCSnla
import Derived.Test.YtgfbdcjamalhhaaGreatDoorCSnlp
import Derived.Test.YtgfbdcjamalhhaaGreatDoorCSnlq
namespace Go.Proofs.YtgfbdcjamalhhaaGreatDoor
open Go.ChangeShapes Go.WideShapes Go.ChangeAt Go.RowKit Go.Sx
set_option maxRecDepth 100000
set_option linter.unusedSimpArgs false
set_option linter.unusedVariables false
theorem storeNil_row : Rows.StoreNilSaid :=
  OpenClaim.holds_of_wide 6 Tryz.f6 rfl rfl rfl rfl rfl rfl rfl ⟨rfl, rfl, rfl, rfl, rfl⟩ rfl rfl rfl rfl rfl storeNil_named Tryz.func6 storeNil_closed
    storeNil_inst storeNil_wrap
    (fun os started H enc _ => storeNil_lifted os started H enc)
end Go.Proofs.YtgfbdcjamalhhaaGreatDoor
