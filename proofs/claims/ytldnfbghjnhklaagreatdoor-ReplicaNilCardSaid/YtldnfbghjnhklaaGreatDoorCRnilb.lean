/- The law ReplicaNil holds. (CRnilb) -/
import Derived.Test.YtldnfbghjnhklaaGreatDoorCards
import Derived.Test.YtldnfbghjnhklaaGreatDoorTie
import Derived.SevenTiedAt
import Derived.Handed
import Derived.Test.YtldnfbghjnhklaaGreatDoorOl
import Derived.Test.YtldnfbghjnhklaaGreatDoorUr
import Derived.Test.YtldnfbghjnhklaaGreatDoorCRnila
import Derived.Test.YtldnfbghjnhklaaGreatDoorCRnilp
import Derived.Test.YtldnfbghjnhklaaGreatDoorCRnilq
namespace Go.Proofs.YtldnfbghjnhklaaGreatDoor
open Go.ChangeShapes Go.WideShapes Go.ChangeAt Go.RowKit Go.Sx
set_option maxRecDepth 100000
set_option linter.unusedSimpArgs false
set_option linter.unusedVariables false
theorem replicaNil_row : Rows.ReplicaNilSaid :=
  OpenClaim.holds_of_wide 3 Tryz.f3 rfl rfl rfl rfl rfl rfl rfl ⟨rfl, rfl, rfl, rfl, rfl⟩ rfl rfl rfl rfl rfl replicaNil_named Tryz.func3 replicaNil_closed
    replicaNil_inst replicaNil_wrap
    (fun os started H enc _ => replicaNil_lifted os started H enc)
end Go.Proofs.YtldnfbghjnhklaaGreatDoor
