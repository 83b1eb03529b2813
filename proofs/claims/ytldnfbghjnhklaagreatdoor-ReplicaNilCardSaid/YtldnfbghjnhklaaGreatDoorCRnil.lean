/- The law ReplicaNil holds. (CRnil) -/
import Derived.Test.YtldnfbghjnhklaaGreatDoorCards
import Derived.Test.YtldnfbghjnhklaaGreatDoorTie
import Derived.SevenTiedAt
import Derived.Handed
import Derived.Test.YtldnfbghjnhklaaGreatDoorOl
import Derived.Test.YtldnfbghjnhklaaGreatDoorUr
import Derived.Test.YtldnfbghjnhklaaGreatDoorCRnilb
import Derived.Test.YtldnfbghjnhklaaGreatDoorCRnils
import Derived.Test.YtldnfbghjnhklaaGreatDoorCRnilq
namespace Go.Proofs.YtldnfbghjnhklaaGreatDoor
open Go.ChangeShapes Go.WideShapes Go.ChangeAt Go.RowKit Go.Sx
set_option maxRecDepth 100000
set_option linter.unusedSimpArgs false
set_option linter.unusedVariables false
theorem replicaNil_holds : Rows.ReplicaNilCardSaid :=
  Claim7.holds_tied_plain_at .later [] [.data, .data, .data, .sentinel, .sentinel] true (true, "149752919549b9a6d5821c1e56296182b6b57b9ff7a12706421c408e3228de02") true
    replicaNil_row (fun _ h => by cases h) replicaNil_wf (fun _ h => by cases h) replicaNil_row_tie rfl ⟨rfl, rfl⟩ replicaNil_main rfl
    (fun f fn hf hfn => by
      obtain rfl : f = 3 := Option.some.inj ((show Tryz.prog.funcNamed "consistory/consistorylaw23.ReplicaNil" = some 3 by kernel_rfl).symm.trans hf) |>.symm
      obtain rfl : fn = Tryz.f3 := (Option.some.inj (Tryz.func3.symm.trans hfn)).symm
      exact ⟨replicaNil_looks, fun j t ht => by
        rw [Tryz.params3] at ht
        have hm : t ∈ [22] := by
          rcases j with _ | j <;> simp at ht <;> simp [ht]
        have hall : ([22] : List Nat).all (fun t => Tryz.prog.wantsStandIn t == false) = true := by kernel_rfl
        exact (show Tryz.prog.wantsStandIn t = false from by simpa using List.all_eq_true.1 hall t hm)⟩)
    replicaNil_goes
end Go.Proofs.YtldnfbghjnhklaaGreatDoor
