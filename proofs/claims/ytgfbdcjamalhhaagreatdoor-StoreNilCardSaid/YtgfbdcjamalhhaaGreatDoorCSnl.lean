/- The law StoreNil holds. (CSnl) -/
import Derived.Test.YtgfbdcjamalhhaaGreatDoorCards
import Derived.Test.YtgfbdcjamalhhaaGreatDoorTie
import Derived.SevenTiedAt
import Derived.Handed
import Derived.Test.YtgfbdcjamalhhaaGreatDoorOl
import Derived.Test.YtgfbdcjamalhhaaGreatDoorOh
import Derived.Test.YtgfbdcjamalhhaaGreatDoorPb
import Derived.Test.YtgfbdcjamalhhaaGreatDoorCSnlb
import Derived.Test.YtgfbdcjamalhhaaGreatDoorCSnlr
import Derived.Test.YtgfbdcjamalhhaaGreatDoorCSnls
import Derived.Test.YtgfbdcjamalhhaaGreatDoorCSnlt
namespace Go.Proofs.YtgfbdcjamalhhaaGreatDoor
open Go.ChangeShapes Go.WideShapes Go.ChangeAt Go.RowKit Go.Sx
set_option maxRecDepth 100000
set_option linter.unusedSimpArgs false
set_option linter.unusedVariables false
theorem storeNil_holds : Rows.StoreNilCardSaid :=
  Claim7.holds_tied_plain_at .later [] [.data, .data, .data, .sentinel, .sentinel] true (true, "1c27df00ccfdc64245f83bfcfb4d367313ccff2b4288f56e4f9a5f752793ef51") true
    storeNil_row (fun _ h => by cases h) storeNil_wf (fun _ h => by cases h) storeNil_row_tie rfl ⟨rfl, rfl⟩ storeNil_main rfl
    (fun f fn hf hfn => by
      obtain rfl : f = 6 := Option.some.inj ((show Tryz.prog.funcNamed "consistory/consistorylaw21.StoreNil" = some 6 by kernel_rfl).symm.trans hf) |>.symm
      obtain rfl : fn = Tryz.f6 := (Option.some.inj (Tryz.func6.symm.trans hfn)).symm
      exact ⟨storeNil_looks, fun j t ht => by
        rw [Tryz.params6] at ht
        have hm : t ∈ [66, 52] := by
          rcases j with _ | _ | j <;> simp at ht <;> simp [ht]
        have hall : ([66, 52] : List Nat).all (fun t => Tryz.prog.wantsStandIn t == false) = true := by kernel_rfl
        exact (show Tryz.prog.wantsStandIn t = false from by simpa using List.all_eq_true.1 hall t hm)⟩)
    storeNil_goes
end Go.Proofs.YtgfbdcjamalhhaaGreatDoor
