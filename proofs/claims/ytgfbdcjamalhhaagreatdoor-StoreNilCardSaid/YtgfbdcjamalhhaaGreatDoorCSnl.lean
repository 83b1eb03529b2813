/- The law StoreNil holds. -/
import Derived.Test.YtgfbdcjamalhhaaGreatDoorCards
import Derived.Test.YtgfbdcjamalhhaaGreatDoorTie
import Derived.SevenTiedAt
import Derived.Handed
import Derived.Test.YtgfbdcjamalhhaaGreatDoorOl
import Derived.Test.YtgfbdcjamalhhaaGreatDoorOh
import Derived.Test.YtgfbdcjamalhhaaGreatDoorPb
namespace Go.Proofs.YtgfbdcjamalhhaaGreatDoor
open Go.ChangeShapes Go.WideShapes Go.ChangeAt Go.RowKit Go.Sx
set_option maxRecDepth 100000
set_option linter.unusedSimpArgs false
set_option linter.unusedVariables false
theorem storeNil_lifted (os : Os) (started : os.Started) (H : Type) (enc : TypeId × Value → H) :
    ReturnsInHanded {} Tryz.checked os 6 .any (fun w args => (Rows.storeNilSpec.pre enc Tryz.prog Tryz.f6 [] false w args ∧ laidMetH Tryz.prog Rows.storeNilRow.laid w) ∧ sizedMet enc Tryz.prog Tryz.f6 (OpenSpec.ofChange Rows.storeNilSpec) false w args)
      (Rows.storeNilSpec.post enc Tryz.prog Tryz.f6 false true false false) := by
  refine returnsInHanded_of_change_and (C := Tryz.checked) (X := fun w _ => laidMetH Tryz.prog Rows.storeNilRow.laid w) (fun _ _ _ hh h => h.of_heap hh) Tryz.own started (by kernel_rfl) Tryz.func6
    (ChangeSpec.witness_at (enc := enc) (C := Tryz.checked) (os := os) (X := fun w _ => laidMetH Tryz.prog Rows.storeNilRow.laid w) false (laidWorld os) #[.agg SActV.zero.cells, .agg ViewV.zero.cells] 8 rfl (by kernel_rfl) (by kernel_rfl) (by kernel_rfl) (by kernel_rfl) (by kernel_rfl) (laidWorld_met os _)) ?_
  intro W base args ds gs before hval0 hW _ _ hL _
  have hval : ∀ (j : Nat) t v, Tryz.f6.params[j]? = some t → args[j]? = some v → Value.okWide Tryz.prog W .any base t v := hval0
  have hW' := hW
  obtain ⟨p, q, hA0, hV, rfl, hfz, hnd⟩ := hW
  have hA : DataW.TrodAll enc Tryz.prog W 0 (fun _ => true) true Tryz.f6.params.toList args.toList ds p := hA0
  have hA1 := hA
  rw [Tryz.params6] at hA hval
  obtain ⟨v0, v1, d0, d1, p0, p1, rfl, rfl, rfl, h0, h1⟩ := trodAll_two hA
  obtain ⟨rfl, rfl⟩ := trodVars_none hV
  obtain ⟨a, rfl, ha⟩ := open_agg opn_SActV Tryz.underlying66 rfl (hval 0 66 v0 rfl rfl) h0
  obtain ⟨⟨num, mask⟩, rfl, hv⟩ := open_agg opn_ViewV Tryz.underlying52 rfl (hval 1 52 v1 rfl rfl) h1
  have hm0 := wf_u16 hv.2
  obtain ⟨mk, hmk⟩ := Int.eq_ofNat_of_zero_le hm0.1
  simp only at hmk
  subst hmk
  clear hval0
  simp only [List.append_nil] at hW'
  have hc := storeNil_c (w0 := W) (H := []) (a := a) (num := num) (mk := mk) (by have := hm0.2; simp only at this; omega)
  refine (hc W (St.refl W)).mono fun e W' ⟨_, he, hw⟩ => ?_
  subst he
  exact ⟨_, rfl, post_of_below (pa := _) (pv := []) hW' (fun _ _ _ => trodAll_mk1 (shut_bool Tryz.underlying4 _)) (fun sp hsp => TrodAll_stays Tryz.laidOut hw.below (by rw [Tryz.params6]; kernel_rfl) (fun x hx => hW'.lt x hx) hsp hA1)
    (fun _ _ => rfl) (by simp) hw.below (ok_one (by kernel_rfl) rfl (okWide_bool_mk Tryz.underlying4 _))⟩
theorem storeNil_row : Rows.StoreNilSaid :=
  OpenClaim.holds_of_wide 6 Tryz.f6 rfl rfl rfl rfl rfl rfl rfl ⟨rfl, rfl, rfl, rfl, rfl⟩ rfl rfl rfl rfl rfl (by kernel_rfl) Tryz.func6 (by kernel_rfl)
    (of_decide_eq_true (by kernel_rfl)) (by unfold Func.isWrapper; first | (rw [if_pos (by decide +kernel)]; kernel_rfl) | (rw [if_neg (by decide +kernel)]; exact ⟨rfl, rfl⟩))
    (fun os started H enc _ => storeNil_lifted os started H enc)
theorem storeNil_holds : Rows.StoreNilCardSaid :=
  Claim7.holds_tied_plain_at .later [] [.data, .data, .data, .sentinel, .sentinel] true (true, "1c27df00ccfdc64245f83bfcfb4d367313ccff2b4288f56e4f9a5f752793ef51") true
    storeNil_row (fun _ h => by cases h) (by kernel_rfl) (fun _ h => by cases h) storeNil_row_tie rfl ⟨rfl, rfl⟩ (by kernel_rfl) rfl
    (fun f fn hf hfn => by
      obtain rfl : f = 6 := Option.some.inj ((show Tryz.prog.funcNamed "consistory/consistorylaw21.StoreNil" = some 6 by kernel_rfl).symm.trans hf) |>.symm
      obtain rfl : fn = Tryz.f6 := (Option.some.inj (Tryz.func6.symm.trans hfn)).symm
      exact ⟨by kernel_rfl, fun j t ht => by
        rw [Tryz.params6] at ht
        have hm : t ∈ [66, 52] := by
          rcases j with _ | _ | j <;> simp at ht <;> simp [ht]
        have hall : ([66, 52] : List Nat).all (fun t => Tryz.prog.wantsStandIn t == false) = true := by kernel_rfl
        exact (show Tryz.prog.wantsStandIn t = false from by simpa using List.all_eq_true.1 hall t hm)⟩)
    (by kernel_rfl)
end Go.Proofs.YtgfbdcjamalhhaaGreatDoor
