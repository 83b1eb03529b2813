/- The law InstProves holds. -/
import Derived.Test.YtgjkgdjjolnhdaaDoorCards
import Derived.Test.YtgjkgdjjolnhdaaDoorTie
import Derived.SevenTiedAt
import Derived.Handed
import Derived.Test.YtgjkgdjjolnhdaaDoorOi
import Derived.Test.YtgjkgdjjolnhdaaDoorIf
namespace Go.Proofs.YtgjkgdjjolnhdaaDoor
open Go.ChangeShapes Go.WideShapes Go.ChangeAt Go.RowKit Go.Sx
set_option maxRecDepth 100000
set_option linter.unusedSimpArgs false
set_option linter.unusedVariables false
theorem instProves_lifted (os : Os) (started : os.Started) (H : Type) (enc : TypeId × Value → H) :
    ReturnsInHanded {} Tryd.checked os 8 .any (fun w args => (Rows.instProvesSpec.pre enc Tryd.prog Tryd.f8 [] false w args ∧ laidMetH Tryd.prog Rows.instProvesRow.laid w) ∧ sizedMet enc Tryd.prog Tryd.f8 (OpenSpec.ofChange Rows.instProvesSpec) false w args)
      (Rows.instProvesSpec.post enc Tryd.prog Tryd.f8 false true false false) := by
  refine returnsInHanded_of_change_and (C := Tryd.checked) (X := fun w _ => laidMetH Tryd.prog Rows.instProvesRow.laid w) (fun _ _ _ hh h => h.of_heap hh) Tryd.own started (by kernel_rfl) Tryd.func8
    (ChangeSpec.witness_at (enc := enc) (C := Tryd.checked) (os := os) (X := fun w _ => laidMetH Tryd.prog Rows.instProvesRow.laid w) false (laidWorld os) #[.agg ViewV.zero.cells, .int .i64 0, .slice none 0 0] 8 rfl (by kernel_rfl) (by kernel_rfl) (by kernel_rfl) (by kernel_rfl) (by kernel_rfl) (laidWorld_met os _)) ?_
  intro W base args ds gs before hval0 hW _ _ hL _
  have G : Glob W := glob_of hL
  have hval : ∀ (j : Nat) t v, Tryd.f8.params[j]? = some t → args[j]? = some v → Value.okWide Tryd.prog W .any base t v := hval0
  have hW' := hW
  obtain ⟨p, q, hA0, hV, rfl, hfz, hnd⟩ := hW
  have hA : DataW.TrodAll enc Tryd.prog W 0 (fun _ => true) true Tryd.f8.params.toList args.toList ds p := hA0
  have hA1 := hA
  rw [Tryd.params8] at hA hval
  obtain ⟨v0, v1, v2, d0, d1, d2, p0, p1, p2, rfl, rfl, rfl, h0, h1, h2⟩ := trodAll_three hA
  obtain ⟨rfl, rfl⟩ := trodVars_none hV
  obtain ⟨⟨num, mask⟩, rfl, ha⟩ := open_agg opn_ViewV Tryd.underlying24 rfl (hval 0 24 v0 rfl rfl) h0
  have hmr : 0 ≤ mask ∧ mask < 65536 := wf_u16 ha.2
  obtain ⟨mk, hmkq⟩ := Int.eq_ofNat_of_zero_le hmr.1
  subst hmkq
  obtain ⟨slot, hslotb, rslot⟩ := open_cell (opn_int Tryd.underlying3) Tryd.underlying3 rfl (hval 1 3 v1 rfl rfl) h1
  obtain rfl : v1 = _ := by simpa using hslotb
  obtain ⟨pp, hppb, rpp⟩ := open_cell opn_acts Tryd.underlying52 rfl (hval 2 52 v2 rfl rfl) h2
  obtain rfl : v2 = _ := by simpa using hppb
  clear hval0
  simp only [List.append_nil] at hW'
  have hc := instProves_c (w0 := W) (H := []) (G := G) (num := num) (mk := mk) (by omega) (slot := slot) (a := pp.a) (l := pp.ls) (c := pp.c) (hr := RdC.base rpp.1) (fun x hx => RdB.base (rpp.2 x hx).2)
  refine (hc W (St.refl W)).mono fun e W' ⟨_, he, hw⟩ => ?_
  subst he
  exact ⟨_, rfl, post_of_below (pa := _) (pv := []) hW' (fun _ _ _ => trodAll_mk1 (shut_bool Tryd.underlying4 _)) (fun sp hsp => TrodAll_stays Tryd.laidOut hw.below (by rw [Tryd.params8]; kernel_rfl) (fun x hx => hW'.lt x hx) hsp hA1)
    (fun _ _ => rfl) (by simp) hw.below (ok_one (by kernel_rfl) rfl (okWide_bool_mk Tryd.underlying4 _))⟩
theorem instProves_row : Rows.InstProvesSaid :=
  OpenClaim.holds_of_wide 8 Tryd.f8 rfl rfl rfl rfl rfl rfl rfl ⟨rfl, rfl, rfl, rfl, rfl⟩ rfl rfl rfl rfl rfl (by kernel_rfl) Tryd.func8 (by kernel_rfl)
    (of_decide_eq_true (by kernel_rfl)) (by unfold Func.isWrapper; first | (rw [if_pos (by decide +kernel)]; kernel_rfl) | (rw [if_neg (by decide +kernel)]; exact ⟨rfl, rfl⟩))
    (fun os started H enc _ => instProves_lifted os started H enc)
theorem instProves_holds : Rows.InstProvesCardSaid :=
  Claim7.holds_tied_plain_at .later [] [.data] true (true, "1cde2df0af24e2080d2e499837f48f8e060c57bd91526e47e656034d692971a1") true
    instProves_row (fun _ h => by cases h) (by kernel_rfl) (fun _ h => by cases h) instProves_row_tie rfl ⟨rfl, rfl⟩ (by kernel_rfl) rfl
    (fun f fn hf hfn => by
      obtain rfl : f = 8 := Option.some.inj ((show Tryd.prog.funcNamed "consistory/consistorylaw18.InstProves" = some 8 by kernel_rfl).symm.trans hf) |>.symm
      obtain rfl : fn = Tryd.f8 := (Option.some.inj (Tryd.func8.symm.trans hfn)).symm
      exact ⟨by kernel_rfl, fun j t ht => by
        rw [Tryd.params8] at ht
        have hm : t ∈ [24, 3, 52] := by
          rcases j with _ | _ | _ | j <;> simp at ht <;> simp [ht]
        have hall : ([24, 3, 52] : List Nat).all (fun t => Tryd.prog.wantsStandIn t == false) = true := by kernel_rfl
        exact (show Tryd.prog.wantsStandIn t = false from by simpa using List.all_eq_true.1 hall t hm)⟩)
    (by kernel_rfl)
end Go.Proofs.YtgjkgdjjolnhdaaDoor
