/- The law InstNil holds. -/
import Derived.Test.YtgjkgdjjolnhdaaDoorCards
import Derived.Test.YtgjkgdjjolnhdaaDoorTie
import Derived.SevenTiedAt
import Derived.Handed
import Derived.Test.YtgjkgdjjolnhdaaDoorOg
import Derived.Test.YtgjkgdjjolnhdaaDoorId
namespace Go.Proofs.YtgjkgdjjolnhdaaDoor
open Go.ChangeShapes Go.WideShapes Go.ChangeAt Go.RowKit Go.Sx
set_option maxRecDepth 100000
set_option linter.unusedSimpArgs false
set_option linter.unusedVariables false
theorem instNil_lifted (os : Os) (started : os.Started) (H : Type) (enc : TypeId × Value → H) :
    ReturnsInHanded {} Tryd.checked os 10 .any (fun w args => (Rows.instNilSpec.pre enc Tryd.prog Tryd.f10 [] false w args ∧ laidMetH Tryd.prog Rows.instNilRow.laid w) ∧ sizedMet enc Tryd.prog Tryd.f10 (OpenSpec.ofChange Rows.instNilSpec) false w args)
      (Rows.instNilSpec.post enc Tryd.prog Tryd.f10 false true false false) := by
  refine returnsInHanded_of_change_and (C := Tryd.checked) (X := fun w _ => laidMetH Tryd.prog Rows.instNilRow.laid w) (fun _ _ _ hh h => h.of_heap hh) Tryd.own started (by kernel_rfl) Tryd.func10
    (ChangeSpec.witness_at (enc := enc) (C := Tryd.checked) (os := os) (X := fun w _ => laidMetH Tryd.prog Rows.instNilRow.laid w) false (laidWorld os) #[.slice none 0 0] 8 rfl (by kernel_rfl) (by kernel_rfl) (by kernel_rfl) (by kernel_rfl) (by kernel_rfl) (laidWorld_met os _)) ?_
  intro W base args ds gs before hval0 hW _ _ hL _
  have G : Glob W := glob_of hL
  have hval : ∀ (j : Nat) t v, Tryd.f10.params[j]? = some t → args[j]? = some v → Value.okWide Tryd.prog W .any base t v := hval0
  have hW' := hW
  obtain ⟨p, q, hA0, hV, rfl, hfz, hnd⟩ := hW
  have hA : DataW.TrodAll enc Tryd.prog W 0 (fun _ => true) true Tryd.f10.params.toList args.toList ds p := hA0
  have hA1 := hA
  rw [Tryd.params10] at hA hval
  obtain ⟨v0, d0, rfl, rfl, h0⟩ := trodAll_one hA
  obtain ⟨rfl, rfl⟩ := trodVars_none hV
  obtain ⟨x, hxb, rx⟩ := open_cell (opn_bytes Tryd.underlying27 Tryd.underlying5 rfl) Tryd.underlying27 rfl (hval 0 27 v0 rfl rfl) h0
  obtain rfl : v0 = _ := by simpa using hxb
  clear hval0
  simp only [List.append_nil] at hW'
  have hc := instNil_c (w0 := W) (H := []) (G := G) (a := x.a) (n := x.l.length) (c := x.c)
  refine (hc W (St.refl W)).mono fun e W' ⟨_, he, hw⟩ => ?_
  subst he
  exact ⟨_, rfl, post_of_below (pa := _) (pv := []) hW' (fun _ _ _ => trodAll_mk1 (shut_bool Tryd.underlying4 _)) (fun sp hsp => TrodAll_stays Tryd.laidOut hw.below (by rw [Tryd.params10]; kernel_rfl) (fun x hx => hW'.lt x hx) hsp hA1)
    (fun _ _ => rfl) (by simp) hw.below (ok_one (by kernel_rfl) rfl (okWide_bool_mk Tryd.underlying4 _))⟩
theorem instNil_row : Rows.InstNilSaid :=
  OpenClaim.holds_of_wide 10 Tryd.f10 rfl rfl rfl rfl rfl rfl rfl ⟨rfl, rfl, rfl, rfl, rfl⟩ rfl rfl rfl rfl rfl (by kernel_rfl) Tryd.func10 (by kernel_rfl)
    (of_decide_eq_true (by kernel_rfl)) (by unfold Func.isWrapper; first | (rw [if_pos (by decide +kernel)]; kernel_rfl) | (rw [if_neg (by decide +kernel)]; exact ⟨rfl, rfl⟩))
    (fun os started H enc _ => instNil_lifted os started H enc)
theorem instNil_holds : Rows.InstNilCardSaid :=
  Claim7.holds_tied_plain_at .later [] [.data] true (true, "1cde2df0af24e2080d2e499837f48f8e060c57bd91526e47e656034d692971a1") true
    instNil_row (fun _ h => by cases h) (by kernel_rfl) (fun _ h => by cases h) instNil_row_tie rfl ⟨rfl, rfl⟩ (by kernel_rfl) rfl
    (fun f fn hf hfn => by
      obtain rfl : f = 10 := Option.some.inj ((show Tryd.prog.funcNamed "consistory/consistorylaw18.InstNil" = some 10 by kernel_rfl).symm.trans hf) |>.symm
      obtain rfl : fn = Tryd.f10 := (Option.some.inj (Tryd.func10.symm.trans hfn)).symm
      exact ⟨by kernel_rfl, fun j t ht => by
        rw [Tryd.params10] at ht
        have hm : t ∈ [27] := by
          rcases j with _ | j <;> simp at ht <;> simp [ht]
        have hall : ([27] : List Nat).all (fun t => Tryd.prog.wantsStandIn t == false) = true := by kernel_rfl
        exact (show Tryd.prog.wantsStandIn t = false from by simpa using List.all_eq_true.1 hall t hm)⟩)
    (by kernel_rfl)
end Go.Proofs.YtgjkgdjjolnhdaaDoor
