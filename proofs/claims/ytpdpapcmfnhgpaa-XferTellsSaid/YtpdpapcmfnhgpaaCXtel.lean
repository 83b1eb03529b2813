/- The law XferTells holds. -/
import Derived.Test.YtpdpapcmfnhgpaaOe
import Derived.Test.YtpdpapcmfnhgpaaXc
namespace Go.Proofs.Ytpdpapcmfnhgpaa
open Go.ChangeShapes Go.WideShapes Go.ChangeAt Go.RowKit Go.Sx
set_option maxRecDepth 100000
set_option linter.unusedSimpArgs false
set_option linter.unusedVariables false
set_option maxHeartbeats 1000000 in
theorem xferTells_lifted (os : Os) (started : os.Started) (H : Type) (enc : TypeId × Value → H) :
    ReturnsInHanded {} Try.checked os 3 .any (Rows.xferTellsSpec.pre6 enc Try.prog Try.f3 Rows.xferTellsRow.domain false) (Rows.xferTellsSpec.post enc Try.prog Try.f3 false true false false) := by
  refine returnsInHanded_of_change_sized (C := Try.checked) Try.own started (by kernel_rfl) Try.func3
    (ChangeSpec.witness6 (enc := enc) (C := Try.checked) false ⟨#[], #[.agg WorldV.zero.cells, .agg SlotV.zero.cells, .agg #[.int .i64 0, .int .i64 0]], []⟩ 8 (by kernel_rfl) (by kernel_rfl) (by kernel_rfl) (by kernel_rfl)) ?_
  intro W base args ds gs before hval0 hW hcnd hsz0 _
  have hval : ∀ (j : Nat) t v, Try.f3.params[j]? = some t → args[j]? = some v → Value.okWide Try.prog W .any base t v := hval0
  have hW' := hW
  obtain ⟨p, q, hA0, hV, rfl, hfz, hnd⟩ := hW
  have hA : DataW.TrodAll enc Try.prog W 0 (fun _ => true) true Try.f3.params.toList args.toList ds p := hA0
  have hA1 := hA
  rw [Try.params3] at hA hval
  obtain ⟨v0, v1, v2, d0, d1, d2, p0, p1, p2, rfl, rfl, rfl, h0, h1, h2⟩ := trodAll_three hA
  obtain ⟨rfl, rfl⟩ := trodVars_none hV
  have hsz1 := sized_at hsz0 1 (t := 40) (d := d1) rfl rfl
  obtain ⟨⟨s, f, ⟨n1, k1⟩, ⟨n2, k2⟩, cs, rs⟩, rfl, hw⟩ := open_agg opn_WorldV Try.underlying34 rfl (hval 0 34 v0 rfl rfl) h0
  obtain ⟨-, -, ⟨-, hk1⟩, ⟨-, hk2⟩, hcs, hrs⟩ := hw
  have hk1 := wf_u16 hk1
  have hk2 := wf_u16 hk2
  obtain ⟨m1, rfl⟩ := Int.eq_ofNat_of_zero_le hk1.1
  obtain ⟨m2, rfl⟩ := Int.eq_ofNat_of_zero_le hk2.1
  obtain ⟨x, rfl, hx⟩ := open_aggZ opz_SlotV Try.underlying40 rfl (hval 1 40 v1 rfl rfl) h1 hsz1
  obtain ⟨-, -, hxb, hxp, hxe⟩ := hx
  obtain ⟨v, hv2, -⟩ := open_agg (opn_array (opn_int Try.underlying3) Try.underlying41 rfl rfl) Try.underlying41 rfl (hval 2 41 v2 rfl rfl) h2
  obtain ⟨k0, k1, rfl⟩ : ∃ k0 k1 : Int, v2 = .agg #[.int .i64 k0, .int .i64 k1] := by
    obtain ⟨⟨l⟩, hl⟩ := v
    match l, hl, hv2 with
    | [a, b], _, h => exact ⟨a, b, h⟩
  clear hval0
  simp only [List.append_nil] at hW'
  have hc := xferTells_c (w0 := W) (H := []) (k0 := k0) (k1 := k1) (s := s) (f := f) (n1 := n1) (n2 := n2) (m1 := m1) (m2 := m2) (by have := hk1.2; simp only at this; omega) (by have := hk2.2; simp only at this; omega) (cs := cs) (fun i hi => wf_i64 (vec_mem hcs i hi).2) (rs := rs) (fun i hi => wf_i64 (vec_mem hrs i hi).2.2.2.2) (x := x) (rb := RdB.base hxb.1) (rc := RdC.base hxp) (re := ⟨fun y hy w hw => CellsAt.keep (hxe y hy).1 hw.below.block⟩) (fun y hy => by have := (hxe y hy).2; unfold reachBytes at this; omega)
  refine (hc W (St.refl W)).mono fun e W' ⟨_, he, hw⟩ => ?_
  subst he
  exact ⟨_, rfl, post_of_below (pa := _) (pv := []) hW' (fun _ _ _ => trodAll_mk1 (shut_bool Try.underlying4 _)) (fun sp hsp => TrodAll_stays Try.laidOut hw.below (by rw [Try.params3]; kernel_rfl) (fun x hx => hW'.lt x hx) hsp hA1)
    (fun _ _ => rfl) (by simp) hw.below (ok_one (by kernel_rfl) rfl (okWide_bool_mk Try.underlying4 _))⟩
theorem xferTells_holds : Rows.XferTellsSaid :=
  OpenClaim.holds_of_wide 3 Try.f3 rfl rfl rfl rfl rfl rfl rfl ⟨rfl, rfl, rfl, rfl, rfl⟩ rfl rfl rfl rfl rfl (by kernel_rfl) Try.func3 (by kernel_rfl)
    (of_decide_eq_true (by kernel_rfl)) (by unfold Func.isWrapper; first | (rw [if_pos (by decide +kernel)]; kernel_rfl) | (rw [if_neg (by decide +kernel)]; exact ⟨rfl, rfl⟩))
    (fun os started H enc _ => xferTells_lifted os started H enc)
end Go.Proofs.Ytpdpapcmfnhgpaa
