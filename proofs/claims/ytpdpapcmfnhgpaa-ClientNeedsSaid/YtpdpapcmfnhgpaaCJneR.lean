/- The law ClientNeeds holds. -/
import Derived.Test.YtpdpapcmfnhgpaaOeR
import Derived.Test.YtpdpapcmfnhgpaaJmR
namespace Go.Proofs.Ytpdpapcmfnhgpaa
open Go.ChangeShapes Go.WideShapes Go.ChangeAt Go.RowKit Go.Sx
set_option maxRecDepth 100000
set_option linter.unusedSimpArgs false
set_option linter.unusedVariables false
theorem clientNeeds_lifted (os : Os) (started : os.Started) (H : Type) (enc : TypeId × Value → H) :
    ReturnsInHanded {} Try.checked os 7 .any (Rows.clientNeedsSpec.pre6 enc Try.prog Try.f7 Rows.clientNeedsRow.domain false) (Rows.clientNeedsSpec.post enc Try.prog Try.f7 false true false false) := by
  refine returnsInHanded_of_change (C := Try.checked) Try.own started (by kernel_rfl) Try.func7
    (ChangeSpec.witness6 (enc := enc) (C := Try.checked) false ⟨#[], #[.int .u8 0, .slice none 0 0], []⟩ 8 (by kernel_rfl) (by kernel_rfl) (by kernel_rfl) (by kernel_rfl)) ?_
  intro W base args ds gs before hval0 hW hcnd _
  have hval : ∀ (j : Nat) t v, Try.f7.params[j]? = some t → args[j]? = some v → Value.okWide Try.prog W .any base t v := hval0
  have hW' := hW
  obtain ⟨p, q, hA0, hV, rfl, hfz, hnd⟩ := hW
  have hA : DataW.TrodAll enc Try.prog W 0 (fun _ => true) true Try.f7.params.toList args.toList ds p := hA0
  have hA1 := hA
  rw [Try.params7] at hA hval
  obtain ⟨v0, v1, d0, d1, p0, p1, rfl, rfl, rfl, h0, h1⟩ := trodAll_two hA
  obtain ⟨rfl, rfl⟩ := trodVars_none hV
  obtain ⟨n, hnb, rn⟩ := open_cell (opn_int Try.underlying5) Try.underlying5 rfl (hval 0 5 v0 rfl rfl) h0
  obtain rfl : v0 = _ := by simpa using hnb
  obtain ⟨k, hk, rk⟩ := open_cell (opn_parts Try.underlying38 Try.underlying37 Try.underlying5 rfl rfl) Try.underlying38 rfl (hval 1 38 v1 rfl rfl) h1
  obtain rfl : v1 = _ := by simpa using hk
  clear hval0
  simp only [List.append_nil] at hW'
  have hc := clientNeeds_c (w0 := W) (H := []) (need := n) (wf_u8 rn) (pa := k.a) (ps := k.ls) (pc := k.c) (pk := RdC.base rk.1) (pke := ⟨fun x hx w hw => CellsAt.keep (rk.2 x hx) hw.below.block⟩)
  refine (hc W (St.refl W)).mono fun e W' ⟨_, he, hw⟩ => ?_
  subst he
  exact ⟨_, rfl, post_of_below (pa := _) (pv := []) hW' (fun _ _ _ => trodAll_mk1 (shut_bool Try.underlying4 _)) (fun sp hsp => TrodAll_stays Try.laidOut hw.below (by rw [Try.params7]; kernel_rfl) (fun x hx => hW'.lt x hx) hsp hA1)
    (fun _ _ => rfl) (by simp) hw.below (ok_one (by kernel_rfl) rfl (okWide_bool_mk Try.underlying4 _))⟩
theorem clientNeeds_holds : Rows.ClientNeedsSaid :=
  OpenClaim.holds_of_wide 7 Try.f7 rfl rfl rfl rfl rfl rfl rfl ⟨rfl, rfl, rfl, rfl, rfl⟩ rfl rfl rfl rfl rfl (by kernel_rfl) Try.func7 (by kernel_rfl)
    (of_decide_eq_true (by kernel_rfl)) (by unfold Func.isWrapper; first | (rw [if_pos (by decide +kernel)]; kernel_rfl) | (rw [if_neg (by decide +kernel)]; exact ⟨rfl, rfl⟩))
    (fun os started H enc _ => clientNeeds_lifted os started H enc)
end Go.Proofs.Ytpdpapcmfnhgpaa
