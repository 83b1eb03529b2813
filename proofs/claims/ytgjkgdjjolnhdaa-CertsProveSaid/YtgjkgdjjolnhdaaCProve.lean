/- The law CertsProve holds. -/
import Derived.Test.YtgjkgdjjolnhdaaOh
import Derived.Test.YtgjkgdjjolnhdaaCq
namespace Go.Proofs.Ytgjkgdjjolnhdaa
open Go.ChangeShapes Go.WideShapes Go.ChangeAt Go.RowKit Go.Sx
set_option maxRecDepth 100000
set_option linter.unusedSimpArgs false
set_option linter.unusedVariables false
theorem certsProve_lifted (os : Os) (started : os.Started) (H : Type) (enc : TypeId × Value → H) :
    ReturnsInHanded {} Try.checked os 6 .any (Rows.certsProveSpec.pre6 enc Try.prog Try.f6 Rows.certsProveRow.domain false) (Rows.certsProveSpec.post enc Try.prog Try.f6 false true false false) := by
  refine returnsInHanded_of_change (C := Try.checked) Try.own started (by kernel_rfl) Try.func6
    (ChangeSpec.witness6 (enc := enc) (C := Try.checked) false ⟨#[], #[.agg AskV.zero.cells, .slice none 0 0], []⟩ 8 (by kernel_rfl) (by kernel_rfl) (by kernel_rfl) (by kernel_rfl)) ?_
  intro W base args ds gs before hval0 hW hcnd _
  have hval : ∀ (j : Nat) t v, Try.f6.params[j]? = some t → args[j]? = some v → Value.okWide Try.prog W .any base t v := hval0
  have hW' := hW
  obtain ⟨p, q, hA0, hV, rfl, hfz, hnd⟩ := hW
  have hA : DataW.TrodAll enc Try.prog W 0 (fun _ => true) true Try.f6.params.toList args.toList ds p := hA0
  have hA1 := hA
  rw [Try.params6] at hA hval
  obtain ⟨v0, v1, d0, d1, p0, p1, rfl, rfl, rfl, h0, h1⟩ := trodAll_two hA
  obtain ⟨rfl, rfl⟩ := trodVars_none hV
  obtain ⟨⟨⟨num, mask⟩, m⟩, rfl, ha⟩ := open_agg opn_AskV Try.underlying52 rfl (hval 0 52 v0 rfl rfl) h0
  have hmr : 0 ≤ mask ∧ mask < 65536 := wf_u16 ha.1.2
  obtain ⟨mk, hmkq⟩ := Int.eq_ofNat_of_zero_le hmr.1
  subst hmkq
  obtain ⟨pp, hb1, hp1, hq1⟩ := open_cell (opn_parts Try.underlying22 Try.underlying25 Try.underlying5 rfl rfl) Try.underlying22 rfl (hval 1 22 v1 rfl rfl) h1
  obtain rfl : v1 = _ := by simpa using hb1
  clear hval0
  simp only [List.append_nil] at hW'
  have hc := certsProve_c (w0 := W) (H := []) (num := num) (mk := mk) (by omega) (m := m) (ps := pp.ls) (hp := RdC.base hp1) (hpe := RdE.of hq1)
  refine (hc W (St.refl W)).mono fun e W' ⟨_, he, hw⟩ => ?_
  subst he
  exact ⟨_, rfl, post_of_below (pa := _) (pv := []) hW' (fun _ _ _ => trodAll_mk1 (shut_bool Try.underlying4 _)) (fun sp hsp => TrodAll_stays Try.laidOut hw.below (by rw [Try.params6]; kernel_rfl) (fun x hx => hW'.lt x hx) hsp hA1)
    (fun _ _ => rfl) (by simp) hw.below (ok_one (by kernel_rfl) rfl (okWide_bool_mk Try.underlying4 _))⟩
theorem certsProve_holds : Rows.CertsProveSaid :=
  OpenClaim.holds_of_wide 6 Try.f6 rfl rfl rfl rfl rfl rfl rfl ⟨rfl, rfl, rfl, rfl, rfl⟩ rfl rfl rfl rfl rfl (by kernel_rfl) Try.func6 (by kernel_rfl)
    (of_decide_eq_true (by kernel_rfl)) (by unfold Func.isWrapper; first | (rw [if_pos (by decide +kernel)]; kernel_rfl) | (rw [if_neg (by decide +kernel)]; exact ⟨rfl, rfl⟩))
    (fun os started H enc _ => certsProve_lifted os started H enc)
end Go.Proofs.Ytgjkgdjjolnhdaa
