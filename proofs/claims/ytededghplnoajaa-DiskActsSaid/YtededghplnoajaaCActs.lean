/- The law DiskActs holds. -/
import Derived.Test.YtededghplnoajaaOc
import Derived.Test.YtededghplnoajaaEa
namespace Go.Proofs.Ytededghplnoajaa
open Go.ChangeShapes Go.WideShapes Go.ChangeAt Go.RowKit Go.Sx
set_option maxRecDepth 100000
set_option linter.unusedSimpArgs false
set_option linter.unusedVariables false
theorem diskActs_lifted (os : Os) (started : os.Started) (H : Type) (enc : TypeId × Value → H) :
    ReturnsInHanded {} Try.checked os 8 .any (Rows.diskActsSpec.pre6 enc Try.prog Try.f8 Rows.diskActsRow.domain false) (Rows.diskActsSpec.post enc Try.prog Try.f8 false true false false) := by
  refine returnsInHanded_of_change (C := Try.checked) Try.own started (by kernel_rfl) Try.func8
    (ChangeSpec.witness6 (enc := enc) (C := Try.checked) false ⟨#[], #[.int .i64 0, .slice none 0 0], []⟩ 8 (by kernel_rfl) (by kernel_rfl) (by kernel_rfl) (by kernel_rfl)) ?_
  intro W base args ds gs before hval0 hW hcnd _
  have hval : ∀ (j : Nat) t v, Try.f8.params[j]? = some t → args[j]? = some v → Value.okWide Try.prog W .any base t v := hval0
  have hW' := hW
  obtain ⟨p, q, hA0, hV, rfl, hfz, hnd⟩ := hW
  have hA : DataW.TrodAll enc Try.prog W 0 (fun _ => true) true Try.f8.params.toList args.toList ds p := hA0
  have hA1 := hA
  rw [Try.params8] at hA hval
  obtain ⟨v0, v1, d0, d1, p0, p1, rfl, rfl, rfl, h0, h1⟩ := trodAll_two hA
  obtain ⟨rfl, rfl⟩ := trodVars_none hV
  obtain ⟨room, hrb, rr⟩ := open_cell (opn_int Try.underlying3) Try.underlying3 rfl (hval 0 3 v0 rfl rfl) h0
  obtain rfl : v0 = _ := by simpa using hrb
  obtain ⟨a, c, l, rfl, hc0, hl⟩ := acts_open (hval 1 22 v1 rfl rfl) h1
  clear hval0
  simp only [List.append_nil] at hW'
  have hc := diskActs_c (w0 := W) (H := []) (room := room) (a := a) (l := l) (c := c) (hr := RdC.base hc0) (fun x hx => RdB.base (hl x hx).2.2.2.1) (fun x hx => wf_u64 (hl x hx).2.2.2.2.1.1) (fun x hx => (wf_i64 (hl x hx).2.2.2.2.2).2)
  refine (hc W (St.refl W)).mono fun e W' ⟨_, he, hw⟩ => ?_
  subst he
  exact ⟨_, rfl, post_of_below (pa := _) (pv := []) hW' (fun _ _ _ => trodAll_mk1 (shut_bool Try.underlying4 _)) (fun sp hsp => TrodAll_stays Try.laidOut hw.below (by rw [Try.params8]; kernel_rfl) (fun x hx => hW'.lt x hx) hsp hA1)
    (fun _ _ => rfl) (by simp) hw.below (ok_one (by kernel_rfl) rfl (okWide_bool_mk Try.underlying4 _))⟩
theorem diskActs_holds : Rows.DiskActsSaid :=
  OpenClaim.holds_of_wide 8 Try.f8 rfl rfl rfl rfl rfl rfl rfl ⟨rfl, rfl, rfl, rfl, rfl⟩ rfl rfl rfl rfl rfl (by kernel_rfl) Try.func8 (by kernel_rfl)
    (of_decide_eq_true (by kernel_rfl)) (by unfold Func.isWrapper; first | (rw [if_pos (by decide +kernel)]; kernel_rfl) | (rw [if_neg (by decide +kernel)]; exact ⟨rfl, rfl⟩))
    (fun os started H enc _ => diskActs_lifted os started H enc)
end Go.Proofs.Ytededghplnoajaa
