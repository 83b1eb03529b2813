/- The law XferTrue holds. -/
import Derived.Test.YtnijomppbgdmnaaGreatOdP
import Derived.Test.YtnijomppbgdmnaaGreatYoRP
set_option linter.unusedSimpArgs false
set_option linter.unusedVariables false
namespace Go.Proofs.YtnijomppbgdmnaaGreat
open Go.ChangeShapes Go.WideShapes Go.ChangeAt Go.RowKit Go.Sx
set_option maxRecDepth 100000
theorem xferTrue_lifted (os : Os) (started : os.Started) (H : Type) (enc : TypeId × Value → H) :
    ReturnsInHanded {} Tryz.checked os 4 .any (Rows.xferTrueSpec.pre6 enc Tryz.prog Tryz.f4 Rows.xferTrueRow.domain false) (Rows.xferTrueSpec.post enc Tryz.prog Tryz.f4 false true false false) := by
  refine returnsInHanded_of_change (C := Tryz.checked) Tryz.own started (by kernel_rfl) Tryz.func4
    (ChangeSpec.witness6 (enc := enc) (C := Tryz.checked) false ⟨#[], #[.agg AskX.zero.cells, .slice none 0 0], []⟩ 8 (by kernel_rfl) (by kernel_rfl) (by kernel_rfl) (by kernel_rfl)) ?_
  intro W base args ds gs before hval0 hW hcnd _
  have hval : ∀ (j : Nat) t v, Tryz.f4.params[j]? = some t → args[j]? = some v → Value.okWide Tryz.prog W .any base t v := hval0
  have hW' := hW
  obtain ⟨p, q, hA0, hV, rfl, hfz, hnd⟩ := hW
  have hA : DataW.TrodAll enc Tryz.prog W 0 (fun _ => true) true Tryz.f4.params.toList args.toList ds p := hA0
  have hA1 := hA
  rw [Tryz.params4] at hA hval
  obtain ⟨v0, v1, d0, d1, p0, p1, rfl, rfl, rfl, h0, h1⟩ := trodAll_two hA
  obtain ⟨rfl, rfl⟩ := trodVars_none hV
  obtain ⟨⟨⟨num, mask⟩, had, ⟨ra, rn, rc⟩⟩, rfl, ha⟩ := open_agg opn_AskX Tryz.underlying47 rfl (hval 0 47 v0 rfl rfl) h0
  obtain ⟨hv, -, hs, hn, hr⟩ := ha
  simp only at hn hr
  subst hn
  have hm0 := wf_u16 hv.2
  obtain ⟨mk, rfl⟩ := Int.eq_ofNat_of_zero_le hm0.1
  obtain ⟨k, hk, rk⟩ := open_cell (opn_parts Tryz.underlying28 Tryz.underlying33 Tryz.underlying5 rfl rfl) Tryz.underlying28 rfl (hval 1 28 v1 rfl rfl) h1
  obtain rfl : v1 = _ := by simpa using hk
  clear hval0
  simp only [List.append_nil] at hW'
  have hc := xferTrue_c (w0 := W) (H := []) (num := num) (mk := mk) (by have := hm0.2; simp only at this; omega) (had := had) (ra := ra) (rc := rc) (hs := hs) (hr := RdC.base hr) (pa := k.a) (ps := k.ls) (pc := k.c) (pk := RdC.base rk.1) (pke := ⟨fun x hx w hw => CellsAt.keep (rk.2 x hx) hw.below.block⟩)
  refine (hc W (St.refl W)).mono fun e W' ⟨_, he, hw⟩ => ?_
  subst he
  exact ⟨_, rfl, post_of_below (pa := _) (pv := []) hW' (fun _ _ _ => trodAll_mk1 (shut_bool Tryz.underlying4 _)) (fun sp hsp => TrodAll_stays Tryz.laidOut hw.below (by rw [Tryz.params4]; kernel_rfl) (fun x hx => hW'.lt x hx) hsp hA1)
    (fun _ _ => rfl) (by simp) hw.below (ok_one (by kernel_rfl) rfl (okWide_bool_mk Tryz.underlying4 _))⟩
theorem xferTrue_holds : Rows.XferTrueSaid :=
  OpenClaim.holds_of_wide 4 Tryz.f4 rfl rfl rfl rfl rfl rfl rfl ⟨rfl, rfl, rfl, rfl, rfl⟩ rfl rfl rfl rfl rfl (by kernel_rfl) Tryz.func4 (by kernel_rfl)
    (of_decide_eq_true (by kernel_rfl)) (by unfold Func.isWrapper; first | (rw [if_pos (by decide +kernel)]; kernel_rfl) | (rw [if_neg (by decide +kernel)]; exact ⟨rfl, rfl⟩))
    (fun os started H enc _ => xferTrue_lifted os started H enc)
end Go.Proofs.YtnijomppbgdmnaaGreat
