/- The law SealsTag holds. -/
import Derived.Test.YtgjkgdjjolnhdaaOa
import Derived.Test.YtgjkgdjjolnhdaaLz
namespace Go.Proofs.Ytgjkgdjjolnhdaa
open Go.ChangeShapes Go.WideShapes Go.ChangeAt Go.RowKit Go.Sx
set_option maxRecDepth 100000
set_option linter.unusedSimpArgs false
set_option linter.unusedVariables false
theorem wf_u16 {n : Int} (h : (Lit.int .u16 n).wf = true) : 0 ≤ n ∧ n < 65536 := by
  simp [Lit.wf, IntKind.min, IntKind.max, IntKind.signed, IntKind.bits] at h
  omega
theorem sealsTag_lifted (os : Os) (started : os.Started) (H : Type) (enc : TypeId × Value → H) :
    ReturnsInHanded {} Try.checked os 5 .any (Rows.sealsTagSpec.pre6 enc Try.prog Try.f5 Rows.sealsTagRow.domain false) (Rows.sealsTagSpec.post enc Try.prog Try.f5 false true false false) := by
  refine returnsInHanded_of_change (C := Try.checked) Try.own started (by kernel_rfl) Try.func5
    (ChangeSpec.witness6 (enc := enc) (C := Try.checked) false ⟨#[], #[.slice none 0 0, .agg MsgV.zero.cells, .int .u16 0], []⟩ 8 (by kernel_rfl) (by kernel_rfl) (by kernel_rfl) (by kernel_rfl)) ?_
  intro W base args ds gs before hval0 hW hcnd _
  have hval : ∀ (j : Nat) t v, Try.f5.params[j]? = some t → args[j]? = some v → Value.okWide Try.prog W .any base t v := hval0
  have hW' := hW
  obtain ⟨p, q, hA0, hV, rfl, hfz, hnd⟩ := hW
  have hA : DataW.TrodAll enc Try.prog W 0 (fun _ => true) true Try.f5.params.toList args.toList ds p := hA0
  have hA1 := hA
  rw [Try.params5] at hA hval
  obtain ⟨v0, v1, v2, d0, d1, d2, p0, p1, p2, rfl, rfl, rfl, h0, h1, h2⟩ := trodAll_three hA
  obtain ⟨rfl, rfl⟩ := trodVars_none hV
  obtain ⟨x, hxb, rx⟩ := open_cell (opn_bytes Try.underlying25 Try.underlying5 rfl) Try.underlying25 rfl (hval 0 25 v0 rfl rfl) h0
  obtain rfl : v0 = _ := by simpa using hxb
  obtain ⟨m, rfl, hm⟩ := open_agg opn_MsgV Try.underlying27 rfl (hval 1 27 v1 rfl rfl) h1
  obtain ⟨n, hn, rn⟩ := open_cell (opn_int Try.underlying46) Try.underlying46 rfl (hval 2 46 v2 rfl rfl) h2
  obtain rfl : v2 = _ := by simpa using hn
  have hn0 := wf_u16 rn
  obtain ⟨n, rfl⟩ := Int.eq_ofNat_of_zero_le hn0.1
  clear hval0
  simp only [List.append_nil] at hW'
  have hc := sealsTag_c (w0 := W) (H := []) (x := x) (m := m) (rx := RdB.base rx) (n := n) (by omega) (rb := RdB.base hm.2.2.2.2.2.2.1) (rc := RdC.base hm.2.2.2.2.2.2.2.1) (re := ⟨fun x hx w hw => CellsAt.keep (hm.2.2.2.2.2.2.2.2 x hx) hw.below.block⟩)
  refine (hc W (St.refl W)).mono fun e W' ⟨_, he, hw⟩ => ?_
  subst he
  exact ⟨_, rfl, post_of_below (pa := _) (pv := []) hW' (fun _ _ _ => trodAll_mk1 (shut_bool Try.underlying4 _)) (fun sp hsp => TrodAll_stays Try.laidOut hw.below (by rw [Try.params5]; kernel_rfl) (fun x hx => hW'.lt x hx) hsp hA1)
    (fun _ _ => rfl) (by simp) hw.below (ok_one (by kernel_rfl) rfl (okWide_bool_mk Try.underlying4 _))⟩
theorem sealsTag_holds : Rows.SealsTagSaid :=
  OpenClaim.holds_of_wide 5 Try.f5 rfl rfl rfl rfl rfl rfl rfl ⟨rfl, rfl, rfl, rfl, rfl⟩ rfl rfl rfl rfl rfl (by kernel_rfl) Try.func5 (by kernel_rfl)
    (of_decide_eq_true (by kernel_rfl)) (by unfold Func.isWrapper; first | (rw [if_pos (by decide +kernel)]; kernel_rfl) | (rw [if_neg (by decide +kernel)]; exact ⟨rfl, rfl⟩))
    (fun os started H enc _ => sealsTag_lifted os started H enc)
end Go.Proofs.Ytgjkgdjjolnhdaa
