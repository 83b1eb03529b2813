/- The law ClientNil holds. -/
import Derived.Test.YtpdpapcmfnhgpaaOeQ
import Derived.Test.YtpdpapcmfnhgpaaJfQ
namespace Go.Proofs.Ytpdpapcmfnhgpaa
open Go.ChangeShapes Go.WideShapes Go.ChangeAt Go.RowKit Go.Sx
set_option maxRecDepth 100000
set_option linter.unusedSimpArgs false
set_option linter.unusedVariables false
def OpV.Here (w : World) (v : OpV) : Prop := (Lit.int .i64 v.kind).wf = true ∧ (Lit.int .i64 v.key).wf = true ∧ (Lit.int .i64 v.a).wf = true ∧ (Lit.int .i64 v.b).wf = true
theorem opn_OpV : Opn Try.prog 66 OpV OpV.list OpV.Here := ⟨fun en w sp fuel cs x h => by
  obtain ⟨xs, m, _, _, hl, hlen, hf⟩ := DataW.trod_struct Try.underlying66 h
  have hl : cs.length = _ := hl
  have hlen : xs.length = 4 := hlen
  have h0 := hf 0 _ rfl
  rw [List.getElem?_eq_getElem (by omega)] at h0
  obtain ⟨y0, e0, r0⟩ := (opn_int Try.underlying3).ok en w sp m _ _ h0
  have h1 := hf 1 _ rfl
  rw [List.getElem?_eq_getElem (by omega)] at h1
  obtain ⟨y1, e1, r1⟩ := (opn_int Try.underlying3).ok en w sp m _ _ h1
  have h2 := hf 2 _ rfl
  rw [List.getElem?_eq_getElem (by omega)] at h2
  obtain ⟨y2, e2, r2⟩ := (opn_int Try.underlying2).ok en w sp m _ _ h2
  have h3 := hf 3 _ rfl
  rw [List.getElem?_eq_getElem (by omega)] at h3
  obtain ⟨y3, e3, r3⟩ := (opn_int Try.underlying2).ok en w sp m _ _ h3
  exact ⟨⟨y0, y1, y2, y3⟩, (drop_step e0 (drop_step e1 (drop_step e2 (drop_last e3 (by exact hl))))), ⟨r0, r1, r2, r3⟩⟩⟩
theorem clientNil_lifted (os : Os) (started : os.Started) (H : Type) (enc : TypeId × Value → H) :
    ReturnsInHanded {} Try.checked os 6 .any (Rows.clientNilSpec.pre6 enc Try.prog Try.f6 Rows.clientNilRow.domain false) (Rows.clientNilSpec.post enc Try.prog Try.f6 false true false false) := by
  refine returnsInHanded_of_change (C := Try.checked) Try.own started (by kernel_rfl) Try.func6
    (ChangeSpec.witness6 (enc := enc) (C := Try.checked) false ⟨#[], #[.agg OpV.zero.cells, .int .i64 0, .int .i64 0], []⟩ 8 (by kernel_rfl) (by kernel_rfl) (by kernel_rfl) (by kernel_rfl)) ?_
  intro W base args ds gs before hval0 hW hcnd _
  have hval : ∀ (j : Nat) t v, Try.f6.params[j]? = some t → args[j]? = some v → Value.okWide Try.prog W .any base t v := hval0
  have hW' := hW
  obtain ⟨p, q, hA0, hV, rfl, hfz, hnd⟩ := hW
  have hA : DataW.TrodAll enc Try.prog W 0 (fun _ => true) true Try.f6.params.toList args.toList ds p := hA0
  have hA1 := hA
  rw [Try.params6] at hA hval
  obtain ⟨v0, v1, v2, d0, d1, d2, p0, p1, p2, rfl, rfl, rfl, h0, h1, h2⟩ := trodAll_three hA
  obtain ⟨rfl, rfl⟩ := trodVars_none hV
  obtain ⟨o, rfl, ho⟩ := open_agg opn_OpV Try.underlying66 rfl (hval 0 66 v0 rfl rfl) h0
  obtain ⟨n, hnb, rn⟩ := open_cell (opn_int Try.underlying3) Try.underlying3 rfl (hval 1 3 v1 rfl rfl) h1
  obtain rfl : v1 = _ := by simpa using hnb
  obtain ⟨m, hmb, rm⟩ := open_cell (opn_int Try.underlying3) Try.underlying3 rfl (hval 2 3 v2 rfl rfl) h2
  obtain rfl : v2 = _ := by simpa using hmb
  clear hval0
  simp only [List.append_nil] at hW'
  have hc := clientNil_c (w0 := W) (H := []) (o := o) (id := n) (need := m)
  refine (hc W (St.refl W)).mono fun e W' ⟨_, he, hw⟩ => ?_
  subst he
  exact ⟨_, rfl, post_of_below (pa := _) (pv := []) hW' (fun _ _ _ => trodAll_mk1 (shut_bool Try.underlying4 _)) (fun sp hsp => TrodAll_stays Try.laidOut hw.below (by rw [Try.params6]; kernel_rfl) (fun x hx => hW'.lt x hx) hsp hA1)
    (fun _ _ => rfl) (by simp) hw.below (ok_one (by kernel_rfl) rfl (okWide_bool_mk Try.underlying4 _))⟩
theorem clientNil_holds : Rows.ClientNilSaid :=
  OpenClaim.holds_of_wide 6 Try.f6 rfl rfl rfl rfl rfl rfl rfl ⟨rfl, rfl, rfl, rfl, rfl⟩ rfl rfl rfl rfl rfl (by kernel_rfl) Try.func6 (by kernel_rfl)
    (of_decide_eq_true (by kernel_rfl)) (by unfold Func.isWrapper; first | (rw [if_pos (by decide +kernel)]; kernel_rfl) | (rw [if_neg (by decide +kernel)]; exact ⟨rfl, rfl⟩))
    (fun os started H enc _ => clientNil_lifted os started H enc)
end Go.Proofs.Ytpdpapcmfnhgpaa
