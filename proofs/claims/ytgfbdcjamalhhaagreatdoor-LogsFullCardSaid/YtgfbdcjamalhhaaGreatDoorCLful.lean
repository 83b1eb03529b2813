/- The law LogsFull holds. -/
import Derived.Test.YtgfbdcjamalhhaaGreatDoorCards
import Derived.Test.YtgfbdcjamalhhaaGreatDoorTie
import Derived.SevenTiedAt
import Derived.Handed
import Derived.Test.YtgfbdcjamalhhaaGreatDoorOl
import Derived.Test.YtgfbdcjamalhhaaGreatDoorLx
namespace Go.Proofs.YtgfbdcjamalhhaaGreatDoor
open Go.ChangeShapes Go.WideShapes Go.ChangeAt Go.RowKit Go.Sx
set_option maxRecDepth 100000
set_option linter.unusedSimpArgs false
set_option linter.unusedVariables false
theorem wf_u8' {n : Int} (h : (Lit.int .u8 n).wf = true) : 0 ≤ n ∧ n < 256 := by
  simp [Lit.wf, IntKind.min, IntKind.max, IntKind.signed, IntKind.bits] at h
  exact ⟨by omega, by omega⟩
theorem logsFull_lifted (os : Os) (started : os.Started) (H : Type) (enc : TypeId × Value → H) :
    ReturnsInHanded {} Tryz.checked os 3 .any (fun w args => (Rows.logsFullSpec.pre enc Tryz.prog Tryz.f3 [] false w args ∧ laidMetH Tryz.prog Rows.logsFullRow.laid w) ∧ sizedMet enc Tryz.prog Tryz.f3 (OpenSpec.ofChange Rows.logsFullSpec) false w args)
      (Rows.logsFullSpec.post enc Tryz.prog Tryz.f3 false true false false) := by
  refine returnsInHanded_of_change_and (C := Tryz.checked) (X := fun w _ => laidMetH Tryz.prog Rows.logsFullRow.laid w) (fun _ _ _ hh h => h.of_heap hh) Tryz.own started (by kernel_rfl) Tryz.func3
    (ChangeSpec.witness_at (enc := enc) (C := Tryz.checked) (os := os) (X := fun w _ => laidMetH Tryz.prog Rows.logsFullRow.laid w) false (laidWorld os) #[.int .u8 0, .slice none 0 0] 8 rfl (by kernel_rfl) (by kernel_rfl) (by kernel_rfl) (by kernel_rfl) (by kernel_rfl) (laidWorld_met os _)) ?_
  intro W base args ds gs before hval0 hW _ _ hL _
  have hval : ∀ (j : Nat) t v, Tryz.f3.params[j]? = some t → args[j]? = some v → Value.okWide Tryz.prog W .any base t v := hval0
  have hW' := hW
  obtain ⟨p, q, hA0, hV, rfl, hfz, hnd⟩ := hW
  have hA : DataW.TrodAll enc Tryz.prog W 0 (fun _ => true) true Tryz.f3.params.toList args.toList ds p := hA0
  have hA1 := hA
  rw [Tryz.params3] at hA hval
  obtain ⟨v0, v1, d0, d1, p0, p1, rfl, rfl, rfl, h0, h1⟩ := trodAll_two hA
  obtain ⟨rfl, rfl⟩ := trodVars_none hV
  obtain ⟨n, hnb, rn⟩ := open_cell (opn_int Tryz.underlying5) Tryz.underlying5 rfl (hval 0 5 v0 rfl rfl) h0
  obtain rfl : v0 = _ := by simpa using hnb
  obtain ⟨k, hk, rk⟩ := open_cell (opn_parts Tryz.underlying22 Tryz.underlying30 Tryz.underlying5 rfl rfl) Tryz.underlying22 rfl (hval 1 22 v1 rfl rfl) h1
  obtain rfl : v1 = _ := by simpa using hk
  clear hval0
  simp only [List.append_nil] at hW'
  have hc := logsFull_c (w0 := W) (H := []) (room := n) (wf_u8' rn) (pa := k.a) (ps := k.ls) (pc := k.c) (pk := RdC.base rk.1) (pke := ⟨fun x hx w hw => CellsAt.keep (rk.2 x hx) hw.below.block⟩)
  refine (hc W (St.refl W)).mono fun e W' ⟨_, he, hw⟩ => ?_
  subst he
  exact ⟨_, rfl, post_of_below (pa := _) (pv := []) hW' (fun _ _ _ => trodAll_mk1 (shut_bool Tryz.underlying4 _)) (fun sp hsp => TrodAll_stays Tryz.laidOut hw.below (by rw [Tryz.params3]; kernel_rfl) (fun x hx => hW'.lt x hx) hsp hA1)
    (fun _ _ => rfl) (by simp) hw.below (ok_one (by kernel_rfl) rfl (okWide_bool_mk Tryz.underlying4 _))⟩
theorem logsFull_row : Rows.LogsFullSaid :=
  OpenClaim.holds_of_wide 3 Tryz.f3 rfl rfl rfl rfl rfl rfl rfl ⟨rfl, rfl, rfl, rfl, rfl⟩ rfl rfl rfl rfl rfl (by kernel_rfl) Tryz.func3 (by kernel_rfl)
    (of_decide_eq_true (by kernel_rfl)) (by unfold Func.isWrapper; first | (rw [if_pos (by decide +kernel)]; kernel_rfl) | (rw [if_neg (by decide +kernel)]; exact ⟨rfl, rfl⟩))
    (fun os started H enc _ => logsFull_lifted os started H enc)
theorem logsFull_holds : Rows.LogsFullCardSaid :=
  Claim7.holds_tied_plain_at .later [] [.data, .data, .data, .sentinel, .sentinel] true (true, "1c27df00ccfdc64245f83bfcfb4d367313ccff2b4288f56e4f9a5f752793ef51") true
    logsFull_row (fun _ h => by cases h) (by kernel_rfl) (fun _ h => by cases h) logsFull_row_tie rfl ⟨rfl, rfl⟩ (by kernel_rfl) rfl
    (fun f fn hf hfn => by
      obtain rfl : f = 3 := Option.some.inj ((show Tryz.prog.funcNamed "consistory/consistorylaw11.LogsFull" = some 3 by kernel_rfl).symm.trans hf) |>.symm
      obtain rfl : fn = Tryz.f3 := (Option.some.inj (Tryz.func3.symm.trans hfn)).symm
      exact ⟨by kernel_rfl, fun j t ht => by
        rw [Tryz.params3] at ht
        have hm : t ∈ [5, 22] := by
          rcases j with _ | _ | j <;> simp at ht <;> simp [ht]
        have hall : ([5, 22] : List Nat).all (fun t => Tryz.prog.wantsStandIn t == false) = true := by kernel_rfl
        exact (show Tryz.prog.wantsStandIn t = false from by simpa using List.all_eq_true.1 hall t hm)⟩)
    (by kernel_rfl)
end Go.Proofs.YtgfbdcjamalhhaaGreatDoor
