/- The law LogsNext holds. -/
import Derived.Test.YtgfbdcjamalhhaaGreatDoorCards
import Derived.Test.YtgfbdcjamalhhaaGreatDoorTie
import Derived.SevenTiedAt
import Derived.Handed
import Derived.Test.YtgfbdcjamalhhaaGreatDoorOl
import Derived.Test.YtgfbdcjamalhhaaGreatDoorLz
namespace Go.Proofs.YtgfbdcjamalhhaaGreatDoor
open Go.ChangeShapes Go.WideShapes Go.ChangeAt Go.RowKit Go.Sx
set_option maxRecDepth 100000
set_option linter.unusedSimpArgs false
set_option linter.unusedVariables false
/-- A plan as it reads in a world. -/
def PlanV.Here (w : World) (v : PlanV) : Prop := (Lit.int .u64 v.keep).wf = true ∧ (Lit.int .i64 v.torn).wf = true ∧ (Lit.int .i64 v.cut).wf = true
/-- An act. -/
def LActV.Here (w : World) (v : LActV) : Prop := (Lit.int .i64 v.kind).wf = true ∧ (Lit.int .i64 v.n).wf = true ∧ BytesAt w v.b.val v.b.l ∧ v.p.Here w
theorem opn_PlanV : Opn Tryz.prog 38 PlanV PlanV.list PlanV.Here := ⟨fun en w sp fuel cs x h => by
  obtain ⟨xs, m, _, _, hl, hlen, hf⟩ := DataW.trod_struct Tryz.underlying38 h
  have hl : cs.length = _ := hl
  have hlen : xs.length = 3 := hlen
  have h0 := hf 0 _ rfl
  rw [List.getElem?_eq_getElem (by omega)] at h0
  obtain ⟨y0, e0, r0⟩ := (opn_int Tryz.underlying36).ok en w sp m _ _ h0
  have h1 := hf 1 _ rfl
  rw [List.getElem?_eq_getElem (by omega)] at h1
  obtain ⟨y1, e1, r1⟩ := (opn_int Tryz.underlying3).ok en w sp m _ _ h1
  have h2 := hf 2 _ rfl
  rw [List.getElem?_eq_getElem (by omega)] at h2
  obtain ⟨y2, e2, r2⟩ := (opn_int Tryz.underlying3).ok en w sp m _ _ h2
  exact ⟨⟨y0, y1, y2⟩, (drop_step e0 (drop_step e1 (drop_last e2 (by exact hl)))), ⟨r0, r1, r2⟩⟩⟩
theorem opn_LActV : Opn Tryz.prog 40 LActV LActV.list LActV.Here := ⟨fun en w sp fuel cs x h => by
  obtain ⟨xs, m, _, _, hl, hlen, hf⟩ := DataW.trod_struct Tryz.underlying40 h
  have hl : cs.length = _ := hl
  have hlen : xs.length = 4 := hlen
  have h0 := hf 0 _ rfl
  rw [List.getElem?_eq_getElem (by omega)] at h0
  obtain ⟨y0, e0, r0⟩ := (opn_int Tryz.underlying3).ok en w sp m _ _ h0
  have h1 := hf 1 _ rfl
  rw [List.getElem?_eq_getElem (by omega)] at h1
  obtain ⟨y1, e1, r1⟩ := (opn_int Tryz.underlying3).ok en w sp m _ _ h1
  have h2 := hf 2 _ rfl
  rw [List.getElem?_eq_getElem (by omega)] at h2
  obtain ⟨y2, e2, r2⟩ := (opn_bytes Tryz.underlying30 Tryz.underlying5 rfl).ok en w sp m _ _ h2
  have h3 := hf 3 _ rfl
  rw [List.getElem?_eq_getElem (by omega)] at h3
  obtain ⟨y3, e3, r3⟩ := (opn_PlanV).ok en w sp m _ _ h3
  exact ⟨⟨y0, y1, y2, y3⟩, (drop_step e0 (drop_step e1 (drop_step e2 (drop_last e3 (by exact hl))))), ⟨r0, r1, r2, r3⟩⟩⟩
theorem acts_open {H : Type} {en : TypeId × Value → H} {w : World} {v : Value} {b : Nat} {sp : Nat → Bool} {x : DataW H} {ps : List MemPlace} (h : Value.okWide Tryz.prog w .any b 34 v) (hx : DataW.Trod en Tryz.prog w 0 sp true 34 v x ps) :
    ∃ (a : Option Addr) (c : Nat) (vs : List LActV), v = .slice a vs.length c ∧ CellsAt w (.slice a vs.length c) 6 (vs.flatMap LActV.list) ∧ ∀ y ∈ vs, y.Here w := by
  obtain ⟨fuel, hf⟩ := hx
  rw [cell_of_okWide Tryz.underlying34 rfl h] at hf
  obtain ⟨a, c, ls, h1, h2, h3⟩ := slice_open (n := 6) opn_LActV Tryz.underlying34 rfl (by omega) LActV.list_len hf
  exact ⟨a, c, ls, by simpa using h1, h2, h3⟩
theorem logsNext_lifted (os : Os) (started : os.Started) (H : Type) (enc : TypeId × Value → H) :
    ReturnsInHanded {} Tryz.checked os 4 .any (fun w args => (Rows.logsNextSpec.pre enc Tryz.prog Tryz.f4 [] false w args ∧ laidMetH Tryz.prog Rows.logsNextRow.laid w) ∧ sizedMet enc Tryz.prog Tryz.f4 (OpenSpec.ofChange Rows.logsNextSpec) false w args)
      (Rows.logsNextSpec.post enc Tryz.prog Tryz.f4 false true false false) := by
  refine returnsInHanded_of_change_and (C := Tryz.checked) (X := fun w _ => laidMetH Tryz.prog Rows.logsNextRow.laid w) (fun _ _ _ hh h => h.of_heap hh) Tryz.own started (by kernel_rfl) Tryz.func4
    (ChangeSpec.witness_at (enc := enc) (C := Tryz.checked) (os := os) (X := fun w _ => laidMetH Tryz.prog Rows.logsNextRow.laid w) false (laidWorld os) #[.slice none 0 0] 8 rfl (by kernel_rfl) (by kernel_rfl) (by kernel_rfl) (by kernel_rfl) (by kernel_rfl) (laidWorld_met os _)) ?_
  intro W base args ds gs before hval0 hW _ _ hL _
  have hval : ∀ (j : Nat) t v, Tryz.f4.params[j]? = some t → args[j]? = some v → Value.okWide Tryz.prog W .any base t v := hval0
  have hW' := hW
  obtain ⟨p, q, hA0, hV, rfl, hfz, hnd⟩ := hW
  have hA : DataW.TrodAll enc Tryz.prog W 0 (fun _ => true) true Tryz.f4.params.toList args.toList ds p := hA0
  have hA1 := hA
  rw [Tryz.params4] at hA hval
  obtain ⟨v0, d0, rfl, rfl, h0⟩ := trodAll_one hA
  obtain ⟨rfl, rfl⟩ := trodVars_none hV
  obtain ⟨a, c, l, rfl, hc0, hl⟩ := acts_open (hval 0 34 v0 rfl rfl) h0
  clear hval0
  simp only [List.append_nil] at hW'
  have hc := logsNext_c (w0 := W) (H := []) (a := a) (l := l) (c := c) (hr := RdC.base hc0) (fun x hx => RdB.base (hl x hx).2.2.1)
  refine (hc W (St.refl W)).mono fun e W' ⟨_, he, hw⟩ => ?_
  subst he
  exact ⟨_, rfl, post_of_below (pa := _) (pv := []) hW' (fun _ _ _ => trodAll_mk1 (shut_bool Tryz.underlying4 _)) (fun sp hsp => TrodAll_stays Tryz.laidOut hw.below (by rw [Tryz.params4]; kernel_rfl) (fun x hx => hW'.lt x hx) hsp hA1)
    (fun _ _ => rfl) (by simp) hw.below (ok_one (by kernel_rfl) rfl (okWide_bool_mk Tryz.underlying4 _))⟩
theorem logsNext_row : Rows.LogsNextSaid :=
  OpenClaim.holds_of_wide 4 Tryz.f4 rfl rfl rfl rfl rfl rfl rfl ⟨rfl, rfl, rfl, rfl, rfl⟩ rfl rfl rfl rfl rfl (by kernel_rfl) Tryz.func4 (by kernel_rfl)
    (of_decide_eq_true (by kernel_rfl)) (by unfold Func.isWrapper; first | (rw [if_pos (by decide +kernel)]; kernel_rfl) | (rw [if_neg (by decide +kernel)]; exact ⟨rfl, rfl⟩))
    (fun os started H enc _ => logsNext_lifted os started H enc)
theorem logsNext_holds : Rows.LogsNextCardSaid :=
  Claim7.holds_tied_plain_at .later [] [.data, .data, .data, .sentinel, .sentinel] true (true, "1c27df00ccfdc64245f83bfcfb4d367313ccff2b4288f56e4f9a5f752793ef51") true
    logsNext_row (fun _ h => by cases h) (by kernel_rfl) (fun _ h => by cases h) logsNext_row_tie rfl ⟨rfl, rfl⟩ (by kernel_rfl) rfl
    (fun f fn hf hfn => by
      obtain rfl : f = 4 := Option.some.inj ((show Tryz.prog.funcNamed "consistory/consistorylaw11.LogsNext" = some 4 by kernel_rfl).symm.trans hf) |>.symm
      obtain rfl : fn = Tryz.f4 := (Option.some.inj (Tryz.func4.symm.trans hfn)).symm
      exact ⟨by kernel_rfl, fun j t ht => by
        rw [Tryz.params4] at ht
        have hm : t ∈ [34] := by
          rcases j with _ | j <;> simp at ht <;> simp [ht]
        have hall : ([34] : List Nat).all (fun t => Tryz.prog.wantsStandIn t == false) = true := by kernel_rfl
        exact (show Tryz.prog.wantsStandIn t = false from by simpa using List.all_eq_true.1 hall t hm)⟩)
    (by kernel_rfl)
end Go.Proofs.YtgfbdcjamalhhaaGreatDoor
