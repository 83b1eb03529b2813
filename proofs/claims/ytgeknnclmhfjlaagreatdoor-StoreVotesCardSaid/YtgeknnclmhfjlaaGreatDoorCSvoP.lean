/- The law StoreVotes holds. -/
import Derived.Test.YtgeknnclmhfjlaaGreatDoorCards
import Derived.Test.YtgeknnclmhfjlaaGreatDoorTie
import Derived.SevenTiedAt
import Derived.Handed
import Derived.Test.YtgeknnclmhfjlaaGreatDoorOlP
import Derived.Test.YtgeknnclmhfjlaaGreatDoorOaP
import Derived.Test.YtgeknnclmhfjlaaGreatDoorSviP
namespace Go.Proofs.YtgeknnclmhfjlaaGreatDoor
open Go.ChangeShapes Go.WideShapes Go.ChangeAt Go.RowKit Go.Sx
set_option maxRecDepth 100000
set_option linter.unusedSimpArgs false
set_option linter.unusedVariables false
/-- A plan as it reads in a world. -/
def PlanV.Here (w : World) (v : PlanV) : Prop := (Lit.int .u64 v.keep).wf = true ∧ (Lit.int .i64 v.torn).wf = true ∧ (Lit.int .i64 v.cut).wf = true
theorem wf_u64k {n : Int} (h : (Lit.int .u64 n).wf = true) : 0 ≤ n ∧ n < 18446744073709551616 := by
  simp [Lit.wf, IntKind.min, IntKind.max, IntKind.signed, IntKind.bits] at h
  omega
theorem wf_i64k {n : Int} (h : (Lit.int .i64 n).wf = true) : n ≤ 9223372036854775807 := by
  simp [Lit.wf, IntKind.min, IntKind.max, IntKind.signed, IntKind.bits] at h
  omega
theorem opn_PlanV : Opn Tryz.prog 25 PlanV PlanV.list PlanV.Here := ⟨fun en w sp fuel cs x h => by
  obtain ⟨xs, m, _, _, hl, hlen, hf⟩ := DataW.trod_struct Tryz.underlying25 h
  have hl : cs.length = _ := hl
  have hlen : xs.length = 3 := hlen
  have h0 := hf 0 _ rfl
  rw [List.getElem?_eq_getElem (by omega)] at h0
  obtain ⟨y0, e0, r0⟩ := (opn_int Tryz.underlying23).ok en w sp m _ _ h0
  have h1 := hf 1 _ rfl
  rw [List.getElem?_eq_getElem (by omega)] at h1
  obtain ⟨y1, e1, r1⟩ := (opn_int Tryz.underlying3).ok en w sp m _ _ h1
  have h2 := hf 2 _ rfl
  rw [List.getElem?_eq_getElem (by omega)] at h2
  obtain ⟨y2, e2, r2⟩ := (opn_int Tryz.underlying3).ok en w sp m _ _ h2
  exact ⟨⟨y0, y1, y2⟩, (drop_step e0 (drop_step e1 (drop_last e2 (by exact hl)))), ⟨r0, r1, r2⟩⟩⟩
theorem storeVotes_lifted (os : Os) (started : os.Started) (H : Type) (enc : TypeId × Value → H) :
    ReturnsInHanded {} Tryz.checked os 3 .any (fun w args => (Rows.storeVotesSpec.pre enc Tryz.prog Tryz.f3 [] false w args ∧ laidMetH Tryz.prog Rows.storeVotesRow.laid w) ∧ sizedMet enc Tryz.prog Tryz.f3 (OpenSpec.ofChange Rows.storeVotesSpec) false w args)
      (Rows.storeVotesSpec.post enc Tryz.prog Tryz.f3 false true false false) := by
  refine returnsInHanded_of_change_and (C := Tryz.checked) (X := fun w _ => laidMetH Tryz.prog Rows.storeVotesRow.laid w) (fun _ _ _ hh h => h.of_heap hh) Tryz.own started (by kernel_rfl) Tryz.func3
    (ChangeSpec.witness_at (enc := enc) (C := Tryz.checked) (os := os) (X := fun w _ => laidMetH Tryz.prog Rows.storeVotesRow.laid w) false (laidWorld os) #[.slice none 0 0, .int .i64 0, .agg PlanV.zero.cells] 8 rfl (by kernel_rfl) (by kernel_rfl) (by kernel_rfl) (by kernel_rfl) (by kernel_rfl) (laidWorld_met os _)) ?_
  intro W base args ds gs before hval0 hW _ _ hL _
  have hval : ∀ (j : Nat) t v, Tryz.f3.params[j]? = some t → args[j]? = some v → Value.okWide Tryz.prog W .any base t v := hval0
  have hW' := hW
  obtain ⟨p, q, hA0, hV, rfl, hfz, hnd⟩ := hW
  have hA : DataW.TrodAll enc Tryz.prog W 0 (fun _ => true) true Tryz.f3.params.toList args.toList ds p := hA0
  have hA1 := hA
  rw [Tryz.params3] at hA hval
  obtain ⟨v0, v1, v2, d0, d1, d2, p0, p1, p2, rfl, rfl, rfl, h0, h1, h2⟩ := trodAll_three hA
  obtain ⟨rfl, rfl⟩ := trodVars_none hV
  obtain ⟨a, c, vs, rfl, hc0, hvs⟩ := votes_open (hval 0 22 v0 rfl rfl) h0
  obtain ⟨n, hnb, rn⟩ := open_cell (opn_int Tryz.underlying3) Tryz.underlying3 rfl (hval 1 3 v1 rfl rfl) h1
  obtain rfl : v1 = _ := by simpa using hnb
  obtain ⟨⟨keep, torn, cut⟩, rfl, hp⟩ := open_agg opn_PlanV Tryz.underlying25 rfl (hval 2 25 v2 rfl rfl) h2
  have hke : 0 ≤ keep ∧ keep < 18446744073709551616 := wf_u64k hp.1
  obtain ⟨kp, hkq⟩ := Int.eq_ofNat_of_zero_le hke.1
  subst hkq
  clear hval0
  simp only [List.append_nil] at hW'
  have hc := storeVotes_c (w0 := W) (H := []) (a := a) (vs := vs) (c := c) (hr := RdC.base hc0) (rv := VoteV.Here.rd hvs []) (n := n) (wf_i64k rn) (kp := kp) (by omega) (torn := torn) (cut := cut)
  refine (hc W (St.refl W)).mono fun e W' ⟨_, he, hw⟩ => ?_
  subst he
  exact ⟨_, rfl, post_of_below (pa := _) (pv := []) hW' (fun _ _ _ => trodAll_mk1 (shut_bool Tryz.underlying4 _)) (fun sp hsp => TrodAll_stays Tryz.laidOut hw.below (by rw [Tryz.params3]; kernel_rfl) (fun x hx => hW'.lt x hx) hsp hA1)
    (fun _ _ => rfl) (by simp) hw.below (ok_one (by kernel_rfl) rfl (okWide_bool_mk Tryz.underlying4 _))⟩
theorem storeVotes_row : Rows.StoreVotesSaid :=
  OpenClaim.holds_of_wide 3 Tryz.f3 rfl rfl rfl rfl rfl rfl rfl ⟨rfl, rfl, rfl, rfl, rfl⟩ rfl rfl rfl rfl rfl (by kernel_rfl) Tryz.func3 (by kernel_rfl)
    (of_decide_eq_true (by kernel_rfl)) (by unfold Func.isWrapper; first | (rw [if_pos (by decide +kernel)]; kernel_rfl) | (rw [if_neg (by decide +kernel)]; exact ⟨rfl, rfl⟩))
    (fun os started H enc _ => storeVotes_lifted os started H enc)
theorem storeVotes_holds : Rows.StoreVotesCardSaid :=
  Claim7.holds_tied_plain_at .later [] [.data, .data, .data, .sentinel, .sentinel] true (true, "65626a78d83b67edf9ad81bdb8b8b089fe3c58bcad02ab4c3963ea741b973ec2") true
    storeVotes_row (fun _ h => by cases h) (by kernel_rfl) (fun _ h => by cases h) storeVotes_row_tie rfl ⟨rfl, rfl⟩ (by kernel_rfl) rfl
    (fun f fn hf hfn => by
      obtain rfl : f = 3 := Option.some.inj ((show Tryz.prog.funcNamed "consistory/consistorylaw21.StoreVotes" = some 3 by kernel_rfl).symm.trans hf) |>.symm
      obtain rfl : fn = Tryz.f3 := (Option.some.inj (Tryz.func3.symm.trans hfn)).symm
      exact ⟨by kernel_rfl, fun j t ht => by
        rw [Tryz.params3] at ht
        have hm : t ∈ [22, 3, 25] := by
          rcases j with _ | _ | _ | j <;> simp at ht <;> simp [ht]
        have hall : ([22, 3, 25] : List Nat).all (fun t => Tryz.prog.wantsStandIn t == false) = true := by kernel_rfl
        exact (show Tryz.prog.wantsStandIn t = false from by simpa using List.all_eq_true.1 hall t hm)⟩)
    (by kernel_rfl)
end Go.Proofs.YtgeknnclmhfjlaaGreatDoor
