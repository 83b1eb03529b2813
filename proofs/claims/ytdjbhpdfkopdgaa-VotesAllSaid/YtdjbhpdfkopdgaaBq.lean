/- The law VotesOnce: what was written in a regency stays. -/
import Derived.Test.YtdjbhpdfkopdgaaBp
namespace Go.Proofs.Ytdjbhpdfkopdgaa
open Go.RowKit Go.Sx
set_option maxRecDepth 100000
set_option linter.unusedSimpArgs false
set_option linter.unusedVariables false
theorem small_of_one {v : VoteD} (h : longOne v = false) : SmallV v := by
  simp only [longOne, Bool.or_eq_false_iff, decide_eq_false_iff_not, List.any_eq_false, decide_eq_true_eq] at h
  exact ⟨by omega, by omega, fun c hc => by have := h.2 c hc; omega⟩
theorem small_of_long {l : List VoteD} (h : longB l = false) : ∀ v ∈ l, SmallV v := fun v hv => by
  simp only [longB, Bool.or_eq_false_iff, List.any_eq_false, Bool.not_eq_true] at h
  exact small_of_one (h.2 v hv)
theorem one_of_long {l : List VoteD} (h : longB l = false) : ∀ v ∈ l, longOne v = false := fun v hv => by
  simp only [longB, Bool.or_eq_false_iff, List.any_eq_false, Bool.not_eq_true] at h
  exact h.2 v hv
/-- Where nothing is long, what is put is what is formed. -/
theorem put_formed {v : VoteD} (h : longOne v = false) (hc : v.cert.length ≤ 16) : (putV v).2 = 0 ↔ formedB v = true := by
  have hs := small_of_one h
  simp only [longOne, Bool.or_eq_false_iff, decide_eq_false_iff_not, List.any_eq_false, decide_eq_true_eq] at h
  have h1 := sumLen_le 300 v.cert (fun x hx => by have := h.2 x hx; omega)
  have h2 : (told v).length ≤ 65536 := by
    have a1 := textB_length v.batch (by omega)
    have a2 := packed_length_le v.cert.length (by omega)
    have a3 := texts_length 300 v.cert (fun x hx => by have := h.2 x hx; omega) (by decide)
    have a4 := Nat.mul_le_mul_right (10 + 300) hc
    simp only [told, head, List.length_append, pre3_length, Vector.length_toList]
    omega
  have h3 := Nat.mul_le_mul_right 300 hc
  unfold putV
  rw [if_neg (by omega), if_neg (by omega), if_neg (by omega)]
  cases formedB v <;> simp
def onceV (v : VoteV) : VoteV := { v with kind := 2, cert := ⟨none, 0, []⟩ }
def onceW (v : VoteV) (h : Vector UInt8 32) (b : BS) : VoteV := { onceV v with hash := h, batch := b }
theorem once_formed (v : VoteV) (h : Vector UInt8 32) (b : BS) : formedB (onceW v h b).abs = formedB (onceV v).abs := by
  simp [formedB, onceW, onceV, VoteV.abs]
theorem once_long (v : VoteV) (h : longB ([v].map VoteV.abs) = false) : longOne (onceV v).abs = false := by
  have := one_of_long h v.abs (by simp)
  simp only [longOne, Bool.or_eq_false_iff, decide_eq_false_iff_not, List.any_eq_false, decide_eq_true_eq] at this ⊢
  exact ⟨⟨this.1.1, by simp [onceV, VoteV.abs]⟩, fun x hx => by simp [onceV, VoteV.abs] at hx⟩
theorem once_longW (v : VoteV) (h : Vector UInt8 32) (b : BS) (hb : b.l.length ≤ 500) : longOne (onceW v h b).abs = false := by
  simp only [longOne, Bool.or_eq_false_iff, decide_eq_false_iff_not, List.any_eq_false, decide_eq_true_eq]
  exact ⟨⟨by show ¬ 500 < b.l.length; omega, by simp [onceW, onceV, VoteV.abs]⟩, fun x hx => by simp [onceW, onceV, VoteV.abs] at hx⟩
theorem once_bad (v : VoteV) (hl : longOne (onceV v).abs = false) (h : (takeD BookD.zero (onceV v).abs).2 ≠ 0) : formedB (onceV v).abs = false := by
  refine Bool.eq_false_iff.2 fun hf => h ?_
  have hp := (put_formed hl (by simp [onceV, VoteV.abs])).2 hf
  have hs := ((formed_spec _).1 hf).2.2.2.2.1.1
  rw [takeD_write hp rfl (by show ¬ _ < (0 : Int); omega)]
theorem once_good (v : VoteV) (hl : longOne (onceV v).abs = false) (h : (takeD BookD.zero (onceV v).abs).2 = 0) : formedB (onceV v).abs = true ∧ (takeD BookD.zero (onceV v).abs).1 = ⟨⟨0, 0⟩, false, v.slot, [(⟨v.view, v.reg⟩, (onceV v).abs)], none⟩ := by
  have hf : formedB (onceV v).abs = true := by
    refine (put_formed hl (by simp [onceV, VoteV.abs])).1 ?_
    rcases Decidable.em ((putV (onceV v).abs).2 = 0) with hp | hp
    · exact hp
    · rw [takeD_bad hp] at h; simp at h
  refine ⟨hf, ?_⟩
  have hp := (put_formed hl (by simp [onceV, VoteV.abs])).2 hf
  have hs : 0 ≤ v.slot := ((formed_spec _).1 hf).2.2.2.2.1.1
  rw [takeD_write hp rfl (by show ¬ v.slot < (0 : Int); omega)]
  show writeD (beginD BookD.zero v.slot) ⟨v.view, v.reg⟩ (onceV v).abs = _
  have e : beginD BookD.zero v.slot = ⟨⟨0, 0⟩, false, v.slot, [], none⟩ := by
    show (if (0 : Int) < v.slot then _ else _) = _
    split
    · rfl
    · have : v.slot = 0 := by omega
      rw [this]; rfl
  rw [e]
  rfl
theorem once_again (v : VoteV) (h : Vector UInt8 32) (b : BS) (hb : b.l.length ≤ 500) (hf : formedB (onceV v).abs = true) : takeD ⟨⟨0, 0⟩, false, v.slot, [(⟨v.view, v.reg⟩, (onceV v).abs)], none⟩ (onceW v h b).abs = (⟨⟨0, 0⟩, false, v.slot, [(⟨v.view, v.reg⟩, (onceV v).abs)], none⟩, 0) := by
  have hp := (put_formed (once_longW v h b hb) (by simp [onceW, onceV, VoteV.abs])).2 ((once_formed v h b).trans hf)
  rw [takeD_write hp rfl (by show ¬ v.slot < v.slot; omega)]
  show (writeD (beginD _ v.slot) ⟨v.view, v.reg⟩ _, (0 : Int)) = _
  rw [show beginD ⟨⟨0, 0⟩, false, v.slot, [(⟨v.view, v.reg⟩, (onceV v).abs)], none⟩ v.slot = ⟨⟨0, 0⟩, false, v.slot, [(⟨v.view, v.reg⟩, (onceV v).abs)], none⟩ from if_neg (by show ¬ v.slot < v.slot; omega)]
  simp [writeD, BookD.get]
theorem once_get (v : VoteV) {y : BkS} (h : y.abs = ⟨⟨0, 0⟩, false, v.slot, [(⟨v.view, v.reg⟩, (onceV v).abs)], none⟩) : hasE y.es ⟨v.view, v.reg⟩ = true ∧ ((getE y.es ⟨v.view, v.reg⟩).getD VoteV.zero).abs = (onceV v).abs := by
  have hg : y.abs.get ⟨v.view, v.reg⟩ = some (onceV v).abs := by rw [h]; simp [BookD.get]
  rw [BkS.get] at hg
  obtain ⟨u, hu, he⟩ := Option.map_eq_some_iff.1 hg
  exact ⟨by simp [hasE, hu], by simp [hu, he]⟩
theorem rcNil {w0 : World} {H : List SA} : RdC w0 H (.slice none ([] : List BS).length 0) 1 (([] : List BS).map BS.val) := ⟨fun w _ => cellsAt_nil w 1⟩

set_option maxHeartbeats 1000000 in
theorem votesOnce_c {w0 : World} {H : List SA} {v : VoteV} {h : Vector UInt8 32} {b : BS} [rbv : RdB w0 H (.slice v.batch.a v.batch.l.length v.batch.c) v.batch.l] [rcv : RdC w0 H (.slice v.cert.a v.cert.ls.length v.cert.c) 1 (v.cert.ls.map BS.val)] [rev : RdE w0 H v.cert.ls] [rbb : RdB w0 H (.slice b.a b.l.length b.c) b.l] :
    CT Try.prog w0 (H) 3 [.agg v.cells, .agg (hlist h).toArray, .slice b.a b.l.length b.c] (α := Unit) (fun _ => .bool true) (fun _ => H) := by
  refine CT_intro Try.func3 rfl Try.ntmps3 rfl ?_
  refine T_seq ?_
  refine T_region ?_
  refine TL_e rfl (Ef_boxN rfl (fun b3 => ?_))
  refine TL_e rfl (Ef_boxN rfl (fun b4 => ?_))
  refine TL_q (Qt_assign (.bool _) rfl) rfl ?_
  refine TL_nil ?_
  refine X_then ?_
  refine T_seq ?_
  refine T_seq ?_
  refine T_region ?_
  refine TL_e rfl (Ef_call (wakes_c) rfl (fun x12 => ?_))
  refine TL_q (Qt_not rfl) rfl ?_
  refine TL_nil ?_
  refine X_then ?_
  refine T_cond rfl (fun h13 => ?_) (fun h13 => ?_)
  ·
    have p13 := h13
    try simp only [decide_eq_true_eq, decide_eq_false_iff_not, Bool.not_eq_true', Bool.not_eq_false', Option.isNone_iff_eq_none, ne_eq, Decidable.not_not, Int.not_lt, Int.not_le] at p13
    cases h13
  ·
    have p13 := h13
    try simp only [decide_eq_true_eq, decide_eq_false_iff_not, Bool.not_eq_true', Bool.not_eq_false', Option.isNone_iff_eq_none, ne_eq, Decidable.not_not, Int.not_lt, Int.not_le] at p13
    refine T_skip ?_
    refine X_then ?_
    refine T_seq ?_
    refine T_seq ?_
    refine T_region ?_
    refine TL_q (Qt_loadN rfl rfl) rfl ?_
    refine TL_e rfl (Ef_sliceN (m := [v].length) [.agg v.cells] ([v].flatMap VoteV.list) rfl rfl rfl rfl (by simp [Value.cells, VoteV.size]) rfl rfl (fun a15 c15 => ?_))
    have rvv : RdVs w0 H [v] := ⟨fun u hu => by obtain rfl : u = v := (by simpa using hu); exact rbv, fun u hu => by obtain rfl : u = v := (by simpa using hu); exact rcv, fun u hu => by obtain rfl : u = v := (by simpa using hu); exact rev⟩
    refine TL_e rfl (Ef_call (long_c (vs := [v])) rfl (fun x16 => ?_))
    refine TL_q (Qt_move (.bool _) rfl) rfl ?_
    refine TL_split 17 rfl (fun h17 => ?_) (fun h17 => ?_)
    ·
      have p17 := h17
      try simp only [decide_eq_true_eq, decide_eq_false_iff_not, Bool.not_eq_true', Bool.not_eq_false', Option.isNone_iff_eq_none, ne_eq, Decidable.not_not, Int.not_lt, Int.not_le] at p17
      refine TL_pass rfl rfl h17 rfl ?_
      refine TL_pass rfl rfl h17 rfl ?_
      refine TL_pass rfl rfl h17 rfl ?_
      refine TL_q (Qt_pick_t (.bool _) rfl h17 rfl) rfl ?_
      refine TL_nil ?_
      refine X_then ?_
      refine T_cond_true rfl rfl ?_
      refine T_seq ?_
      refine T_region ?_
      refine TL_q (Qt_assign (.bool _) rfl) rfl ?_
      refine TL_nil ?_
      refine X_then ?_
      refine T_ret ?_
      refine X_then_ret ?_
      exact X_ret () [_] Try.results3 ⟨rfl, trivial⟩ rfl (Subs.st inferInstance)
    ·
      have p17 := h17
      try simp only [decide_eq_true_eq, decide_eq_false_iff_not, Bool.not_eq_true', Bool.not_eq_false', Option.isNone_iff_eq_none, ne_eq, Decidable.not_not, Int.not_lt, Int.not_le] at p17
      refine TL_take rfl rfl h17 ?_
      refine TL_q (Qt_move (.slice _ _ _) rfl) rfl ?_
      refine TL_take rfl rfl h17 ?_
      refine TL_q (Qt_len_slice rfl Try.underlying24) rfl ?_
      refine TL_take rfl rfl h17 ?_
      refine TL_q (Qt_gtr rfl rfl) rfl ?_
      refine TL_q (Qt_pick_f (.bool _) rfl h17 rfl) rfl ?_
      refine TL_nil ?_
      refine X_then ?_
      refine T_cond rfl (fun h21 => ?_) (fun h21 => ?_)
      ·
        have p21 := h21
        try simp only [decide_eq_true_eq, decide_eq_false_iff_not, Bool.not_eq_true', Bool.not_eq_false', Option.isNone_iff_eq_none, ne_eq, Decidable.not_not, Int.not_lt, Int.not_le] at p21
        refine T_seq ?_
        refine T_region ?_
        refine TL_q (Qt_assign (.bool _) rfl) rfl ?_
        refine TL_nil ?_
        refine X_then ?_
        refine T_ret ?_
        refine X_then_ret ?_
        exact X_ret () [_] Try.results3 ⟨rfl, trivial⟩ rfl (Subs.st inferInstance)
      ·
        have p21 := h21
        try simp only [decide_eq_true_eq, decide_eq_false_iff_not, Bool.not_eq_true', Bool.not_eq_false', Option.isNone_iff_eq_none, ne_eq, Decidable.not_not, Int.not_lt, Int.not_le] at p21
        have hlg : longB ([v].map VoteV.abs) = false := h17
        have hl1 := once_long v hlg
        have hb5 : b.l.length ≤ 500 := by omega
        refine T_skip ?_
        refine X_then ?_
        refine T_seq ?_
        refine T_region ?_
        refine TL_q (Qt_fieldAddr 0 rfl rfl) rfl ?_
        refine TL_n (Ef_store1 (.int .i64 _) rfl rfl (?_))
        refine TL_nil ?_
        refine X_then ?_
        refine T_seq ?_
        refine T_region ?_
        refine TL_q (Qt_fieldAddr 37 rfl rfl) rfl ?_
        refine TL_n (Ef_store1 (.slice _ _ _) rfl rfl (?_))
        refine TL_nil ?_
        refine X_then ?_
        refine T_seq ?_
        refine T_region ?_
        refine TL_e rfl (Ef_call (new_c) rfl (fun x24 => ?_))
        refine TL_q (Qt_assign (.pointer _) rfl) rfl ?_
        refine TL_nil ?_
        refine X_then ?_
        refine T_seq ?_
        refine T_seq ?_
        refine T_region ?_
        refine TL_q (Qt_move (.pointer _) rfl) rfl ?_
        refine TL_q (Qt_loadN rfl rfl) rfl ?_
        refine TL_e rfl (Ef_call (take_c (y := BkS.made x24.2) (v := onceV v) (rbv := inferInstanceAs (RdB w0 _ (.slice v.batch.a v.batch.l.length v.batch.c) v.batch.l)) (rcv := rcNil) (rev := RdE.nil) (BkS.made_ok _) (small_of_one hl1)) rfl (fun x27 => ?_))
        refine TL_pure (fun hy27 => ?_)
        have e27 := hy27.2
        rw [BkS.made_abs] at e27
        refine TL_q (Qt_neq rfl rfl) rfl ?_
        refine TL_nil ?_
        refine X_then ?_
        refine T_cond rfl (fun h28 => ?_) (fun h28 => ?_)
        ·
          have p28 := h28
          try simp only [decide_eq_true_eq, decide_eq_false_iff_not, Bool.not_eq_true', Bool.not_eq_false', Option.isNone_iff_eq_none, ne_eq, Decidable.not_not, Int.not_lt, Int.not_le] at p28
          rw [BkS.made_abs] at p28
          have hbad := once_bad v hl1 p28
          refine T_seq ?_
          refine T_region ?_
          refine TL_q (Qt_loadN rfl rfl) rfl ?_
          refine TL_e rfl (Ef_call (parts_c (v := onceV v)) rfl (fun x30 => ?_))
          refine TL_q (Qt_not rfl) rfl ?_
          refine TL_q (Qt_assign (.bool _) rfl) rfl ?_
          refine TL_nil ?_
          refine X_then ?_
          refine T_ret ?_
          refine X_then_ret ?_
          exact X_ret () [_] Try.results3 ⟨rfl, trivial⟩ (by rw [hbad]; rfl) (Subs.st inferInstance)
        ·
          have p28 := h28
          try simp only [decide_eq_true_eq, decide_eq_false_iff_not, Bool.not_eq_true', Bool.not_eq_false', Option.isNone_iff_eq_none, ne_eq, Decidable.not_not, Int.not_lt, Int.not_le] at p28
          rw [BkS.made_abs] at p28
          obtain ⟨hf, e27h⟩ := once_good v hl1 p28
          have e27g := e27.trans e27h
          refine T_skip ?_
          refine X_then ?_
          refine T_seq ?_
          refine T_region ?_
          refine TL_q (Qt_loadN rfl rfl) rfl ?_
          refine TL_e rfl (Ef_allocN (fun b8 => ?_))
          refine TL_n (Ef_storeN rfl rfl (?_))
          refine TL_nil ?_
          refine X_then ?_
          refine T_seq ?_
          refine T_region ?_
          refine TL_q (Qt_loadN rfl rfl) rfl ?_
          refine TL_q (Qt_move (.slice _ _ _) rfl) rfl ?_
          refine TL_q (Qt_fieldAddr 4 rfl rfl) rfl ?_
          refine TL_n (Ef_storeN rfl rfl (?_))
          refine TL_q (Qt_fieldAddr 36 rfl rfl) rfl ?_
          refine TL_n (Ef_store1 (.slice _ _ _) rfl rfl (?_))
          refine TL_nil ?_
          refine X_then ?_
          refine T_seq ?_
          refine T_region ?_
          refine TL_q (Qt_move (.pointer _) rfl) rfl ?_
          refine TL_q (Qt_loadN rfl rfl) rfl ?_
          refine TL_drop (BkS.H x27 x24.1 (blk b8 (.cells (VoteV.mk 2 v.view v.reg v.slot h ⟨b.a, b.c, b.l⟩ ⟨none, 0, []⟩).cells 27 (0, 0)) :: blk b3 (.cells (VoteV.mk 2 v.view v.reg v.slot v.hash v.batch ⟨none, 0, []⟩).cells 27 (0, 0)) :: H)) ?_
          refine TL_e rfl (Ef_call (take_c (y := x27) (v := onceW v h b) (rbv := inferInstanceAs (RdB w0 _ (.slice b.a b.l.length b.c) b.l)) (rcv := rcNil) (rev := RdE.nil) hy27.1 (small_of_one (once_longW v h b hb5))) rfl (fun x39 => ?_))
          refine TL_pure (fun hy39 => ?_)
          have e39 := hy39.2
          rw [e27g, once_again v h b hb5 hf] at e39
          obtain ⟨hh, hge⟩ := once_get v e39
          refine TL_q (Qt_assign (.int .i64 _) rfl) rfl ?_
          refine TL_nil ?_
          refine X_then ?_
          refine T_seq ?_
          refine T_region ?_
          refine TL_q (Qt_move (.pointer _) rfl) rfl ?_
          refine TL_q (Qt_fieldAddr 1 rfl rfl) rfl ?_
          refine TL_q (Qt_load1 rfl) rfl ?_
          refine TL_q (Qt_fieldAddr 2 rfl rfl) rfl ?_
          refine TL_q (Qt_load1 rfl) rfl ?_
          refine TL_e rfl (Ef_call (wrote_c (y := x39) hy39.1) rfl (fun x46 => ?_))
          refine TL_pure (fun hu46 => ?_)
          have hu46 : x46.1.abs = (onceV v).abs := hu46.trans hge
          have hsx : SmallV x46.1.abs := by rw [hu46]; exact small_of_one hl1
          have rvs : RdVs w0 (datV x46.2 [x46.1] :: BkS.H x39 x24.1 (blk b8 (.cells (VoteV.mk 2 v.view v.reg v.slot h ⟨b.a, b.c, b.l⟩ ⟨none, 0, []⟩).cells 27 (0, 0)) :: blk b3 (.cells (VoteV.mk 2 v.view v.reg v.slot v.hash v.batch ⟨none, 0, []⟩).cells 27 (0, 0)) :: H)) [x46.1] := inferInstance
          have rbx := rvs.b x46.1 (by simp)
          have rcx := rvs.c x46.1 (by simp)
          have rex := rvs.e x46.1 (by simp)
          refine TL_q (Qt_move (.tuple _) rfl) rfl ?_
          refine TL_q (Qt_extract rfl) rfl ?_
          refine TL_q (Qt_extract rfl) rfl ?_
          refine TL_e rfl (Ef_allocN (fun b10 => ?_))
          refine TL_n (Ef_storeN rfl rfl (?_))
          refine TL_q (Qt_assign (.bool _) rfl) rfl ?_
          refine TL_nil ?_
          refine X_then ?_
          refine T_seq ?_
          refine T_region ?_
          refine TL_q (Qt_move (.int .i64 _) rfl) rfl ?_
          refine TL_q (Qt_eql rfl rfl) rfl ?_
          refine TL_q (Qt_move (.bool _) rfl) rfl ?_
          refine TL_split 51 rfl (fun h51 => ?_) (fun h51 => ?_)
          ·
            have p51 := h51
            try simp only [decide_eq_true_eq, decide_eq_false_iff_not, Bool.not_eq_true', Bool.not_eq_false', Option.isNone_iff_eq_none, ne_eq, Decidable.not_not, Int.not_lt, Int.not_le] at p51
            refine TL_take rfl rfl h51 ?_
            refine TL_q (Qt_move (.bool _) rfl) rfl ?_
            refine TL_q (Qt_pick_t (.bool _) rfl h51 rfl) rfl ?_
            refine TL_q (Qt_move (.bool _) rfl) rfl ?_
            refine TL_split 54 rfl (fun h54 => ?_) (fun h54 => ?_)
            ·
              have p54 := h54
              try simp only [decide_eq_true_eq, decide_eq_false_iff_not, Bool.not_eq_true', Bool.not_eq_false', Option.isNone_iff_eq_none, ne_eq, Decidable.not_not, Int.not_lt, Int.not_le] at p54
              refine TL_take rfl rfl h54 ?_
              refine TL_q (Qt_loadN rfl rfl) rfl ?_
              refine TL_take rfl rfl h54 ?_
              refine TL_q (Qt_loadN rfl rfl) rfl ?_
              refine TL_take rfl rfl h54 ?_
              refine TL_e rfl (Ef_call (same13_c (v := x46.1) (u := onceV v) (rbu := inferInstanceAs (RdB w0 _ (.slice v.batch.a v.batch.l.length v.batch.c) v.batch.l)) (rcu := rcNil) (reu := RdE.nil) (by have := hsx.batch; omega) (by have := hsx.cert; omega) (fun x hx => by have := hsx.each x hx; omega)) rfl (fun x57 => ?_))
              refine TL_q (Qt_pick_t (.bool _) rfl h54 rfl) rfl ?_
              refine TL_q (Qt_assign (.bool _) rfl) rfl ?_
              refine TL_nil ?_
              refine X_then ?_
              refine T_ret ?_
              exact X_ret () [.bool (decide (x46.1.abs = (onceV v).abs))] Try.results3 ⟨rfl, trivial⟩ (by rw [hu46]; simp [retVal]) (Subs.st inferInstance)
            ·
              have p54 := h54
              try simp only [decide_eq_true_eq, decide_eq_false_iff_not, Bool.not_eq_true', Bool.not_eq_false', Option.isNone_iff_eq_none, ne_eq, Decidable.not_not, Int.not_lt, Int.not_le] at p54
              exact absurd h54 (by rw [hh]; simp)
          ·
            have p51 := h51
            try simp only [decide_eq_true_eq, decide_eq_false_iff_not, Bool.not_eq_true', Bool.not_eq_false', Option.isNone_iff_eq_none, ne_eq, Decidable.not_not, Int.not_lt, Int.not_le] at p51
            exact absurd h51 (by rw [e27g, once_again v h b hb5 hf]; simp)
end Go.Proofs.Ytdjbhpdfkopdgaa
