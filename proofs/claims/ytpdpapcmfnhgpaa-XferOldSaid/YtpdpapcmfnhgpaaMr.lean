/- Walks: the reference on views. -/
import Derived.Test.YtpdpapcmfnhgpaaMb
namespace Go.Proofs.Ytpdpapcmfnhgpaa
open Go.RowKit Go.Sx
set_option maxRecDepth 100000
set_option linter.unusedSimpArgs false
set_option linter.unusedVariables false
theorem sizeV_range {num : Int} {mk : Nat} : sizeV num mk = 0 ∨ (4 ≤ sizeV num mk ∧ sizeV num mk ≤ 7) := by
  unfold sizeV
  split
  · rename_i h; simp only [rightV, decide_eq_true_eq] at h; omega
  · exact .inl rfl
set_option maxHeartbeats 1000000 in
theorem rRight_c {w0 : World} {H : List SA} {num : Int} {mk : Nat} (hmk : mk < 65536) :
    CT Try.prog w0 (H) 143 [.agg (ViewV.mk num (mk : Int)).cells] (α := Unit) (fun _ => .bool (rightV num mk)) (fun _ => H) := by
  refine CT_intro Try.func143 rfl Try.ntmps143 rfl ?_
  refine T_seq ?_
  refine T_region ?_
  refine TL_e rfl (Ef_boxN rfl (fun b1 => ?_))
  refine TL_q (Qt_assign (.bool _) rfl) rfl ?_
  refine TL_nil ?_
  refine X_then ?_
  refine T_seq ?_
  refine T_region ?_
  refine TL_q (Qt_loadN rfl rfl) rfl ?_
  refine TL_e rfl (Ef_call (rMembers_c (num := num) hmk) rfl (fun x5 => ?_))
  have hones := ones16_mem hmk
  refine TL_q (Qt_len_slice rfl Try.underlying281) rfl ?_
  refine TL_q (Qt_assign (.int .i64 _) rfl) rfl ?_
  refine TL_nil ?_
  refine X_then ?_
  refine T_seq ?_
  refine T_region ?_
  refine TL_q (Qt_fieldAddr 0 rfl rfl) rfl ?_
  refine TL_q (Qt_load1 rfl) rfl ?_
  refine TL_q (Qt_geq rfl rfl) rfl ?_
  refine TL_q (Qt_move (.bool _) rfl) rfl ?_
  refine TL_split 10 rfl (fun h10 => ?_) (fun h10 => ?_)
  ·
    have p10 := h10
    try simp only [decide_eq_true_eq, decide_eq_false_iff_not, Bool.not_eq_true', Bool.not_eq_false', Option.isNone_iff_eq_none, ne_eq, Decidable.not_not, Int.not_lt, Int.not_le] at p10
    refine TL_take rfl rfl h10 ?_
    refine TL_q (Qt_fieldAddr 0 rfl rfl) rfl ?_
    refine TL_take rfl rfl h10 ?_
    refine TL_q (Qt_load1 rfl) rfl ?_
    refine TL_take rfl rfl h10 ?_
    refine TL_q (Qt_leq rfl rfl) rfl ?_
    refine TL_q (Qt_pick_t (.bool _) rfl h10 rfl) rfl ?_
    refine TL_q (Qt_move (.bool _) rfl) rfl ?_
    refine TL_split 15 rfl (fun h15 => ?_) (fun h15 => ?_)
    ·
      have p15 := h15
      try simp only [decide_eq_true_eq, decide_eq_false_iff_not, Bool.not_eq_true', Bool.not_eq_false', Option.isNone_iff_eq_none, ne_eq, Decidable.not_not, Int.not_lt, Int.not_le] at p15
      refine TL_take rfl rfl h15 ?_
      refine TL_q (Qt_move (.int .i64 _) rfl) rfl ?_
      refine TL_take rfl rfl h15 ?_
      refine TL_q (Qt_geq rfl rfl) rfl ?_
      refine TL_q (Qt_pick_t (.bool _) rfl h15 rfl) rfl ?_
      refine TL_q (Qt_move (.bool _) rfl) rfl ?_
      refine TL_split 19 rfl (fun h19 => ?_) (fun h19 => ?_)
      ·
        have p19 := h19
        try simp only [decide_eq_true_eq, decide_eq_false_iff_not, Bool.not_eq_true', Bool.not_eq_false', Option.isNone_iff_eq_none, ne_eq, Decidable.not_not, Int.not_lt, Int.not_le] at p19
        refine TL_take rfl rfl h19 ?_
        refine TL_q (Qt_move (.int .i64 _) rfl) rfl ?_
        refine TL_take rfl rfl h19 ?_
        refine TL_q (Qt_leq rfl rfl) rfl ?_
        refine TL_q (Qt_pick_t (.bool _) rfl h19 rfl) rfl ?_
        refine TL_q (Qt_assign (.bool _) rfl) rfl ?_
        refine TL_nil ?_
        refine X_then ?_
        refine T_ret ?_
        refine X_ret () [.bool (rightV num mk)] Try.results143 ⟨?_, trivial⟩ rfl (Subs.st inferInstance)
        refine congrArg Value.bool ?_
        rw [Bool.eq_iff_iff]
        simp only [rightV, decide_eq_true_eq, Bool.false_eq_true, false_iff]
        omega
      ·
        have p19 := h19
        try simp only [decide_eq_true_eq, decide_eq_false_iff_not, Bool.not_eq_true', Bool.not_eq_false', Option.isNone_iff_eq_none, ne_eq, Decidable.not_not, Int.not_lt, Int.not_le] at p19
        refine TL_pass rfl rfl h19 rfl ?_
        refine TL_pass rfl rfl h19 rfl ?_
        refine TL_q (Qt_pick_f (.bool _) rfl h19 rfl) rfl ?_
        refine TL_q (Qt_assign (.bool _) rfl) rfl ?_
        refine TL_nil ?_
        refine X_then ?_
        refine T_ret ?_
        refine X_ret () [.bool (rightV num mk)] Try.results143 ⟨?_, trivial⟩ rfl (Subs.st inferInstance)
        refine congrArg Value.bool ?_
        rw [Bool.eq_iff_iff]
        simp only [rightV, decide_eq_true_eq, Bool.false_eq_true, false_iff]
        omega
    ·
      have p15 := h15
      try simp only [decide_eq_true_eq, decide_eq_false_iff_not, Bool.not_eq_true', Bool.not_eq_false', Option.isNone_iff_eq_none, ne_eq, Decidable.not_not, Int.not_lt, Int.not_le] at p15
      refine TL_pass rfl rfl h15 rfl ?_
      refine TL_pass rfl rfl h15 rfl ?_
      refine TL_q (Qt_pick_f (.bool _) rfl h15 rfl) rfl ?_
      refine TL_q (Qt_move (.bool _) rfl) rfl ?_
      refine TL_pass rfl rfl rfl rfl ?_
      refine TL_pass rfl rfl rfl rfl ?_
      refine TL_q (Qt_pick_f (.bool _) rfl rfl rfl) rfl ?_
      refine TL_q (Qt_assign (.bool _) rfl) rfl ?_
      refine TL_nil ?_
      refine X_then ?_
      refine T_ret ?_
      refine X_ret () [.bool (rightV num mk)] Try.results143 ⟨?_, trivial⟩ rfl (Subs.st inferInstance)
      refine congrArg Value.bool ?_
      rw [Bool.eq_iff_iff]
      simp only [rightV, decide_eq_true_eq, Bool.false_eq_true, false_iff]
      omega
  ·
    have p10 := h10
    try simp only [decide_eq_true_eq, decide_eq_false_iff_not, Bool.not_eq_true', Bool.not_eq_false', Option.isNone_iff_eq_none, ne_eq, Decidable.not_not, Int.not_lt, Int.not_le] at p10
    refine TL_pass rfl rfl h10 rfl ?_
    refine TL_pass rfl rfl h10 rfl ?_
    refine TL_pass rfl rfl h10 rfl ?_
    refine TL_q (Qt_pick_f (.bool _) rfl h10 rfl) rfl ?_
    refine TL_q (Qt_move (.bool _) rfl) rfl ?_
    refine TL_pass rfl rfl rfl rfl ?_
    refine TL_pass rfl rfl rfl rfl ?_
    refine TL_q (Qt_pick_f (.bool _) rfl rfl rfl) rfl ?_
    refine TL_q (Qt_move (.bool _) rfl) rfl ?_
    refine TL_pass rfl rfl rfl rfl ?_
    refine TL_pass rfl rfl rfl rfl ?_
    refine TL_q (Qt_pick_f (.bool _) rfl rfl rfl) rfl ?_
    refine TL_q (Qt_assign (.bool _) rfl) rfl ?_
    refine TL_nil ?_
    refine X_then ?_
    refine T_ret ?_
    refine X_ret () [.bool (rightV num mk)] Try.results143 ⟨?_, trivial⟩ rfl (Subs.st inferInstance)
    refine congrArg Value.bool ?_
    rw [Bool.eq_iff_iff]
    simp only [rightV, decide_eq_true_eq, Bool.false_eq_true, false_iff]
    omega
end Go.Proofs.Ytpdpapcmfnhgpaa
