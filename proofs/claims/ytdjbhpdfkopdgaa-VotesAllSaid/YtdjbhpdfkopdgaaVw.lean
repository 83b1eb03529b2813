/- Walks: formed, told, Put of package votes; Same, SameParts of the references. -/
import Derived.Test.YtdjbhpdfkopdgaaVd
namespace Go.Proofs.Ytdjbhpdfkopdgaa
open Go.RowKit Go.Sx
set_option maxRecDepth 100000
set_option linter.unusedSimpArgs false
set_option linter.unusedVariables false
set_option maxHeartbeats 1000000 in
theorem within_c {w0 : World} {H : List SA} {n b : Int} :
    CT Try.prog w0 (H) 51 [.int .i64 n, .int .i64 b] (α := Unit) (fun _ => .bool (withinB n b)) (fun _ => H) := by
  refine CT_intro Try.func51 rfl Try.ntmps51 rfl ?_
  refine T_seq ?_
  refine T_region ?_
  refine TL_q (Qt_assign (.bool _) rfl) rfl ?_
  refine TL_nil ?_
  refine X_then ?_
  refine T_seq ?_
  refine T_region ?_
  refine TL_q (Qt_move (.int .i64 _) rfl) rfl ?_
  refine TL_q (Qt_geq rfl rfl) rfl ?_
  refine TL_q (Qt_move (.bool _) rfl) rfl ?_
  refine TL_split 7 rfl (fun h7 => ?_) (fun h7 => ?_)
  ·
    have p7 := h7
    try simp only [decide_eq_true_eq, decide_eq_false_iff_not, Bool.not_eq_true', Bool.not_eq_false', Option.isNone_iff_eq_none, ne_eq, Decidable.not_not, Int.not_lt, Int.not_le] at p7
    refine TL_take rfl rfl h7 ?_
    refine TL_q (Qt_move (.int .i64 _) rfl) rfl ?_
    refine TL_take rfl rfl h7 ?_
    refine TL_q (Qt_move (.int .i64 _) rfl) rfl ?_
    refine TL_take rfl rfl h7 ?_
    refine TL_q (Qt_leq rfl rfl) rfl ?_
    refine TL_q (Qt_pick_t (.bool _) rfl h7 rfl) rfl ?_
    refine TL_q (Qt_assign (.bool _) rfl) rfl ?_
    refine TL_nil ?_
    refine X_then ?_
    refine T_ret ?_
    exact X_ret () [.bool (withinB n b)] Try.results51 ⟨by refine congrArg Value.bool ?_; first | (simp_all [withinB]; done) | (simp_all [withinB]; omega), trivial⟩ rfl (Subs.st inferInstance)
  ·
    have p7 := h7
    try simp only [decide_eq_true_eq, decide_eq_false_iff_not, Bool.not_eq_true', Bool.not_eq_false', Option.isNone_iff_eq_none, ne_eq, Decidable.not_not, Int.not_lt, Int.not_le] at p7
    refine TL_pass rfl rfl h7 rfl ?_
    refine TL_pass rfl rfl h7 rfl ?_
    refine TL_pass rfl rfl h7 rfl ?_
    refine TL_q (Qt_pick_f (.bool _) rfl h7 rfl) rfl ?_
    refine TL_q (Qt_assign (.bool _) rfl) rfl ?_
    refine TL_nil ?_
    refine X_then ?_
    refine T_ret ?_
    exact X_ret () [.bool (withinB n b)] Try.results51 ⟨by refine congrArg Value.bool ?_; first | (simp_all [withinB]; done) | (simp_all [withinB]; omega), trivial⟩ rfl (Subs.st inferInstance)
set_option maxHeartbeats 1000000 in
theorem formed_c {w0 : World} {H : List SA} {v : VoteV} :
    CT Try.prog w0 (H) 37 [.agg v.cells] (α := Unit) (fun _ => .bool (formedB v.abs)) (fun _ => H) := by
  refine CT_intro Try.func37 rfl Try.ntmps37 rfl ?_
  refine T_seq ?_
  refine T_region ?_
  refine TL_e rfl (Ef_boxN rfl (fun b1 => ?_))
  refine TL_q (Qt_assign (.bool _) rfl) rfl ?_
  refine TL_nil ?_
  refine X_then ?_
  refine T_seq ?_
  refine T_seq ?_
  refine T_region ?_
  refine TL_q (Qt_fieldAddr 0 rfl rfl) rfl ?_
  refine TL_q (Qt_load1 rfl) rfl ?_
  refine TL_q (Qt_lss rfl rfl) rfl ?_
  refine TL_q (Qt_move (.bool _) rfl) rfl ?_
  refine TL_split 6 rfl (fun h6 => ?_) (fun h6 => ?_)
  ·
    have p6 := h6
    try simp only [decide_eq_true_eq, decide_eq_false_iff_not, Bool.not_eq_true', Bool.not_eq_false', Option.isNone_iff_eq_none, ne_eq, Decidable.not_not, Int.not_lt, Int.not_le] at p6
    refine TL_pass rfl rfl h6 rfl ?_
    refine TL_pass rfl rfl h6 rfl ?_
    refine TL_pass rfl rfl h6 rfl ?_
    refine TL_q (Qt_pick_t (.bool _) rfl h6 rfl) rfl ?_
    refine TL_q (Qt_move (.bool _) rfl) rfl ?_
    refine TL_pass rfl rfl rfl rfl ?_
    refine TL_pass rfl rfl rfl rfl ?_
    refine TL_pass rfl rfl rfl rfl ?_
    refine TL_pass rfl rfl rfl rfl ?_
    refine TL_q (Qt_pick_t (.bool _) rfl rfl rfl) rfl ?_
    refine TL_q (Qt_move (.bool _) rfl) rfl ?_
    refine TL_pass rfl rfl rfl rfl ?_
    refine TL_pass rfl rfl rfl rfl ?_
    refine TL_pass rfl rfl rfl rfl ?_
    refine TL_pass rfl rfl rfl rfl ?_
    refine TL_q (Qt_pick_t (.bool _) rfl rfl rfl) rfl ?_
    refine TL_q (Qt_move (.bool _) rfl) rfl ?_
    refine TL_pass rfl rfl rfl rfl ?_
    refine TL_pass rfl rfl rfl rfl ?_
    refine TL_pass rfl rfl rfl rfl ?_
    refine TL_pass rfl rfl rfl rfl ?_
    refine TL_q (Qt_pick_t (.bool _) rfl rfl rfl) rfl ?_
    refine TL_nil ?_
    refine X_then ?_
    refine T_cond_true rfl rfl ?_
    refine T_seq ?_
    refine T_region ?_
    refine TL_q (Qt_assign (.bool _) rfl) rfl ?_
    refine TL_nil ?_
    refine X_then ?_
    refine T_ret ?_
    refine X_then_ret ?_
    refine X_ret () [.bool (formedB v.abs)] Try.results37 ⟨?_, trivial⟩ rfl (Subs.st inferInstance)
    refine congrArg Value.bool ?_
    first
      | (refine Eq.symm (Bool.eq_false_iff.2 fun hf => ?_); have hf1 := (formed_spec v.abs).1 hf; simp only [within_iff, within_not, VoteV.abs] at *; first | omega | simp_all)
      | (refine Eq.symm ((formed_spec v.abs).2 ?_); simp only [within_iff, within_not, VoteV.abs, Bool.not_eq_false, Bool.not_eq_true] at *; refine ⟨by omega, by omega, by omega, by omega, by omega, fun h => ?_, fun h => ?_⟩ <;> first | omega | simp_all)
      | (rw [Bool.eq_iff_iff, formed_spec]; simp only [within_iff, within_not, VoteV.abs, decide_eq_true_eq, Bool.not_eq_false, Bool.not_eq_true] at *; constructor; (intro hd; refine ⟨by omega, by omega, by omega, by omega, by omega, fun h => ?_, fun h => ?_⟩ <;> first | omega | simp_all); (rintro ⟨-, -, -, -, -, -, h7⟩; have := h7 (by omega); simp_all))
  ·
    have p6 := h6
    try simp only [decide_eq_true_eq, decide_eq_false_iff_not, Bool.not_eq_true', Bool.not_eq_false', Option.isNone_iff_eq_none, ne_eq, Decidable.not_not, Int.not_lt, Int.not_le] at p6
    refine TL_take rfl rfl h6 ?_
    refine TL_q (Qt_fieldAddr 0 rfl rfl) rfl ?_
    refine TL_take rfl rfl h6 ?_
    refine TL_q (Qt_load1 rfl) rfl ?_
    refine TL_take rfl rfl h6 ?_
    refine TL_q (Qt_gtr rfl rfl) rfl ?_
    refine TL_q (Qt_pick_f (.bool _) rfl h6 rfl) rfl ?_
    refine TL_q (Qt_move (.bool _) rfl) rfl ?_
    refine TL_split 11 rfl (fun h11 => ?_) (fun h11 => ?_)
    ·
      have p11 := h11
      try simp only [decide_eq_true_eq, decide_eq_false_iff_not, Bool.not_eq_true', Bool.not_eq_false', Option.isNone_iff_eq_none, ne_eq, Decidable.not_not, Int.not_lt, Int.not_le] at p11
      refine TL_pass rfl rfl h11 rfl ?_
      refine TL_pass rfl rfl h11 rfl ?_
      refine TL_pass rfl rfl h11 rfl ?_
      refine TL_pass rfl rfl h11 rfl ?_
      refine TL_q (Qt_pick_t (.bool _) rfl h11 rfl) rfl ?_
      refine TL_q (Qt_move (.bool _) rfl) rfl ?_
      refine TL_pass rfl rfl rfl rfl ?_
      refine TL_pass rfl rfl rfl rfl ?_
      refine TL_pass rfl rfl rfl rfl ?_
      refine TL_pass rfl rfl rfl rfl ?_
      refine TL_q (Qt_pick_t (.bool _) rfl rfl rfl) rfl ?_
      refine TL_q (Qt_move (.bool _) rfl) rfl ?_
      refine TL_pass rfl rfl rfl rfl ?_
      refine TL_pass rfl rfl rfl rfl ?_
      refine TL_pass rfl rfl rfl rfl ?_
      refine TL_pass rfl rfl rfl rfl ?_
      refine TL_q (Qt_pick_t (.bool _) rfl rfl rfl) rfl ?_
      refine TL_nil ?_
      refine X_then ?_
      refine T_cond_true rfl rfl ?_
      refine T_seq ?_
      refine T_region ?_
      refine TL_q (Qt_assign (.bool _) rfl) rfl ?_
      refine TL_nil ?_
      refine X_then ?_
      refine T_ret ?_
      refine X_then_ret ?_
      refine X_ret () [.bool (formedB v.abs)] Try.results37 ⟨?_, trivial⟩ rfl (Subs.st inferInstance)
      refine congrArg Value.bool ?_
      first
        | (refine Eq.symm (Bool.eq_false_iff.2 fun hf => ?_); have hf1 := (formed_spec v.abs).1 hf; simp only [within_iff, within_not, VoteV.abs] at *; first | omega | simp_all)
        | (refine Eq.symm ((formed_spec v.abs).2 ?_); simp only [within_iff, within_not, VoteV.abs, Bool.not_eq_false, Bool.not_eq_true] at *; refine ⟨by omega, by omega, by omega, by omega, by omega, fun h => ?_, fun h => ?_⟩ <;> first | omega | simp_all)
        | (rw [Bool.eq_iff_iff, formed_spec]; simp only [within_iff, within_not, VoteV.abs, decide_eq_true_eq, Bool.not_eq_false, Bool.not_eq_true] at *; constructor; (intro hd; refine ⟨by omega, by omega, by omega, by omega, by omega, fun h => ?_, fun h => ?_⟩ <;> first | omega | simp_all); (rintro ⟨-, -, -, -, -, -, h7⟩; have := h7 (by omega); simp_all))
    ·
      have p11 := h11
      try simp only [decide_eq_true_eq, decide_eq_false_iff_not, Bool.not_eq_true', Bool.not_eq_false', Option.isNone_iff_eq_none, ne_eq, Decidable.not_not, Int.not_lt, Int.not_le] at p11
      refine TL_take rfl rfl h11 ?_
      refine TL_q (Qt_fieldAddr 1 rfl rfl) rfl ?_
      refine TL_take rfl rfl h11 ?_
      refine TL_q (Qt_load1 rfl) rfl ?_
      refine TL_take rfl rfl h11 ?_
      refine TL_e rfl (Ef_call (within_c) rfl (fun x14 => ?_))
      refine TL_take rfl rfl h11 ?_
      refine TL_q (Qt_not rfl) rfl ?_
      refine TL_q (Qt_pick_f (.bool _) rfl h11 rfl) rfl ?_
      refine TL_q (Qt_move (.bool _) rfl) rfl ?_
      refine TL_split 17 rfl (fun h17 => ?_) (fun h17 => ?_)
      ·
        have p17 := h17
        try simp only [decide_eq_true_eq, decide_eq_false_iff_not, Bool.not_eq_true', Bool.not_eq_false', Option.isNone_iff_eq_none, ne_eq, Decidable.not_not, Int.not_lt, Int.not_le] at p17
        refine TL_pass rfl rfl h17 rfl ?_
        refine TL_pass rfl rfl h17 rfl ?_
        refine TL_pass rfl rfl h17 rfl ?_
        refine TL_pass rfl rfl h17 rfl ?_
        refine TL_q (Qt_pick_t (.bool _) rfl h17 rfl) rfl ?_
        refine TL_q (Qt_move (.bool _) rfl) rfl ?_
        refine TL_pass rfl rfl rfl rfl ?_
        refine TL_pass rfl rfl rfl rfl ?_
        refine TL_pass rfl rfl rfl rfl ?_
        refine TL_pass rfl rfl rfl rfl ?_
        refine TL_q (Qt_pick_t (.bool _) rfl rfl rfl) rfl ?_
        refine TL_nil ?_
        refine X_then ?_
        refine T_cond_true rfl rfl ?_
        refine T_seq ?_
        refine T_region ?_
        refine TL_q (Qt_assign (.bool _) rfl) rfl ?_
        refine TL_nil ?_
        refine X_then ?_
        refine T_ret ?_
        refine X_then_ret ?_
        refine X_ret () [.bool (formedB v.abs)] Try.results37 ⟨?_, trivial⟩ rfl (Subs.st inferInstance)
        refine congrArg Value.bool ?_
        first
          | (refine Eq.symm (Bool.eq_false_iff.2 fun hf => ?_); have hf1 := (formed_spec v.abs).1 hf; simp only [within_iff, within_not, VoteV.abs] at *; first | omega | simp_all)
          | (refine Eq.symm ((formed_spec v.abs).2 ?_); simp only [within_iff, within_not, VoteV.abs, Bool.not_eq_false, Bool.not_eq_true] at *; refine ⟨by omega, by omega, by omega, by omega, by omega, fun h => ?_, fun h => ?_⟩ <;> first | omega | simp_all)
          | (rw [Bool.eq_iff_iff, formed_spec]; simp only [within_iff, within_not, VoteV.abs, decide_eq_true_eq, Bool.not_eq_false, Bool.not_eq_true] at *; constructor; (intro hd; refine ⟨by omega, by omega, by omega, by omega, by omega, fun h => ?_, fun h => ?_⟩ <;> first | omega | simp_all); (rintro ⟨-, -, -, -, -, -, h7⟩; have := h7 (by omega); simp_all))
      ·
        have p17 := h17
        try simp only [decide_eq_true_eq, decide_eq_false_iff_not, Bool.not_eq_true', Bool.not_eq_false', Option.isNone_iff_eq_none, ne_eq, Decidable.not_not, Int.not_lt, Int.not_le] at p17
        refine TL_take rfl rfl h17 ?_
        refine TL_q (Qt_fieldAddr 2 rfl rfl) rfl ?_
        refine TL_take rfl rfl h17 ?_
        refine TL_q (Qt_load1 rfl) rfl ?_
        refine TL_take rfl rfl h17 ?_
        refine TL_e rfl (Ef_call (within_c) rfl (fun x20 => ?_))
        refine TL_take rfl rfl h17 ?_
        refine TL_q (Qt_not rfl) rfl ?_
        refine TL_q (Qt_pick_f (.bool _) rfl h17 rfl) rfl ?_
        refine TL_q (Qt_move (.bool _) rfl) rfl ?_
        refine TL_split 23 rfl (fun h23 => ?_) (fun h23 => ?_)
        ·
          have p23 := h23
          try simp only [decide_eq_true_eq, decide_eq_false_iff_not, Bool.not_eq_true', Bool.not_eq_false', Option.isNone_iff_eq_none, ne_eq, Decidable.not_not, Int.not_lt, Int.not_le] at p23
          refine TL_pass rfl rfl h23 rfl ?_
          refine TL_pass rfl rfl h23 rfl ?_
          refine TL_pass rfl rfl h23 rfl ?_
          refine TL_pass rfl rfl h23 rfl ?_
          refine TL_q (Qt_pick_t (.bool _) rfl h23 rfl) rfl ?_
          refine TL_nil ?_
          refine X_then ?_
          refine T_cond_true rfl rfl ?_
          refine T_seq ?_
          refine T_region ?_
          refine TL_q (Qt_assign (.bool _) rfl) rfl ?_
          refine TL_nil ?_
          refine X_then ?_
          refine T_ret ?_
          refine X_then_ret ?_
          refine X_ret () [.bool (formedB v.abs)] Try.results37 ⟨?_, trivial⟩ rfl (Subs.st inferInstance)
          refine congrArg Value.bool ?_
          first
            | (refine Eq.symm (Bool.eq_false_iff.2 fun hf => ?_); have hf1 := (formed_spec v.abs).1 hf; simp only [within_iff, within_not, VoteV.abs] at *; first | omega | simp_all)
            | (refine Eq.symm ((formed_spec v.abs).2 ?_); simp only [within_iff, within_not, VoteV.abs, Bool.not_eq_false, Bool.not_eq_true] at *; refine ⟨by omega, by omega, by omega, by omega, by omega, fun h => ?_, fun h => ?_⟩ <;> first | omega | simp_all)
            | (rw [Bool.eq_iff_iff, formed_spec]; simp only [within_iff, within_not, VoteV.abs, decide_eq_true_eq, Bool.not_eq_false, Bool.not_eq_true] at *; constructor; (intro hd; refine ⟨by omega, by omega, by omega, by omega, by omega, fun h => ?_, fun h => ?_⟩ <;> first | omega | simp_all); (rintro ⟨-, -, -, -, -, -, h7⟩; have := h7 (by omega); simp_all))
        ·
          have p23 := h23
          try simp only [decide_eq_true_eq, decide_eq_false_iff_not, Bool.not_eq_true', Bool.not_eq_false', Option.isNone_iff_eq_none, ne_eq, Decidable.not_not, Int.not_lt, Int.not_le] at p23
          refine TL_take rfl rfl h23 ?_
          refine TL_q (Qt_fieldAddr 3 rfl rfl) rfl ?_
          refine TL_take rfl rfl h23 ?_
          refine TL_q (Qt_load1 rfl) rfl ?_
          refine TL_take rfl rfl h23 ?_
          refine TL_e rfl (Ef_call (within_c) rfl (fun x26 => ?_))
          refine TL_take rfl rfl h23 ?_
          refine TL_q (Qt_not rfl) rfl ?_
          refine TL_q (Qt_pick_f (.bool _) rfl h23 rfl) rfl ?_
          refine TL_nil ?_
          refine X_then ?_
          refine T_cond rfl (fun h28 => ?_) (fun h28 => ?_)
          ·
            have p28 := h28
            try simp only [decide_eq_true_eq, decide_eq_false_iff_not, Bool.not_eq_true', Bool.not_eq_false', Option.isNone_iff_eq_none, ne_eq, Decidable.not_not, Int.not_lt, Int.not_le] at p28
            refine T_seq ?_
            refine T_region ?_
            refine TL_q (Qt_assign (.bool _) rfl) rfl ?_
            refine TL_nil ?_
            refine X_then ?_
            refine T_ret ?_
            refine X_then_ret ?_
            refine X_ret () [.bool (formedB v.abs)] Try.results37 ⟨?_, trivial⟩ rfl (Subs.st inferInstance)
            refine congrArg Value.bool ?_
            first
              | (refine Eq.symm (Bool.eq_false_iff.2 fun hf => ?_); have hf1 := (formed_spec v.abs).1 hf; simp only [within_iff, within_not, VoteV.abs] at *; first | omega | simp_all)
              | (refine Eq.symm ((formed_spec v.abs).2 ?_); simp only [within_iff, within_not, VoteV.abs, Bool.not_eq_false, Bool.not_eq_true] at *; refine ⟨by omega, by omega, by omega, by omega, by omega, fun h => ?_, fun h => ?_⟩ <;> first | omega | simp_all)
              | (rw [Bool.eq_iff_iff, formed_spec]; simp only [within_iff, within_not, VoteV.abs, decide_eq_true_eq, Bool.not_eq_false, Bool.not_eq_true] at *; constructor; (intro hd; refine ⟨by omega, by omega, by omega, by omega, by omega, fun h => ?_, fun h => ?_⟩ <;> first | omega | simp_all); (rintro ⟨-, -, -, -, -, -, h7⟩; have := h7 (by omega); simp_all))
          ·
            have p28 := h28
            try simp only [decide_eq_true_eq, decide_eq_false_iff_not, Bool.not_eq_true', Bool.not_eq_false', Option.isNone_iff_eq_none, ne_eq, Decidable.not_not, Int.not_lt, Int.not_le] at p28
            refine T_skip ?_
            refine X_then ?_
            refine T_seq ?_
            refine T_seq ?_
            refine T_region ?_
            refine TL_q (Qt_fieldAddr 0 rfl rfl) rfl ?_
            refine TL_q (Qt_load1 rfl) rfl ?_
            refine TL_q (Qt_eql rfl rfl) rfl ?_
            refine TL_q (Qt_move (.bool _) rfl) rfl ?_
            refine TL_split 32 rfl (fun h32 => ?_) (fun h32 => ?_)
            ·
              have p32 := h32
              try simp only [decide_eq_true_eq, decide_eq_false_iff_not, Bool.not_eq_true', Bool.not_eq_false', Option.isNone_iff_eq_none, ne_eq, Decidable.not_not, Int.not_lt, Int.not_le] at p32
              refine TL_take rfl rfl h32 ?_
              refine TL_q (Qt_fieldAddr 3 rfl rfl) rfl ?_
              refine TL_take rfl rfl h32 ?_
              refine TL_q (Qt_load1 rfl) rfl ?_
              refine TL_take rfl rfl h32 ?_
              refine TL_q (Qt_neq rfl rfl) rfl ?_
              refine TL_take rfl rfl h32 ?_
              refine TL_q (Qt_move (.bool _) rfl) rfl ?_
              refine TL_split 36 rfl (fun h36 => ?_) (fun h36 => ?_)
              ·
                have p36 := h36
                try simp only [decide_eq_true_eq, decide_eq_false_iff_not, Bool.not_eq_true', Bool.not_eq_false', Option.isNone_iff_eq_none, ne_eq, Decidable.not_not, Int.not_lt, Int.not_le] at p36
                refine TL_pass rfl rfl h36 rfl ?_
                refine TL_pass rfl rfl h36 rfl ?_
                refine TL_pass rfl rfl h36 rfl ?_
                refine TL_pass rfl rfl h36 rfl ?_
                refine TL_take rfl rfl h32 ?_
                refine TL_q (Qt_pick_t (.bool _) rfl h36 rfl) rfl ?_
                refine TL_take rfl rfl h32 ?_
                refine TL_q (Qt_move (.bool _) rfl) rfl ?_
                refine TL_pass rfl rfl rfl rfl ?_
                refine TL_pass rfl rfl rfl rfl ?_
                refine TL_pass rfl rfl rfl rfl ?_
                refine TL_pass rfl rfl rfl rfl ?_
                refine TL_take rfl rfl h32 ?_
                refine TL_q (Qt_pick_t (.bool _) rfl rfl rfl) rfl ?_
                refine TL_q (Qt_pick_t (.bool _) rfl h32 rfl) rfl ?_
                refine TL_nil ?_
                refine X_then ?_
                refine T_cond_true rfl rfl ?_
                refine T_seq ?_
                refine T_region ?_
                refine TL_q (Qt_assign (.bool _) rfl) rfl ?_
                refine TL_nil ?_
                refine X_then ?_
                refine T_ret ?_
                refine X_then_ret ?_
                refine X_ret () [.bool (formedB v.abs)] Try.results37 ⟨?_, trivial⟩ rfl (Subs.st inferInstance)
                refine congrArg Value.bool ?_
                first
                  | (refine Eq.symm (Bool.eq_false_iff.2 fun hf => ?_); have hf1 := (formed_spec v.abs).1 hf; simp only [within_iff, within_not, VoteV.abs] at *; first | omega | simp_all)
                  | (refine Eq.symm ((formed_spec v.abs).2 ?_); simp only [within_iff, within_not, VoteV.abs, Bool.not_eq_false, Bool.not_eq_true] at *; refine ⟨by omega, by omega, by omega, by omega, by omega, fun h => ?_, fun h => ?_⟩ <;> first | omega | simp_all)
                  | (rw [Bool.eq_iff_iff, formed_spec]; simp only [within_iff, within_not, VoteV.abs, decide_eq_true_eq, Bool.not_eq_false, Bool.not_eq_true] at *; constructor; (intro hd; refine ⟨by omega, by omega, by omega, by omega, by omega, fun h => ?_, fun h => ?_⟩ <;> first | omega | simp_all); (rintro ⟨-, -, -, -, -, -, h7⟩; have := h7 (by omega); simp_all))
              ·
                have p36 := h36
                try simp only [decide_eq_true_eq, decide_eq_false_iff_not, Bool.not_eq_true', Bool.not_eq_false', Option.isNone_iff_eq_none, ne_eq, Decidable.not_not, Int.not_lt, Int.not_le] at p36
                refine TL_take rfl rfl h36 ?_
                refine TL_q (Qt_fieldAddr 4 rfl rfl) rfl ?_
                refine TL_take rfl rfl h36 ?_
                refine TL_q (Qt_loadN rfl rfl) rfl ?_
                refine TL_take rfl rfl h36 ?_
                refine TL_q (Qt_build_arr (hlist (zeroV 32)).toArray Try.underlying23 rfl rfl rfl) rfl ?_
                refine TL_take rfl rfl h36 ?_
                refine TL_q (Qt_agg_neq rfl rfl (by kernel_rfl)) rfl ?_
                refine TL_take rfl rfl h32 ?_
                refine TL_q (Qt_pick_f (.bool _) rfl h36 rfl) rfl ?_
                refine TL_take rfl rfl h32 ?_
                refine TL_q (Qt_move (.bool _) rfl) rfl ?_
                refine TL_split 42 rfl (fun h42 => ?_) (fun h42 => ?_)
                ·
                  have p42 := h42
                  try simp only [decide_eq_true_eq, decide_eq_false_iff_not, Bool.not_eq_true', Bool.not_eq_false', Option.isNone_iff_eq_none, ne_eq, Decidable.not_not, Int.not_lt, Int.not_le] at p42
                  refine TL_pass rfl rfl h42 rfl ?_
                  refine TL_pass rfl rfl h42 rfl ?_
                  refine TL_pass rfl rfl h42 rfl ?_
                  refine TL_pass rfl rfl h42 rfl ?_
                  refine TL_take rfl rfl h32 ?_
                  refine TL_q (Qt_pick_t (.bool _) rfl h42 rfl) rfl ?_
                  refine TL_q (Qt_pick_t (.bool _) rfl h32 rfl) rfl ?_
                  refine TL_nil ?_
                  refine X_then ?_
                  refine T_cond_true rfl rfl ?_
                  refine T_seq ?_
                  refine T_region ?_
                  refine TL_q (Qt_assign (.bool _) rfl) rfl ?_
                  refine TL_nil ?_
                  refine X_then ?_
                  refine T_ret ?_
                  refine X_then_ret ?_
                  refine X_ret () [.bool (formedB v.abs)] Try.results37 ⟨?_, trivial⟩ rfl (Subs.st inferInstance)
                  refine congrArg Value.bool ?_
                  first
                    | (refine Eq.symm (Bool.eq_false_iff.2 fun hf => ?_); have hf1 := (formed_spec v.abs).1 hf; simp only [within_iff, within_not, VoteV.abs] at *; first | omega | simp_all)
                    | (refine Eq.symm ((formed_spec v.abs).2 ?_); simp only [within_iff, within_not, VoteV.abs, Bool.not_eq_false, Bool.not_eq_true] at *; refine ⟨by omega, by omega, by omega, by omega, by omega, fun h => ?_, fun h => ?_⟩ <;> first | omega | simp_all)
                    | (rw [Bool.eq_iff_iff, formed_spec]; simp only [within_iff, within_not, VoteV.abs, decide_eq_true_eq, Bool.not_eq_false, Bool.not_eq_true] at *; constructor; (intro hd; refine ⟨by omega, by omega, by omega, by omega, by omega, fun h => ?_, fun h => ?_⟩ <;> first | omega | simp_all); (rintro ⟨-, -, -, -, -, -, h7⟩; have := h7 (by omega); simp_all))
                ·
                  have p42 := h42
                  try simp only [decide_eq_true_eq, decide_eq_false_iff_not, Bool.not_eq_true', Bool.not_eq_false', Option.isNone_iff_eq_none, ne_eq, Decidable.not_not, Int.not_lt, Int.not_le] at p42
                  refine TL_take rfl rfl h42 ?_
                  refine TL_q (Qt_fieldAddr 36 rfl rfl) rfl ?_
                  refine TL_take rfl rfl h42 ?_
                  refine TL_q (Qt_load1 rfl) rfl ?_
                  refine TL_take rfl rfl h42 ?_
                  refine TL_q (Qt_len_slice rfl Try.underlying24) rfl ?_
                  refine TL_take rfl rfl h42 ?_
                  refine TL_q (Qt_gtr rfl rfl) rfl ?_
                  refine TL_take rfl rfl h32 ?_
                  refine TL_q (Qt_pick_f (.bool _) rfl h42 rfl) rfl ?_
                  refine TL_q (Qt_pick_t (.bool _) rfl h32 rfl) rfl ?_
                  refine TL_nil ?_
                  refine X_then ?_
                  refine T_cond rfl (fun h48 => ?_) (fun h48 => ?_)
                  ·
                    have p48 := h48
                    try simp only [decide_eq_true_eq, decide_eq_false_iff_not, Bool.not_eq_true', Bool.not_eq_false', Option.isNone_iff_eq_none, ne_eq, Decidable.not_not, Int.not_lt, Int.not_le] at p48
                    refine T_seq ?_
                    refine T_region ?_
                    refine TL_q (Qt_assign (.bool _) rfl) rfl ?_
                    refine TL_nil ?_
                    refine X_then ?_
                    refine T_ret ?_
                    refine X_then_ret ?_
                    refine X_ret () [.bool (formedB v.abs)] Try.results37 ⟨?_, trivial⟩ rfl (Subs.st inferInstance)
                    refine congrArg Value.bool ?_
                    first
                      | (refine Eq.symm (Bool.eq_false_iff.2 fun hf => ?_); have hf1 := (formed_spec v.abs).1 hf; simp only [within_iff, within_not, VoteV.abs] at *; first | omega | simp_all)
                      | (refine Eq.symm ((formed_spec v.abs).2 ?_); simp only [within_iff, within_not, VoteV.abs, Bool.not_eq_false, Bool.not_eq_true] at *; refine ⟨by omega, by omega, by omega, by omega, by omega, fun h => ?_, fun h => ?_⟩ <;> first | omega | simp_all)
                      | (rw [Bool.eq_iff_iff, formed_spec]; simp only [within_iff, within_not, VoteV.abs, decide_eq_true_eq, Bool.not_eq_false, Bool.not_eq_true] at *; constructor; (intro hd; refine ⟨by omega, by omega, by omega, by omega, by omega, fun h => ?_, fun h => ?_⟩ <;> first | omega | simp_all); (rintro ⟨-, -, -, -, -, -, h7⟩; have := h7 (by omega); simp_all))
                  ·
                    have p48 := h48
                    try simp only [decide_eq_true_eq, decide_eq_false_iff_not, Bool.not_eq_true', Bool.not_eq_false', Option.isNone_iff_eq_none, ne_eq, Decidable.not_not, Int.not_lt, Int.not_le] at p48
                    refine T_skip ?_
                    refine X_then ?_
                    refine T_seq ?_
                    refine T_region ?_
                    refine TL_q (Qt_fieldAddr 0 rfl rfl) rfl ?_
                    refine TL_q (Qt_load1 rfl) rfl ?_
                    refine TL_q (Qt_eql rfl rfl) rfl ?_
                    refine TL_q (Qt_move (.bool _) rfl) rfl ?_
                    refine TL_split 52 rfl (fun h52 => ?_) (fun h52 => ?_)
                    ·
                      have p52 := h52
                      try simp only [decide_eq_true_eq, decide_eq_false_iff_not, Bool.not_eq_true', Bool.not_eq_false', Option.isNone_iff_eq_none, ne_eq, Decidable.not_not, Int.not_lt, Int.not_le] at p52
                      refine TL_pass rfl rfl h52 rfl ?_
                      refine TL_pass rfl rfl h52 rfl ?_
                      refine TL_pass rfl rfl h52 rfl ?_
                      refine TL_pass rfl rfl h52 rfl ?_
                      refine TL_q (Qt_pick_t (.bool _) rfl h52 rfl) rfl ?_
                      refine TL_q (Qt_assign (.bool _) rfl) rfl ?_
                      refine TL_nil ?_
                      refine X_then ?_
                      refine T_ret ?_
                      refine X_ret () [.bool (formedB v.abs)] Try.results37 ⟨?_, trivial⟩ rfl (Subs.st inferInstance)
                      refine congrArg Value.bool ?_
                      first
                        | (refine Eq.symm (Bool.eq_false_iff.2 fun hf => ?_); have hf1 := (formed_spec v.abs).1 hf; simp only [within_iff, within_not, VoteV.abs] at *; first | omega | simp_all)
                        | (refine Eq.symm ((formed_spec v.abs).2 ?_); simp only [within_iff, within_not, VoteV.abs, Bool.not_eq_false, Bool.not_eq_true] at *; refine ⟨by omega, by omega, by omega, by omega, by omega, fun h => ?_, fun h => ?_⟩ <;> first | omega | simp_all)
                        | (rw [Bool.eq_iff_iff, formed_spec]; simp only [within_iff, within_not, VoteV.abs, decide_eq_true_eq, Bool.not_eq_false, Bool.not_eq_true] at *; constructor; (intro hd; refine ⟨by omega, by omega, by omega, by omega, by omega, fun h => ?_, fun h => ?_⟩ <;> first | omega | simp_all); (rintro ⟨-, -, -, -, -, -, h7⟩; have := h7 (by omega); simp_all))
                    ·
                      have p52 := h52
                      try simp only [decide_eq_true_eq, decide_eq_false_iff_not, Bool.not_eq_true', Bool.not_eq_false', Option.isNone_iff_eq_none, ne_eq, Decidable.not_not, Int.not_lt, Int.not_le] at p52
                      refine TL_take rfl rfl h52 ?_
                      refine TL_q (Qt_fieldAddr 37 rfl rfl) rfl ?_
                      refine TL_take rfl rfl h52 ?_
                      refine TL_q (Qt_load1 rfl) rfl ?_
                      refine TL_take rfl rfl h52 ?_
                      refine TL_q (Qt_len_slice rfl Try.underlying25) rfl ?_
                      refine TL_take rfl rfl h52 ?_
                      refine TL_q (Qt_eql rfl rfl) rfl ?_
                      refine TL_q (Qt_pick_f (.bool _) rfl h52 rfl) rfl ?_
                      refine TL_q (Qt_assign (.bool _) rfl) rfl ?_
                      refine TL_nil ?_
                      refine X_then ?_
                      refine T_ret ?_
                      refine X_ret () [.bool (formedB v.abs)] Try.results37 ⟨?_, trivial⟩ rfl (Subs.st inferInstance)
                      refine congrArg Value.bool ?_
                      first
                        | (refine Eq.symm (Bool.eq_false_iff.2 fun hf => ?_); have hf1 := (formed_spec v.abs).1 hf; simp only [within_iff, within_not, VoteV.abs] at *; first | omega | simp_all)
                        | (refine Eq.symm ((formed_spec v.abs).2 ?_); simp only [within_iff, within_not, VoteV.abs, Bool.not_eq_false, Bool.not_eq_true] at *; refine ⟨by omega, by omega, by omega, by omega, by omega, fun h => ?_, fun h => ?_⟩ <;> first | omega | simp_all)
                        | (rw [Bool.eq_iff_iff, formed_spec]; simp only [within_iff, within_not, VoteV.abs, decide_eq_true_eq, Bool.not_eq_false, Bool.not_eq_true] at *; constructor; (intro hd; refine ⟨by omega, by omega, by omega, by omega, by omega, fun h => ?_, fun h => ?_⟩ <;> first | omega | simp_all); (rintro ⟨-, -, -, -, -, -, h7⟩; have := h7 (by omega); simp_all))
            ·
              have p32 := h32
              try simp only [decide_eq_true_eq, decide_eq_false_iff_not, Bool.not_eq_true', Bool.not_eq_false', Option.isNone_iff_eq_none, ne_eq, Decidable.not_not, Int.not_lt, Int.not_le] at p32
              refine TL_pass rfl rfl h32 rfl ?_
              refine TL_pass rfl rfl h32 rfl ?_
              refine TL_pass rfl rfl h32 rfl ?_
              refine TL_pass rfl rfl h32 rfl ?_
              refine TL_passU rfl rfl rfl ?_
              refine TL_passU rfl rfl rfl ?_
              refine TL_passU rfl rfl rfl ?_
              refine TL_passU rfl rfl rfl ?_
              refine TL_pass rfl rfl h32 rfl ?_
              refine TL_pass rfl rfl h32 rfl ?_
              refine TL_passU rfl rfl rfl ?_
              refine TL_passU rfl rfl rfl ?_
              refine TL_passU rfl rfl rfl ?_
              refine TL_passU rfl rfl rfl ?_
              refine TL_pass rfl rfl h32 rfl ?_
              refine TL_q (Qt_pick_f (.bool _) rfl h32 rfl) rfl ?_
              refine TL_nil ?_
              refine X_then ?_
              refine T_cond_false rfl rfl ?_
              refine T_skip ?_
              refine X_then ?_
              refine T_seq ?_
              refine T_region ?_
              refine TL_q (Qt_fieldAddr 0 rfl rfl) rfl ?_
              refine TL_q (Qt_load1 rfl) rfl ?_
              refine TL_q (Qt_eql rfl rfl) rfl ?_
              refine TL_q (Qt_move (.bool _) rfl) rfl ?_
              refine TL_split 52 rfl (fun h52 => ?_) (fun h52 => ?_)
              ·
                have p52 := h52
                try simp only [decide_eq_true_eq, decide_eq_false_iff_not, Bool.not_eq_true', Bool.not_eq_false', Option.isNone_iff_eq_none, ne_eq, Decidable.not_not, Int.not_lt, Int.not_le] at p52
                refine TL_pass rfl rfl h52 rfl ?_
                refine TL_pass rfl rfl h52 rfl ?_
                refine TL_pass rfl rfl h52 rfl ?_
                refine TL_pass rfl rfl h52 rfl ?_
                refine TL_q (Qt_pick_t (.bool _) rfl h52 rfl) rfl ?_
                refine TL_q (Qt_assign (.bool _) rfl) rfl ?_
                refine TL_nil ?_
                refine X_then ?_
                refine T_ret ?_
                refine X_ret () [.bool (formedB v.abs)] Try.results37 ⟨?_, trivial⟩ rfl (Subs.st inferInstance)
                refine congrArg Value.bool ?_
                first
                  | (refine Eq.symm (Bool.eq_false_iff.2 fun hf => ?_); have hf1 := (formed_spec v.abs).1 hf; simp only [within_iff, within_not, VoteV.abs] at *; first | omega | simp_all)
                  | (refine Eq.symm ((formed_spec v.abs).2 ?_); simp only [within_iff, within_not, VoteV.abs, Bool.not_eq_false, Bool.not_eq_true] at *; refine ⟨by omega, by omega, by omega, by omega, by omega, fun h => ?_, fun h => ?_⟩ <;> first | omega | simp_all)
                  | (rw [Bool.eq_iff_iff, formed_spec]; simp only [within_iff, within_not, VoteV.abs, decide_eq_true_eq, Bool.not_eq_false, Bool.not_eq_true] at *; constructor; (intro hd; refine ⟨by omega, by omega, by omega, by omega, by omega, fun h => ?_, fun h => ?_⟩ <;> first | omega | simp_all); (rintro ⟨-, -, -, -, -, -, h7⟩; have := h7 (by omega); simp_all))
              ·
                have p52 := h52
                try simp only [decide_eq_true_eq, decide_eq_false_iff_not, Bool.not_eq_true', Bool.not_eq_false', Option.isNone_iff_eq_none, ne_eq, Decidable.not_not, Int.not_lt, Int.not_le] at p52
                refine TL_take rfl rfl h52 ?_
                refine TL_q (Qt_fieldAddr 37 rfl rfl) rfl ?_
                refine TL_take rfl rfl h52 ?_
                refine TL_q (Qt_load1 rfl) rfl ?_
                refine TL_take rfl rfl h52 ?_
                refine TL_q (Qt_len_slice rfl Try.underlying25) rfl ?_
                refine TL_take rfl rfl h52 ?_
                refine TL_q (Qt_eql rfl rfl) rfl ?_
                refine TL_q (Qt_pick_f (.bool _) rfl h52 rfl) rfl ?_
                refine TL_q (Qt_assign (.bool _) rfl) rfl ?_
                refine TL_nil ?_
                refine X_then ?_
                refine T_ret ?_
                refine X_ret () [.bool (formedB v.abs)] Try.results37 ⟨?_, trivial⟩ rfl (Subs.st inferInstance)
                refine congrArg Value.bool ?_
                first
                  | (refine Eq.symm (Bool.eq_false_iff.2 fun hf => ?_); have hf1 := (formed_spec v.abs).1 hf; simp only [within_iff, within_not, VoteV.abs] at *; first | omega | simp_all)
                  | (refine Eq.symm ((formed_spec v.abs).2 ?_); simp only [within_iff, within_not, VoteV.abs, Bool.not_eq_false, Bool.not_eq_true] at *; refine ⟨by omega, by omega, by omega, by omega, by omega, fun h => ?_, fun h => ?_⟩ <;> first | omega | simp_all)
                  | (rw [Bool.eq_iff_iff, formed_spec]; simp only [within_iff, within_not, VoteV.abs, decide_eq_true_eq, Bool.not_eq_false, Bool.not_eq_true] at *; constructor; (intro hd; refine ⟨by omega, by omega, by omega, by omega, by omega, fun h => ?_, fun h => ?_⟩ <;> first | omega | simp_all); (rintro ⟨-, -, -, -, -, -, h7⟩; have := h7 (by omega); simp_all))
set_option maxHeartbeats 1000000 in
theorem told_c {w0 : World} {H : List SA} {v : VoteV} [rb : RdB w0 H (.slice v.batch.a v.batch.l.length v.batch.c) v.batch.l] [rc : RdC w0 H (.slice v.cert.a v.cert.ls.length v.cert.c) 1 (v.cert.ls.map BS.val)] [re : RdE w0 H v.cert.ls] (hb : v.batch.l.length ≤ 65536) (hc : v.cert.ls.length ≤ 16) (he : ∀ x ∈ v.cert.ls, x.l.length ≤ 65536) :
    CT Try.prog w0 (H) 36 [.agg v.cells] (α := AC) (fun y => .slice y.a (told v.abs).length y.c) (fun y => row (.slice y.a (told v.abs).length y.c) 5 1 (bytesV (told v.abs)) :: H) := by
  refine CT_intro Try.func36 rfl Try.ntmps36 rfl ?_
  refine T_seq ?_
  refine T_region ?_
  refine TL_e rfl (Ef_boxN rfl (fun b1 => ?_))
  refine TL_q (Qt_assign (.slice _ _ _) rfl) rfl ?_
  refine TL_nil ?_
  refine X_then ?_
  refine T_seq ?_
  refine T_region ?_
  refine TL_q (Qt_fieldAddr 0 rfl rfl) rfl ?_
  refine TL_q (Qt_load1 rfl) rfl ?_
  refine TL_q (Qt_conv rfl rfl Try.underlying75) rfl ?_
  refine TL_e rfl (Ef_call (putFixed_c (a := none) (l := []) (c := 0) (by simp) (u64_range _).1) rfl (fun x11 => ?_))
  rw [putFixed_1, List.nil_append, show fixed (u64 v.kind).toNat 1 = pre3 v.abs 0 from rfl]
  refine TL_q (Qt_assign (.slice _ _ _) rfl) rfl ?_
  refine TL_nil ?_
  refine X_then ?_
  refine T_seq ?_
  refine T_seq ?_
  refine T_region ?_
  refine TL_q (Qt_fieldAddr 1 rfl rfl) rfl ?_
  refine TL_q (Qt_load1 rfl) rfl ?_
  refine TL_q (Qt_fieldAddr 2 rfl rfl) rfl ?_
  refine TL_q (Qt_load1 rfl) rfl ?_
  refine TL_q (Qt_fieldAddr 3 rfl rfl) rfl ?_
  refine TL_q (Qt_load1 rfl) rfl ?_
  refine TL_q (Qt_build_arr #[(.int .i64 _), (.int .i64 _), (.int .i64 _)] Try.underlying90 rfl rfl rfl) rfl ?_
  refine TL_q (Qt_move (.int .i64 _) rfl) rfl ?_
  refine TL_nil ?_
  refine X_then ?_
  refine T_block ?_
  refine T_loop [3, 5, 19, 20, 21, 22, 23, 24, 25, 26] [19, 3] (fun vs H' => ∃ (k : Nat) (a : Option Addr) (c : Nat), vs = [.int .i64 (k : Int), .slice a (pre3 v.abs k).length c] ∧ H' = row (.slice a (pre3 v.abs k).length c) 5 1 (bytesV (pre3 v.abs k)) :: blk b1 (.cells v.cells 27 (0, 0)) :: H ∧ k ≤ 3) (fun vs => match vs with | .int _ i :: _ => 3 - i.toNat | _ => 0) ⟨0, x11.a, x11.c, rfl, rfl, by omega⟩ (Subs.st inferInstance) ?_
  rintro τ0 _ _  ⟨k, a1, c1, rfl, rfl, hk0⟩ _
  refine T_seq ?_
  refine T_region ?_
  refine TL_q (Qt_lss rfl rfl) rfl ?_
  refine TL_nil ?_
  refine X_then ?_
  refine T_seq ?_
  refine T_cond rfl (fun h20 => ?_) (fun h20 => ?_)
  ·
    have p20 := h20
    try simp only [decide_eq_true_eq, decide_eq_false_iff_not, Bool.not_eq_true', Bool.not_eq_false', Option.isNone_iff_eq_none, ne_eq, Decidable.not_not, Int.not_lt, Int.not_le] at p20
    have hk : k < 3 := by omega
    refine T_skip ?_
    refine X_then ?_
    refine T_seq ?_
    refine T_block ?_
    refine T_seq ?_
    refine T_region ?_
    refine TL_q (Qt_index (.int .i64 (num3 v.abs k)) rfl rfl Try.underlying90 (by omega) (by omega) (by rcases (by omega : k = 0 ∨ k = 1 ∨ k = 2) with rfl | rfl | rfl <;> rfl)) rfl ?_
    refine TL_q (Qt_assign (.int .i64 _) rfl) rfl ?_
    refine TL_nil ?_
    refine X_then ?_
    refine T_region ?_
    refine TL_q (Qt_move (.slice _ _ _) rfl) rfl ?_
    refine TL_q (Qt_move (.int .i64 _) rfl) rfl ?_
    refine TL_q (Qt_conv rfl rfl Try.underlying75) rfl ?_
    refine TL_e rfl (Ef_call (putFixed_c (by rw [pre3_length]; omega) (u64_range _).1) rfl (fun x25 => ?_))
    rw [putFixed_2, show pre3 v.abs k ++ fixed (u64 (num3 v.abs k)).toNat 2 = pre3 v.abs (k + 1) from rfl]
    refine TL_q (Qt_assign (.slice _ _ _) rfl) rfl ?_
    refine TL_nil ?_
    refine X_block ?_
    refine X_then ?_
    refine T_region ?_
    first
      | refine TL_q (Qt_add rfl rfl (by omega) (by omega)) rfl ?_
      | refine TL_q (Qt_addw rfl rfl) rfl ?_
    refine TL_q (Qt_move (.int .i64 _) rfl) rfl ?_
    refine TL_nil ?_
    refine X_loop _ (by repeat (first | with_reducible exact agree_refl | refine agree_upd rfl ?_ | refine agree_mix rfl ?_ | refine agree_setAll rfl ?_)) (⟨k + 1, x25.a, x25.c, rfl, rfl, by omega⟩) (by show 3 - (k + 1 : Int).toNat < 3 - (k : Int).toNat; omega) ((Subs.st inferInstance))
  ·
    have p20 := h20
    try simp only [decide_eq_true_eq, decide_eq_false_iff_not, Bool.not_eq_true', Bool.not_eq_false', Option.isNone_iff_eq_none, ne_eq, Decidable.not_not, Int.not_lt, Int.not_le] at p20
    obtain rfl : k = 3 := by omega
    refine T_exit ?_
    refine X_then_exit ?_
    refine X_loop_exit ?_
    refine X_block_exit ?_
    refine X_then ?_
    refine T_seq ?_
    refine T_draw (blk b1 (.cells v.cells 27 (0, 0)) :: H) [(0, true), (1, true), (2, true), (4, true), (5, true), (3, false), (6, false), (7, true)] (by kernel_rfl) (by kernel_rfl) rfl (by kernel_rfl) (Subs.st inferInstance) (fun hns0 => ?_)
    refine DL_q hns0 rfl (Qt_move (.slice _ _ _) rfl) rfl ?_
    refine DL_q hns0 rfl (Qt_fieldAddr 4 rfl rfl) rfl ?_
    refine DL_q hns0 rfl (Qt_slice_arr rfl Try.underlying23 rfl rfl) rfl ?_
    refine DL_q hns0 rfl (Qt_fieldAddr 36 rfl rfl) rfl ?_
    refine DL_q hns0 rfl (Qt_load1 rfl) rfl ?_
    refine DL_e rfl rfl (Ef_appendB (sv := .slice _ _ _) (xv := .slice _ _ _) (hn := RdB.hash v.hash inferInstance inferInstance (by decide)) rfl rfl (by simp [pre3_length]) rfl (fun a30 c30 => ⟨(Subs.st inferInstance), ?_⟩))
    refine DL_e rfl rfl (Ef_call (putText_c (by simp [pre3_length]) (by omega)) rfl (fun x33 => ⟨(Subs.st inferInstance), ?_⟩))
    rw [show pre3 v.abs 3 ++ v.hash.toList ++ packed v.batch.l.length ++ v.batch.l = pre3 v.abs 3 ++ v.hash.toList ++ textB v.abs.batch from by simp [textB, VoteV.abs]]
    refine DL_q hns0 rfl (Qt_assign (.slice _ _ _) rfl) rfl ?_
    refine DL_nil ?_
    refine X_then ?_
    refine T_seq ?_
    refine T_region ?_
    refine TL_q (Qt_move (.slice _ _ _) rfl) rfl ?_
    refine TL_q (Qt_fieldAddr 37 rfl rfl) rfl ?_
    refine TL_q (Qt_load1 rfl) rfl ?_
    refine TL_q (Qt_len_slice rfl Try.underlying25) rfl ?_
    refine TL_q (Qt_conv_u64 rfl rfl Try.underlying75 (by omega) (by omega)) rfl ?_
    have hh : (pre3 v.abs 3 ++ v.hash.toList ++ textB v.abs.batch).length ≤ 100000 := by
      have := textB_length v.abs.batch (by show v.batch.l.length < _; omega)
      have : v.abs.batch.length = v.batch.l.length := rfl
      simp [pre3_length]; omega
    refine TL_e rfl (Ef_call (putPacked_c (by have := hh; omega) (by omega) (by omega)) rfl (fun x39 => ?_))
    rw [show pre3 v.abs 3 ++ v.hash.toList ++ textB v.abs.batch ++ packed (v.cert.ls.length : Int).toNat = head v.abs from by simp [head, VoteV.abs]]
    refine TL_q (Qt_assign (.slice _ _ _) rfl) rfl ?_
    refine TL_nil ?_
    refine X_then ?_
    refine T_seq ?_
    refine T_seq ?_
    refine T_region ?_
    refine TL_q (Qt_fieldAddr 37 rfl rfl) rfl ?_
    refine TL_q (Qt_load1 rfl) rfl ?_
    refine TL_q (Qt_len_slice rfl Try.underlying25) rfl ?_
    refine TL_q (Qt_move (.int .i64 _) rfl) rfl ?_
    refine TL_nil ?_
    refine X_then ?_
    refine T_block ?_
    refine T_loop [3, 7, 43, 44, 45, 46, 47, 48, 49, 50] [43, 3] (fun vs H' => ∃ (k : Nat) (a : Option Addr) (c : Nat), vs = [.int .i64 (k : Int), .slice a (head v.abs ++ texts ((v.cert.ls.map BS.l).take k)).length c] ∧ H' = row (.slice a (head v.abs ++ texts ((v.cert.ls.map BS.l).take k)).length c) 5 1 (bytesV (head v.abs ++ texts ((v.cert.ls.map BS.l).take k))) :: blk b1 (.cells v.cells 27 (0, 0)) :: H ∧ k ≤ v.cert.ls.length) (fun vs => match vs with | .int _ i :: _ => v.cert.ls.length - i.toNat | _ => 0) ⟨0, x39.a, x39.c, by rw [List.take_zero, show texts [] = [] from rfl, List.append_nil]; rfl, by rw [List.take_zero, show texts [] = [] from rfl, List.append_nil], by omega⟩ (Subs.st inferInstance) ?_
    rintro τ1 _ _  ⟨k, a2, c2, rfl, rfl, hk0⟩ _
    refine T_seq ?_
    refine T_region ?_
    refine TL_q (Qt_lss rfl rfl) rfl ?_
    refine TL_nil ?_
    refine X_then ?_
    refine T_seq ?_
    refine T_cond rfl (fun h44 => ?_) (fun h44 => ?_)
    ·
      have p44 := h44
      try simp only [decide_eq_true_eq, decide_eq_false_iff_not, Bool.not_eq_true', Bool.not_eq_false', Option.isNone_iff_eq_none, ne_eq, Decidable.not_not, Int.not_lt, Int.not_le] at p44
      have hk : k < v.cert.ls.length := by omega
      have hk' : (k : Int) < v.cert.ls.length := by omega
      refine T_skip ?_
      refine X_then ?_
      refine T_seq ?_
      refine T_block ?_
      refine T_seq ?_
      refine T_region ?_
      refine TL_q (Qt_indexR rfl rfl (by omega) (by simpa using hk')) rfl ?_
      refine TL_q (Qt_loadR (.slice _ _ _) rfl (vals_get _ _ hk)) rfl ?_
      refine TL_q (Qt_assign (.slice _ _ _) rfl) rfl ?_
      refine TL_nil ?_
      refine X_then ?_
      refine T_region ?_
      refine TL_q (Qt_move (.slice _ _ _) rfl) rfl ?_
      refine TL_q (Qt_move (.slice _ _ _) rfl) rfl ?_
      have hmem : v.cert.ls[k] ∈ v.cert.ls := List.getElem_mem hk
      have : RdB w0 H (.slice v.cert.ls[k].a v.cert.ls[k].l.length v.cert.ls[k].c) v.cert.ls[k].l := re.get hmem
      have hh2 : (head v.abs ++ texts ((v.cert.ls.map BS.l).take k)).length ≤ 2000000 := by
        have h1 := head_length v.abs (by show v.batch.l.length ≤ _; omega) (by show (v.cert.ls.map BS.l).length ≤ _; simp; omega)
        have h2 := texts_length 65536 ((v.cert.ls.map BS.l).take k) (fun x hx => by obtain ⟨y, hy, rfl⟩ := List.mem_map.1 (List.mem_of_mem_take hx); exact he y hy) (by decide)
        have h3 : ((v.cert.ls.map BS.l).take k).length ≤ 16 := by simp; omega
        have h4 := Nat.mul_le_mul_right (10 + 65536) h3
        rw [List.length_append]; omega
      refine TL_e rfl (Ef_call (putText_c (by have := hh2; omega) (by have := he _ hmem; omega)) rfl (fun x49 => ?_))
      rw [show head v.abs ++ texts ((v.cert.ls.map BS.l).take k) ++ packed v.cert.ls[k].l.length ++ v.cert.ls[k].l = head v.abs ++ texts ((v.cert.ls.map BS.l).take (k + 1)) from by rw [take_get _ _ (by simpa using hk), texts_snoc]; simp [textB]]
      refine TL_q (Qt_assign (.slice _ _ _) rfl) rfl ?_
      refine TL_nil ?_
      refine X_block ?_
      refine X_then ?_
      refine T_region ?_
      first
        | refine TL_q (Qt_add rfl rfl (by omega) (by omega)) rfl ?_
        | refine TL_q (Qt_addw rfl rfl) rfl ?_
      refine TL_q (Qt_move (.int .i64 _) rfl) rfl ?_
      refine TL_nil ?_
      refine X_loop _ (by repeat (first | with_reducible exact agree_refl | refine agree_upd rfl ?_ | refine agree_mix rfl ?_ | refine agree_setAll rfl ?_)) (⟨k + 1, x49.a, x49.c, rfl, rfl, by omega⟩) (by show v.cert.ls.length - (k + 1 : Int).toNat < v.cert.ls.length - (k : Int).toNat; omega) ((Subs.st inferInstance))
    ·
      have p44 := h44
      try simp only [decide_eq_true_eq, decide_eq_false_iff_not, Bool.not_eq_true', Bool.not_eq_false', Option.isNone_iff_eq_none, ne_eq, Decidable.not_not, Int.not_lt, Int.not_le] at p44
      have et : (v.cert.ls.map BS.l).take k = v.abs.cert := List.take_of_length_le (by simp; omega)
      simp only [et]
      refine T_exit ?_
      refine X_then_exit ?_
      refine X_loop_exit ?_
      refine X_block_exit ?_
      refine X_then ?_
      refine T_seq ?_
      refine T_region ?_
      refine TL_q (Qt_move (.slice _ _ _) rfl) rfl ?_
      refine TL_q (Qt_assign (.slice _ _ _) rfl) rfl ?_
      refine TL_nil ?_
      refine X_then ?_
      refine T_ret ?_
      rw [show head v.abs ++ texts v.abs.cert = told v.abs from rfl]
      exact X_ret ⟨a2, c2⟩ [_] Try.results36 ⟨rfl, trivial⟩ rfl (Subs.st inferInstance)
end Go.Proofs.Ytdjbhpdfkopdgaa
