/- Walks: sizes, widths, formed of package wire. -/
import Derived.Test.YtnijomppbgdmnaaMd
namespace Go.Proofs.Ytnijomppbgdmnaa
open Go.RowKit Go.Sx
set_option maxRecDepth 100000
set_option linter.unusedSimpArgs false
set_option linter.unusedVariables false
set_option maxHeartbeats 1000000 in
theorem wpacked_c {w0 : World} {H : List SA} {n : Nat} (hn : n ≤ 4294967296) :
    CT Try.prog w0 (H) 81 [.int .i64 (n : Int)] (α := Unit) (fun _ => .int .i64 ((packed n).length : Int)) (fun _ => H) := by
  refine CT_intro Try.func81 rfl Try.ntmps81 rfl ?_
  refine T_seq ?_
  refine T_region ?_
  refine TL_q (Qt_assign (.int .i64 _) rfl) rfl ?_
  refine TL_nil ?_
  refine X_then ?_
  refine T_seq ?_
  refine T_region ?_
  refine TL_q (Qt_move (.int .i64 _) rfl) rfl ?_
  refine TL_q (Qt_conv_u64 rfl rfl Try.underlying121 (by omega) (by omega)) rfl ?_
  refine TL_e rfl (Ef_call (putPacked_c (a := none) (l := []) (c := 0) (by simp) (by omega) (by omega)) rfl (fun x5 => ?_))
  rw [List.nil_append, Int.toNat_natCast]
  refine TL_q (Qt_len_slice rfl Try.underlying36) rfl ?_
  refine TL_q (Qt_assign (.int .i64 _) rfl) rfl ?_
  refine TL_nil ?_
  refine X_then ?_
  refine T_ret ?_
  exact X_ret () [_] Try.results81 ⟨rfl, trivial⟩ rfl (Subs.st inferInstance)
set_option maxHeartbeats 1000000 in
theorem wtext_c {w0 : World} {H : List SA} {a : Option Addr} {l : List UInt8} {c : Nat} (hl : l.length ≤ 2147483000) :
    CT Try.prog w0 (H) 80 [.slice a l.length c] (α := Unit) (fun _ => .int .i64 ((textB l).length : Int)) (fun _ => H) := by
  refine CT_intro Try.func80 rfl Try.ntmps80 rfl ?_
  refine T_seq ?_
  refine T_region ?_
  refine TL_q (Qt_assign (.int .i64 _) rfl) rfl ?_
  refine TL_nil ?_
  refine X_then ?_
  refine T_seq ?_
  refine T_region ?_
  refine TL_q (Qt_move (.slice _ _ _) rfl) rfl ?_
  refine TL_q (Qt_len_slice rfl Try.underlying36) rfl ?_
  refine TL_e rfl (Ef_call (wpacked_c (by omega)) rfl (fun x5 => ?_))
  refine TL_q (Qt_move (.slice _ _ _) rfl) rfl ?_
  refine TL_q (Qt_len_slice rfl Try.underlying36) rfl ?_
  have hp := packed_length_le l.length (by omega)
  refine TL_q (Qt_val (Qt_add rfl rfl (by omega) (by omega)) (congrArg (Value.int .i64) (show ((packed l.length).length : Int) + (l.length : Int) = (((textB l).length : Nat) : Int) from by simp [textB]))) rfl ?_
  refine TL_q (Qt_assign (.int .i64 _) rfl) rfl ?_
  refine TL_nil ?_
  refine X_then ?_
  refine T_ret ?_
  exact X_ret () [_] Try.results80 ⟨rfl, trivial⟩ rfl (Subs.st inferInstance)
set_option maxHeartbeats 1000000 in
theorem wwithin_c {w0 : World} {H : List SA} {n b : Int} :
    CT Try.prog w0 (H) 82 [.int .i64 n, .int .i64 b] (α := Unit) (fun _ => .bool (withinB n b)) (fun _ => H) := by
  refine CT_intro Try.func82 rfl Try.ntmps82 rfl ?_
  refine T_seq ?_
  refine T_region ?_
  refine TL_q (Qt_assign (.bool _) rfl) rfl ?_
  refine TL_nil ?_
  refine X_then ?_
  refine T_seq ?_
  refine T_region ?_
  refine TL_q (Qt_move (.int .i64 _) rfl) rfl ?_
  refine TL_q (Qt_geq rfl rfl) rfl ?_
  refine TL_q (Qt_move (.bool _) rfl) rfl ?_
  refine TL_split 7 rfl (fun h7 => ?_) (fun h7 => ?_)
  ·
    have p7 := h7
    try simp only [decide_eq_true_eq, decide_eq_false_iff_not, Bool.not_eq_true', Bool.not_eq_false', Option.isNone_iff_eq_none, ne_eq, Decidable.not_not, Int.not_lt, Int.not_le] at p7
    refine TL_take rfl rfl h7 ?_
    refine TL_q (Qt_move (.int .i64 _) rfl) rfl ?_
    refine TL_take rfl rfl h7 ?_
    refine TL_q (Qt_move (.int .i64 _) rfl) rfl ?_
    refine TL_take rfl rfl h7 ?_
    refine TL_q (Qt_leq rfl rfl) rfl ?_
    refine TL_q (Qt_pick_t (.bool _) rfl h7 rfl) rfl ?_
    refine TL_q (Qt_assign (.bool _) rfl) rfl ?_
    refine TL_nil ?_
    refine X_then ?_
    refine T_ret ?_
    exact X_ret () [.bool (withinB n b)] Try.results82 ⟨by refine congrArg Value.bool ?_; first | (simp_all [withinB]; done) | (simp_all [withinB]; omega), trivial⟩ rfl (Subs.st inferInstance)
  ·
    have p7 := h7
    try simp only [decide_eq_true_eq, decide_eq_false_iff_not, Bool.not_eq_true', Bool.not_eq_false', Option.isNone_iff_eq_none, ne_eq, Decidable.not_not, Int.not_lt, Int.not_le] at p7
    refine TL_pass rfl rfl h7 rfl ?_
    refine TL_pass rfl rfl h7 rfl ?_
    refine TL_pass rfl rfl h7 rfl ?_
    refine TL_q (Qt_pick_f (.bool _) rfl h7 rfl) rfl ?_
    refine TL_q (Qt_assign (.bool _) rfl) rfl ?_
    refine TL_nil ?_
    refine X_then ?_
    refine T_ret ?_
    exact X_ret () [.bool (withinB n b)] Try.results82 ⟨by refine congrArg Value.bool ?_; first | (simp_all [withinB]; done) | (simp_all [withinB]; omega), trivial⟩ rfl (Subs.st inferInstance)
set_option maxHeartbeats 1000000 in
theorem wformed_c {w0 : World} {H : List SA} {m : MsgV} :
    CT Try.prog w0 (H) 55 [.agg m.cells] (α := Unit) (fun _ => .bool (formedM m.abs)) (fun _ => H) := by
  refine CT_intro Try.func55 rfl Try.ntmps55 rfl ?_
  refine T_seq ?_
  refine T_region ?_
  refine TL_e rfl (Ef_boxN rfl (fun b1 => ?_))
  refine TL_q (Qt_assign (.bool _) rfl) rfl ?_
  refine TL_nil ?_
  refine X_then ?_
  refine T_seq ?_
  refine T_region ?_
  refine TL_q (Qt_fieldAddr 0 rfl rfl) rfl ?_
  refine TL_q (Qt_load1 rfl) rfl ?_
  refine TL_q (Qt_geq rfl rfl) rfl ?_
  refine TL_q (Qt_move (.bool _) rfl) rfl ?_
  refine TL_split 6 rfl (fun h6 => ?_) (fun h6 => ?_)
  ·
    have p6 := h6
    try simp only [decide_eq_true_eq, decide_eq_false_iff_not, Bool.not_eq_true', Bool.not_eq_false', Option.isNone_iff_eq_none, ne_eq, Decidable.not_not, Int.not_lt, Int.not_le] at p6
    refine TL_take rfl rfl h6 ?_
    refine TL_q (Qt_fieldAddr 0 rfl rfl) rfl ?_
    refine TL_take rfl rfl h6 ?_
    refine TL_q (Qt_load1 rfl) rfl ?_
    refine TL_take rfl rfl h6 ?_
    refine TL_q (Qt_leq rfl rfl) rfl ?_
    refine TL_q (Qt_pick_t (.bool _) rfl h6 rfl) rfl ?_
    refine TL_q (Qt_move (.bool _) rfl) rfl ?_
    refine TL_split 11 rfl (fun h11 => ?_) (fun h11 => ?_)
    ·
      have p11 := h11
      try simp only [decide_eq_true_eq, decide_eq_false_iff_not, Bool.not_eq_true', Bool.not_eq_false', Option.isNone_iff_eq_none, ne_eq, Decidable.not_not, Int.not_lt, Int.not_le] at p11
      refine TL_take rfl rfl h11 ?_
      refine TL_q (Qt_fieldAddr 1 rfl rfl) rfl ?_
      refine TL_take rfl rfl h11 ?_
      refine TL_q (Qt_load1 rfl) rfl ?_
      refine TL_take rfl rfl h11 ?_
      refine TL_e rfl (Ef_call (wwithin_c) rfl (fun x14 => ?_))
      refine TL_q (Qt_pick_t (.bool _) rfl h11 rfl) rfl ?_
      refine TL_q (Qt_move (.bool _) rfl) rfl ?_
      refine TL_split 16 rfl (fun h16 => ?_) (fun h16 => ?_)
      ·
        have p16 := h16
        try simp only [decide_eq_true_eq, decide_eq_false_iff_not, Bool.not_eq_true', Bool.not_eq_false', Option.isNone_iff_eq_none, ne_eq, Decidable.not_not, Int.not_lt, Int.not_le] at p16
        refine TL_take rfl rfl h16 ?_
        refine TL_q (Qt_fieldAddr 2 rfl rfl) rfl ?_
        refine TL_take rfl rfl h16 ?_
        refine TL_q (Qt_load1 rfl) rfl ?_
        refine TL_take rfl rfl h16 ?_
        refine TL_e rfl (Ef_call (wwithin_c) rfl (fun x19 => ?_))
        refine TL_q (Qt_pick_t (.bool _) rfl h16 rfl) rfl ?_
        refine TL_q (Qt_move (.bool _) rfl) rfl ?_
        refine TL_split 21 rfl (fun h21 => ?_) (fun h21 => ?_)
        ·
          have p21 := h21
          try simp only [decide_eq_true_eq, decide_eq_false_iff_not, Bool.not_eq_true', Bool.not_eq_false', Option.isNone_iff_eq_none, ne_eq, Decidable.not_not, Int.not_lt, Int.not_le] at p21
          refine TL_take rfl rfl h21 ?_
          refine TL_q (Qt_fieldAddr 3 rfl rfl) rfl ?_
          refine TL_take rfl rfl h21 ?_
          refine TL_q (Qt_load1 rfl) rfl ?_
          refine TL_take rfl rfl h21 ?_
          refine TL_e rfl (Ef_call (wwithin_c) rfl (fun x24 => ?_))
          refine TL_q (Qt_pick_t (.bool _) rfl h21 rfl) rfl ?_
          refine TL_q (Qt_move (.bool _) rfl) rfl ?_
          refine TL_split 26 rfl (fun h26 => ?_) (fun h26 => ?_)
          ·
            have p26 := h26
            try simp only [decide_eq_true_eq, decide_eq_false_iff_not, Bool.not_eq_true', Bool.not_eq_false', Option.isNone_iff_eq_none, ne_eq, Decidable.not_not, Int.not_lt, Int.not_le] at p26
            refine TL_take rfl rfl h26 ?_
            refine TL_q (Qt_fieldAddr 4 rfl rfl) rfl ?_
            refine TL_take rfl rfl h26 ?_
            refine TL_q (Qt_load1 rfl) rfl ?_
            refine TL_take rfl rfl h26 ?_
            refine TL_e rfl (Ef_call (wwithin_c) rfl (fun x29 => ?_))
            refine TL_q (Qt_pick_t (.bool _) rfl h26 rfl) rfl ?_
            refine TL_q (Qt_assign (.bool _) rfl) rfl ?_
            refine TL_nil ?_
            refine X_then ?_
            refine T_ret ?_
            refine X_ret () [.bool (formedM m.abs)] Try.results55 ⟨?_, trivial⟩ rfl (Subs.st inferInstance)
            refine congrArg Value.bool ?_
            rw [Bool.eq_iff_iff, formedM_iff]
            simp only [within_iff, within_not, MsgV.abs, decide_eq_true_eq, decide_eq_false_iff_not, Bool.not_eq_false, Bool.not_eq_true, Bool.false_eq_true, false_iff, not_and] at *
            first | omega | (constructor <;> (intros; omega))
          ·
            have p26 := h26
            try simp only [decide_eq_true_eq, decide_eq_false_iff_not, Bool.not_eq_true', Bool.not_eq_false', Option.isNone_iff_eq_none, ne_eq, Decidable.not_not, Int.not_lt, Int.not_le] at p26
            refine TL_pass rfl rfl h26 rfl ?_
            refine TL_pass rfl rfl h26 rfl ?_
            refine TL_pass rfl rfl h26 rfl ?_
            refine TL_q (Qt_pick_f (.bool _) rfl h26 rfl) rfl ?_
            refine TL_q (Qt_assign (.bool _) rfl) rfl ?_
            refine TL_nil ?_
            refine X_then ?_
            refine T_ret ?_
            refine X_ret () [.bool (formedM m.abs)] Try.results55 ⟨?_, trivial⟩ rfl (Subs.st inferInstance)
            refine congrArg Value.bool ?_
            rw [Bool.eq_iff_iff, formedM_iff]
            simp only [within_iff, within_not, MsgV.abs, decide_eq_true_eq, decide_eq_false_iff_not, Bool.not_eq_false, Bool.not_eq_true, Bool.false_eq_true, false_iff, not_and] at *
            first | omega | (constructor <;> (intros; omega))
        ·
          have p21 := h21
          try simp only [decide_eq_true_eq, decide_eq_false_iff_not, Bool.not_eq_true', Bool.not_eq_false', Option.isNone_iff_eq_none, ne_eq, Decidable.not_not, Int.not_lt, Int.not_le] at p21
          refine TL_pass rfl rfl h21 rfl ?_
          refine TL_pass rfl rfl h21 rfl ?_
          refine TL_pass rfl rfl h21 rfl ?_
          refine TL_q (Qt_pick_f (.bool _) rfl h21 rfl) rfl ?_
          refine TL_q (Qt_move (.bool _) rfl) rfl ?_
          refine TL_pass rfl rfl rfl rfl ?_
          refine TL_pass rfl rfl rfl rfl ?_
          refine TL_pass rfl rfl rfl rfl ?_
          refine TL_q (Qt_pick_f (.bool _) rfl rfl rfl) rfl ?_
          refine TL_q (Qt_assign (.bool _) rfl) rfl ?_
          refine TL_nil ?_
          refine X_then ?_
          refine T_ret ?_
          refine X_ret () [.bool (formedM m.abs)] Try.results55 ⟨?_, trivial⟩ rfl (Subs.st inferInstance)
          refine congrArg Value.bool ?_
          rw [Bool.eq_iff_iff, formedM_iff]
          simp only [within_iff, within_not, MsgV.abs, decide_eq_true_eq, decide_eq_false_iff_not, Bool.not_eq_false, Bool.not_eq_true, Bool.false_eq_true, false_iff, not_and] at *
          first | omega | (constructor <;> (intros; omega))
      ·
        have p16 := h16
        try simp only [decide_eq_true_eq, decide_eq_false_iff_not, Bool.not_eq_true', Bool.not_eq_false', Option.isNone_iff_eq_none, ne_eq, Decidable.not_not, Int.not_lt, Int.not_le] at p16
        refine TL_pass rfl rfl h16 rfl ?_
        refine TL_pass rfl rfl h16 rfl ?_
        refine TL_pass rfl rfl h16 rfl ?_
        refine TL_q (Qt_pick_f (.bool _) rfl h16 rfl) rfl ?_
        refine TL_q (Qt_move (.bool _) rfl) rfl ?_
        refine TL_pass rfl rfl rfl rfl ?_
        refine TL_pass rfl rfl rfl rfl ?_
        refine TL_pass rfl rfl rfl rfl ?_
        refine TL_q (Qt_pick_f (.bool _) rfl rfl rfl) rfl ?_
        refine TL_q (Qt_move (.bool _) rfl) rfl ?_
        refine TL_pass rfl rfl rfl rfl ?_
        refine TL_pass rfl rfl rfl rfl ?_
        refine TL_pass rfl rfl rfl rfl ?_
        refine TL_q (Qt_pick_f (.bool _) rfl rfl rfl) rfl ?_
        refine TL_q (Qt_assign (.bool _) rfl) rfl ?_
        refine TL_nil ?_
        refine X_then ?_
        refine T_ret ?_
        refine X_ret () [.bool (formedM m.abs)] Try.results55 ⟨?_, trivial⟩ rfl (Subs.st inferInstance)
        refine congrArg Value.bool ?_
        rw [Bool.eq_iff_iff, formedM_iff]
        simp only [within_iff, within_not, MsgV.abs, decide_eq_true_eq, decide_eq_false_iff_not, Bool.not_eq_false, Bool.not_eq_true, Bool.false_eq_true, false_iff, not_and] at *
        first | omega | (constructor <;> (intros; omega))
    ·
      have p11 := h11
      try simp only [decide_eq_true_eq, decide_eq_false_iff_not, Bool.not_eq_true', Bool.not_eq_false', Option.isNone_iff_eq_none, ne_eq, Decidable.not_not, Int.not_lt, Int.not_le] at p11
      refine TL_pass rfl rfl h11 rfl ?_
      refine TL_pass rfl rfl h11 rfl ?_
      refine TL_pass rfl rfl h11 rfl ?_
      refine TL_q (Qt_pick_f (.bool _) rfl h11 rfl) rfl ?_
      refine TL_q (Qt_move (.bool _) rfl) rfl ?_
      refine TL_pass rfl rfl rfl rfl ?_
      refine TL_pass rfl rfl rfl rfl ?_
      refine TL_pass rfl rfl rfl rfl ?_
      refine TL_q (Qt_pick_f (.bool _) rfl rfl rfl) rfl ?_
      refine TL_q (Qt_move (.bool _) rfl) rfl ?_
      refine TL_pass rfl rfl rfl rfl ?_
      refine TL_pass rfl rfl rfl rfl ?_
      refine TL_pass rfl rfl rfl rfl ?_
      refine TL_q (Qt_pick_f (.bool _) rfl rfl rfl) rfl ?_
      refine TL_q (Qt_move (.bool _) rfl) rfl ?_
      refine TL_pass rfl rfl rfl rfl ?_
      refine TL_pass rfl rfl rfl rfl ?_
      refine TL_pass rfl rfl rfl rfl ?_
      refine TL_q (Qt_pick_f (.bool _) rfl rfl rfl) rfl ?_
      refine TL_q (Qt_assign (.bool _) rfl) rfl ?_
      refine TL_nil ?_
      refine X_then ?_
      refine T_ret ?_
      refine X_ret () [.bool (formedM m.abs)] Try.results55 ⟨?_, trivial⟩ rfl (Subs.st inferInstance)
      refine congrArg Value.bool ?_
      rw [Bool.eq_iff_iff, formedM_iff]
      simp only [within_iff, within_not, MsgV.abs, decide_eq_true_eq, decide_eq_false_iff_not, Bool.not_eq_false, Bool.not_eq_true, Bool.false_eq_true, false_iff, not_and] at *
      first | omega | (constructor <;> (intros; omega))
  ·
    have p6 := h6
    try simp only [decide_eq_true_eq, decide_eq_false_iff_not, Bool.not_eq_true', Bool.not_eq_false', Option.isNone_iff_eq_none, ne_eq, Decidable.not_not, Int.not_lt, Int.not_le] at p6
    refine TL_pass rfl rfl h6 rfl ?_
    refine TL_pass rfl rfl h6 rfl ?_
    refine TL_pass rfl rfl h6 rfl ?_
    refine TL_q (Qt_pick_f (.bool _) rfl h6 rfl) rfl ?_
    refine TL_q (Qt_move (.bool _) rfl) rfl ?_
    refine TL_pass rfl rfl rfl rfl ?_
    refine TL_pass rfl rfl rfl rfl ?_
    refine TL_pass rfl rfl rfl rfl ?_
    refine TL_q (Qt_pick_f (.bool _) rfl rfl rfl) rfl ?_
    refine TL_q (Qt_move (.bool _) rfl) rfl ?_
    refine TL_pass rfl rfl rfl rfl ?_
    refine TL_pass rfl rfl rfl rfl ?_
    refine TL_pass rfl rfl rfl rfl ?_
    refine TL_q (Qt_pick_f (.bool _) rfl rfl rfl) rfl ?_
    refine TL_q (Qt_move (.bool _) rfl) rfl ?_
    refine TL_pass rfl rfl rfl rfl ?_
    refine TL_pass rfl rfl rfl rfl ?_
    refine TL_pass rfl rfl rfl rfl ?_
    refine TL_q (Qt_pick_f (.bool _) rfl rfl rfl) rfl ?_
    refine TL_q (Qt_move (.bool _) rfl) rfl ?_
    refine TL_pass rfl rfl rfl rfl ?_
    refine TL_pass rfl rfl rfl rfl ?_
    refine TL_pass rfl rfl rfl rfl ?_
    refine TL_q (Qt_pick_f (.bool _) rfl rfl rfl) rfl ?_
    refine TL_q (Qt_assign (.bool _) rfl) rfl ?_
    refine TL_nil ?_
    refine X_then ?_
    refine T_ret ?_
    refine X_ret () [.bool (formedM m.abs)] Try.results55 ⟨?_, trivial⟩ rfl (Subs.st inferInstance)
    refine congrArg Value.bool ?_
    rw [Bool.eq_iff_iff, formedM_iff]
    simp only [within_iff, within_not, MsgV.abs, decide_eq_true_eq, decide_eq_false_iff_not, Bool.not_eq_false, Bool.not_eq_true, Bool.false_eq_true, false_iff, not_and] at *
    first | omega | (constructor <;> (intros; omega))
set_option maxHeartbeats 1000000 in
theorem widths_c {w0 : World} {H : List SA}  :
    CT Try.prog w0 (H) 56 [] (α := Unit) (fun _ => .agg w5) (fun _ => H) := by
  refine CT_intro Try.func56 rfl Try.ntmps56 rfl ?_
  refine T_seq ?_
  refine T_region ?_
  refine TL_e rfl (Ef_allocN (fun b0 => ?_))
  refine TL_nil ?_
  refine X_then ?_
  refine T_seq ?_
  refine T_region ?_
  refine TL_q (Qt_build_arr w5 Try.underlying118 rfl rfl (fill5 1 1 2 2 2)) rfl ?_
  refine TL_n (Ef_storeN rfl rfl (?_))
  refine TL_nil ?_
  refine X_then ?_
  refine T_ret ?_
  exact X_ret () [_] Try.results56 ⟨⟨_, rfl, res_cellN rfl⟩, trivial⟩ rfl (Subs.st inferInstance)
end Go.Proofs.Ytnijomppbgdmnaa
