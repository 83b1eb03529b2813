/- Walks: Size and Put of package wire. -/
import Derived.Test.YtnijomppbgdmnaaWa
namespace Go.Proofs.Ytnijomppbgdmnaa
open Go.RowKit Go.Sx
set_option maxRecDepth 100000
set_option linter.unusedSimpArgs false
set_option linter.unusedVariables false
set_option maxHeartbeats 1000000 in
theorem size_c {w0 : World} {H : List SA} {m : MsgV} [rb : RdB w0 H (.slice m.body.a m.body.l.length m.body.c) m.body.l] [rc : RdC w0 H (.slice m.parts.a m.parts.ls.length m.parts.c) 1 (m.parts.ls.map BS.val)] [re : RdE w0 H m.parts.ls] (hs : SmallM m.abs) :
    CT Try.prog w0 (H) 54 [.agg m.cells] (α := Unit) (fun _ => .int .i64 ((msgB m.abs).length : Int)) (fun _ => H) := by
  refine CT_intro Try.func54 rfl Try.ntmps54 rfl ?_
  refine T_seq ?_
  refine T_region ?_
  refine TL_e rfl (Ef_boxN rfl (fun b1 => ?_))
  refine TL_q (Qt_assign (.int .i64 _) rfl) rfl ?_
  refine TL_nil ?_
  refine X_then ?_
  refine T_seq ?_
  refine T_draw (blk b1 (.cells m.cells 43 (0, 0)) :: H) [(0, true), (1, true), (4, true), (5, true), (6, true), (2, false), (3, true), (7, false), (8, true), (9, true)] (by kernel_rfl) (by kernel_rfl) rfl (by kernel_rfl) (Subs.st inferInstance) (fun hns0 => ?_)
  refine DL_q hns0 rfl (Qt_fieldAddr 37 rfl rfl) rfl ?_
  refine DL_q hns0 rfl (Qt_load1 rfl) rfl ?_
  refine DL_q hns0 rfl (Qt_fieldAddr 38 rfl rfl) rfl ?_
  refine DL_q hns0 rfl (Qt_load1 rfl) rfl ?_
  refine DL_q hns0 rfl (Qt_len_slice rfl Try.underlying28) rfl ?_
  refine DL_e rfl rfl (Ef_call (wtext_c (by have := hs.body; have e : m.abs.body = m.body.l := rfl; rw [e] at this; omega)) rfl (fun x8 => ⟨(Subs.st inferInstance), ?_⟩))
  have hb1 := textB_length m.body.l (by have := hs.body; have e : m.abs.body = m.body.l := rfl; rw [e] at this; omega)
  have hb2 : m.body.l.length ≤ 3000 := hs.body
  first
    | refine DL_q hns0 rfl (Qt_add rfl rfl (by omega) (by omega)) rfl ?_
    | refine DL_q hns0 rfl (Qt_addw rfl rfl) rfl ?_
  refine DL_e rfl rfl (Ef_call (wpacked_c (by have := hs.parts; rw [parts_len] at this; omega)) rfl (fun x13 => ⟨(Subs.st inferInstance), ?_⟩))
  have hb3 := packed_length_le m.parts.ls.length (by have := hs.parts; rw [parts_len] at this; omega)
  refine DL_q hns0 rfl (Qt_val (Qt_add rfl rfl (by omega) (by omega)) (congrArg (Value.int .i64) (show (40 : Int) + ((textB m.body.l).length : Int) + ((packed m.parts.ls.length).length : Int) = ((((headM m.abs).length + (texts (m.abs.parts.take 0)).length : Nat) : Nat) : Int) from by rw [List.take_zero, headM_len, parts_len]; simp [texts, MsgV.abs]))) rfl ?_
  refine DL_q hns0 rfl (Qt_assign (.int .i64 _) rfl) rfl ?_
  refine DL_nil ?_
  refine X_then ?_
  refine T_seq ?_
  refine T_seq ?_
  refine T_region ?_
  refine TL_q (Qt_fieldAddr 38 rfl rfl) rfl ?_
  refine TL_q (Qt_load1 rfl) rfl ?_
  refine TL_q (Qt_len_slice rfl Try.underlying28) rfl ?_
  refine TL_q (Qt_move (.int .i64 _) rfl) rfl ?_
  refine TL_nil ?_
  refine X_then ?_
  refine T_block ?_
  have hp20 : m.parts.ls.length ≤ 20 := by have := hs.parts; rwa [parts_len] at this
  refine T_loop [3, 5, 18, 19, 20, 21, 22, 23, 24, 25, 26] [18, 3] (fun us H' => ∃ (k : Nat), us = [.int .i64 (k : Int), .int .i64 (((headM m.abs).length + (texts (m.abs.parts.take k)).length : Nat) : Int)] ∧ blk b1 (.cells m.cells 43 (0, 0)) :: H = H' ∧ k ≤ m.parts.ls.length) (fun us => match us with | .int _ i :: _ => m.parts.ls.length - i.toNat | _ => 0) ⟨0, rfl, rfl, by omega⟩ (Subs.st inferInstance) ?_
  rintro τ0 _ _  ⟨k, rfl, rfl, hk0⟩ _
  refine T_seq ?_
  refine T_region ?_
  refine TL_q (Qt_lss rfl rfl) rfl ?_
  refine TL_nil ?_
  refine X_then ?_
  refine T_seq ?_
  refine T_cond rfl (fun h19 => ?_) (fun h19 => ?_)
  ·
    have p19 := h19
    try simp only [decide_eq_true_eq, decide_eq_false_iff_not, Bool.not_eq_true', Bool.not_eq_false', Option.isNone_iff_eq_none, ne_eq, Decidable.not_not, Int.not_lt, Int.not_le] at p19
    have hk : k < m.parts.ls.length := by omega
    refine T_skip ?_
    refine X_then ?_
    refine T_seq ?_
    refine T_block ?_
    refine T_seq ?_
    refine T_region ?_
    refine TL_q (Qt_indexR rfl rfl (by omega) (by simp; omega)) rfl ?_
    refine TL_q (Qt_loadR (.slice _ _ _) rfl (vals_get _ _ hk)) rfl ?_
    refine TL_q (Qt_assign (.slice _ _ _) rfl) rfl ?_
    refine TL_nil ?_
    refine X_then ?_
    refine T_region ?_
    refine TL_q (Qt_move (.int .i64 _) rfl) rfl ?_
    refine TL_q (Qt_move (.slice _ _ _) rfl) rfl ?_
    refine TL_e rfl (Ef_call (wtext_c (by have := hs.each' hk; omega)) rfl (fun x24 => ?_))
    have ht1 := told_le m.abs hs k
    rw [List.length_append] at ht1
    have ht2 := hs.each' hk
    have ht3 := textB_length m.parts.ls[k].l (by omega)
    refine TL_q (Qt_val (Qt_add rfl rfl (by omega) (by omega)) (congrArg (Value.int .i64) (show ((((headM m.abs).length + (texts (m.abs.parts.take k)).length : Nat) : Nat) : Int) + ((textB m.parts.ls[k].l).length : Int) = ((((headM m.abs).length + (texts (m.abs.parts.take (k + 1))).length : Nat) : Nat) : Int) from by rw [texts_succ m hk, List.length_append]; omega))) rfl ?_
    refine TL_q (Qt_assign (.int .i64 _) rfl) rfl ?_
    refine TL_nil ?_
    refine X_block ?_
    refine X_then ?_
    refine T_region ?_
    first
      | refine TL_q (Qt_add rfl rfl (by omega) (by omega)) rfl ?_
      | refine TL_q (Qt_addw rfl rfl) rfl ?_
    refine TL_q (Qt_move (.int .i64 _) rfl) rfl ?_
    refine TL_nil ?_
    apply X_loop
    case ha => exact (by repeat (first | with_reducible exact agree_refl | refine agree_upd rfl ?_ | refine agree_mix rfl ?_ | refine agree_setAll rfl ?_))
    case hI => exact ⟨k + 1, rfl, rfl, by omega⟩
    case hm => exact by show m.parts.ls.length - (k + 1 : Int).toNat < m.parts.ls.length - (k : Int).toNat; omega
    case hH => exact (Subs.st inferInstance)
  ·
    have p19 := h19
    try simp only [decide_eq_true_eq, decide_eq_false_iff_not, Bool.not_eq_true', Bool.not_eq_false', Option.isNone_iff_eq_none, ne_eq, Decidable.not_not, Int.not_lt, Int.not_le] at p19
    rw [parts_all m (k := k) (by omega)]
    refine T_exit ?_
    refine X_then_exit ?_
    refine X_loop_exit ?_
    refine X_block_exit ?_
    refine X_then ?_
    refine T_seq ?_
    refine T_region ?_
    refine TL_q (Qt_move (.int .i64 _) rfl) rfl ?_
    refine TL_q (Qt_assign (.int .i64 _) rfl) rfl ?_
    refine TL_nil ?_
    refine X_then ?_
    refine T_ret ?_
    exact X_ret () [_] Try.results54 ⟨rfl, trivial⟩ (by rw [msgB_len]; rfl) (Subs.st inferInstance)
end Go.Proofs.Ytnijomppbgdmnaa
