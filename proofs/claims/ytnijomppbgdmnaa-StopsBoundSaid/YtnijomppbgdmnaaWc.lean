/- Walks: Put of package wire. -/
import Derived.Test.YtnijomppbgdmnaaWb
namespace Go.Proofs.Ytnijomppbgdmnaa
open Go.RowKit Go.Sx
set_option maxRecDepth 100000
set_option linter.unusedSimpArgs false
set_option linter.unusedVariables false
set_option maxHeartbeats 1000000 in
theorem wput_c {w0 : World} {H : List SA} {m : MsgV} [rb : RdB w0 H (.slice m.body.a m.body.l.length m.body.c) m.body.l] [rc : RdC w0 H (.slice m.parts.a m.parts.ls.length m.parts.c) 1 (m.parts.ls.map BS.val)] [re : RdE w0 H m.parts.ls] (hs : SmallM m.abs) :
    CT Try.prog w0 (H) 26 [.agg m.cells] (α := AC) (fun y => .tuple #[.slice y.a (putM m.abs).1.length y.c, .int .i64 (putM m.abs).2]) (fun y => row (.slice y.a (putM m.abs).1.length y.c) 5 1 (bytesV (putM m.abs).1) :: H) := by
  refine CT_intro Try.func26 rfl Try.ntmps26 rfl ?_
  refine T_seq ?_
  refine T_region ?_
  refine TL_e rfl (Ef_boxN rfl (fun b1 => ?_))
  refine TL_q (Qt_assign (.slice _ _ _) rfl) rfl ?_
  refine TL_q (Qt_assign (.int .i64 _) rfl) rfl ?_
  refine TL_nil ?_
  refine X_then ?_
  refine T_seq ?_
  refine T_block ?_
  refine T_seq ?_
  refine T_region ?_
  refine TL_q (Qt_fieldAddr 38 rfl rfl) rfl ?_
  refine TL_q (Qt_load1 rfl) rfl ?_
  refine TL_q (Qt_len_slice rfl Try.underlying28) rfl ?_
  refine TL_q (Qt_gtr rfl rfl) rfl ?_
  refine TL_q (Qt_move (.bool _) rfl) rfl ?_
  refine TL_split 15 rfl (fun h15 => ?_) (fun h15 => ?_)
  ·
    have p15 := h15
    try simp only [decide_eq_true_eq, decide_eq_false_iff_not, Bool.not_eq_true', Bool.not_eq_false', Option.isNone_iff_eq_none, ne_eq, Decidable.not_not, Int.not_lt, Int.not_le] at p15
    refine TL_pass rfl rfl h15 rfl ?_
    refine TL_pass rfl rfl h15 rfl ?_
    refine TL_pass rfl rfl h15 rfl ?_
    refine TL_q (Qt_pick_t (.bool _) rfl h15 rfl) rfl ?_
    refine TL_q (Qt_assign (.bool _) rfl) rfl ?_
    refine TL_nil ?_
    refine X_then ?_
    refine T_cond_true rfl rfl ?_
    refine T_seq ?_
    refine T_region ?_
    refine TL_q (Qt_assign (.slice _ _ _) rfl) rfl ?_
    refine TL_q (Qt_assign (.int .i64 _) rfl) rfl ?_
    refine TL_nil ?_
    refine X_then ?_
    refine T_ret ?_
    refine X_block_ret ?_
    refine X_then_ret ?_
    have e : putM m.abs = ([], 4) := by unfold putM; rw [if_pos (by rw [parts_len]; omega)]
    simp only [e]
    exact X_ret ⟨none, 0⟩ [_, _] Try.results26 ⟨rfl, rfl, trivial⟩ rfl (fun w hw => (Subs.st inferInstance w hw : St w0 H w).addNilB 5)
  ·
    have p15 := h15
    try simp only [decide_eq_true_eq, decide_eq_false_iff_not, Bool.not_eq_true', Bool.not_eq_false', Option.isNone_iff_eq_none, ne_eq, Decidable.not_not, Int.not_lt, Int.not_le] at p15
    refine TL_take rfl rfl h15 ?_
    refine TL_q (Qt_loadN rfl rfl) rfl ?_
    refine TL_take rfl rfl h15 ?_
    refine TL_e rfl (Ef_call (size_c hs) rfl (fun x17 => ?_))
    refine TL_take rfl rfl h15 ?_
    refine TL_q (Qt_gtr rfl rfl) rfl ?_
    refine TL_q (Qt_pick_f (.bool _) rfl h15 rfl) rfl ?_
    refine TL_q (Qt_assign (.bool _) rfl) rfl ?_
    refine TL_nil ?_
    refine X_then ?_
    refine T_cond rfl (fun h10 => ?_) (fun h10 => ?_)
    ·
      have p10 := h10
      try simp only [decide_eq_true_eq, decide_eq_false_iff_not, Bool.not_eq_true', Bool.not_eq_false', Option.isNone_iff_eq_none, ne_eq, Decidable.not_not, Int.not_lt, Int.not_le] at p10
      refine T_seq ?_
      refine T_region ?_
      refine TL_q (Qt_assign (.slice _ _ _) rfl) rfl ?_
      refine TL_q (Qt_assign (.int .i64 _) rfl) rfl ?_
      refine TL_nil ?_
      refine X_then ?_
      refine T_ret ?_
      refine X_block_ret ?_
      refine X_then_ret ?_
      have e : putM m.abs = ([], 4) := by unfold putM; rw [if_pos (by rw [parts_len]; omega)]
      simp only [e]
      exact X_ret ⟨none, 0⟩ [_, _] Try.results26 ⟨rfl, rfl, trivial⟩ rfl (fun w hw => (Subs.st inferInstance w hw : St w0 H w).addNilB 5)
    ·
      have p10 := h10
      try simp only [decide_eq_true_eq, decide_eq_false_iff_not, Bool.not_eq_true', Bool.not_eq_false', Option.isNone_iff_eq_none, ne_eq, Decidable.not_not, Int.not_lt, Int.not_le] at p10
      refine T_seq ?_
      refine T_region ?_
      refine TL_q (Qt_loadN rfl rfl) rfl ?_
      refine TL_e rfl (Ef_call (wformed_c) rfl (fun x22 => ?_))
      refine TL_q (Qt_not rfl) rfl ?_
      refine TL_q (Qt_assign (.bool _) rfl) rfl ?_
      refine TL_nil ?_
      refine X_then ?_
      refine T_cond rfl (fun h20 => ?_) (fun h20 => ?_)
      ·
        have p20 := h20
        try simp only [decide_eq_true_eq, decide_eq_false_iff_not, Bool.not_eq_true', Bool.not_eq_false', Option.isNone_iff_eq_none, ne_eq, Decidable.not_not, Int.not_lt, Int.not_le] at p20
        refine T_seq ?_
        refine T_region ?_
        refine TL_q (Qt_assign (.slice _ _ _) rfl) rfl ?_
        refine TL_q (Qt_assign (.int .i64 _) rfl) rfl ?_
        refine TL_nil ?_
        refine X_then ?_
        refine T_ret ?_
        refine X_block_ret ?_
        refine X_then_ret ?_
        have e : putM m.abs = ([], 15) := by unfold putM; rw [if_neg (by rw [parts_len]; omega), if_neg (by simpa using h20)]
        simp only [e]
        exact X_ret ⟨none, 0⟩ [_, _] Try.results26 ⟨rfl, rfl, trivial⟩ rfl (fun w hw => (Subs.st inferInstance w hw : St w0 H w).addNilB 5)
      ·
        have p20 := h20
        try simp only [decide_eq_true_eq, decide_eq_false_iff_not, Bool.not_eq_true', Bool.not_eq_false', Option.isNone_iff_eq_none, ne_eq, Decidable.not_not, Int.not_lt, Int.not_le] at p20
        refine T_skip ?_
        refine X_block ?_
        refine X_then ?_
        refine T_seq ?_
        refine T_region ?_
        refine TL_q (Qt_assign (.slice _ _ _) rfl) rfl ?_
        refine TL_nil ?_
        refine X_then ?_
        refine T_seq ?_
        refine T_region ?_
        have hp20 : m.parts.ls.length ≤ 20 := by have := hs.parts; rwa [parts_len] at this
        refine TL_e rfl (Ef_call (widths_c) rfl (fun x24 => ?_))
        refine TL_e rfl (Ef_allocN (fun b5 => ?_))
        refine TL_n (Ef_storeN rfl rfl (?_))
        refine TL_nil ?_
        refine X_then ?_
        refine T_seq ?_
        refine T_seq ?_
        refine T_region ?_
        refine TL_q (Qt_fieldAddr 0 rfl rfl) rfl ?_
        refine TL_q (Qt_load1 rfl) rfl ?_
        refine TL_q (Qt_fieldAddr 1 rfl rfl) rfl ?_
        refine TL_q (Qt_load1 rfl) rfl ?_
        refine TL_q (Qt_fieldAddr 2 rfl rfl) rfl ?_
        refine TL_q (Qt_load1 rfl) rfl ?_
        refine TL_q (Qt_fieldAddr 3 rfl rfl) rfl ?_
        refine TL_q (Qt_load1 rfl) rfl ?_
        refine TL_q (Qt_fieldAddr 4 rfl rfl) rfl ?_
        refine TL_q (Qt_load1 rfl) rfl ?_
        refine TL_q (Qt_build_arr (nums5 m.abs) Try.underlying118 rfl rfl (fill5 _ _ _ _ _)) rfl ?_
        refine TL_q (Qt_move (.int .i64 _) rfl) rfl ?_
        refine TL_nil ?_
        refine X_then ?_
        refine T_block ?_
        refine T_loop [4, 6, 7, 36, 37, 38, 39, 40, 41, 42, 43, 44, 45, 46, 47] [36, 4] (fun us H' => ∃ (k : Nat) (a : Option Addr) (c : Nat), us = [.int .i64 (k : Int), .slice a (preM m.abs k).length c] ∧ row (.slice a (preM m.abs k).length c) 5 1 (bytesV (preM m.abs k)) :: blk b5 (.cells w5 118 (0, 0)) :: blk b1 (.cells m.cells 43 (0, 0)) :: H = H' ∧ k ≤ 5) (fun us => match us with | .int _ i :: _ => 5 - i.toNat | _ => 0) ⟨0, none, 0, by rw [show preM m.abs 0 = [] from rfl]; rfl, by rw [show preM m.abs 0 = [] from rfl], by omega⟩ (fun w hw => hw.addNilB 5) ?_
        rintro τ0 _ _  ⟨k, a1, c1, rfl, rfl, hk0⟩ _
        refine T_seq ?_
        refine T_region ?_
        refine TL_q (Qt_lss rfl rfl) rfl ?_
        refine TL_nil ?_
        refine X_then ?_
        refine T_seq ?_
        refine T_cond rfl (fun h37 => ?_) (fun h37 => ?_)
        ·
          have p37 := h37
          try simp only [decide_eq_true_eq, decide_eq_false_iff_not, Bool.not_eq_true', Bool.not_eq_false', Option.isNone_iff_eq_none, ne_eq, Decidable.not_not, Int.not_lt, Int.not_le] at p37
          have hk : k < 5 := by omega
          have hcell : CellAt w5 (0 + (k : Int).toNat * 1) (.int .i64 ((wid k : Nat) : Int)) := ⟨w5_at (by simp) hk⟩
          refine T_skip ?_
          refine X_then ?_
          refine T_seq ?_
          refine T_block ?_
          refine T_seq ?_
          refine T_region ?_
          refine TL_q (Qt_move (.int .i64 _) rfl) rfl ?_
          refine TL_q (Qt_index (.int .i64 (numM m.abs k)) rfl rfl Try.underlying118 (by omega) (by omega) (by exact nums5_at m.abs (by omega) hk)) rfl ?_
          refine TL_q (Qt_assign (.int .i64 _) rfl) rfl ?_
          refine TL_q (Qt_assign (.int .i64 _) rfl) rfl ?_
          refine TL_nil ?_
          refine X_then ?_
          refine T_region ?_
          refine TL_q (Qt_move (.slice _ _ _) rfl) rfl ?_
          refine TL_q (Qt_move (.int .i64 _) rfl) rfl ?_
          refine TL_q (Qt_conv rfl rfl Try.underlying121) rfl ?_
          refine TL_q (Qt_move (.int .i64 _) rfl) rfl ?_
          refine TL_q (Qt_indexAddr_arr (sz := 1) rfl rfl Try.underlying118 rfl rfl (by omega) (by omega)) rfl ?_
          refine TL_q (Qt_load1 rfl) rfl ?_
          refine TL_e rfl (Ef_call (putFixed_c (by have := preM_le m.abs k; omega) (u64_range _).1) rfl (fun x46 => ?_))
          rw [putFixed_w, show preM m.abs k ++ fixed (u64 (numM m.abs k)).toNat (wid k) = preM m.abs (k + 1) from rfl]
          refine TL_q (Qt_assign (.slice _ _ _) rfl) rfl ?_
          refine TL_nil ?_
          refine X_block ?_
          refine X_then ?_
          refine T_region ?_
          first
            | refine TL_q (Qt_add rfl rfl (by omega) (by omega)) rfl ?_
            | refine TL_q (Qt_addw rfl rfl) rfl ?_
          refine TL_q (Qt_move (.int .i64 _) rfl) rfl ?_
          refine TL_nil ?_
          apply X_loop
          case ha => exact (by repeat (first | with_reducible exact agree_refl | refine agree_upd rfl ?_ | refine agree_mix rfl ?_ | refine agree_setAll rfl ?_))
          case hI => exact ⟨k + 1, _, _, rfl, rfl, by omega⟩
          case hm => exact by show 5 - (k + 1 : Int).toNat < 5 - (k : Int).toNat; omega
          case hH => exact (Subs.st inferInstance)
        ·
          have p37 := h37
          try simp only [decide_eq_true_eq, decide_eq_false_iff_not, Bool.not_eq_true', Bool.not_eq_false', Option.isNone_iff_eq_none, ne_eq, Decidable.not_not, Int.not_lt, Int.not_le] at p37
          obtain rfl : k = 5 := by omega
          refine T_exit ?_
          refine X_then_exit ?_
          refine X_loop_exit ?_
          refine X_block_exit ?_
          refine X_then ?_
          refine T_seq ?_
          refine T_draw (blk b1 (.cells m.cells 43 (0, 0)) :: H) [(0, true), (1, true), (2, true), (4, true), (5, true), (3, false), (6, false), (7, true)] (by kernel_rfl) (by kernel_rfl) rfl (by kernel_rfl) (Subs.st inferInstance) (fun hns0 => ?_)
          refine DL_q hns0 rfl (Qt_move (.slice _ _ _) rfl) rfl ?_
          refine DL_q hns0 rfl (Qt_fieldAddr 5 rfl rfl) rfl ?_
          refine DL_q hns0 rfl (Qt_slice_arr rfl Try.underlying35 rfl rfl) rfl ?_
          refine DL_q hns0 rfl (Qt_fieldAddr 37 rfl rfl) rfl ?_
          refine DL_q hns0 rfl (Qt_load1 rfl) rfl ?_
          refine DL_e rfl rfl (Ef_appendB (sv := .slice _ _ _) (xv := .slice _ _ _) (hn := RdB.hash m.hash inferInstance inferInstance (by decide)) rfl rfl (by simp [preM_5]) rfl (fun a51 c51 => ⟨(Subs.st inferInstance), ?_⟩))
          refine DL_e rfl rfl (Ef_call (putText_c (by simp [preM_5]) (by have : m.body.l.length ≤ 3000 := hs.body; omega)) rfl (fun x54 => ⟨(Subs.st inferInstance), ?_⟩))
          rw [show preM m.abs 5 ++ m.hash.toList ++ packed m.body.l.length ++ m.body.l = preM m.abs 5 ++ m.hash.toList ++ textB m.abs.body from by simp [textB, MsgV.abs]]
          have hh : (preM m.abs 5 ++ m.hash.toList ++ textB m.abs.body).length ≤ 100000 := by have h1 := headM_le m.abs hs; have h2 := headM_len m.abs; simp only [List.length_append, preM_5, Vector.length_toList]; omega
          refine DL_q hns0 rfl (Qt_assign (.slice _ _ _) rfl) rfl ?_
          refine DL_nil ?_
          refine X_then ?_
          refine T_seq ?_
          refine T_region ?_
          refine TL_q (Qt_move (.slice _ _ _) rfl) rfl ?_
          refine TL_q (Qt_fieldAddr 38 rfl rfl) rfl ?_
          refine TL_q (Qt_load1 rfl) rfl ?_
          refine TL_q (Qt_len_slice rfl Try.underlying28) rfl ?_
          refine TL_q (Qt_conv_u64 rfl rfl Try.underlying121 (by omega) (by omega)) rfl ?_
          refine TL_e rfl (Ef_call (putPacked_c (by have := hh; omega) (by omega) (by omega)) rfl (fun x60 => ?_))
          rw [show preM m.abs 5 ++ m.hash.toList ++ textB m.abs.body ++ packed (m.parts.ls.length : Int).toNat = headM m.abs from by simp [headM, MsgV.abs]]
          refine TL_q (Qt_assign (.slice _ _ _) rfl) rfl ?_
          refine TL_nil ?_
          refine X_then ?_
          refine T_seq ?_
          refine T_seq ?_
          refine T_region ?_
          refine TL_q (Qt_fieldAddr 38 rfl rfl) rfl ?_
          refine TL_q (Qt_load1 rfl) rfl ?_
          refine TL_q (Qt_len_slice rfl Try.underlying28) rfl ?_
          refine TL_q (Qt_move (.int .i64 _) rfl) rfl ?_
          refine TL_nil ?_
          refine X_then ?_
          refine T_block ?_
          refine T_loop [4, 9, 64, 65, 66, 67, 68, 69, 70, 71] [64, 4] (fun us H' => ∃ (k : Nat) (a : Option Addr) (c : Nat), us = [.int .i64 (k : Int), .slice a (headM m.abs ++ texts (m.abs.parts.take k)).length c] ∧ row (.slice a (headM m.abs ++ texts (m.abs.parts.take k)).length c) 5 1 (bytesV (headM m.abs ++ texts (m.abs.parts.take k))) :: blk b5 (.cells w5 118 (0, 0)) :: blk b1 (.cells m.cells 43 (0, 0)) :: H = H' ∧ k ≤ m.parts.ls.length) (fun us => match us with | .int _ i :: _ => m.parts.ls.length - i.toNat | _ => 0) ⟨0, x60.a, x60.c, by rw [List.take_zero, show texts [] = [] from rfl, List.append_nil]; rfl, by rw [List.take_zero, show texts [] = [] from rfl, List.append_nil], by omega⟩ (Subs.st inferInstance) ?_
          rintro τ1 _ _  ⟨k, a2, c2, rfl, rfl, hk0⟩ _
          refine T_seq ?_
          refine T_region ?_
          refine TL_q (Qt_lss rfl rfl) rfl ?_
          refine TL_nil ?_
          refine X_then ?_
          refine T_seq ?_
          refine T_cond rfl (fun h65 => ?_) (fun h65 => ?_)
          ·
            have p65 := h65
            try simp only [decide_eq_true_eq, decide_eq_false_iff_not, Bool.not_eq_true', Bool.not_eq_false', Option.isNone_iff_eq_none, ne_eq, Decidable.not_not, Int.not_lt, Int.not_le] at p65
            have hq : k < m.parts.ls.length := by omega
            have hk := hq
            have : RdB w0 H (.slice m.parts.ls[k].a m.parts.ls[k].l.length m.parts.ls[k].c) m.parts.ls[k].l := re.get (List.getElem_mem hq)
            refine T_skip ?_
            refine X_then ?_
            refine T_seq ?_
            refine T_block ?_
            refine T_seq ?_
            refine T_region ?_
            refine TL_q (Qt_indexR rfl rfl (by omega) (by simp; omega)) rfl ?_
            refine TL_q (Qt_loadR (.slice _ _ _) rfl (vals_get _ _ hq)) rfl ?_
            refine TL_q (Qt_assign (.slice _ _ _) rfl) rfl ?_
            refine TL_nil ?_
            refine X_then ?_
            refine T_region ?_
            refine TL_q (Qt_move (.slice _ _ _) rfl) rfl ?_
            refine TL_q (Qt_move (.slice _ _ _) rfl) rfl ?_
            refine TL_e rfl (Ef_call (putText_c (by have := told_le m.abs hs k; omega) (by have := hs.each' hk; omega)) rfl (fun x70 => ?_))
            rw [show headM m.abs ++ texts (m.abs.parts.take k) ++ packed m.parts.ls[k].l.length ++ m.parts.ls[k].l = headM m.abs ++ texts (m.abs.parts.take (k + 1)) from by rw [texts_succ m hq]; simp [textB]]
            refine TL_q (Qt_assign (.slice _ _ _) rfl) rfl ?_
            refine TL_nil ?_
            refine X_block ?_
            refine X_then ?_
            refine T_region ?_
            first
              | refine TL_q (Qt_add rfl rfl (by omega) (by omega)) rfl ?_
              | refine TL_q (Qt_addw rfl rfl) rfl ?_
            refine TL_q (Qt_move (.int .i64 _) rfl) rfl ?_
            refine TL_nil ?_
            apply X_loop
            case ha => exact (by repeat (first | with_reducible exact agree_refl | refine agree_upd rfl ?_ | refine agree_mix rfl ?_ | refine agree_setAll rfl ?_))
            case hI => exact ⟨k + 1, _, _, rfl, rfl, by omega⟩
            case hm => exact by show m.parts.ls.length - (k + 1 : Int).toNat < m.parts.ls.length - (k : Int).toNat; omega
            case hH => exact (Subs.st inferInstance)
          ·
            have p65 := h65
            try simp only [decide_eq_true_eq, decide_eq_false_iff_not, Bool.not_eq_true', Bool.not_eq_false', Option.isNone_iff_eq_none, ne_eq, Decidable.not_not, Int.not_lt, Int.not_le] at p65
            rw [parts_all m (k := k) (by omega), show headM m.abs ++ texts m.abs.parts = msgB m.abs from rfl]
            refine T_exit ?_
            refine X_then_exit ?_
            refine X_loop_exit ?_
            refine X_block_exit ?_
            refine X_then ?_
            refine T_seq ?_
            refine T_region ?_
            refine TL_q (Qt_move (.slice _ _ _) rfl) rfl ?_
            refine TL_q (Qt_assign (.slice _ _ _) rfl) rfl ?_
            refine TL_q (Qt_assign (.int .i64 _) rfl) rfl ?_
            refine TL_nil ?_
            refine X_then ?_
            refine T_ret ?_
            have e : putM m.abs = (msgB m.abs, 0) := by unfold putM; rw [if_neg (by rw [parts_len]; omega), if_pos (by simpa using h20)]
            simp only [e]
            exact X_ret ⟨a2, c2⟩ [_, _] Try.results26 ⟨rfl, rfl, trivial⟩ rfl (Subs.st inferInstance)
end Go.Proofs.Ytnijomppbgdmnaa
