/- Walks: the law CertsProve. -/
import Derived.Test.YtgjkgdjjolnhdaaRw
import Derived.Test.YtgjkgdjjolnhdaaCc
namespace Go.Proofs.Ytgjkgdjjolnhdaa
open Go.RowKit Go.Sx
set_option maxRecDepth 100000
set_option linter.unusedSimpArgs false
set_option linter.unusedVariables false
attribute [local irreducible] sealK openOfK keyT writD opn setD memK decidD longC
set_option maxHeartbeats 1000000 in
theorem certsProve_c {w0 : World} {H : List SA} {num : Int} {mk : Nat} (hmk : mk < 65536) {m : MsgV} {a : Option Addr} {ps : List BS} {c : Nat} [hp : RdC w0 H (.slice a ps.length c) 1 (ps.map BS.val)] [hpe : RdE w0 H ps] :
    CT Try.prog w0 (H) 6 [.agg (AskV.mk (ViewV.mk num (mk : Int)) m).cells, .slice a ps.length c] (α := Unit) (fun _ => .bool true) (fun _ => H) := by
  refine CT_intro Try.func6 rfl Try.ntmps6 rfl ?_
  refine T_seq ?_
  refine T_region ?_
  refine TL_e rfl (Ef_boxN rfl (fun b2 => ?_))
  refine TL_q (Qt_assign (.bool _) rfl) rfl ?_
  refine TL_nil ?_
  refine X_then ?_
  refine T_seq ?_
  refine T_seq ?_
  refine T_region ?_
  refine TL_e rfl (Ef_call (wakes17_c) rfl (fun x10 => ?_))
  refine TL_q (Qt_not rfl) rfl ?_
  refine TL_nil ?_
  refine X_then ?_
  refine T_cond rfl (fun h11 => ?_) (fun h11 => ?_)
  ·
    have p11 := h11
    try simp only [decide_eq_true_eq, decide_eq_false_iff_not, Bool.not_eq_true', Bool.not_eq_false', Option.isNone_iff_eq_none, ne_eq, Decidable.not_not, Int.not_lt, Int.not_le] at p11
    cases h11
  ·
    have p11 := h11
    try simp only [decide_eq_true_eq, decide_eq_false_iff_not, Bool.not_eq_true', Bool.not_eq_false', Option.isNone_iff_eq_none, ne_eq, Decidable.not_not, Int.not_lt, Int.not_le] at p11
    refine T_skip ?_
    refine X_then ?_
    refine T_seq ?_
    refine T_seq ?_
    refine T_region ?_
    refine TL_q (Qt_move (.slice _ _ _) rfl) rfl ?_
    refine TL_e rfl (Ef_call (long17_c (ps := ps)) rfl (fun x13 => ?_))
    refine TL_nil ?_
    refine X_then ?_
    refine T_cond rfl (fun h13 => ?_) (fun h13 => ?_)
    ·
      have p13 := h13
      try simp only [decide_eq_true_eq, decide_eq_false_iff_not, Bool.not_eq_true', Bool.not_eq_false', Option.isNone_iff_eq_none, ne_eq, Decidable.not_not, Int.not_lt, Int.not_le] at p13
      refine T_seq ?_
      refine T_region ?_
      refine TL_q (Qt_assign (.bool _) rfl) rfl ?_
      refine TL_nil ?_
      refine X_then ?_
      refine T_ret ?_
      refine X_then_ret ?_
      exact X_ret () [_] Try.results6 ⟨rfl, trivial⟩ rfl (Subs.st inferInstance)
    ·
      have p13 := h13
      try simp only [decide_eq_true_eq, decide_eq_false_iff_not, Bool.not_eq_true', Bool.not_eq_false', Option.isNone_iff_eq_none, ne_eq, Decidable.not_not, Int.not_lt, Int.not_le] at p13
      have hlp : longC (ps.map BS.l) = false := h13
      refine T_skip ?_
      refine X_then ?_
      refine T_seq ?_
      refine T_region ?_
      refine TL_e rfl (Ef_call (table17_c) rfl (fun x14 => ?_))
      refine TL_pure (fun hk14 => ?_)
      refine TL_e rfl (Ef_allocN (fun b5 => ?_))
      refine TL_n (Ef_storeN rfl rfl (?_))
      refine TL_nil ?_
      refine X_then ?_
      refine T_seq ?_
      refine T_region ?_
      refine TL_q (Qt_loadN rfl rfl) rfl ?_
      refine TL_q (Qt_fieldAddr 0 rfl rfl) rfl ?_
      refine TL_q (Qt_loadN rfl rfl) rfl ?_
      refine TL_q (Qt_fieldAddr 2 rfl rfl) rfl ?_
      refine TL_q (Qt_fieldAddr 6 rfl rfl) rfl ?_
      refine TL_q (Qt_load1 rfl) rfl ?_
      refine TL_q (Qt_fieldAddr 2 rfl rfl) rfl ?_
      refine TL_q (Qt_fieldAddr 7 rfl rfl) rfl ?_
      refine TL_q (Qt_loadN rfl rfl) rfl ?_
      refine TL_q (Qt_move (.slice _ _ _) rfl) rfl ?_
      refine TL_e rfl (Ef_call (decided_c (num := num) hmk (sa := x14.1.a) (sc := x14.1.c) (ls := x14.1.ls) (rt := ⟨none, 0, 0⟩) (ps := ps) (keyT_small hk14).2 (fun x hx => by have := (longC_small hlp).2 x hx; omega) (by have := (longC_small hlp).1; omega) (slot := m.slot) (h := m.hash)) rfl (fun x26 => ?_))
      refine TL_q (Qt_move (.tuple _) rfl) rfl ?_
      refine TL_q (Qt_extract rfl) rfl ?_
      refine TL_q (Qt_extract rfl) rfl ?_
      refine TL_q (Qt_assign (.int .i64 _) rfl) rfl ?_
      refine TL_q (Qt_assign (.int .i64 _) rfl) rfl ?_
      refine TL_nil ?_
      refine X_then ?_
      refine T_seq ?_
      refine T_region ?_
      refine TL_q (Qt_loadN rfl rfl) rfl ?_
      refine TL_q (Qt_fieldAddr 0 rfl rfl) rfl ?_
      refine TL_q (Qt_loadN rfl rfl) rfl ?_
      refine TL_q (Qt_fieldAddr 2 rfl rfl) rfl ?_
      refine TL_q (Qt_fieldAddr 6 rfl rfl) rfl ?_
      refine TL_q (Qt_load1 rfl) rfl ?_
      refine TL_q (Qt_fieldAddr 2 rfl rfl) rfl ?_
      refine TL_q (Qt_fieldAddr 7 rfl rfl) rfl ?_
      refine TL_q (Qt_loadN rfl rfl) rfl ?_
      refine TL_q (Qt_move (.slice _ _ _) rfl) rfl ?_
      refine TL_e rfl (Ef_call (rDecided_c (num := num) hmk (sa := x14.1.a) (sc := x14.1.c) (ls := x14.1.ls) (rt := ⟨none, 0, 0⟩) (ps := ps) (keyT_small hk14).2 (fun x hx => by have := (longC_small hlp).2 x hx; omega) (by have := (longC_small hlp).1; omega) (slot := m.slot) (h := m.hash)) rfl (fun x40 => ?_))
      refine TL_q (Qt_move (.tuple _) rfl) rfl ?_
      refine TL_q (Qt_extract rfl) rfl ?_
      refine TL_q (Qt_extract rfl) rfl ?_
      refine TL_q (Qt_assign (.int .i64 _) rfl) rfl ?_
      refine TL_q (Qt_assign (.int .i64 _) rfl) rfl ?_
      refine TL_nil ?_
      refine X_then ?_
      refine T_seq ?_
      refine T_draw (blk b2 (.cells (AskV.mk (ViewV.mk num (mk : Int)) m).cells 52 (0, 0)) :: blk b5 (.cells (KeysV.mk ⟨x14.1.a, x14.1.c, x14.1.ls⟩ ⟨none, 0, 0⟩).cells 33 (0, 0)) :: dat x14.2 (Deep.leads (PS.mk x14.1.a x14.1.c x14.1.ls)) :: H) [(0, true), (1, true), (2, true), (3, true), (4, true), (5, true), (6, true), (7, true), (8, true), (9, true), (10, true), (11, true), (12, true), (13, true), (14, true), (15, true), (16, true), (17, true), (18, true), (19, true), (20, true), (21, true), (23, true), (24, true), (25, true), (26, true), (27, true), (28, true), (29, true), (30, true), (31, true), (32, true), (33, true), (34, true), (35, true), (22, false), (36, false), (37, true), (38, true), (39, true)] (by kernel_rfl) (by kernel_rfl) rfl (by kernel_rfl) (Subs.st inferInstance) (fun hns0 => ?_)
      refine DL_q hns0 rfl (Qt_move (.int .i64 _) rfl) rfl ?_
      refine DL_q hns0 rfl (Qt_move (.int .i64 _) rfl) rfl ?_
      refine DL_q hns0 rfl (Qt_eql rfl rfl) rfl ?_
      refine DL_q hns0 rfl (Qt_move (.bool _) rfl) rfl ?_
      refine DL_split 46 rfl (fun h46 => ?_) (fun h46 => ?_)
      ·
        have p46 := h46
        try simp only [decide_eq_true_eq, decide_eq_false_iff_not, Bool.not_eq_true', Bool.not_eq_false', Option.isNone_iff_eq_none, ne_eq, Decidable.not_not, Int.not_lt, Int.not_le] at p46
        refine DL_qg hns0 rfl rfl rfl h46 (Qt_move (.int .i64 _) rfl) rfl ?_
        refine DL_qg hns0 rfl rfl rfl h46 (Qt_move (.int .i64 _) rfl) rfl ?_
        refine DL_qg hns0 rfl rfl rfl h46 (Qt_eql rfl rfl) rfl ?_
        refine DL_q hns0 rfl (Qt_pick_t (.bool _) rfl h46 rfl) rfl ?_
        refine DL_q hns0 rfl (Qt_move (.bool _) rfl) rfl ?_
        refine DL_split 51 rfl (fun h51 => ?_) (fun h51 => ?_)
        ·
          have p51 := h51
          try simp only [decide_eq_true_eq, decide_eq_false_iff_not, Bool.not_eq_true', Bool.not_eq_false', Option.isNone_iff_eq_none, ne_eq, Decidable.not_not, Int.not_lt, Int.not_le] at p51
          refine DL_qg hns0 rfl rfl rfl h51 (Qt_loadN rfl rfl) rfl ?_
          refine DL_qg hns0 rfl rfl rfl h51 (Qt_fieldAddr 0 rfl rfl) rfl ?_
          refine DL_qg hns0 rfl rfl rfl h51 (Qt_loadN rfl rfl) rfl ?_
          refine DL_qg hns0 rfl rfl rfl h51 (Qt_fieldAddr 2 rfl rfl) rfl ?_
          refine DL_qg hns0 rfl rfl rfl h51 (Qt_fieldAddr 5 rfl rfl) rfl ?_
          refine DL_qg hns0 rfl rfl rfl h51 (Qt_load1 rfl) rfl ?_
          refine DL_qg hns0 rfl rfl rfl h51 (Qt_fieldAddr 2 rfl rfl) rfl ?_
          refine DL_qg hns0 rfl rfl rfl h51 (Qt_fieldAddr 6 rfl rfl) rfl ?_
          refine DL_qg hns0 rfl rfl rfl h51 (Qt_load1 rfl) rfl ?_
          refine DL_qg hns0 rfl rfl rfl h51 (Qt_fieldAddr 2 rfl rfl) rfl ?_
          refine DL_qg hns0 rfl rfl rfl h51 (Qt_fieldAddr 7 rfl rfl) rfl ?_
          refine DL_qg hns0 rfl rfl rfl h51 (Qt_loadN rfl rfl) rfl ?_
          refine DL_qg hns0 rfl rfl rfl h51 (Qt_move (.slice _ _ _) rfl) rfl ?_
          refine DL_qg hns0 rfl rfl rfl h51 (Qt_loadN rfl rfl) rfl ?_
          refine DL_qg hns0 rfl rfl rfl h51 (Qt_fieldAddr 0 rfl rfl) rfl ?_
          refine DL_qg hns0 rfl rfl rfl h51 (Qt_loadN rfl rfl) rfl ?_
          refine DL_qg hns0 rfl rfl rfl h51 (Qt_fieldAddr 2 rfl rfl) rfl ?_
          refine DL_qg hns0 rfl rfl rfl h51 (Qt_fieldAddr 5 rfl rfl) rfl ?_
          refine DL_qg hns0 rfl rfl rfl h51 (Qt_load1 rfl) rfl ?_
          refine DL_qg hns0 rfl rfl rfl h51 (Qt_fieldAddr 2 rfl rfl) rfl ?_
          refine DL_qg hns0 rfl rfl rfl h51 (Qt_fieldAddr 6 rfl rfl) rfl ?_
          refine DL_qg hns0 rfl rfl rfl h51 (Qt_load1 rfl) rfl ?_
          refine DL_qg hns0 rfl rfl rfl h51 (Qt_fieldAddr 2 rfl rfl) rfl ?_
          refine DL_qg hns0 rfl rfl rfl h51 (Qt_fieldAddr 7 rfl rfl) rfl ?_
          refine DL_qg hns0 rfl rfl rfl h51 (Qt_loadN rfl rfl) rfl ?_
          refine DL_qg hns0 rfl rfl rfl h51 (Qt_move (.slice _ _ _) rfl) rfl ?_
          refine DL_eg rfl rfl rfl h51 rfl (Ef_call (written_c (num := num) hmk (sa := x14.1.a) (sc := x14.1.c) (ls := x14.1.ls) (rt := ⟨none, 0, 0⟩) (ps := ps) (keyT_small hk14).2 (fun x hx => by have := (longC_small hlp).2 x hx; omega) (by have := (longC_small hlp).1; omega) (reg := m.reg) (slot := m.slot) (h := m.hash)) rfl (fun x65 => ⟨(Subs.st inferInstance), ?_⟩))
          refine DL_eg rfl rfl rfl h51 rfl (Ef_call (rWritten_c (num := num) hmk (sa := x14.1.a) (sc := x14.1.c) (ls := x14.1.ls) (rt := ⟨none, 0, 0⟩) (ps := ps) (keyT_small hk14).2 (fun x hx => by have := (longC_small hlp).2 x hx; omega) (by have := (longC_small hlp).1; omega) (reg := m.reg) (slot := m.slot) (h := m.hash)) rfl (fun x79 => ⟨(Subs.st inferInstance), ?_⟩))
          refine DL_qg hns0 rfl rfl rfl h51 (Qt_eql rfl rfl) rfl ?_
          refine DL_q hns0 rfl (Qt_pick_t (.bool _) rfl h51 rfl) rfl ?_
          refine DL_q hns0 rfl (Qt_assign (.bool _) rfl) rfl ?_
          refine DL_nil ?_
          refine X_then ?_
          refine T_ret ?_
          exact X_ret () [.bool true] Try.results6 ⟨by refine congrArg Value.bool ?_; simp, trivial⟩ rfl (Subs.st inferInstance)
        ·
          have p51 := h51
          try simp only [decide_eq_true_eq, decide_eq_false_iff_not, Bool.not_eq_true', Bool.not_eq_false', Option.isNone_iff_eq_none, ne_eq, Decidable.not_not, Int.not_lt, Int.not_le] at p51
          exact absurd h51 (by simp)
      ·
        have p46 := h46
        try simp only [decide_eq_true_eq, decide_eq_false_iff_not, Bool.not_eq_true', Bool.not_eq_false', Option.isNone_iff_eq_none, ne_eq, Decidable.not_not, Int.not_lt, Int.not_le] at p46
        exact absurd h46 (by simp)
end Go.Proofs.Ytgjkgdjjolnhdaa
