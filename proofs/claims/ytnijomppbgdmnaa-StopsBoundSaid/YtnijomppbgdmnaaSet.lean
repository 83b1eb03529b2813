/- Walks: Open of package seals. -/
import Derived.Test.YtnijomppbgdmnaaSes
namespace Go.Proofs.Ytnijomppbgdmnaa
open Go.RowKit Go.Sx
set_option maxRecDepth 100000
set_option linter.unusedSimpArgs false
set_option linter.unusedVariables false
theorem openK_1 {K : List (List UInt8)} {l : List UInt8} (h : l.length < 32) : openK K l = (1, .zero) := if_pos h
theorem openK_e {K : List (List UInt8)} {l : List UInt8} (h : ¬ l.length < 32) (h1 : (getM (l.take (l.length - 32))).1 ≠ 0) : openK K l = ((getM (l.take (l.length - 32))).1, .zero) := by rw [openK, if_neg h, if_pos h1]
theorem openK_6 {K : List (List UInt8)} {l : List UInt8} (h : ¬ l.length < 32) (h1 : (getM (l.take (l.length - 32))).1 = 0) (h2 : (K.length : Int) ≤ (getM (l.take (l.length - 32))).2.frm) : openK K l = (6, .zero) := by rw [openK, if_neg h, if_neg (by omega), if_pos h2]
theorem openK_t {K : List (List UInt8)} {l : List UInt8} (h : ¬ l.length < 32) (h1 : (getM (l.take (l.length - 32))).1 = 0) (h2 : ¬ (K.length : Int) ≤ (getM (l.take (l.length - 32))).2.frm) :
    openK K l = if tagOf (K.getD (getM (l.take (l.length - 32))).2.frm.toNat []) (l.take (l.length - 32)) ≠ vec32 (l.drop (l.length - 32)) then (5, .zero) else (0, (getM (l.take (l.length - 32))).2) := by rw [openK, if_neg h, if_neg (by omega), if_neg h2]
attribute [local irreducible] tagOf getM

set_option maxHeartbeats 1000000 in
theorem open_c {w0 : World} {H : List SA} {k : KeysV} [rk : RdC w0 H (.slice k.seals.a k.seals.ls.length k.seals.c) 1 (k.seals.ls.map BS.val)] [rke : RdE w0 H k.seals.ls] (hkl : ∀ x ∈ k.seals.ls, x.l.length ≤ 4294967000) {a : Option Addr} {l : List UInt8} {c : Nat} [hr : RdB w0 H (.slice a l.length c) l] (hl : l.length ≤ 4294960000) :
    CT Try.prog w0 (H) 8 [.agg k.cells, .slice a l.length c] (α := MsgV × List Nat) (fun y => .tuple #[.agg y.1.cells, .int .i64 (openK (k.seals.ls.map BS.l) l).1]) (fun y => pu (y.1.abs = (openK (k.seals.ls.map BS.l) l).2) :: dat y.2 (Deep.leads y.1) :: H) := by
  refine CT_intro Try.func8 rfl Try.ntmps8 rfl ?_
  refine T_seq ?_
  refine T_region ?_
  refine TL_e rfl (Ef_boxN rfl (fun b2 => ?_))
  refine TL_e rfl (Ef_allocN (fun b4 => ?_))
  refine TL_q (Qt_assign (.int .i64 _) rfl) rfl ?_
  refine TL_nil ?_
  refine X_then ?_
  refine T_seq ?_
  refine T_region ?_
  refine TL_q (Qt_move (.slice _ _ _) rfl) rfl ?_
  refine TL_q (Qt_len_slice rfl Try.underlying36) rfl ?_
  first
    | refine TL_q (Qt_sub rfl rfl (by omega) (by omega)) rfl ?_
    | refine TL_q (Qt_subw rfl rfl) rfl ?_
  refine TL_q (Qt_assign (.int .i64 _) rfl) rfl ?_
  refine TL_nil ?_
  refine X_then ?_
  refine T_seq ?_
  refine T_seq ?_
  refine T_region ?_
  refine TL_q (Qt_move (.int .i64 _) rfl) rfl ?_
  refine TL_q (Qt_lss rfl rfl) rfl ?_
  refine TL_nil ?_
  refine X_then ?_
  refine T_cond rfl (fun h13 => ?_) (fun h13 => ?_)
  ·
    have p13 := h13
    try simp only [decide_eq_true_eq, decide_eq_false_iff_not, Bool.not_eq_true', Bool.not_eq_false', Option.isNone_iff_eq_none, ne_eq, Decidable.not_not, Int.not_lt, Int.not_le] at p13
    refine T_seq ?_
    refine T_region ?_
    refine TL_q (Qt_build [] rfl (by kernel_rfl)) rfl ?_
    refine TL_n (Ef_storeN rfl rfl (?_))
    refine TL_q (Qt_assign (.int .i64 _) rfl) rfl ?_
    refine TL_nil ?_
    refine X_then ?_
    refine T_ret ?_
    refine X_then_ret ?_
    have e := openK_1 (K := (k.seals.ls.map BS.l)) (l := l) (by omega)
    exact X_ret (MsgV.zero, []) [_, _] Try.results8 ⟨⟨_, rfl, res_cellN rfl⟩, rfl, trivial⟩ (by rw [e]; rfl) (fun w hw => (St.datMsgZero (Subs.st inferInstance w hw : St w0 H w)).addPure (by rw [e]; rfl))
  ·
    have p13 := h13
    try simp only [decide_eq_true_eq, decide_eq_false_iff_not, Bool.not_eq_true', Bool.not_eq_false', Option.isNone_iff_eq_none, ne_eq, Decidable.not_not, Int.not_lt, Int.not_le] at p13
    have h32 : ¬ l.length < 32 := by omega
    refine T_skip ?_
    refine X_then ?_
    refine T_seq ?_
    refine T_region ?_
    refine TL_q (Qt_move (.slice _ _ _) rfl) rfl ?_
    refine TL_q (Qt_move (.int .i64 _) rfl) rfl ?_
    refine TL_q (Qt_sliceB_h (l.length - 32) rfl (by refine congrArg (Value.int .i64) ?_; omega) (by omega)) rfl ?_
    refine TL_e rfl (Ef_call (wget_c (l := (l.take (l.length - 32))) (by simp; omega)) rfl (fun x19 => ?_))
    refine TL_pure (fun h19 => ?_)
    have hfrm : x19.1.frm = (getM (l.take (l.length - 32))).2.frm := congrArg MsgD.frm h19
    refine TL_q (Qt_move (.tuple _) rfl) rfl ?_
    refine TL_q (Qt_extract rfl) rfl ?_
    refine TL_q (Qt_extract rfl) rfl ?_
    refine TL_e rfl (Ef_allocN (fun b7 => ?_))
    refine TL_n (Ef_storeN rfl rfl (?_))
    refine TL_q (Qt_assign (.int .i64 _) rfl) rfl ?_
    refine TL_nil ?_
    refine X_then ?_
    refine T_seq ?_
    refine T_block ?_
    refine T_seq ?_
    refine T_region ?_
    refine TL_q (Qt_move (.int .i64 _) rfl) rfl ?_
    refine TL_q (Qt_neq rfl rfl) rfl ?_
    refine TL_q (Qt_assign (.bool _) rfl) rfl ?_
    refine TL_nil ?_
    refine X_then ?_
    refine T_cond rfl (fun h22 => ?_) (fun h22 => ?_)
    ·
      have p22 := h22
      try simp only [decide_eq_true_eq, decide_eq_false_iff_not, Bool.not_eq_true', Bool.not_eq_false', Option.isNone_iff_eq_none, ne_eq, Decidable.not_not, Int.not_lt, Int.not_le] at p22
      refine T_seq ?_
      refine T_region ?_
      refine TL_q (Qt_build [] rfl (by kernel_rfl)) rfl ?_
      refine TL_q (Qt_move (.int .i64 _) rfl) rfl ?_
      refine TL_n (Ef_storeN rfl rfl (?_))
      refine TL_q (Qt_assign (.int .i64 _) rfl) rfl ?_
      refine TL_nil ?_
      refine X_then ?_
      refine T_ret ?_
      refine X_block_ret ?_
      refine X_then_ret ?_
      have e := openK_e (K := (k.seals.ls.map BS.l)) h32 (by omega)
      exact X_ret (MsgV.zero, []) [_, _] Try.results8 ⟨⟨_, rfl, res_cellN rfl⟩, rfl, trivial⟩ (by rw [e]; rfl) (fun w hw => (St.datMsgZero (Subs.st inferInstance w hw : St w0 H w)).addPure (by rw [e]; rfl))
    ·
      have p22 := h22
      try simp only [decide_eq_true_eq, decide_eq_false_iff_not, Bool.not_eq_true', Bool.not_eq_false', Option.isNone_iff_eq_none, ne_eq, Decidable.not_not, Int.not_lt, Int.not_le] at p22
      have hz : (getM (l.take (l.length - 32))).1 = 0 := by omega
      refine T_seq ?_
      refine T_region ?_
      refine TL_q (Qt_fieldAddr 1 rfl rfl) rfl ?_
      refine TL_q (Qt_load1 rfl) rfl ?_
      refine TL_q (Qt_fieldAddr 0 rfl rfl) rfl ?_
      refine TL_q (Qt_load1 rfl) rfl ?_
      refine TL_q (Qt_len_slice rfl Try.underlying28) rfl ?_
      refine TL_q (Qt_geq rfl rfl) rfl ?_
      refine TL_q (Qt_assign (.bool _) rfl) rfl ?_
      refine TL_nil ?_
      refine X_then ?_
      refine T_cond rfl (fun h27 => ?_) (fun h27 => ?_)
      ·
        have p27 := h27
        try simp only [decide_eq_true_eq, decide_eq_false_iff_not, Bool.not_eq_true', Bool.not_eq_false', Option.isNone_iff_eq_none, ne_eq, Decidable.not_not, Int.not_lt, Int.not_le] at p27
        refine T_seq ?_
        refine T_region ?_
        refine TL_q (Qt_build [] rfl (by kernel_rfl)) rfl ?_
        refine TL_n (Ef_storeN rfl rfl (?_))
        refine TL_q (Qt_assign (.int .i64 _) rfl) rfl ?_
        refine TL_nil ?_
        refine X_then ?_
        refine T_ret ?_
        refine X_block_ret ?_
        refine X_then_ret ?_
        have e := openK_6 (K := (k.seals.ls.map BS.l)) h32 hz (by rw [List.length_map]; omega)
        exact X_ret (MsgV.zero, []) [_, _] Try.results8 ⟨⟨_, rfl, res_cellN rfl⟩, rfl, trivial⟩ (by rw [e]; rfl) (fun w hw => (St.datMsgZero (Subs.st inferInstance w hw : St w0 H w)).addPure (by rw [e]; rfl))
      ·
        have p27 := h27
        try simp only [decide_eq_true_eq, decide_eq_false_iff_not, Bool.not_eq_true', Bool.not_eq_false', Option.isNone_iff_eq_none, ne_eq, Decidable.not_not, Int.not_lt, Int.not_le] at p27
        have hfr := frm_range (getM_formed hz)
        have hlt : ¬ (k.seals.ls.length : Int) ≤ (getM (l.take (l.length - 32))).2.frm := by omega
        have hk : x19.1.frm.toNat < k.seals.ls.length := by omega
        have : RdB w0 H (.slice k.seals.ls[x19.1.frm.toNat].a k.seals.ls[x19.1.frm.toNat].l.length k.seals.ls[x19.1.frm.toNat].c) k.seals.ls[x19.1.frm.toNat].l := rke.get (List.getElem_mem hk)
        have hkl1 := hkl _ (List.getElem_mem hk)
        have ht := openK_t (K := (k.seals.ls.map BS.l)) h32 hz (by rw [List.length_map]; exact hlt)
        rw [← hfrm, keys_get hk] at ht
        refine T_seq ?_
        refine T_draw (blk b7 (.cells x19.1.cells 43 (0, 0)) :: blk b2 (.cells k.cells 32 (0, 0)) :: H) [(0, true), (1, true), (2, true), (3, true), (4, true), (5, true), (6, true), (7, true), (8, true), (10, true), (11, true), (12, true), (13, true), (14, true), (9, false), (15, true), (16, true)] (by kernel_rfl) (by kernel_rfl) rfl (by kernel_rfl) (Subs.st inferInstance) (fun hns0 => ?_)
        refine DL_q hns0 rfl (Qt_fieldAddr 0 rfl rfl) rfl ?_
        refine DL_q hns0 rfl (Qt_load1 rfl) rfl ?_
        refine DL_q hns0 rfl (Qt_fieldAddr 1 rfl rfl) rfl ?_
        refine DL_q hns0 rfl (Qt_load1 rfl) rfl ?_
        refine DL_q hns0 rfl (Qt_indexR rfl rfl (by omega) (by simp; omega)) rfl ?_
        refine DL_q hns0 rfl (Qt_loadR (.slice _ _ _) rfl (vals_get _ _ hk)) rfl ?_
        refine DL_q hns0 rfl (Qt_move (.slice _ _ _) rfl) rfl ?_
        refine DL_q hns0 rfl (Qt_move (.int .i64 _) rfl) rfl ?_
        refine DL_q hns0 rfl (Qt_sliceB_h (l.length - 32) rfl (by refine congrArg (Value.int .i64) ?_; omega) (by omega)) rfl ?_
        refine DL_q hns0 rfl (Qt_move (.slice _ _ _) rfl) rfl ?_
        refine DL_q hns0 rfl (Qt_move (.int .i64 _) rfl) rfl ?_
        refine DL_q hns0 rfl (Qt_sliceB_l (l.length - 32) rfl (by refine congrArg (Value.int .i64) ?_; omega) (by omega)) rfl ?_
        refine DL_q hns0 rfl (Qt_arrayAt rfl Try.underlying35 (by simp; omega) (by decide)) rfl ?_
        refine DL_q hns0 rfl (Qt_loadRN 1 (hlist (vec32 (l.drop (l.length - 32)))) rfl (by rw [List.drop_zero, vec32_cells _ (by simp; omega)]; exact List.take_of_length_le (by simp; omega)) (by simp) (by decide)) rfl ?_
        refine DL_e rfl rfl (Ef_call (tag_c (l := (l.take (l.length - 32))) (by omega) (by simp; omega)) rfl (fun x45 => ⟨(Subs.st inferInstance), ?_⟩))
        refine DL_q hns0 rfl (Qt_agg_neq rfl rfl (by kernel_rfl)) rfl ?_
        refine DL_q hns0 rfl (Qt_assign (.bool _) rfl) rfl ?_
        refine DL_nil ?_
        refine X_then ?_
        refine T_cond rfl (fun h35 => ?_) (fun h35 => ?_)
        ·
          have p35 := h35
          try simp only [decide_eq_true_eq, decide_eq_false_iff_not, Bool.not_eq_true', Bool.not_eq_false', Option.isNone_iff_eq_none, ne_eq, Decidable.not_not, Int.not_lt, Int.not_le] at p35
          refine T_seq ?_
          refine T_region ?_
          refine TL_q (Qt_build [] rfl (by kernel_rfl)) rfl ?_
          refine TL_n (Ef_storeN rfl rfl (?_))
          refine TL_q (Qt_assign (.int .i64 _) rfl) rfl ?_
          refine TL_nil ?_
          refine X_then ?_
          refine T_ret ?_
          refine X_block_ret ?_
          refine X_then_ret ?_
          rw [if_pos (by simpa using h35)] at ht
          have e := ht
          exact X_ret (MsgV.zero, []) [_, _] Try.results8 ⟨⟨_, rfl, res_cellN rfl⟩, rfl, trivial⟩ (by rw [e]; rfl) (fun w hw => (St.datMsgZero (Subs.st inferInstance w hw : St w0 H w)).addPure (by rw [e]; rfl))
        ·
          have p35 := h35
          try simp only [decide_eq_true_eq, decide_eq_false_iff_not, Bool.not_eq_true', Bool.not_eq_false', Option.isNone_iff_eq_none, ne_eq, Decidable.not_not, Int.not_lt, Int.not_le] at p35
          refine T_skip ?_
          refine X_block ?_
          refine X_then ?_
          refine T_seq ?_
          refine T_region ?_
          refine TL_q (Qt_loadN rfl rfl) rfl ?_
          refine TL_n (Ef_storeN rfl rfl (?_))
          refine TL_q (Qt_assign (.int .i64 _) rfl) rfl ?_
          refine TL_nil ?_
          refine X_then ?_
          refine T_ret ?_
          rw [if_neg (by simpa using h35)] at ht
          exact X_ret x19 [_, _] Try.results8 ⟨⟨_, rfl, res_cellN rfl⟩, rfl, trivial⟩ (by rw [ht]; rfl) (fun w hw => (Subs.st inferInstance w hw : St w0 (dat x19.2 (Deep.leads x19.1) :: H) w).addPure (by rw [ht]; exact h19))
end Go.Proofs.Ytnijomppbgdmnaa
