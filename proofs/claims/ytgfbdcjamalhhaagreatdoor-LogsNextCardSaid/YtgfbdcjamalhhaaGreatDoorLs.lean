/- Walks of package logs: records and segments are read. -/
import Derived.Test.YtgfbdcjamalhhaaGreatDoorLq
import Derived.Test.YtgfbdcjamalhhaaGreatDoorSu
namespace Go.Proofs.YtgfbdcjamalhhaaGreatDoor
open Go.RowKit Go.Sx
set_option maxRecDepth 100000
set_option linter.unusedSimpArgs false
set_option linter.unusedVariables false
set_option maxHeartbeats 1000000 in
theorem at_c {w0 : World} {H : List SA} {p k : Nat} {b : BS} :
    CT Tryz.prog w0 (blk p (.cells (ReaderV.mk b (k : Int)).cells 267 (0, 0)) :: H) 158 [.pointer (some ⟨p, 0, none⟩)] (α := Unit) (fun _ => .int .i64 (k : Int)) (fun _ => blk p (.cells (ReaderV.mk b (k : Int)).cells 267 (0, 0)) :: H) := by
  refine CT_intro Tryz.func158 rfl Tryz.ntmps158 rfl ?_
  refine T_seq ?_
  refine T_region ?_
  refine TL_q (Qt_assign (.int .i64 _) rfl) rfl ?_
  refine TL_nil ?_
  refine X_then ?_
  refine T_seq ?_
  refine T_seq ?_
  refine T_region ?_
  refine TL_q (Qt_move (.pointer _) rfl) rfl ?_
  refine TL_q (Qt_ptr_nil rfl rfl Tryz.underlying189) rfl ?_
  refine TL_nil ?_
  refine X_then ?_
  refine T_cond_false rfl (by first | rfl | decide) ?_
  refine T_skip ?_
  refine X_then ?_
  refine T_seq ?_
  refine T_region ?_
  refine TL_q (Qt_move (.pointer _) rfl) rfl ?_
  refine TL_q (Qt_nilCheck rfl) rfl ?_
  refine TL_q (Qt_fieldAddr 1 rfl rfl) rfl ?_
  refine TL_q (Qt_load1 rfl) rfl ?_
  refine TL_q (Qt_assign (.int .i64 _) rfl) rfl ?_
  refine TL_nil ?_
  refine X_then ?_
  refine T_ret ?_
  exact X_ret () [_] Tryz.results158 ⟨rfl, trivial⟩ rfl (Subs.st inferInstance)
set_option maxHeartbeats 1000000 in
theorem equal_c {w0 : World} {H : List SA} {a a2 : Option Addr} {l m : List UInt8} {c c2 : Nat} [hr : RdB w0 H (.slice a l.length c) l] [hr2 : RdB w0 H (.slice a2 m.length c2) m] (hl : l.length ≤ 4294967296) :
    CT Tryz.prog w0 (H) 115 [.slice a l.length c, .slice a2 m.length c2] (α := Unit) (fun _ => .bool (decide (l = m))) (fun _ => H) := by
  refine CT_intro Tryz.func115 rfl Tryz.ntmps115 rfl ?_
  refine T_seq ?_
  refine T_region ?_
  refine TL_q (Qt_assign (.bool _) rfl) rfl ?_
  refine TL_nil ?_
  refine X_then ?_
  refine T_seq ?_
  refine T_seq ?_
  refine T_region ?_
  refine TL_q (Qt_move (.slice _ _ _) rfl) rfl ?_
  refine TL_q (Qt_len_slice rfl Tryz.underlying30) rfl ?_
  refine TL_q (Qt_move (.slice _ _ _) rfl) rfl ?_
  refine TL_q (Qt_len_slice rfl Tryz.underlying30) rfl ?_
  refine TL_q (Qt_neq rfl rfl) rfl ?_
  refine TL_nil ?_
  refine X_then ?_
  refine T_cond rfl (fun h10 => ?_) (fun h10 => ?_)
  ·
    have p10 := h10
    try simp only [decide_eq_true_eq, decide_eq_false_iff_not, Bool.not_eq_true', Bool.not_eq_false', Option.isNone_iff_eq_none, ne_eq, Decidable.not_not, Int.not_lt, Int.not_le] at p10
    refine T_seq ?_
    refine T_region ?_
    refine TL_q (Qt_assign (.bool _) rfl) rfl ?_
    refine TL_nil ?_
    refine X_then ?_
    refine T_ret ?_
    refine X_then_ret ?_
    exact X_ret () [_] Tryz.results115 ⟨rfl, trivial⟩ (congrArg Value.bool (by rw [decide_eq_false (by intro h; subst h; exact p10 rfl)])) (Subs.st inferInstance)
  ·
    have p10 := h10
    try simp only [decide_eq_true_eq, decide_eq_false_iff_not, Bool.not_eq_true', Bool.not_eq_false', Option.isNone_iff_eq_none, ne_eq, Decidable.not_not, Int.not_lt, Int.not_le] at p10
    have hlm : l.length = m.length := by omega
    refine T_skip ?_
    refine X_then ?_
    refine T_seq ?_
    refine T_seq ?_
    refine T_region ?_
    refine TL_q (Qt_move (.slice _ _ _) rfl) rfl ?_
    refine TL_q (Qt_len_slice rfl Tryz.underlying30) rfl ?_
    refine TL_q (Qt_move (.int .i64 _) rfl) rfl ?_
    refine TL_nil ?_
    refine X_then ?_
    refine T_block ?_
    refine T_loop [4, 5, 13, 14, 15, 16, 17, 18, 19, 20, 21, 22, 23, 24, 25] [13] (fun us H' => ∃ (k : Nat), us = [.int .i64 (k : Int)] ∧ H = H' ∧ k ≤ l.length ∧ (l.take k = m.take k)) (fun us => match us with | .int _ i :: _ => l.length - i.toNat | _ => 0) ⟨0, rfl, rfl, by omega, by simp⟩ (Subs.st inferInstance) ?_
    rintro τ0 _ _  ⟨k, rfl, rfl, hk0, hq⟩ _
    refine T_seq ?_
    refine T_region ?_
    refine TL_q (Qt_lss rfl rfl) rfl ?_
    refine TL_nil ?_
    refine X_then ?_
    refine T_seq ?_
    refine T_cond rfl (fun h14 => ?_) (fun h14 => ?_)
    ·
      have p14 := h14
      try simp only [decide_eq_true_eq, decide_eq_false_iff_not, Bool.not_eq_true', Bool.not_eq_false', Option.isNone_iff_eq_none, ne_eq, Decidable.not_not, Int.not_lt, Int.not_le] at p14
      have hk : k < l.length := by omega
      have hkm : k < m.length := by omega
      refine T_skip ?_
      refine X_then ?_
      refine T_seq ?_
      refine T_block ?_
      refine T_seq ?_
      refine T_region ?_
      refine TL_q (Qt_move (.int .i64 _) rfl) rfl ?_
      refine TL_q (Qt_assign (.int .i64 _) rfl) rfl ?_
      refine TL_nil ?_
      refine X_then ?_
      refine T_seq ?_
      refine T_draw _ [(0, true), (1, true), (2, true), (3, true), (4, true), (5, true), (6, true), (7, true), (8, true)] (by kernel_rfl) (by kernel_rfl) rfl (by kernel_rfl) (fun _ hh => hh) (fun hns0 => ?_)
      refine DL_q hns0 rfl (Qt_move (.slice _ _ _) rfl) rfl ?_
      refine DL_q hns0 rfl (Qt_move (.int .i64 _) rfl) rfl ?_
      refine DL_q hns0 rfl (Qt_indexR rfl rfl (by omega) (by simp; omega)) rfl ?_
      refine DL_q hns0 rfl (Qt_loadR (.int .u8 (l[k].toNat : Int)) rfl (bytes_get _ _ hk)) rfl ?_
      refine DL_q hns0 rfl (Qt_move (.slice _ _ _) rfl) rfl ?_
      refine DL_q hns0 rfl (Qt_move (.int .i64 _) rfl) rfl ?_
      refine DL_q hns0 rfl (Qt_indexR rfl rfl (by omega) (by simp; omega)) rfl ?_
      refine DL_q hns0 rfl (Qt_loadR (.int .u8 ((m[k]'hkm).toNat : Int)) rfl (bytes_get _ _ hkm)) rfl ?_
      refine DL_q hns0 rfl (Qt_neq rfl rfl) rfl ?_
      refine DL_nil ?_
      refine X_then ?_
      refine T_cond rfl (fun h24 => ?_) (fun h24 => ?_)
      ·
        have p24 := h24
        try simp only [decide_eq_true_eq, decide_eq_false_iff_not, Bool.not_eq_true', Bool.not_eq_false', Option.isNone_iff_eq_none, ne_eq, Decidable.not_not, Int.not_lt, Int.not_le] at p24
        refine T_seq ?_
        refine T_region ?_
        refine TL_q (Qt_assign (.bool _) rfl) rfl ?_
        refine TL_nil ?_
        refine X_then ?_
        refine T_ret ?_
        refine X_block_ret ?_
        refine X_then_ret ?_
        refine X_loop_ret ?_
        refine X_block_ret ?_
        refine X_then_ret ?_
        exact X_ret () [_] Tryz.results115 ⟨rfl, trivial⟩ (congrArg Value.bool (by rw [decide_eq_false (by intro h; subst h; exact p24 rfl)])) (Subs.st inferInstance)
      ·
        have p24 := h24
        try simp only [decide_eq_true_eq, decide_eq_false_iff_not, Bool.not_eq_true', Bool.not_eq_false', Option.isNone_iff_eq_none, ne_eq, Decidable.not_not, Int.not_lt, Int.not_le] at p24
        have he : l[k] = m[k]'hkm := UInt8.toNat_inj.1 (by omega)
        have hq2 : l.take (k + 1) = m.take (k + 1) := by rw [List.take_add_one, List.take_add_one, hq, List.getElem?_eq_getElem hk, List.getElem?_eq_getElem hkm, he]
        refine T_skip ?_
        refine X_block ?_
        refine X_then ?_
        refine T_region ?_
        first
          | refine TL_q (Qt_add rfl rfl (by omega) (by omega)) rfl ?_
          | refine TL_q (Qt_addw rfl rfl) rfl ?_
        refine TL_q (Qt_move (.int .i64 _) rfl) rfl ?_
        refine TL_nil ?_
        apply X_loop
        case ha => exact (by repeat (first | with_reducible exact agree_refl | refine agree_upd rfl ?_ | refine agree_mix rfl ?_ | refine agree_setAll rfl ?_))
        case hI => exact ⟨k + 1, rfl, rfl, by omega, hq2⟩
        case hm => exact by show l.length - (k + 1 : Int).toNat < l.length - (k : Int).toNat; omega
        case hH => exact (Subs.st inferInstance)
    ·
      have p14 := h14
      try simp only [decide_eq_true_eq, decide_eq_false_iff_not, Bool.not_eq_true', Bool.not_eq_false', Option.isNone_iff_eq_none, ne_eq, Decidable.not_not, Int.not_lt, Int.not_le] at p14
      have hkn : k = l.length := by omega
      refine T_exit ?_
      refine X_then_exit ?_
      refine X_loop_exit ?_
      refine X_block_exit ?_
      refine X_then ?_
      refine T_seq ?_
      refine T_region ?_
      refine TL_q (Qt_assign (.bool _) rfl) rfl ?_
      refine TL_nil ?_
      refine X_then ?_
      refine T_ret ?_
      have hlm2 : l = m := by rw [hkn, List.take_length, hlm, List.take_length] at hq; exact hq
      exact X_ret () [_] Tryz.results115 ⟨rfl, trivial⟩ (congrArg Value.bool (by rw [decide_eq_true hlm2])) (Subs.st inferInstance)
attribute [local irreducible] sha
def headB (n : Nat) (r : List UInt8) : List UInt8 := packed n ++ packed r.length ++ r
theorem toldB_eq (n : Nat) (r : List UInt8) : toldB n r = headB n r ++ (sha (headB n r)).toList.take 8 := rfl
theorem toldB_n (n : Nat) (r : List UInt8) : (toldB n r).length = (headB n r).length + 8 := by
  rw [toldB_eq, List.length_append, List.length_take, Vector.length_toList]; rfl
theorem head_len (n : Nat) (r : List UInt8) : (headB n r).length = 0 + (packed n).length + (packed r.length ++ r).length := by
  unfold headB; simp only [List.length_append]; omega
theorem read_p {n : Nat} (hn : n < 18446744073709551616) {r rest l : List UInt8} (h : l = toldB n r ++ rest) : rdPacked (l.drop 0) = (0, n, (packed n).length) := by
  rw [List.drop_zero, h, toldB_eq, headB]
  simp only [List.append_assoc]
  exact rdPacked_packed n _ hn
theorem read_t {n : Nat} {r rest l : List UInt8} (hr : r.length ≤ 65536) (h : l = toldB n r ++ rest) : rdText (l.drop (0 + (packed n).length)) 65536 = (0, r, (packed r.length ++ r).length) := by
  have e : l.drop (0 + (packed n).length) = packed r.length ++ r ++ ((sha (headB n r)).toList.take 8 ++ rest) := by
    have e2 : headB n r ++ (sha (headB n r)).toList.take 8 ++ rest = packed n ++ (packed r.length ++ r ++ ((sha (headB n r)).toList.take 8 ++ rest)) := by
      conv => lhs; rw [show headB n r = packed n ++ packed r.length ++ r from rfl]
      simp only [List.append_assoc]
      rw [show headB n r = packed n ++ (packed r.length ++ r) from by unfold headB; rw [List.append_assoc]]
    rw [Nat.zero_add, h, toldB_eq, e2, List.drop_left]
  rw [e]
  exact rdText_text r 65536 _ (by omega) (by omega)
theorem read_h {n : Nat} {r rest l : List UInt8} (h : l = toldB n r ++ rest) : l.take (headB n r).length = headB n r := by
  rw [h, toldB_eq, List.append_assoc, List.take_left]
theorem read_c8 {n : Nat} {r rest l : List UInt8} (h : l = toldB n r ++ rest) : (l.drop (headB n r).length).take 8 = (sha (headB n r)).toList.take 8 := by
  rw [h, toldB_eq, List.append_assoc, List.drop_left]
  have : ((sha (headB n r)).toList.take 8).length = 8 := by simp
  rw [List.take_append, this, List.take_of_length_le (by rw [this]; exact Nat.le_refl _)]
  simp
attribute [local irreducible] headB toldB
set_option maxHeartbeats 1000000 in
theorem read_c {w0 : World} {H : List SA} {n : Nat} (hn : n < 18446744073709551616) {r rest : List UInt8} (hrl : r.length ≤ 65536) {a : Option Addr} {l : List UInt8} {c : Nat} [hr : RdB w0 H (.slice a l.length c) l] (hl : l.length ≤ 4294960000) (h : l = toldB n r ++ rest) :
    CT Tryz.prog w0 (H) 89 [.slice a l.length c] (α := AC) (fun y => .tuple #[.int .u64 (n : Int), .slice y.a r.length y.c, .int .i64 ((toldB n r).length : Int), .bool true]) (fun y => row (.slice y.a r.length y.c) 5 1 (bytesV r) :: H) := by
  refine CT_intro Tryz.func89 rfl Tryz.ntmps89 rfl ?_
  refine T_seq ?_
  refine T_region ?_
  refine TL_q (Qt_assign (.int .u64 _) rfl) rfl ?_
  refine TL_q (Qt_assign (.slice _ _ _) rfl) rfl ?_
  refine TL_q (Qt_assign (.int .i64 _) rfl) rfl ?_
  refine TL_q (Qt_assign (.bool _) rfl) rfl ?_
  refine TL_nil ?_
  refine X_then ?_
  refine T_seq ?_
  refine T_region ?_
  refine TL_q (Qt_move (.slice _ _ _) rfl) rfl ?_
  refine TL_e rfl (Ef_call (rnew_c (by omega)) rfl (fun x10 => ?_))
  refine TL_pure (fun h10 => ?_)
  have hh1 := toldB_n n r
  have hh2 := head_len n r
  have hll : l.length = (headB n r).length + 8 + rest.length := by rw [h, List.length_append, hh1]
  refine TL_q (Qt_assign (.pointer _) rfl) rfl ?_
  refine TL_nil ?_
  refine X_then ?_
  refine T_seq ?_
  refine T_region ?_
  refine TL_q (Qt_move (.pointer _) rfl) rfl ?_
  refine TL_frontB x10.1 ?_
  refine TL_e rfl (Ef_call (packed_c (b := x10.2) (k := 0) (by omega) (by rw [h10]; omega)) rfl (fun x13 => ?_))
  rw [show rdPacked (x10.2.l.drop 0) = (0, n, (packed n).length) from by rw [h10]; exact read_p hn h]
  refine TL_q (Qt_move (.tuple _) rfl) rfl ?_
  refine TL_q (Qt_extract rfl) rfl ?_
  refine TL_q (Qt_extract rfl) rfl ?_
  refine TL_q (Qt_assign (.int .u64 _) rfl) rfl ?_
  refine TL_q (Qt_assign (.int .i64 _) rfl) rfl ?_
  refine TL_nil ?_
  refine X_then ?_
  refine T_seq ?_
  refine T_seq ?_
  refine T_region ?_
  refine TL_q (Qt_move (.int .i64 _) rfl) rfl ?_
  refine TL_q (Qt_neq rfl rfl) rfl ?_
  refine TL_nil ?_
  refine X_then ?_
  refine T_cond rfl (fun h17 => ?_) (fun h17 => ?_)
  ·
    have p17 := h17
    try simp only [decide_eq_true_eq, decide_eq_false_iff_not, Bool.not_eq_true', Bool.not_eq_false', Option.isNone_iff_eq_none, ne_eq, Decidable.not_not, Int.not_lt, Int.not_le] at p17
    exact absurd h17 (by simp)
  ·
    have p17 := h17
    try simp only [decide_eq_true_eq, decide_eq_false_iff_not, Bool.not_eq_true', Bool.not_eq_false', Option.isNone_iff_eq_none, ne_eq, Decidable.not_not, Int.not_lt, Int.not_le] at p17
    refine T_skip ?_
    refine X_then ?_
    refine T_seq ?_
    refine T_region ?_
    refine TL_q (Qt_move (.pointer _) rfl) rfl ?_
    refine TL_frontB x10.1 ?_
    refine TL_e rfl (Ef_call (text_c (b := x10.2) (k := 0 + (packed n).length) (by rw [h10]; omega) (by rw [h10]; omega) (m := 65536) (by decide)) rfl (fun x20 => ?_))
    rw [show rdText (x10.2.l.drop (0 + (packed n).length)) 65536 = (0, r, (packed r.length ++ r).length) from by rw [h10]; exact read_t hrl h]
    rw [show 0 + (packed n).length + (packed r.length ++ r).length = (headB n r).length from hh2.symm]
    refine TL_q (Qt_move (.tuple _) rfl) rfl ?_
    refine TL_q (Qt_extract rfl) rfl ?_
    refine TL_q (Qt_extract rfl) rfl ?_
    refine TL_q (Qt_assign (.slice _ _ _) rfl) rfl ?_
    refine TL_q (Qt_assign (.int .i64 _) rfl) rfl ?_
    refine TL_nil ?_
    refine X_then ?_
    refine T_seq ?_
    refine T_seq ?_
    refine T_region ?_
    refine TL_q (Qt_move (.int .i64 _) rfl) rfl ?_
    refine TL_q (Qt_neq rfl rfl) rfl ?_
    refine TL_q (Qt_move (.bool _) rfl) rfl ?_
    refine TL_split 25 rfl (fun h25 => ?_) (fun h25 => ?_)
    ·
      have p25 := h25
      try simp only [decide_eq_true_eq, decide_eq_false_iff_not, Bool.not_eq_true', Bool.not_eq_false', Option.isNone_iff_eq_none, ne_eq, Decidable.not_not, Int.not_lt, Int.not_le] at p25
      exact absurd h25 (by simp)
    ·
      have p25 := h25
      try simp only [decide_eq_true_eq, decide_eq_false_iff_not, Bool.not_eq_true', Bool.not_eq_false', Option.isNone_iff_eq_none, ne_eq, Decidable.not_not, Int.not_lt, Int.not_le] at p25
      refine TL_take rfl rfl h25 ?_
      refine TL_q (Qt_move (.pointer _) rfl) rfl ?_
      refine TL_frontB x10.1 ?_
      refine TL_take rfl rfl h25 ?_
      refine TL_e rfl (Ef_call (left_c (b := x10.2) (k := (headB n r).length) (by rw [h10]; omega) (by rw [h10]; omega)) rfl (fun x27 => ?_))
      refine TL_take rfl rfl h25 ?_
      refine TL_q (Qt_lss rfl rfl) rfl ?_
      refine TL_q (Qt_pick_f (.bool _) rfl h25 rfl) rfl ?_
      refine TL_nil ?_
      refine X_then ?_
      refine T_cond rfl (fun h29 => ?_) (fun h29 => ?_)
      ·
        have p29 := h29
        try simp only [decide_eq_true_eq, decide_eq_false_iff_not, Bool.not_eq_true', Bool.not_eq_false', Option.isNone_iff_eq_none, ne_eq, Decidable.not_not, Int.not_lt, Int.not_le] at p29
        exact absurd p29 (by rw [h10]; omega)
      ·
        have p29 := h29
        try simp only [decide_eq_true_eq, decide_eq_false_iff_not, Bool.not_eq_true', Bool.not_eq_false', Option.isNone_iff_eq_none, ne_eq, Decidable.not_not, Int.not_lt, Int.not_le] at p29
        refine T_skip ?_
        refine X_then ?_
        refine T_seq ?_
        refine T_region ?_
        refine TL_q (Qt_move (.slice _ _ _) rfl) rfl ?_
        refine TL_q (Qt_move (.pointer _) rfl) rfl ?_
        refine TL_frontB x10.1 ?_
        refine TL_e rfl (Ef_call (at_c (b := x10.2) (k := (headB n r).length)) rfl (fun x32 => ?_))
        refine TL_q (Qt_sliceB_h (headB n r).length rfl rfl (by omega)) rfl ?_
        refine TL_e rfl (Ef_call (sum_c (l := l.take (headB n r).length) (by rw [List.length_take]; omega)) rfl (fun x34 => ?_))
        rw [read_h h]
        refine TL_e rfl (Ef_allocN (fun b8 => ?_))
        refine TL_n (Ef_storeN rfl rfl (?_))
        refine TL_nil ?_
        refine X_then ?_
        refine T_seq ?_
        refine T_seq ?_
        refine T_draw (blk b8 (.cells (hlist (sha (headB n r))).toArray 47 (0, 0)) :: H) [(0, true), (1, true), (2, true), (4, true), (3, false), (5, false), (6, true), (7, true), (8, false), (9, true)] (by kernel_rfl) (by kernel_rfl) rfl (by kernel_rfl) (Subs.st inferInstance) (fun hns0 => ?_)
        refine DL_q hns0 rfl (Qt_val (Qt_slice_arrH (m := 8) rfl rfl Tryz.underlying47 rfl rfl (by decide)) (show Value.slice (some ⟨b8, 0, none⟩) 8 32 = .slice (some ⟨b8, 0, none⟩) ((sha (headB n r)).toList.take 8).length 32 from by simp)) rfl ?_
        refine DL_q hns0 rfl (Qt_move (.slice _ _ _) rfl) rfl ?_
        refine DL_q hns0 rfl (Qt_move (.pointer _) rfl) rfl ?_
        refine DL_q hns0 rfl (Qt_move (.pointer _) rfl) rfl ?_
        refine DL_frontB x10.1 ?_
        refine DL_e rfl rfl (Ef_call (at_c (b := x10.2) (k := (headB n r).length)) rfl (fun x38 => ⟨(Subs.st inferInstance), ?_⟩))
        refine DL_frontB x10.1 ?_
        refine DL_e rfl rfl (Ef_call (at_c (b := x10.2) (k := (headB n r).length)) rfl (fun x40 => ⟨(Subs.st inferInstance), ?_⟩))
        first
          | refine DL_q hns0 rfl (Qt_add rfl rfl (by omega) (by omega)) rfl ?_
          | refine DL_q hns0 rfl (Qt_addw rfl rfl) rfl ?_
        refine DL_q hns0 rfl (Qt_sliceB_lh (headB n r).length 8 rfl rfl rfl (by omega)) rfl ?_
        refine DL_e rfl rfl (Ef_call (equal_c (l := (sha (headB n r)).toList.take 8) (m := (l.drop (headB n r).length).take 8) (hr := RdB.hashPre (sha (headB n r)) inferInstance (by decide) (by decide)) (by simp)) rfl (fun x43 => ⟨(Subs.st inferInstance), ?_⟩))
        rw [read_c8 h, decide_eq_true rfl]
        refine DL_q hns0 rfl (Qt_not rfl) rfl ?_
        refine DL_nil ?_
        refine X_then ?_
        refine T_cond rfl (fun h44 => ?_) (fun h44 => ?_)
        ·
          have p44 := h44
          try simp only [decide_eq_true_eq, decide_eq_false_iff_not, Bool.not_eq_true', Bool.not_eq_false', Option.isNone_iff_eq_none, ne_eq, Decidable.not_not, Int.not_lt, Int.not_le] at p44
          exact absurd h44 (by decide)
        ·
          have p44 := h44
          try simp only [decide_eq_true_eq, decide_eq_false_iff_not, Bool.not_eq_true', Bool.not_eq_false', Option.isNone_iff_eq_none, ne_eq, Decidable.not_not, Int.not_lt, Int.not_le] at p44
          refine T_skip ?_
          refine X_then ?_
          refine T_seq ?_
          refine T_region ?_
          refine TL_q (Qt_move (.int .u64 _) rfl) rfl ?_
          refine TL_q (Qt_move (.slice _ _ _) rfl) rfl ?_
          refine TL_q (Qt_move (.pointer _) rfl) rfl ?_
          refine TL_frontB x10.1 ?_
          refine TL_e rfl (Ef_call (at_c (b := x10.2) (k := (headB n r).length)) rfl (fun x48 => ?_))
          first
            | refine TL_q (Qt_add rfl rfl (by omega) (by omega)) rfl ?_
            | refine TL_q (Qt_addw rfl rfl) rfl ?_
          refine TL_q (Qt_assign (.int .u64 _) rfl) rfl ?_
          refine TL_q (Qt_assign (.slice _ _ _) rfl) rfl ?_
          refine TL_q (Qt_assign (.int .i64 _) rfl) rfl ?_
          refine TL_q (Qt_assign (.bool _) rfl) rfl ?_
          refine TL_nil ?_
          refine X_then ?_
          refine T_ret ?_
          exact X_ret ⟨x20.a, x20.c⟩ [_, _, _, _] Tryz.results89 ⟨rfl, rfl, rfl, rfl, trivial⟩ (by rw [hh1]; rfl) (Subs.st inferInstance)
end Go.Proofs.YtgfbdcjamalhhaaGreatDoor
