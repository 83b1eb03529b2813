/- Walks: the references that read packed numbers, counts, texts. -/
import Derived.Test.YtgjkgdjjolnhdaaDoorRsh
import Derived.Test.YtgjkgdjjolnhdaaDoorSr
namespace Go.Proofs.YtgjkgdjjolnhdaaDoor
open Go.RowKit Go.Sx
set_option maxRecDepth 100000
set_option linter.unusedSimpArgs false
set_option linter.unusedVariables false
theorem pk_room2 {x c i : Nat} (hi : i < 10) (hx : x < 128 ^ i) (h9 : i = 9 → c ≤ 1) : c % 128 * 128 ^ i < 18446744073709551616 ∧ x + c % 128 * 128 ^ i < 18446744073709551616 ∧ 128 ^ i < 18446744073709551616 ∧ (1 < c → 128 * 128 ^ i < 18446744073709551616) := by
 have h3 : (128 : Nat) ^ 9 = 9223372036854775808 := by decide
 have h5 : (128 : Nat) ^ 8 = 72057594037927936 := by decide
 by_cases hi9 : i = 9
 · have := h9 hi9
   subst hi9
   have h6 : c % 128 ≤ 1 := by omega
   rw [h3] at hx ⊢
   refine ⟨by omega, by omega, by omega, fun h => by omega⟩
 · have h4 : (128 : Nat) ^ i ≤ 128 ^ 8 := Nat.pow_le_pow_right (by decide) (by omega)
   have h2 := Nat.mul_le_mul_right (128 ^ i) (show c % 128 ≤ 127 by omega)
   rw [h5] at h4
   refine ⟨by omega, by omega, by omega, fun _ => by omega⟩

set_option maxHeartbeats 1000000 in
theorem rReadPacked_c {w0 : World} {H : List SA} {a : Option Addr} {l : List UInt8} {c k : Nat} [hr : RdB w0 H (.slice a l.length c) l] (hk : k ≤ l.length) (hl : l.length ≤ 4294967296) :
 CT Tryd.prog w0 (H) 105 [.slice a l.length c, .int .i64 (k : Int)] (α := Unit) (fun _ => .agg (GotV.mk ((rdPacked (l.drop k)).2.1 : Int) ⟨none, 0, []⟩ ((rdPacked (l.drop k)).2.2 : Int) (rdPacked (l.drop k)).1).cells) (fun _ => H) := by
 refine CT_intro Tryd.func105 rfl Tryd.ntmps105 rfl ?_
 refine T_seq ?_
 refine T_region ?_
 refine TL_e rfl (Ef_allocN (fun b4 => ?_))
 refine TL_nil ?_
 refine X_then ?_
 refine T_seq ?_
 refine T_region ?_
 refine TL_q (Qt_assign (.int .u64 _) rfl) rfl ?_
 refine TL_nil ?_
 refine X_then ?_
 refine T_seq ?_
 refine T_region ?_
 refine TL_q (Qt_assign (.int .u64 _) rfl) rfl ?_
 refine TL_nil ?_
 refine X_then ?_
 refine T_seq ?_
 refine T_seq ?_
 refine T_region ?_
 refine TL_q (Qt_assign (.int .i64 _) rfl) rfl ?_
 refine TL_nil ?_
 refine X_then ?_
 refine T_block ?_
 refine T_loop [5, 6, 7, 8, 9, 10, 11, 12, 13, 14, 15, 16, 17, 18, 19, 20, 21, 22, 23, 24, 25, 26, 27, 28, 29, 30, 31, 32, 33, 34, 35, 36, 37, 38, 39, 40, 41, 42, 43, 44, 45, 46, 47, 48, 49, 50, 51, 52, 53, 54] [7, 5, 6] (fun us H' => ∃ (i : Nat) (x : Nat), us = [.int .i64 (i : Int), .int .u64 (x : Int), .int .u64 ((128 ^ i : Nat) : Int)] ∧ blk b4 (.cells GotV.zero.cells 149 (0, 0)) :: H = H' ∧ i ≤ 10 ∧ (x < 128 ^ i) ∧ ((rdPacked (l.drop k)) = pk (l.drop k) (10 - i) i x)) (fun us => match us with | .int _ i :: _ => 10 - i.toNat | _ => 0) ⟨0, 0, rfl, rfl, by omega, by simp, rfl⟩ (Subs.st inferInstance) ?_
 rintro τ0 _ _  ⟨i, x, rfl, rfl, hi0, hx, hpk⟩ _
 refine T_seq ?_
 refine T_seq ?_
 refine T_region ?_
 refine TL_q (Qt_move (.int .i64 _) rfl) rfl ?_
 refine TL_q (Qt_lss rfl rfl) rfl ?_
 refine TL_nil ?_
 refine X_then ?_
 refine T_cond rfl (fun h10 => ?_) (fun h10 => ?_)
 ·
  have p10 := h10
  try simp only [decide_eq_true_eq, decide_eq_false_iff_not, Bool.not_eq_true', Bool.not_eq_false', Option.isNone_iff_eq_none, ne_eq, Decidable.not_not, Int.not_lt, Int.not_le] at p10
  have hi10 : i < 10 := by omega
  refine T_skip ?_
  refine X_then ?_
  refine T_seq ?_
  refine T_block ?_
  refine T_seq ?_
  refine T_seq ?_
  refine T_region ?_
  refine TL_q (Qt_move (.int .i64 _) rfl) rfl ?_
  refine TL_q (Qt_move (.int .i64 _) rfl) rfl ?_
  first
   | refine TL_q (Qt_add rfl rfl (by omega) (by omega)) rfl ?_
   | refine TL_q (Qt_addw rfl rfl) rfl ?_
  refine TL_q (Qt_move (.slice _ _ _) rfl) rfl ?_
  refine TL_q (Qt_len_slice rfl Tryd.underlying27) rfl ?_
  refine TL_q (Qt_geq rfl rfl) rfl ?_
  refine TL_nil ?_
  refine X_then ?_
  refine T_cond rfl (fun h18 => ?_) (fun h18 => ?_)
  ·
   have p18 := h18
   try simp only [decide_eq_true_eq, decide_eq_false_iff_not, Bool.not_eq_true', Bool.not_eq_false', Option.isNone_iff_eq_none, ne_eq, Decidable.not_not, Int.not_lt, Int.not_le] at p18
   refine T_seq ?_
   refine T_region ?_
   refine TL_q (Qt_build [(3, (.int .i64 _))] rfl (by kernel_rfl)) rfl ?_
   refine TL_n (Ef_storeN rfl rfl (?_))
   refine TL_nil ?_
   refine X_then ?_
   refine T_ret ?_
   refine X_then_ret ?_
   refine X_block_ret ?_
   refine X_then_ret ?_
   refine X_loop_ret ?_
   refine X_block_ret ?_
   refine X_then_ret ?_
   have e : (rdPacked (l.drop k)) = (1, 0, 0) := hpk.trans (pk_short hi10 (by simp; omega))
   exact X_ret () [_] Tryd.results105 ⟨⟨_, rfl, res_cellN rfl⟩, trivial⟩ (by rw [e]; rfl) (Subs.st inferInstance)
  ·
   have p18 := h18
   try simp only [decide_eq_true_eq, decide_eq_false_iff_not, Bool.not_eq_true', Bool.not_eq_false', Option.isNone_iff_eq_none, ne_eq, Decidable.not_not, Int.not_lt, Int.not_le] at p18
   have hki : k + i < l.length := by omega
   have hgc : (l.drop k)[i]? = some l[k + i] := by rw [List.getElem?_drop, List.getElem?_eq_getElem hki]
   have hat := pk_at (x := x) hi10 hgc
   have hc8 := l[k + i].toNat_lt
   refine T_skip ?_
   refine X_then ?_
   refine T_seq ?_
   refine T_region ?_
   refine TL_q (Qt_move (.slice _ _ _) rfl) rfl ?_
   refine TL_q (Qt_move (.int .i64 _) rfl) rfl ?_
   refine TL_q (Qt_move (.int .i64 _) rfl) rfl ?_
   first
    | refine TL_q (Qt_add rfl rfl (by omega) (by omega)) rfl ?_
    | refine TL_q (Qt_addw rfl rfl) rfl ?_
   refine TL_q (Qt_indexR rfl rfl (by omega) (by simp; omega)) rfl ?_
   refine TL_q (Qt_loadR (.int .u8 (l[k + i].toNat : Int)) rfl (bytes_get _ _ hki)) rfl ?_
   refine TL_q (Qt_assign (.int .u8 _) rfl) rfl ?_
   refine TL_nil ?_
   refine X_then ?_
   refine T_seq ?_
   refine T_seq ?_
   refine T_region ?_
   refine TL_q (Qt_move (.int .i64 _) rfl) rfl ?_
   refine TL_q (Qt_eql rfl rfl) rfl ?_
   refine TL_q (Qt_move (.bool _) rfl) rfl ?_
   refine TL_split 28 rfl (fun h28 => ?_) (fun h28 => ?_)
   ·
    have p28 := h28
    try simp only [decide_eq_true_eq, decide_eq_false_iff_not, Bool.not_eq_true', Bool.not_eq_false', Option.isNone_iff_eq_none, ne_eq, Decidable.not_not, Int.not_lt, Int.not_le] at p28
    refine TL_take rfl rfl h28 ?_
    refine TL_q (Qt_move (.int .u8 _) rfl) rfl ?_
    refine TL_take rfl rfl h28 ?_
    refine TL_q (Qt_gtr rfl rfl) rfl ?_
    refine TL_q (Qt_pick_t (.bool _) rfl h28 rfl) rfl ?_
    refine TL_nil ?_
    refine X_then ?_
    refine T_cond rfl (fun h31 => ?_) (fun h31 => ?_)
    ·
     have p31 := h31
     try simp only [decide_eq_true_eq, decide_eq_false_iff_not, Bool.not_eq_true', Bool.not_eq_false', Option.isNone_iff_eq_none, ne_eq, Decidable.not_not, Int.not_lt, Int.not_le] at p31
     have hc31 : i = 9 ∧ 1 < l[k + i].toNat := by first | omega | (simp_all; done) | (simp_all; omega)
     refine T_seq ?_
     refine T_region ?_
     refine TL_q (Qt_build [(3, (.int .i64 _))] rfl (by kernel_rfl)) rfl ?_
     refine TL_n (Ef_storeN rfl rfl (?_))
     refine TL_nil ?_
     refine X_then ?_
     refine T_ret ?_
     refine X_then_ret ?_
     refine X_block_ret ?_
     refine X_then_ret ?_
     refine X_loop_ret ?_
     refine X_block_ret ?_
     refine X_then_ret ?_
     have e : (rdPacked (l.drop k)) = (2, 0, 0) := hpk.trans (by rw [hat, if_pos hc31])
     exact X_ret () [_] Tryd.results105 ⟨⟨_, rfl, res_cellN rfl⟩, trivial⟩ (by rw [e]; rfl) (Subs.st inferInstance)
    ·
     have p31 := h31
     try simp only [decide_eq_true_eq, decide_eq_false_iff_not, Bool.not_eq_true', Bool.not_eq_false', Option.isNone_iff_eq_none, ne_eq, Decidable.not_not, Int.not_lt, Int.not_le] at p31
     have hn31 : ¬ (i = 9 ∧ 1 < l[k + i].toNat) := by first | omega | (simp_all; done) | (simp_all; omega)
     obtain ⟨hr1, hr2, hr3⟩ := pk_room (c := l[k + i].toNat) hi10 hx (by omega)
     obtain ⟨hs1, hs2, hs3, hs4⟩ := pk_room2 (c := l[k + i].toNat) hi10 hx (by omega)
     refine T_skip ?_
     refine X_then ?_
     refine T_seq ?_
     refine T_region ?_
     refine TL_q (Qt_move (.int .u64 _) rfl) rfl ?_
     refine TL_q (Qt_move (.int .u8 _) rfl) rfl ?_
     refine TL_q (Qt_val (Qt_rem rfl rfl (by decide)) (congrArg (Value.int .u8) (rem_nat l[k + i].toNat 128))) rfl ?_
     refine TL_q (Qt_conv_u64 rfl rfl Tryd.underlying112 (by omega) (by omega)) rfl ?_
     refine TL_q (Qt_move (.int .u64 _) rfl) rfl ?_
     refine TL_q (Qt_val (Qt_mulw rfl rfl) (congrArg (Value.int .u64) (show IntKind.u64.wrap (((l[k + i].toNat % 128 : Nat) : Int) * ((128 ^ i : Nat) : Int)) = ((l[k + i].toNat % 128 * 128 ^ i : Nat) : Int) from by rw [← Int.natCast_mul]; exact wrap_u64 (by omega) (by omega)))) rfl ?_
     refine TL_q (Qt_val (Qt_addw rfl rfl) (congrArg (Value.int .u64) (show IntKind.u64.wrap ((x : Int) + ((l[k + i].toNat % 128 * 128 ^ i : Nat) : Int)) = ((x + l[k + i].toNat % 128 * 128 ^ i : Nat) : Int) from by rw [← Int.natCast_add]; exact wrap_u64 (by omega) (by omega)))) rfl ?_
     refine TL_q (Qt_assign (.int .u64 _) rfl) rfl ?_
     refine TL_nil ?_
     refine X_then ?_
     refine T_seq ?_
     refine T_seq ?_
     refine T_region ?_
     refine TL_q (Qt_move (.int .u8 _) rfl) rfl ?_
     refine TL_q (Qt_lss rfl rfl) rfl ?_
     refine TL_nil ?_
     refine X_then ?_
     refine T_cond rfl (fun h41 => ?_) (fun h41 => ?_)
     ·
      have p41 := h41
      try simp only [decide_eq_true_eq, decide_eq_false_iff_not, Bool.not_eq_true', Bool.not_eq_false', Option.isNone_iff_eq_none, ne_eq, Decidable.not_not, Int.not_lt, Int.not_le] at p41
      have hlt : l[k + i].toNat < 128 := by omega
      refine T_seq ?_
      refine T_seq ?_
      refine T_region ?_
      refine TL_q (Qt_move (.int .u8 _) rfl) rfl ?_
      refine TL_q (Qt_eql rfl rfl) rfl ?_
      refine TL_q (Qt_move (.bool _) rfl) rfl ?_
      refine TL_split 44 rfl (fun h44 => ?_) (fun h44 => ?_)
      ·
       have p44 := h44
       try simp only [decide_eq_true_eq, decide_eq_false_iff_not, Bool.not_eq_true', Bool.not_eq_false', Option.isNone_iff_eq_none, ne_eq, Decidable.not_not, Int.not_lt, Int.not_le] at p44
       refine TL_take rfl rfl h44 ?_
       refine TL_q (Qt_move (.int .i64 _) rfl) rfl ?_
       refine TL_take rfl rfl h44 ?_
       refine TL_q (Qt_gtr rfl rfl) rfl ?_
       refine TL_q (Qt_pick_t (.bool _) rfl h44 rfl) rfl ?_
       refine TL_nil ?_
       refine X_then ?_
       refine T_cond rfl (fun h47 => ?_) (fun h47 => ?_)
       ·
        have p47 := h47
        try simp only [decide_eq_true_eq, decide_eq_false_iff_not, Bool.not_eq_true', Bool.not_eq_false', Option.isNone_iff_eq_none, ne_eq, Decidable.not_not, Int.not_lt, Int.not_le] at p47
        have hc47 : l[k + i].toNat = 0 ∧ 0 < i := by first | omega | (simp_all; done) | (simp_all; omega)
        refine T_seq ?_
        refine T_region ?_
        refine TL_q (Qt_build [(3, (.int .i64 _))] rfl (by kernel_rfl)) rfl ?_
        refine TL_n (Ef_storeN rfl rfl (?_))
        refine TL_nil ?_
        refine X_then ?_
        refine T_ret ?_
        refine X_then_ret ?_
        refine X_then_ret ?_
        refine X_block_ret ?_
        refine X_then_ret ?_
        refine X_loop_ret ?_
        refine X_block_ret ?_
        refine X_then_ret ?_
        have e : (rdPacked (l.drop k)) = (2, 0, 0) := hpk.trans (by rw [hat, if_neg hn31, if_pos hlt, if_pos hc47])
        exact X_ret () [_] Tryd.results105 ⟨⟨_, rfl, res_cellN rfl⟩, trivial⟩ (by rw [e]; rfl) (Subs.st inferInstance)
       ·
        have p47 := h47
        try simp only [decide_eq_true_eq, decide_eq_false_iff_not, Bool.not_eq_true', Bool.not_eq_false', Option.isNone_iff_eq_none, ne_eq, Decidable.not_not, Int.not_lt, Int.not_le] at p47
        have hn47 : ¬ (l[k + i].toNat = 0 ∧ 0 < i) := by first | omega | (simp_all; done) | (simp_all; omega)
        refine T_skip ?_
        refine X_then ?_
        refine T_seq ?_
        refine T_region ?_
        refine TL_q (Qt_move (.int .u64 _) rfl) rfl ?_
        refine TL_q (Qt_move (.int .i64 _) rfl) rfl ?_
        first
         | refine TL_q (Qt_add rfl rfl (by omega) (by omega)) rfl ?_
         | refine TL_q (Qt_addw rfl rfl) rfl ?_
        refine TL_q (Qt_build [(0, (.int .u64 _)), (2, (.int .i64 _))] rfl (by kernel_rfl)) rfl ?_
        refine TL_n (Ef_storeN rfl rfl (?_))
        refine TL_nil ?_
        refine X_then ?_
        refine T_ret ?_
        refine X_then_ret ?_
        refine X_block_ret ?_
        refine X_then_ret ?_
        refine X_loop_ret ?_
        refine X_block_ret ?_
        refine X_then_ret ?_
        have e : (rdPacked (l.drop k)) = (0, x + l[k + i].toNat % 128 * 128 ^ i, i + 1) := hpk.trans (by rw [hat, if_neg hn31, if_pos hlt, if_neg hn47])
        exact X_ret () [_] Tryd.results105 ⟨⟨_, rfl, res_cellN rfl⟩, trivial⟩ (by rw [e]; rfl) (Subs.st inferInstance)
      ·
       have p44 := h44
       try simp only [decide_eq_true_eq, decide_eq_false_iff_not, Bool.not_eq_true', Bool.not_eq_false', Option.isNone_iff_eq_none, ne_eq, Decidable.not_not, Int.not_lt, Int.not_le] at p44
       refine TL_pass rfl rfl h44 rfl ?_
       refine TL_pass rfl rfl h44 rfl ?_
       refine TL_q (Qt_pick_f (.bool _) rfl h44 rfl) rfl ?_
       refine TL_nil ?_
       refine X_then ?_
       refine T_cond_false rfl rfl ?_
       have hn47 : ¬ (l[k + i].toNat = 0 ∧ 0 < i) := by first | omega | (simp_all; done) | (simp_all; omega)
       refine T_skip ?_
       refine X_then ?_
       refine T_seq ?_
       refine T_region ?_
       refine TL_q (Qt_move (.int .u64 _) rfl) rfl ?_
       refine TL_q (Qt_move (.int .i64 _) rfl) rfl ?_
       first
        | refine TL_q (Qt_add rfl rfl (by omega) (by omega)) rfl ?_
        | refine TL_q (Qt_addw rfl rfl) rfl ?_
       refine TL_q (Qt_build [(0, (.int .u64 _)), (2, (.int .i64 _))] rfl (by kernel_rfl)) rfl ?_
       refine TL_n (Ef_storeN rfl rfl (?_))
       refine TL_nil ?_
       refine X_then ?_
       refine T_ret ?_
       refine X_then_ret ?_
       refine X_block_ret ?_
       refine X_then_ret ?_
       refine X_loop_ret ?_
       refine X_block_ret ?_
       refine X_then_ret ?_
       have e : (rdPacked (l.drop k)) = (0, x + l[k + i].toNat % 128 * 128 ^ i, i + 1) := hpk.trans (by rw [hat, if_neg hn31, if_pos hlt, if_neg hn47])
       exact X_ret () [_] Tryd.results105 ⟨⟨_, rfl, res_cellN rfl⟩, trivial⟩ (by rw [e]; rfl) (Subs.st inferInstance)
     ·
      have p41 := h41
      try simp only [decide_eq_true_eq, decide_eq_false_iff_not, Bool.not_eq_true', Bool.not_eq_false', Option.isNone_iff_eq_none, ne_eq, Decidable.not_not, Int.not_lt, Int.not_le] at p41
      have hge : ¬ l[k + i].toNat < 128 := by omega
      rw [if_neg hn31, if_neg hge] at hat
      have hs5 := hs4 (by omega)
      refine T_skip ?_
      refine X_then ?_
      refine T_region ?_
      refine TL_q (Qt_move (.int .u64 _) rfl) rfl ?_
      refine TL_q (Qt_val (Qt_mulw rfl rfl) (congrArg (Value.int .u64) (show IntKind.u64.wrap (128 * ((128 ^ i : Nat) : Int)) = ((128 ^ (i + 1) : Nat) : Int) from by rw [show (128 : Int) * ((128 ^ i : Nat) : Int) = ((128 * 128 ^ i : Nat) : Int) from by rw [Int.natCast_mul]; rfl, wrap_u64 (by omega) (by omega), Nat.pow_succ, Nat.mul_comm]))) rfl ?_
      refine TL_q (Qt_assign (.int .u64 _) rfl) rfl ?_
      refine TL_nil ?_
      refine X_block ?_
      refine X_then ?_
      refine T_region ?_
      refine TL_q (Qt_move (.int .i64 _) rfl) rfl ?_
      first
       | refine TL_q (Qt_add rfl rfl (by omega) (by omega)) rfl ?_
       | refine TL_q (Qt_addw rfl rfl) rfl ?_
      refine TL_q (Qt_assign (.int .i64 _) rfl) rfl ?_
      refine TL_nil ?_
      apply X_loop
      case ha => exact (by repeat (first | with_reducible exact agree_refl | refine agree_upd rfl ?_ | refine agree_mix rfl ?_ | refine agree_setAll rfl ?_))
      case hI => exact ⟨i + 1, _, rfl, rfl, by omega, hr3, hpk.trans hat⟩
      case hm => exact by show 10 - (i + 1 : Int).toNat < 10 - (i : Int).toNat; omega
      case hH => exact (Subs.st inferInstance)
   ·
    have p28 := h28
    try simp only [decide_eq_true_eq, decide_eq_false_iff_not, Bool.not_eq_true', Bool.not_eq_false', Option.isNone_iff_eq_none, ne_eq, Decidable.not_not, Int.not_lt, Int.not_le] at p28
    refine TL_pass rfl rfl h28 rfl ?_
    refine TL_pass rfl rfl h28 rfl ?_
    refine TL_q (Qt_pick_f (.bool _) rfl h28 rfl) rfl ?_
    refine TL_nil ?_
    refine X_then ?_
    refine T_cond_false rfl rfl ?_
    have hn31 : ¬ (i = 9 ∧ 1 < l[k + i].toNat) := by first | omega | (simp_all; done) | (simp_all; omega)
    obtain ⟨hr1, hr2, hr3⟩ := pk_room (c := l[k + i].toNat) hi10 hx (by omega)
    obtain ⟨hs1, hs2, hs3, hs4⟩ := pk_room2 (c := l[k + i].toNat) hi10 hx (by omega)
    refine T_skip ?_
    refine X_then ?_
    refine T_seq ?_
    refine T_region ?_
    refine TL_q (Qt_move (.int .u64 _) rfl) rfl ?_
    refine TL_q (Qt_move (.int .u8 _) rfl) rfl ?_
    refine TL_q (Qt_val (Qt_rem rfl rfl (by decide)) (congrArg (Value.int .u8) (rem_nat l[k + i].toNat 128))) rfl ?_
    refine TL_q (Qt_conv_u64 rfl rfl Tryd.underlying112 (by omega) (by omega)) rfl ?_
    refine TL_q (Qt_move (.int .u64 _) rfl) rfl ?_
    refine TL_q (Qt_val (Qt_mulw rfl rfl) (congrArg (Value.int .u64) (show IntKind.u64.wrap (((l[k + i].toNat % 128 : Nat) : Int) * ((128 ^ i : Nat) : Int)) = ((l[k + i].toNat % 128 * 128 ^ i : Nat) : Int) from by rw [← Int.natCast_mul]; exact wrap_u64 (by omega) (by omega)))) rfl ?_
    refine TL_q (Qt_val (Qt_addw rfl rfl) (congrArg (Value.int .u64) (show IntKind.u64.wrap ((x : Int) + ((l[k + i].toNat % 128 * 128 ^ i : Nat) : Int)) = ((x + l[k + i].toNat % 128 * 128 ^ i : Nat) : Int) from by rw [← Int.natCast_add]; exact wrap_u64 (by omega) (by omega)))) rfl ?_
    refine TL_q (Qt_assign (.int .u64 _) rfl) rfl ?_
    refine TL_nil ?_
    refine X_then ?_
    refine T_seq ?_
    refine T_seq ?_
    refine T_region ?_
    refine TL_q (Qt_move (.int .u8 _) rfl) rfl ?_
    refine TL_q (Qt_lss rfl rfl) rfl ?_
    refine TL_nil ?_
    refine X_then ?_
    refine T_cond rfl (fun h41 => ?_) (fun h41 => ?_)
    ·
     have p41 := h41
     try simp only [decide_eq_true_eq, decide_eq_false_iff_not, Bool.not_eq_true', Bool.not_eq_false', Option.isNone_iff_eq_none, ne_eq, Decidable.not_not, Int.not_lt, Int.not_le] at p41
     have hlt : l[k + i].toNat < 128 := by omega
     refine T_seq ?_
     refine T_seq ?_
     refine T_region ?_
     refine TL_q (Qt_move (.int .u8 _) rfl) rfl ?_
     refine TL_q (Qt_eql rfl rfl) rfl ?_
     refine TL_q (Qt_move (.bool _) rfl) rfl ?_
     refine TL_split 44 rfl (fun h44 => ?_) (fun h44 => ?_)
     ·
      have p44 := h44
      try simp only [decide_eq_true_eq, decide_eq_false_iff_not, Bool.not_eq_true', Bool.not_eq_false', Option.isNone_iff_eq_none, ne_eq, Decidable.not_not, Int.not_lt, Int.not_le] at p44
      refine TL_take rfl rfl h44 ?_
      refine TL_q (Qt_move (.int .i64 _) rfl) rfl ?_
      refine TL_take rfl rfl h44 ?_
      refine TL_q (Qt_gtr rfl rfl) rfl ?_
      refine TL_q (Qt_pick_t (.bool _) rfl h44 rfl) rfl ?_
      refine TL_nil ?_
      refine X_then ?_
      refine T_cond rfl (fun h47 => ?_) (fun h47 => ?_)
      ·
       have p47 := h47
       try simp only [decide_eq_true_eq, decide_eq_false_iff_not, Bool.not_eq_true', Bool.not_eq_false', Option.isNone_iff_eq_none, ne_eq, Decidable.not_not, Int.not_lt, Int.not_le] at p47
       have hc47 : l[k + i].toNat = 0 ∧ 0 < i := by first | omega | (simp_all; done) | (simp_all; omega)
       refine T_seq ?_
       refine T_region ?_
       refine TL_q (Qt_build [(3, (.int .i64 _))] rfl (by kernel_rfl)) rfl ?_
       refine TL_n (Ef_storeN rfl rfl (?_))
       refine TL_nil ?_
       refine X_then ?_
       refine T_ret ?_
       refine X_then_ret ?_
       refine X_then_ret ?_
       refine X_block_ret ?_
       refine X_then_ret ?_
       refine X_loop_ret ?_
       refine X_block_ret ?_
       refine X_then_ret ?_
       have e : (rdPacked (l.drop k)) = (2, 0, 0) := hpk.trans (by rw [hat, if_neg hn31, if_pos hlt, if_pos hc47])
       exact X_ret () [_] Tryd.results105 ⟨⟨_, rfl, res_cellN rfl⟩, trivial⟩ (by rw [e]; rfl) (Subs.st inferInstance)
      ·
       have p47 := h47
       try simp only [decide_eq_true_eq, decide_eq_false_iff_not, Bool.not_eq_true', Bool.not_eq_false', Option.isNone_iff_eq_none, ne_eq, Decidable.not_not, Int.not_lt, Int.not_le] at p47
       have hn47 : ¬ (l[k + i].toNat = 0 ∧ 0 < i) := by first | omega | (simp_all; done) | (simp_all; omega)
       refine T_skip ?_
       refine X_then ?_
       refine T_seq ?_
       refine T_region ?_
       refine TL_q (Qt_move (.int .u64 _) rfl) rfl ?_
       refine TL_q (Qt_move (.int .i64 _) rfl) rfl ?_
       first
        | refine TL_q (Qt_add rfl rfl (by omega) (by omega)) rfl ?_
        | refine TL_q (Qt_addw rfl rfl) rfl ?_
       refine TL_q (Qt_build [(0, (.int .u64 _)), (2, (.int .i64 _))] rfl (by kernel_rfl)) rfl ?_
       refine TL_n (Ef_storeN rfl rfl (?_))
       refine TL_nil ?_
       refine X_then ?_
       refine T_ret ?_
       refine X_then_ret ?_
       refine X_block_ret ?_
       refine X_then_ret ?_
       refine X_loop_ret ?_
       refine X_block_ret ?_
       refine X_then_ret ?_
       have e : (rdPacked (l.drop k)) = (0, x + l[k + i].toNat % 128 * 128 ^ i, i + 1) := hpk.trans (by rw [hat, if_neg hn31, if_pos hlt, if_neg hn47])
       exact X_ret () [_] Tryd.results105 ⟨⟨_, rfl, res_cellN rfl⟩, trivial⟩ (by rw [e]; rfl) (Subs.st inferInstance)
     ·
      have p44 := h44
      try simp only [decide_eq_true_eq, decide_eq_false_iff_not, Bool.not_eq_true', Bool.not_eq_false', Option.isNone_iff_eq_none, ne_eq, Decidable.not_not, Int.not_lt, Int.not_le] at p44
      refine TL_pass rfl rfl h44 rfl ?_
      refine TL_pass rfl rfl h44 rfl ?_
      refine TL_q (Qt_pick_f (.bool _) rfl h44 rfl) rfl ?_
      refine TL_nil ?_
      refine X_then ?_
      refine T_cond_false rfl rfl ?_
      have hn47 : ¬ (l[k + i].toNat = 0 ∧ 0 < i) := by first | omega | (simp_all; done) | (simp_all; omega)
      refine T_skip ?_
      refine X_then ?_
      refine T_seq ?_
      refine T_region ?_
      refine TL_q (Qt_move (.int .u64 _) rfl) rfl ?_
      refine TL_q (Qt_move (.int .i64 _) rfl) rfl ?_
      first
       | refine TL_q (Qt_add rfl rfl (by omega) (by omega)) rfl ?_
       | refine TL_q (Qt_addw rfl rfl) rfl ?_
      refine TL_q (Qt_build [(0, (.int .u64 _)), (2, (.int .i64 _))] rfl (by kernel_rfl)) rfl ?_
      refine TL_n (Ef_storeN rfl rfl (?_))
      refine TL_nil ?_
      refine X_then ?_
      refine T_ret ?_
      refine X_then_ret ?_
      refine X_block_ret ?_
      refine X_then_ret ?_
      refine X_loop_ret ?_
      refine X_block_ret ?_
      refine X_then_ret ?_
      have e : (rdPacked (l.drop k)) = (0, x + l[k + i].toNat % 128 * 128 ^ i, i + 1) := hpk.trans (by rw [hat, if_neg hn31, if_pos hlt, if_neg hn47])
      exact X_ret () [_] Tryd.results105 ⟨⟨_, rfl, res_cellN rfl⟩, trivial⟩ (by rw [e]; rfl) (Subs.st inferInstance)
    ·
     have p41 := h41
     try simp only [decide_eq_true_eq, decide_eq_false_iff_not, Bool.not_eq_true', Bool.not_eq_false', Option.isNone_iff_eq_none, ne_eq, Decidable.not_not, Int.not_lt, Int.not_le] at p41
     have hge : ¬ l[k + i].toNat < 128 := by omega
     rw [if_neg hn31, if_neg hge] at hat
     have hs5 := hs4 (by omega)
     refine T_skip ?_
     refine X_then ?_
     refine T_region ?_
     refine TL_q (Qt_move (.int .u64 _) rfl) rfl ?_
     refine TL_q (Qt_val (Qt_mulw rfl rfl) (congrArg (Value.int .u64) (show IntKind.u64.wrap (128 * ((128 ^ i : Nat) : Int)) = ((128 ^ (i + 1) : Nat) : Int) from by rw [show (128 : Int) * ((128 ^ i : Nat) : Int) = ((128 * 128 ^ i : Nat) : Int) from by rw [Int.natCast_mul]; rfl, wrap_u64 (by omega) (by omega), Nat.pow_succ, Nat.mul_comm]))) rfl ?_
     refine TL_q (Qt_assign (.int .u64 _) rfl) rfl ?_
     refine TL_nil ?_
     refine X_block ?_
     refine X_then ?_
     refine T_region ?_
     refine TL_q (Qt_move (.int .i64 _) rfl) rfl ?_
     first
      | refine TL_q (Qt_add rfl rfl (by omega) (by omega)) rfl ?_
      | refine TL_q (Qt_addw rfl rfl) rfl ?_
     refine TL_q (Qt_assign (.int .i64 _) rfl) rfl ?_
     refine TL_nil ?_
     apply X_loop
     case ha => exact (by repeat (first | with_reducible exact agree_refl | refine agree_upd rfl ?_ | refine agree_mix rfl ?_ | refine agree_setAll rfl ?_))
     case hI => exact ⟨i + 1, _, rfl, rfl, by omega, hr3, hpk.trans hat⟩
     case hm => exact by show 10 - (i + 1 : Int).toNat < 10 - (i : Int).toNat; omega
     case hH => exact (Subs.st inferInstance)
 ·
  have p10 := h10
  try simp only [decide_eq_true_eq, decide_eq_false_iff_not, Bool.not_eq_true', Bool.not_eq_false', Option.isNone_iff_eq_none, ne_eq, Decidable.not_not, Int.not_lt, Int.not_le] at p10
  have hi : i = 10 := by omega
  subst hi
  refine T_exit ?_
  refine X_then_exit ?_
  refine X_loop_exit ?_
  refine X_block_exit ?_
  refine X_then ?_
  refine T_seq ?_
  refine T_region ?_
  refine TL_q (Qt_build [(3, (.int .i64 _))] rfl (by kernel_rfl)) rfl ?_
  refine TL_n (Ef_storeN rfl rfl (?_))
  refine TL_nil ?_
  refine X_then ?_
  refine T_ret ?_
  have e : (rdPacked (l.drop k)) = (2, 0, 0) := hpk.trans (rfl)
  exact X_ret () [_] Tryd.results105 ⟨⟨_, rfl, res_cellN rfl⟩, trivial⟩ (by rw [e]; rfl) (Subs.st inferInstance)
set_option maxHeartbeats 1000000 in
theorem rReadCount_c {w0 : World} {H : List SA} {a : Option Addr} {l : List UInt8} {c k : Nat} [hr : RdB w0 H (.slice a l.length c) l] (hk : k ≤ l.length) (hl : l.length ≤ 4294967296) {m : Int} (hm0 : -9223372036854775808 ≤ m) (hm : m ≤ 9223372036854775807) :
 CT Tryd.prog w0 (H) 95 [.slice a l.length c, .int .i64 (k : Int), .int .i64 m] (α := Unit) (fun _ => .agg (GotV.mk ((rdCount (l.drop k) m).2.1 : Int) ⟨none, 0, []⟩ ((rdCount (l.drop k) m).2.2 : Int) (rdCount (l.drop k) m).1).cells) (fun _ => H) := by
 refine CT_intro Tryd.func95 rfl Tryd.ntmps95 rfl ?_
 refine T_seq ?_
 refine T_region ?_
 refine TL_e rfl (Ef_allocN (fun b6 => ?_))
 refine TL_nil ?_
 refine X_then ?_
 refine T_seq ?_
 refine T_region ?_
 refine TL_q (Qt_move (.slice _ _ _) rfl) rfl ?_
 refine TL_q (Qt_move (.int .i64 _) rfl) rfl ?_
 refine TL_e rfl (Ef_call (rReadPacked_c hk hl) rfl (fun x10 => ?_))
 obtain ⟨P, hP⟩ : ∃ P, P = (rdPacked (l.drop k)) := ⟨_, rfl⟩
 have hpe : P.1 ≠ 0 → P.2 = (0, 0) := fun h => by rw [hP] at h ⊢; exact rdPacked_err h
 have hpb := (rdPacked_bound (l.drop k)).2.2
 rw [← hP] at hpb ⊢
 refine TL_e rfl (Ef_allocN (fun b7 => ?_))
 refine TL_n (Ef_storeN rfl rfl (?_))
 refine TL_nil ?_
 refine X_then ?_
 refine T_seq ?_
 refine T_seq ?_
 refine T_region ?_
 refine TL_q (Qt_fieldAddr 3 rfl rfl) rfl ?_
 refine TL_q (Qt_load1 rfl) rfl ?_
 refine TL_q (Qt_eql rfl rfl) rfl ?_
 refine TL_q (Qt_move (.bool _) rfl) rfl ?_
 refine TL_split 14 rfl (fun h14 => ?_) (fun h14 => ?_)
 ·
  have p14 := h14
  try simp only [decide_eq_true_eq, decide_eq_false_iff_not, Bool.not_eq_true', Bool.not_eq_false', Option.isNone_iff_eq_none, ne_eq, Decidable.not_not, Int.not_lt, Int.not_le] at p14
  refine TL_take rfl rfl h14 ?_
  refine TL_q (Qt_move (.int .i64 _) rfl) rfl ?_
  refine TL_take rfl rfl h14 ?_
  refine TL_q (Qt_lss rfl rfl) rfl ?_
  refine TL_take rfl rfl h14 ?_
  refine TL_q (Qt_move (.bool _) rfl) rfl ?_
  refine TL_split 17 rfl (fun h17 => ?_) (fun h17 => ?_)
  ·
   have p17 := h17
   try simp only [decide_eq_true_eq, decide_eq_false_iff_not, Bool.not_eq_true', Bool.not_eq_false', Option.isNone_iff_eq_none, ne_eq, Decidable.not_not, Int.not_lt, Int.not_le] at p17
   refine TL_pass rfl rfl h17 rfl ?_
   refine TL_pass rfl rfl h17 rfl ?_
   refine TL_pass rfl rfl h17 rfl ?_
   refine TL_pass rfl rfl h17 rfl ?_
   refine TL_pass rfl rfl h17 rfl ?_
   refine TL_take rfl rfl h14 ?_
   refine TL_q (Qt_pick_t (.bool _) rfl h17 rfl) rfl ?_
   refine TL_q (Qt_pick_t (.bool _) rfl h14 rfl) rfl ?_
   refine TL_nil ?_
   refine X_then ?_
   refine T_cond_true rfl rfl ?_
   refine T_seq ?_
   refine T_region ?_
   refine TL_q (Qt_build [(3, (.int .i64 _))] rfl (by kernel_rfl)) rfl ?_
   refine TL_n (Ef_storeN rfl rfl (?_))
   refine TL_nil ?_
   refine X_then ?_
   refine T_ret ?_
   refine X_then_ret ?_
   have e : (rdCount (l.drop k) m) = (3, 0, 0) := by unfold rdCount; rw [← hP, if_neg (by first | omega | (simp_all; done) | (simp_all; omega)), if_pos (by first | omega | (simp_all; done) | (simp_all; omega))]
   exact X_ret () [_] Tryd.results95 ⟨⟨_, rfl, res_cellN rfl⟩, trivial⟩ (by rw [e]; rfl) (Subs.st inferInstance)
  ·
   have p17 := h17
   try simp only [decide_eq_true_eq, decide_eq_false_iff_not, Bool.not_eq_true', Bool.not_eq_false', Option.isNone_iff_eq_none, ne_eq, Decidable.not_not, Int.not_lt, Int.not_le] at p17
   refine TL_take rfl rfl h17 ?_
   refine TL_q (Qt_fieldAddr 0 rfl rfl) rfl ?_
   refine TL_take rfl rfl h17 ?_
   refine TL_q (Qt_load1 rfl) rfl ?_
   refine TL_take rfl rfl h17 ?_
   refine TL_q (Qt_move (.int .i64 _) rfl) rfl ?_
   refine TL_take rfl rfl h17 ?_
   refine TL_q (Qt_conv_u64 rfl rfl Tryd.underlying112 (by omega) (by omega)) rfl ?_
   refine TL_take rfl rfl h17 ?_
   refine TL_q (Qt_gtr rfl rfl) rfl ?_
   refine TL_take rfl rfl h14 ?_
   refine TL_q (Qt_pick_f (.bool _) rfl h17 rfl) rfl ?_
   refine TL_q (Qt_pick_t (.bool _) rfl h14 rfl) rfl ?_
   refine TL_nil ?_
   refine X_then ?_
   refine T_cond rfl (fun h24 => ?_) (fun h24 => ?_)
   ·
    have p24 := h24
    try simp only [decide_eq_true_eq, decide_eq_false_iff_not, Bool.not_eq_true', Bool.not_eq_false', Option.isNone_iff_eq_none, ne_eq, Decidable.not_not, Int.not_lt, Int.not_le] at p24
    refine T_seq ?_
    refine T_region ?_
    refine TL_q (Qt_build [(3, (.int .i64 _))] rfl (by kernel_rfl)) rfl ?_
    refine TL_n (Ef_storeN rfl rfl (?_))
    refine TL_nil ?_
    refine X_then ?_
    refine T_ret ?_
    refine X_then_ret ?_
    have e : (rdCount (l.drop k) m) = (3, 0, 0) := by unfold rdCount; rw [← hP, if_neg (by first | omega | (simp_all; done) | (simp_all; omega)), if_pos (by first | omega | (simp_all; done) | (simp_all; omega))]
    exact X_ret () [_] Tryd.results95 ⟨⟨_, rfl, res_cellN rfl⟩, trivial⟩ (by rw [e]; rfl) (Subs.st inferInstance)
   ·
    have p24 := h24
    try simp only [decide_eq_true_eq, decide_eq_false_iff_not, Bool.not_eq_true', Bool.not_eq_false', Option.isNone_iff_eq_none, ne_eq, Decidable.not_not, Int.not_lt, Int.not_le] at p24
    refine T_skip ?_
    refine X_then ?_
    refine T_seq ?_
    refine T_region ?_
    refine TL_q (Qt_loadN rfl rfl) rfl ?_
    refine TL_n (Ef_storeN rfl rfl (?_))
    refine TL_nil ?_
    refine X_then ?_
    refine T_ret ?_
    have e : (rdCount (l.drop k) m) = P := by
     unfold rdCount
     rw [← hP]
     by_cases hp : P.1 ≠ 0
     · rw [if_pos hp, ← hpe hp]
     · rw [if_neg hp, if_neg (by first | omega | (simp_all; done) | (simp_all; omega))]
    exact X_ret () [_] Tryd.results95 ⟨⟨_, rfl, res_cellN rfl⟩, trivial⟩ (by rw [e]; rfl) (Subs.st inferInstance)
 ·
  have p14 := h14
  try simp only [decide_eq_true_eq, decide_eq_false_iff_not, Bool.not_eq_true', Bool.not_eq_false', Option.isNone_iff_eq_none, ne_eq, Decidable.not_not, Int.not_lt, Int.not_le] at p14
  refine TL_pass rfl rfl h14 rfl ?_
  refine TL_pass rfl rfl h14 rfl ?_
  refine TL_pass rfl rfl h14 rfl ?_
  refine TL_passU rfl rfl rfl ?_
  refine TL_passU rfl rfl rfl ?_
  refine TL_passU rfl rfl rfl ?_
  refine TL_passU rfl rfl rfl ?_
  refine TL_passU rfl rfl rfl ?_
  refine TL_pass rfl rfl h14 rfl ?_
  refine TL_q (Qt_pick_f (.bool _) rfl h14 rfl) rfl ?_
  refine TL_nil ?_
  refine X_then ?_
  refine T_cond_false rfl rfl ?_
  refine T_skip ?_
  refine X_then ?_
  refine T_seq ?_
  refine T_region ?_
  refine TL_q (Qt_loadN rfl rfl) rfl ?_
  refine TL_n (Ef_storeN rfl rfl (?_))
  refine TL_nil ?_
  refine X_then ?_
  refine T_ret ?_
  have e : (rdCount (l.drop k) m) = P := by
   unfold rdCount
   rw [← hP]
   by_cases hp : P.1 ≠ 0
   · rw [if_pos hp, ← hpe hp]
   · rw [if_neg hp, if_neg (by first | omega | (simp_all; done) | (simp_all; omega))]
  exact X_ret () [_] Tryd.results95 ⟨⟨_, rfl, res_cellN rfl⟩, trivial⟩ (by rw [e]; rfl) (Subs.st inferInstance)
set_option maxHeartbeats 1000000 in
theorem rReadText_c {w0 : World} {H : List SA} {a : Option Addr} {l : List UInt8} {c k : Nat} [hr : RdB w0 H (.slice a l.length c) l] (hk : k ≤ l.length) (hl : l.length ≤ 4294967296) {m : Int} (hm0 : -9223372036854775808 ≤ m) (hm : m ≤ 9223372036854775807) :
 CT Tryd.prog w0 (H) 94 [.slice a l.length c, .int .i64 (k : Int), .int .i64 m] (α := AC) (fun y => .agg (GotV.mk 0 ⟨y.a, y.c, (rdText (l.drop k) m).2.1⟩ ((rdText (l.drop k) m).2.2 : Int) (rdText (l.drop k) m).1).cells) (fun y => row (.slice y.a (rdText (l.drop k) m).2.1.length y.c) 5 1 (bytesV (rdText (l.drop k) m).2.1) :: H) := by
 refine CT_intro Tryd.func94 rfl Tryd.ntmps94 rfl ?_
 refine T_seq ?_
 refine T_region ?_
 refine TL_e rfl (Ef_allocN (fun b6 => ?_))
 refine TL_nil ?_
 refine X_then ?_
 refine T_seq ?_
 refine T_region ?_
 refine TL_q (Qt_move (.slice _ _ _) rfl) rfl ?_
 refine TL_q (Qt_move (.int .i64 _) rfl) rfl ?_
 refine TL_q (Qt_move (.int .i64 _) rfl) rfl ?_
 refine TL_e rfl (Ef_call (rReadCount_c hk hl hm0 hm) rfl (fun x14 => ?_))
 obtain ⟨P, hP⟩ : ∃ P, P = (rdCount (l.drop k) m) := ⟨_, rfl⟩
 have hpe : P.1 ≠ 0 → P.2 = (0, 0) := fun h => by rw [hP] at h ⊢; exact rdCount_err h
 obtain ⟨hb1, hb2, hb3⟩ := rdCount_bound (l.drop k) m
 rw [List.length_drop] at hb2
 rw [← hP] at hb1 hb2 hb3 ⊢
 refine TL_e rfl (Ef_allocN (fun b7 => ?_))
 refine TL_n (Ef_storeN rfl rfl (?_))
 refine TL_nil ?_
 refine X_then ?_
 refine T_seq ?_
 refine T_seq ?_
 refine T_region ?_
 refine TL_q (Qt_fieldAddr 3 rfl rfl) rfl ?_
 refine TL_q (Qt_load1 rfl) rfl ?_
 refine TL_q (Qt_neq rfl rfl) rfl ?_
 refine TL_nil ?_
 refine X_then ?_
 refine T_cond rfl (fun h17 => ?_) (fun h17 => ?_)
 ·
  have p17 := h17
  try simp only [decide_eq_true_eq, decide_eq_false_iff_not, Bool.not_eq_true', Bool.not_eq_false', Option.isNone_iff_eq_none, ne_eq, Decidable.not_not, Int.not_lt, Int.not_le] at p17
  refine T_seq ?_
  refine T_region ?_
  refine TL_q (Qt_loadN rfl rfl) rfl ?_
  refine TL_n (Ef_storeN rfl rfl (?_))
  refine TL_nil ?_
  refine X_then ?_
  refine T_ret ?_
  refine X_then_ret ?_
  have e : (rdText (l.drop k) m) = (P.1, [], 0) := by unfold rdText; rw [← hP, if_pos (by omega)]
  simp only [e]
  have hz := hpe (by omega)
  obtain ⟨p1, p2, p3⟩ := P
  obtain ⟨rfl, rfl⟩ : p2 = 0 ∧ p3 = 0 := by simpa using hz
  exact X_ret ⟨none, 0⟩ [_] Tryd.results94 ⟨⟨_, rfl, res_cellN rfl⟩, trivial⟩ rfl (fun w hw => St.addNilB 5 (Subs.st inferInstance w hw : St w0 H w))
 ·
  have p17 := h17
  try simp only [decide_eq_true_eq, decide_eq_false_iff_not, Bool.not_eq_true', Bool.not_eq_false', Option.isNone_iff_eq_none, ne_eq, Decidable.not_not, Int.not_lt, Int.not_le] at p17
  have hp0 : P.1 = 0 := by omega
  refine T_skip ?_
  refine X_then ?_
  refine T_seq ?_
  refine T_region ?_
  refine TL_q (Qt_fieldAddr 0 rfl rfl) rfl ?_
  refine TL_q (Qt_load1 rfl) rfl ?_
  have hmn : (P.2.1 : Int) ≤ m := by rw [hP] at hp0 ⊢; have := (rdCount_ok hp0).2.1; rw [(rdCount_ok hp0).1]; exact this
  refine TL_q (Qt_conv_i64 rfl rfl Tryd.underlying3 (by omega) (by omega)) rfl ?_
  refine TL_q (Qt_assign (.int .i64 _) rfl) rfl ?_
  refine TL_nil ?_
  refine X_then ?_
  refine T_seq ?_
  refine T_region ?_
  refine TL_q (Qt_move (.int .i64 _) rfl) rfl ?_
  refine TL_q (Qt_fieldAddr 2 rfl rfl) rfl ?_
  refine TL_q (Qt_load1 rfl) rfl ?_
  first
   | refine TL_q (Qt_add rfl rfl (by omega) (by omega)) rfl ?_
   | refine TL_q (Qt_addw rfl rfl) rfl ?_
  refine TL_q (Qt_assign (.int .i64 _) rfl) rfl ?_
  refine TL_nil ?_
  refine X_then ?_
  refine T_seq ?_
  refine T_seq ?_
  refine T_region ?_
  refine TL_q (Qt_move (.int .i64 _) rfl) rfl ?_
  refine TL_q (Qt_move (.slice _ _ _) rfl) rfl ?_
  refine TL_q (Qt_len_slice rfl Tryd.underlying27) rfl ?_
  refine TL_q (Qt_move (.int .i64 _) rfl) rfl ?_
  first
   | refine TL_q (Qt_sub rfl rfl (by omega) (by omega)) rfl ?_
   | refine TL_q (Qt_subw rfl rfl) rfl ?_
  refine TL_q (Qt_gtr rfl rfl) rfl ?_
  refine TL_nil ?_
  refine X_then ?_
  refine T_cond rfl (fun h31 => ?_) (fun h31 => ?_)
  ·
   have p31 := h31
   try simp only [decide_eq_true_eq, decide_eq_false_iff_not, Bool.not_eq_true', Bool.not_eq_false', Option.isNone_iff_eq_none, ne_eq, Decidable.not_not, Int.not_lt, Int.not_le] at p31
   refine T_seq ?_
   refine T_region ?_
   refine TL_q (Qt_build [(3, (.int .i64 _))] rfl (by kernel_rfl)) rfl ?_
   refine TL_n (Ef_storeN rfl rfl (?_))
   refine TL_nil ?_
   refine X_then ?_
   refine T_ret ?_
   refine X_then_ret ?_
   have e : (rdText (l.drop k) m) = (1, [], 0) := by unfold rdText; rw [← hP, if_neg (by omega), if_pos (by rw [List.length_drop]; omega)]
   simp only [e]
   exact X_ret ⟨none, 0⟩ [_] Tryd.results94 ⟨⟨_, rfl, res_cellN rfl⟩, trivial⟩ rfl (fun w hw => St.addNilB 5 (Subs.st inferInstance w hw : St w0 H w))
  ·
   have p31 := h31
   try simp only [decide_eq_true_eq, decide_eq_false_iff_not, Bool.not_eq_true', Bool.not_eq_false', Option.isNone_iff_eq_none, ne_eq, Decidable.not_not, Int.not_lt, Int.not_le] at p31
   refine T_skip ?_
   refine X_then ?_
   refine T_seq ?_
   refine T_region ?_
   refine TL_q (Qt_fieldAddr 2 rfl rfl) rfl ?_
   refine TL_q (Qt_load1 rfl) rfl ?_
   refine TL_q (Qt_move (.int .i64 _) rfl) rfl ?_
   first
    | refine TL_q (Qt_add rfl rfl (by omega) (by omega)) rfl ?_
    | refine TL_q (Qt_addw rfl rfl) rfl ?_
   refine TL_q (Qt_build [(2, (.int .i64 _))] rfl (by kernel_rfl)) rfl ?_
   refine TL_e rfl (Ef_allocN (fun b10 => ?_))
   refine TL_n (Ef_storeN rfl rfl (?_))
   refine TL_conv (fun w hw => St.addNilB 5 hw) ?_
   refine TL_nil ?_
   refine X_then ?_
   refine T_seq ?_
   refine T_drawF H (by kernel_rfl) (Subs.st inferInstance) ?_
   refine DLF_q (i := 0) (by kernel_rfl) rfl (by kernel_rfl) (by kernel_rfl) (Qt_fieldAddr 1 rfl rfl) rfl ?_
   refine DLF_q (i := 2) (by kernel_rfl) rfl (by kernel_rfl) (by kernel_rfl) (Qt_move (.slice _ _ _) rfl) rfl ?_
   refine DLF_q (i := 3) (by kernel_rfl) rfl (by kernel_rfl) (by kernel_rfl) (Qt_move (.int .i64 _) rfl) rfl ?_
   refine DLF_q (i := 4) (by kernel_rfl) rfl (by kernel_rfl) (by kernel_rfl) (Qt_move (.int .i64 _) rfl) rfl ?_
   refine DLF_q (i := 5) (by kernel_rfl) rfl (by kernel_rfl) (by kernel_rfl) (Qt_move (.int .i64 _) rfl) rfl ?_
   first
    | refine DLF_q (i := 6) (by kernel_rfl) rfl (by kernel_rfl) (by kernel_rfl) (Qt_add rfl rfl (by omega) (by omega)) rfl ?_
    | refine DLF_q (i := 6) (by kernel_rfl) rfl (by kernel_rfl) (by kernel_rfl) (Qt_addw rfl rfl) rfl ?_
   refine DLF_q (i := 7) (by kernel_rfl) rfl (by kernel_rfl) (by kernel_rfl) (Qt_sliceB_lh (k + P.2.2) P.2.1 rfl (by refine congrArg (Value.int .i64) ?_; omega) (by refine congrArg (Value.int .i64) ?_; omega) (by omega)) rfl ?_
   refine DLF_1 (i := 1) (by kernel_rfl) ?_
   refine DLS_e rfl rfl (Ef_of_Qt (Qt_load1 rfl) ⟨(Subs.st inferInstance), ?_⟩)
   refine DLF_1 (i := 8) (by kernel_rfl) ?_
   refine DLS_e rfl rfl (Ef_appendB (sv := .slice _ _ _) (xv := .slice _ _ _) rfl rfl (by first | omega | (simp; omega)) rfl (fun a46 c46 => ⟨(Subs.st inferInstance), ?_⟩))
   rw [List.nil_append]
   refine DLF_q (i := 9) (by kernel_rfl) rfl (by kernel_rfl) (by kernel_rfl) (Qt_fieldAddr 1 rfl rfl) rfl ?_
   refine DLF_1 (i := 10) (by kernel_rfl) ?_
   refine DLS_n rfl (Ef_store1 (.slice _ _ _) rfl rfl (⟨(Subs.st inferInstance), ?_⟩))
   refine DLF_nil (by kernel_rfl) ?_
   refine X_then ?_
   refine T_seq ?_
   refine T_region ?_
   refine TL_q (Qt_loadN rfl rfl) rfl ?_
   refine TL_n (Ef_storeN rfl rfl (?_))
   refine TL_nil ?_
   refine X_then ?_
   refine T_ret ?_
   have e : (rdText (l.drop k) m) = (0, (l.drop (k + P.2.2)).take P.2.1, P.2.2 + P.2.1) := by unfold rdText; rw [← hP, if_neg (by omega), if_neg (by rw [List.length_drop]; omega), List.drop_drop]
   simp only [e]
   exact X_ret ⟨a46, c46⟩ [_] Tryd.results94 ⟨⟨_, rfl, res_cellN rfl⟩, trivial⟩ rfl (Subs.st inferInstance)
end Go.Proofs.YtgjkgdjjolnhdaaDoor
