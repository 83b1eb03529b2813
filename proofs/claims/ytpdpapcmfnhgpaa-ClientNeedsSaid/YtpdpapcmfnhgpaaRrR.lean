/- Walks: the references that read packed numbers, counts, texts. -/
import Derived.Test.YtpdpapcmfnhgpaaRshR
import Derived.Test.YtpdpapcmfnhgpaaSr
import Derived.Test.YtpdpapcmfnhgpaaLpR
import Derived.Test.YtpdpapcmfnhgpaaTz
import Derived.Test.YtpdpapcmfnhgpaaMsR
import Derived.Test.YtpdpapcmfnhgpaaOoR
import Derived.Test.YtpdpapcmfnhgpaaMbR
import Derived.Test.YtpdpapcmfnhgpaaRmR
namespace Go.Proofs.Ytpdpapcmfnhgpaa
section
open Go.RowKit Go.Sx
set_option maxRecDepth 100000
set_option linter.unusedSimpArgs false
set_option linter.unusedVariables false
theorem pk_room2 {x c i : Nat} (hi : i < 10) (hx : x < 128 ^ i) (h9 : i = 9 → c ≤ 1) : c % 128 * 128 ^ i < 18446744073709551616 ∧ x + c % 128 * 128 ^ i < 18446744073709551616 ∧ 128 ^ i < 18446744073709551616 ∧ (1 < c → 128 * 128 ^ i < 18446744073709551616) := by
 have h3 : (128 : Nat) ^ 9 = 9223372036854775808 := by decide
 have h5 : (128 : Nat) ^ 8 = 72057594037927936 := by decide
 by_cases hi9 : i = 9
 · have := h9 hi9
   subst hi9
   have h6 : c % 128 ≤ 1 := by omega
   rw [h3] at hx ⊢
   refine ⟨by omega, by omega, by omega, fun h => by omega⟩
 · have h4 : (128 : Nat) ^ i ≤ 128 ^ 8 := Nat.pow_le_pow_right (by decide) (by omega)
   have h2 := Nat.mul_le_mul_right (128 ^ i) (show c % 128 ≤ 127 by omega)
   rw [h5] at h4
   refine ⟨by omega, by omega, by omega, fun _ => by omega⟩

set_option maxHeartbeats 1000000 in
theorem rReadPacked_c {w0 : World} {H : List SA} {a : Option Addr} {l : List UInt8} {c k : Nat} [hr : RdB w0 H (.slice a l.length c) l] (hk : k ≤ l.length) (hl : l.length ≤ 4294967296) :
 CT Try.prog w0 (H) 114 [.slice a l.length c, .int .i64 (k : Int)] (α := Unit) (fun _ => .agg (GotV.mk ((rdPacked (l.drop k)).2.1 : Int) ⟨none, 0, []⟩ ((rdPacked (l.drop k)).2.2 : Int) (rdPacked (l.drop k)).1).cells) (fun _ => H) := by
 refine CT_intro Try.func114 rfl Try.ntmps114 rfl ?_
 refine T_seq ?_
 refine T_region ?_
 refine TL_e rfl (Ef_allocN (fun b4 => ?_))
 refine TL_nil ?_
 refine X_then ?_
 refine T_seq ?_
 refine T_region ?_
 refine TL_q (Qt_assign (.int .u64 _) rfl) rfl ?_
 refine TL_nil ?_
 refine X_then ?_
 refine T_seq ?_
 refine T_region ?_
 refine TL_q (Qt_assign (.int .u64 _) rfl) rfl ?_
 refine TL_nil ?_
 refine X_then ?_
 refine T_seq ?_
 refine T_seq ?_
 refine T_region ?_
 refine TL_q (Qt_assign (.int .i64 _) rfl) rfl ?_
 refine TL_nil ?_
 refine X_then ?_
 refine T_block ?_
 refine T_loop [5, 6, 7, 8, 9, 10, 11, 12, 13, 14, 15, 16, 17, 18, 19, 20, 21, 22, 23, 24, 25, 26, 27, 28, 29, 30, 31, 32, 33, 34, 35, 36, 37, 38, 39, 40, 41, 42, 43, 44, 45, 46, 47, 48, 49, 50, 51, 52, 53, 54] [7, 5, 6] (fun us H' => ∃ (i : Nat) (x : Nat), us = [.int .i64 (i : Int), .int .u64 (x : Int), .int .u64 ((128 ^ i : Nat) : Int)] ∧ blk b4 (.cells GotV.zero.cells 199 (0, 0)) :: H = H' ∧ i ≤ 10 ∧ (x < 128 ^ i) ∧ ((rdPacked (l.drop k)) = pk (l.drop k) (10 - i) i x)) (fun us => match us with | .int _ i :: _ => 10 - i.toNat | _ => 0) ⟨0, 0, rfl, rfl, by omega, by simp, rfl⟩ (Subs.st inferInstance) ?_
 rintro τ0 _ _  ⟨i, x, rfl, rfl, hi0, hx, hpk⟩ _
 refine T_seq ?_
 refine T_seq ?_
 refine T_region ?_
 refine TL_q (Qt_move (.int .i64 _) rfl) rfl ?_
 refine TL_q (Qt_lss rfl rfl) rfl ?_
 refine TL_nil ?_
 refine X_then ?_
 refine T_cond rfl (fun h10 => ?_) (fun h10 => ?_)
 ·
  have p10 := h10
  try simp only [decide_eq_true_eq, decide_eq_false_iff_not, Bool.not_eq_true', Bool.not_eq_false', Option.isNone_iff_eq_none, ne_eq, Decidable.not_not, Int.not_lt, Int.not_le] at p10
  have hi10 : i < 10 := by omega
  refine T_skip ?_
  refine X_then ?_
  refine T_seq ?_
  refine T_block ?_
  refine T_seq ?_
  refine T_seq ?_
  refine T_region ?_
  refine TL_q (Qt_move (.int .i64 _) rfl) rfl ?_
  refine TL_q (Qt_move (.int .i64 _) rfl) rfl ?_
  first
   | refine TL_q (Qt_add rfl rfl (by omega) (by omega)) rfl ?_
   | refine TL_q (Qt_addw rfl rfl) rfl ?_
  refine TL_q (Qt_move (.slice _ _ _) rfl) rfl ?_
  refine TL_q (Qt_len_slice rfl Try.underlying37) rfl ?_
  refine TL_q (Qt_geq rfl rfl) rfl ?_
  refine TL_nil ?_
  refine X_then ?_
  refine T_cond rfl (fun h18 => ?_) (fun h18 => ?_)
  ·
   have p18 := h18
   try simp only [decide_eq_true_eq, decide_eq_false_iff_not, Bool.not_eq_true', Bool.not_eq_false', Option.isNone_iff_eq_none, ne_eq, Decidable.not_not, Int.not_lt, Int.not_le] at p18
   refine T_seq ?_
   refine T_region ?_
   refine TL_q (Qt_build [(3, (.int .i64 _))] rfl (by kernel_rfl)) rfl ?_
   refine TL_n (Ef_storeN rfl rfl (?_))
   refine TL_nil ?_
   refine X_then ?_
   refine T_ret ?_
   refine X_then_ret ?_
   refine X_block_ret ?_
   refine X_then_ret ?_
   refine X_loop_ret ?_
   refine X_block_ret ?_
   refine X_then_ret ?_
   have e : (rdPacked (l.drop k)) = (1, 0, 0) := hpk.trans (pk_short hi10 (by simp; omega))
   exact X_ret () [_] Try.results114 ⟨⟨_, rfl, res_cellN rfl⟩, trivial⟩ (by rw [e]; rfl) (Subs.st inferInstance)
  ·
   have p18 := h18
   try simp only [decide_eq_true_eq, decide_eq_false_iff_not, Bool.not_eq_true', Bool.not_eq_false', Option.isNone_iff_eq_none, ne_eq, Decidable.not_not, Int.not_lt, Int.not_le] at p18
   have hki : k + i < l.length := by omega
   have hgc : (l.drop k)[i]? = some l[k + i] := by rw [List.getElem?_drop, List.getElem?_eq_getElem hki]
   have hat := pk_at (x := x) hi10 hgc
   have hc8 := l[k + i].toNat_lt
   refine T_skip ?_
   refine X_then ?_
   refine T_seq ?_
   refine T_region ?_
   refine TL_q (Qt_move (.slice _ _ _) rfl) rfl ?_
   refine TL_q (Qt_move (.int .i64 _) rfl) rfl ?_
   refine TL_q (Qt_move (.int .i64 _) rfl) rfl ?_
   first
    | refine TL_q (Qt_add rfl rfl (by omega) (by omega)) rfl ?_
    | refine TL_q (Qt_addw rfl rfl) rfl ?_
   refine TL_q (Qt_indexR rfl rfl (by omega) (by simp; omega)) rfl ?_
   refine TL_q (Qt_loadR (.int .u8 (l[k + i].toNat : Int)) rfl (bytes_get _ _ hki)) rfl ?_
   refine TL_q (Qt_assign (.int .u8 _) rfl) rfl ?_
   refine TL_nil ?_
   refine X_then ?_
   refine T_seq ?_
   refine T_seq ?_
   refine T_region ?_
   refine TL_q (Qt_move (.int .i64 _) rfl) rfl ?_
   refine TL_q (Qt_eql rfl rfl) rfl ?_
   refine TL_q (Qt_move (.bool _) rfl) rfl ?_
   refine TL_split 28 rfl (fun h28 => ?_) (fun h28 => ?_)
   ·
    have p28 := h28
    try simp only [decide_eq_true_eq, decide_eq_false_iff_not, Bool.not_eq_true', Bool.not_eq_false', Option.isNone_iff_eq_none, ne_eq, Decidable.not_not, Int.not_lt, Int.not_le] at p28
    refine TL_take rfl rfl h28 ?_
    refine TL_q (Qt_move (.int .u8 _) rfl) rfl ?_
    refine TL_take rfl rfl h28 ?_
    refine TL_q (Qt_gtr rfl rfl) rfl ?_
    refine TL_q (Qt_pick_t (.bool _) rfl h28 rfl) rfl ?_
    refine TL_nil ?_
    refine X_then ?_
    refine T_cond rfl (fun h31 => ?_) (fun h31 => ?_)
    ·
     have p31 := h31
     try simp only [decide_eq_true_eq, decide_eq_false_iff_not, Bool.not_eq_true', Bool.not_eq_false', Option.isNone_iff_eq_none, ne_eq, Decidable.not_not, Int.not_lt, Int.not_le] at p31
     have hc31 : i = 9 ∧ 1 < l[k + i].toNat := by first | omega | (simp_all; done) | (simp_all; omega)
     refine T_seq ?_
     refine T_region ?_
     refine TL_q (Qt_build [(3, (.int .i64 _))] rfl (by kernel_rfl)) rfl ?_
     refine TL_n (Ef_storeN rfl rfl (?_))
     refine TL_nil ?_
     refine X_then ?_
     refine T_ret ?_
     refine X_then_ret ?_
     refine X_block_ret ?_
     refine X_then_ret ?_
     refine X_loop_ret ?_
     refine X_block_ret ?_
     refine X_then_ret ?_
     have e : (rdPacked (l.drop k)) = (2, 0, 0) := hpk.trans (by rw [hat, if_pos hc31])
     exact X_ret () [_] Try.results114 ⟨⟨_, rfl, res_cellN rfl⟩, trivial⟩ (by rw [e]; rfl) (Subs.st inferInstance)
    ·
     have p31 := h31
     try simp only [decide_eq_true_eq, decide_eq_false_iff_not, Bool.not_eq_true', Bool.not_eq_false', Option.isNone_iff_eq_none, ne_eq, Decidable.not_not, Int.not_lt, Int.not_le] at p31
     have hn31 : ¬ (i = 9 ∧ 1 < l[k + i].toNat) := by first | omega | (simp_all; done) | (simp_all; omega)
     obtain ⟨hr1, hr2, hr3⟩ := pk_room (c := l[k + i].toNat) hi10 hx (by omega)
     obtain ⟨hs1, hs2, hs3, hs4⟩ := pk_room2 (c := l[k + i].toNat) hi10 hx (by omega)
     refine T_skip ?_
     refine X_then ?_
     refine T_seq ?_
     refine T_region ?_
     refine TL_q (Qt_move (.int .u64 _) rfl) rfl ?_
     refine TL_q (Qt_move (.int .u8 _) rfl) rfl ?_
     refine TL_q (Qt_val (Qt_rem rfl rfl (by decide)) (congrArg (Value.int .u8) (rem_nat l[k + i].toNat 128))) rfl ?_
     refine TL_q (Qt_conv_u64 rfl rfl Try.underlying167 (by omega) (by omega)) rfl ?_
     refine TL_q (Qt_move (.int .u64 _) rfl) rfl ?_
     refine TL_q (Qt_val (Qt_mulw rfl rfl) (congrArg (Value.int .u64) (show IntKind.u64.wrap (((l[k + i].toNat % 128 : Nat) : Int) * ((128 ^ i : Nat) : Int)) = ((l[k + i].toNat % 128 * 128 ^ i : Nat) : Int) from by rw [← Int.natCast_mul]; exact wrap_u64 (by omega) (by omega)))) rfl ?_
     refine TL_q (Qt_val (Qt_addw rfl rfl) (congrArg (Value.int .u64) (show IntKind.u64.wrap ((x : Int) + ((l[k + i].toNat % 128 * 128 ^ i : Nat) : Int)) = ((x + l[k + i].toNat % 128 * 128 ^ i : Nat) : Int) from by rw [← Int.natCast_add]; exact wrap_u64 (by omega) (by omega)))) rfl ?_
     refine TL_q (Qt_assign (.int .u64 _) rfl) rfl ?_
     refine TL_nil ?_
     refine X_then ?_
     refine T_seq ?_
     refine T_seq ?_
     refine T_region ?_
     refine TL_q (Qt_move (.int .u8 _) rfl) rfl ?_
     refine TL_q (Qt_lss rfl rfl) rfl ?_
     refine TL_nil ?_
     refine X_then ?_
     refine T_cond rfl (fun h41 => ?_) (fun h41 => ?_)
     ·
      have p41 := h41
      try simp only [decide_eq_true_eq, decide_eq_false_iff_not, Bool.not_eq_true', Bool.not_eq_false', Option.isNone_iff_eq_none, ne_eq, Decidable.not_not, Int.not_lt, Int.not_le] at p41
      have hlt : l[k + i].toNat < 128 := by omega
      refine T_seq ?_
      refine T_seq ?_
      refine T_region ?_
      refine TL_q (Qt_move (.int .u8 _) rfl) rfl ?_
      refine TL_q (Qt_eql rfl rfl) rfl ?_
      refine TL_q (Qt_move (.bool _) rfl) rfl ?_
      refine TL_split 44 rfl (fun h44 => ?_) (fun h44 => ?_)
      ·
       have p44 := h44
       try simp only [decide_eq_true_eq, decide_eq_false_iff_not, Bool.not_eq_true', Bool.not_eq_false', Option.isNone_iff_eq_none, ne_eq, Decidable.not_not, Int.not_lt, Int.not_le] at p44
       refine TL_take rfl rfl h44 ?_
       refine TL_q (Qt_move (.int .i64 _) rfl) rfl ?_
       refine TL_take rfl rfl h44 ?_
       refine TL_q (Qt_gtr rfl rfl) rfl ?_
       refine TL_q (Qt_pick_t (.bool _) rfl h44 rfl) rfl ?_
       refine TL_nil ?_
       refine X_then ?_
       refine T_cond rfl (fun h47 => ?_) (fun h47 => ?_)
       ·
        have p47 := h47
        try simp only [decide_eq_true_eq, decide_eq_false_iff_not, Bool.not_eq_true', Bool.not_eq_false', Option.isNone_iff_eq_none, ne_eq, Decidable.not_not, Int.not_lt, Int.not_le] at p47
        have hc47 : l[k + i].toNat = 0 ∧ 0 < i := by first | omega | (simp_all; done) | (simp_all; omega)
        refine T_seq ?_
        refine T_region ?_
        refine TL_q (Qt_build [(3, (.int .i64 _))] rfl (by kernel_rfl)) rfl ?_
        refine TL_n (Ef_storeN rfl rfl (?_))
        refine TL_nil ?_
        refine X_then ?_
        refine T_ret ?_
        refine X_then_ret ?_
        refine X_then_ret ?_
        refine X_block_ret ?_
        refine X_then_ret ?_
        refine X_loop_ret ?_
        refine X_block_ret ?_
        refine X_then_ret ?_
        have e : (rdPacked (l.drop k)) = (2, 0, 0) := hpk.trans (by rw [hat, if_neg hn31, if_pos hlt, if_pos hc47])
        exact X_ret () [_] Try.results114 ⟨⟨_, rfl, res_cellN rfl⟩, trivial⟩ (by rw [e]; rfl) (Subs.st inferInstance)
       ·
        have p47 := h47
        try simp only [decide_eq_true_eq, decide_eq_false_iff_not, Bool.not_eq_true', Bool.not_eq_false', Option.isNone_iff_eq_none, ne_eq, Decidable.not_not, Int.not_lt, Int.not_le] at p47
        have hn47 : ¬ (l[k + i].toNat = 0 ∧ 0 < i) := by first | omega | (simp_all; done) | (simp_all; omega)
        refine T_skip ?_
        refine X_then ?_
        refine T_seq ?_
        refine T_region ?_
        refine TL_q (Qt_move (.int .u64 _) rfl) rfl ?_
        refine TL_q (Qt_move (.int .i64 _) rfl) rfl ?_
        first
         | refine TL_q (Qt_add rfl rfl (by omega) (by omega)) rfl ?_
         | refine TL_q (Qt_addw rfl rfl) rfl ?_
        refine TL_q (Qt_build [(0, (.int .u64 _)), (2, (.int .i64 _))] rfl (by kernel_rfl)) rfl ?_
        refine TL_n (Ef_storeN rfl rfl (?_))
        refine TL_nil ?_
        refine X_then ?_
        refine T_ret ?_
        refine X_then_ret ?_
        refine X_block_ret ?_
        refine X_then_ret ?_
        refine X_loop_ret ?_
        refine X_block_ret ?_
        refine X_then_ret ?_
        have e : (rdPacked (l.drop k)) = (0, x + l[k + i].toNat % 128 * 128 ^ i, i + 1) := hpk.trans (by rw [hat, if_neg hn31, if_pos hlt, if_neg hn47])
        exact X_ret () [_] Try.results114 ⟨⟨_, rfl, res_cellN rfl⟩, trivial⟩ (by rw [e]; rfl) (Subs.st inferInstance)
      ·
       have p44 := h44
       try simp only [decide_eq_true_eq, decide_eq_false_iff_not, Bool.not_eq_true', Bool.not_eq_false', Option.isNone_iff_eq_none, ne_eq, Decidable.not_not, Int.not_lt, Int.not_le] at p44
       refine TL_pass rfl rfl h44 rfl ?_
       refine TL_pass rfl rfl h44 rfl ?_
       refine TL_q (Qt_pick_f (.bool _) rfl h44 rfl) rfl ?_
       refine TL_nil ?_
       refine X_then ?_
       refine T_cond_false rfl rfl ?_
       have hn47 : ¬ (l[k + i].toNat = 0 ∧ 0 < i) := by first | omega | (simp_all; done) | (simp_all; omega)
       refine T_skip ?_
       refine X_then ?_
       refine T_seq ?_
       refine T_region ?_
       refine TL_q (Qt_move (.int .u64 _) rfl) rfl ?_
       refine TL_q (Qt_move (.int .i64 _) rfl) rfl ?_
       first
        | refine TL_q (Qt_add rfl rfl (by omega) (by omega)) rfl ?_
        | refine TL_q (Qt_addw rfl rfl) rfl ?_
       refine TL_q (Qt_build [(0, (.int .u64 _)), (2, (.int .i64 _))] rfl (by kernel_rfl)) rfl ?_
       refine TL_n (Ef_storeN rfl rfl (?_))
       refine TL_nil ?_
       refine X_then ?_
       refine T_ret ?_
       refine X_then_ret ?_
       refine X_block_ret ?_
       refine X_then_ret ?_
       refine X_loop_ret ?_
       refine X_block_ret ?_
       refine X_then_ret ?_
       have e : (rdPacked (l.drop k)) = (0, x + l[k + i].toNat % 128 * 128 ^ i, i + 1) := hpk.trans (by rw [hat, if_neg hn31, if_pos hlt, if_neg hn47])
       exact X_ret () [_] Try.results114 ⟨⟨_, rfl, res_cellN rfl⟩, trivial⟩ (by rw [e]; rfl) (Subs.st inferInstance)
     ·
      have p41 := h41
      try simp only [decide_eq_true_eq, decide_eq_false_iff_not, Bool.not_eq_true', Bool.not_eq_false', Option.isNone_iff_eq_none, ne_eq, Decidable.not_not, Int.not_lt, Int.not_le] at p41
      have hge : ¬ l[k + i].toNat < 128 := by omega
      rw [if_neg hn31, if_neg hge] at hat
      have hs5 := hs4 (by omega)
      refine T_skip ?_
      refine X_then ?_
      refine T_region ?_
      refine TL_q (Qt_move (.int .u64 _) rfl) rfl ?_
      refine TL_q (Qt_val (Qt_mulw rfl rfl) (congrArg (Value.int .u64) (show IntKind.u64.wrap (128 * ((128 ^ i : Nat) : Int)) = ((128 ^ (i + 1) : Nat) : Int) from by rw [show (128 : Int) * ((128 ^ i : Nat) : Int) = ((128 * 128 ^ i : Nat) : Int) from by rw [Int.natCast_mul]; rfl, wrap_u64 (by omega) (by omega), Nat.pow_succ, Nat.mul_comm]))) rfl ?_
      refine TL_q (Qt_assign (.int .u64 _) rfl) rfl ?_
      refine TL_nil ?_
      refine X_block ?_
      refine X_then ?_
      refine T_region ?_
      refine TL_q (Qt_move (.int .i64 _) rfl) rfl ?_
      first
       | refine TL_q (Qt_add rfl rfl (by omega) (by omega)) rfl ?_
       | refine TL_q (Qt_addw rfl rfl) rfl ?_
      refine TL_q (Qt_assign (.int .i64 _) rfl) rfl ?_
      refine TL_nil ?_
      apply X_loop
      case ha => exact (by repeat (first | with_reducible exact agree_refl | refine agree_upd rfl ?_ | refine agree_mix rfl ?_ | refine agree_setAll rfl ?_))
      case hI => exact ⟨i + 1, _, rfl, rfl, by omega, hr3, hpk.trans hat⟩
      case hm => exact by show 10 - (i + 1 : Int).toNat < 10 - (i : Int).toNat; omega
      case hH => exact (Subs.st inferInstance)
   ·
    have p28 := h28
    try simp only [decide_eq_true_eq, decide_eq_false_iff_not, Bool.not_eq_true', Bool.not_eq_false', Option.isNone_iff_eq_none, ne_eq, Decidable.not_not, Int.not_lt, Int.not_le] at p28
    refine TL_pass rfl rfl h28 rfl ?_
    refine TL_pass rfl rfl h28 rfl ?_
    refine TL_q (Qt_pick_f (.bool _) rfl h28 rfl) rfl ?_
    refine TL_nil ?_
    refine X_then ?_
    refine T_cond_false rfl rfl ?_
    have hn31 : ¬ (i = 9 ∧ 1 < l[k + i].toNat) := by first | omega | (simp_all; done) | (simp_all; omega)
    obtain ⟨hr1, hr2, hr3⟩ := pk_room (c := l[k + i].toNat) hi10 hx (by omega)
    obtain ⟨hs1, hs2, hs3, hs4⟩ := pk_room2 (c := l[k + i].toNat) hi10 hx (by omega)
    refine T_skip ?_
    refine X_then ?_
    refine T_seq ?_
    refine T_region ?_
    refine TL_q (Qt_move (.int .u64 _) rfl) rfl ?_
    refine TL_q (Qt_move (.int .u8 _) rfl) rfl ?_
    refine TL_q (Qt_val (Qt_rem rfl rfl (by decide)) (congrArg (Value.int .u8) (rem_nat l[k + i].toNat 128))) rfl ?_
    refine TL_q (Qt_conv_u64 rfl rfl Try.underlying167 (by omega) (by omega)) rfl ?_
    refine TL_q (Qt_move (.int .u64 _) rfl) rfl ?_
    refine TL_q (Qt_val (Qt_mulw rfl rfl) (congrArg (Value.int .u64) (show IntKind.u64.wrap (((l[k + i].toNat % 128 : Nat) : Int) * ((128 ^ i : Nat) : Int)) = ((l[k + i].toNat % 128 * 128 ^ i : Nat) : Int) from by rw [← Int.natCast_mul]; exact wrap_u64 (by omega) (by omega)))) rfl ?_
    refine TL_q (Qt_val (Qt_addw rfl rfl) (congrArg (Value.int .u64) (show IntKind.u64.wrap ((x : Int) + ((l[k + i].toNat % 128 * 128 ^ i : Nat) : Int)) = ((x + l[k + i].toNat % 128 * 128 ^ i : Nat) : Int) from by rw [← Int.natCast_add]; exact wrap_u64 (by omega) (by omega)))) rfl ?_
    refine TL_q (Qt_assign (.int .u64 _) rfl) rfl ?_
    refine TL_nil ?_
    refine X_then ?_
    refine T_seq ?_
    refine T_seq ?_
    refine T_region ?_
    refine TL_q (Qt_move (.int .u8 _) rfl) rfl ?_
    refine TL_q (Qt_lss rfl rfl) rfl ?_
    refine TL_nil ?_
    refine X_then ?_
    refine T_cond rfl (fun h41 => ?_) (fun h41 => ?_)
    ·
     have p41 := h41
     try simp only [decide_eq_true_eq, decide_eq_false_iff_not, Bool.not_eq_true', Bool.not_eq_false', Option.isNone_iff_eq_none, ne_eq, Decidable.not_not, Int.not_lt, Int.not_le] at p41
     have hlt : l[k + i].toNat < 128 := by omega
     refine T_seq ?_
     refine T_seq ?_
     refine T_region ?_
     refine TL_q (Qt_move (.int .u8 _) rfl) rfl ?_
     refine TL_q (Qt_eql rfl rfl) rfl ?_
     refine TL_q (Qt_move (.bool _) rfl) rfl ?_
     refine TL_split 44 rfl (fun h44 => ?_) (fun h44 => ?_)
     ·
      have p44 := h44
      try simp only [decide_eq_true_eq, decide_eq_false_iff_not, Bool.not_eq_true', Bool.not_eq_false', Option.isNone_iff_eq_none, ne_eq, Decidable.not_not, Int.not_lt, Int.not_le] at p44
      refine TL_take rfl rfl h44 ?_
      refine TL_q (Qt_move (.int .i64 _) rfl) rfl ?_
      refine TL_take rfl rfl h44 ?_
      refine TL_q (Qt_gtr rfl rfl) rfl ?_
      refine TL_q (Qt_pick_t (.bool _) rfl h44 rfl) rfl ?_
      refine TL_nil ?_
      refine X_then ?_
      refine T_cond rfl (fun h47 => ?_) (fun h47 => ?_)
      ·
       have p47 := h47
       try simp only [decide_eq_true_eq, decide_eq_false_iff_not, Bool.not_eq_true', Bool.not_eq_false', Option.isNone_iff_eq_none, ne_eq, Decidable.not_not, Int.not_lt, Int.not_le] at p47
       have hc47 : l[k + i].toNat = 0 ∧ 0 < i := by first | omega | (simp_all; done) | (simp_all; omega)
       refine T_seq ?_
       refine T_region ?_
       refine TL_q (Qt_build [(3, (.int .i64 _))] rfl (by kernel_rfl)) rfl ?_
       refine TL_n (Ef_storeN rfl rfl (?_))
       refine TL_nil ?_
       refine X_then ?_
       refine T_ret ?_
       refine X_then_ret ?_
       refine X_then_ret ?_
       refine X_block_ret ?_
       refine X_then_ret ?_
       refine X_loop_ret ?_
       refine X_block_ret ?_
       refine X_then_ret ?_
       have e : (rdPacked (l.drop k)) = (2, 0, 0) := hpk.trans (by rw [hat, if_neg hn31, if_pos hlt, if_pos hc47])
       exact X_ret () [_] Try.results114 ⟨⟨_, rfl, res_cellN rfl⟩, trivial⟩ (by rw [e]; rfl) (Subs.st inferInstance)
      ·
       have p47 := h47
       try simp only [decide_eq_true_eq, decide_eq_false_iff_not, Bool.not_eq_true', Bool.not_eq_false', Option.isNone_iff_eq_none, ne_eq, Decidable.not_not, Int.not_lt, Int.not_le] at p47
       have hn47 : ¬ (l[k + i].toNat = 0 ∧ 0 < i) := by first | omega | (simp_all; done) | (simp_all; omega)
       refine T_skip ?_
       refine X_then ?_
       refine T_seq ?_
       refine T_region ?_
       refine TL_q (Qt_move (.int .u64 _) rfl) rfl ?_
       refine TL_q (Qt_move (.int .i64 _) rfl) rfl ?_
       first
        | refine TL_q (Qt_add rfl rfl (by omega) (by omega)) rfl ?_
        | refine TL_q (Qt_addw rfl rfl) rfl ?_
       refine TL_q (Qt_build [(0, (.int .u64 _)), (2, (.int .i64 _))] rfl (by kernel_rfl)) rfl ?_
       refine TL_n (Ef_storeN rfl rfl (?_))
       refine TL_nil ?_
       refine X_then ?_
       refine T_ret ?_
       refine X_then_ret ?_
       refine X_block_ret ?_
       refine X_then_ret ?_
       refine X_loop_ret ?_
       refine X_block_ret ?_
       refine X_then_ret ?_
       have e : (rdPacked (l.drop k)) = (0, x + l[k + i].toNat % 128 * 128 ^ i, i + 1) := hpk.trans (by rw [hat, if_neg hn31, if_pos hlt, if_neg hn47])
       exact X_ret () [_] Try.results114 ⟨⟨_, rfl, res_cellN rfl⟩, trivial⟩ (by rw [e]; rfl) (Subs.st inferInstance)
     ·
      have p44 := h44
      try simp only [decide_eq_true_eq, decide_eq_false_iff_not, Bool.not_eq_true', Bool.not_eq_false', Option.isNone_iff_eq_none, ne_eq, Decidable.not_not, Int.not_lt, Int.not_le] at p44
      refine TL_pass rfl rfl h44 rfl ?_
      refine TL_pass rfl rfl h44 rfl ?_
      refine TL_q (Qt_pick_f (.bool _) rfl h44 rfl) rfl ?_
      refine TL_nil ?_
      refine X_then ?_
      refine T_cond_false rfl rfl ?_
      have hn47 : ¬ (l[k + i].toNat = 0 ∧ 0 < i) := by first | omega | (simp_all; done) | (simp_all; omega)
      refine T_skip ?_
      refine X_then ?_
      refine T_seq ?_
      refine T_region ?_
      refine TL_q (Qt_move (.int .u64 _) rfl) rfl ?_
      refine TL_q (Qt_move (.int .i64 _) rfl) rfl ?_
      first
       | refine TL_q (Qt_add rfl rfl (by omega) (by omega)) rfl ?_
       | refine TL_q (Qt_addw rfl rfl) rfl ?_
      refine TL_q (Qt_build [(0, (.int .u64 _)), (2, (.int .i64 _))] rfl (by kernel_rfl)) rfl ?_
      refine TL_n (Ef_storeN rfl rfl (?_))
      refine TL_nil ?_
      refine X_then ?_
      refine T_ret ?_
      refine X_then_ret ?_
      refine X_block_ret ?_
      refine X_then_ret ?_
      refine X_loop_ret ?_
      refine X_block_ret ?_
      refine X_then_ret ?_
      have e : (rdPacked (l.drop k)) = (0, x + l[k + i].toNat % 128 * 128 ^ i, i + 1) := hpk.trans (by rw [hat, if_neg hn31, if_pos hlt, if_neg hn47])
      exact X_ret () [_] Try.results114 ⟨⟨_, rfl, res_cellN rfl⟩, trivial⟩ (by rw [e]; rfl) (Subs.st inferInstance)
    ·
     have p41 := h41
     try simp only [decide_eq_true_eq, decide_eq_false_iff_not, Bool.not_eq_true', Bool.not_eq_false', Option.isNone_iff_eq_none, ne_eq, Decidable.not_not, Int.not_lt, Int.not_le] at p41
     have hge : ¬ l[k + i].toNat < 128 := by omega
     rw [if_neg hn31, if_neg hge] at hat
     have hs5 := hs4 (by omega)
     refine T_skip ?_
     refine X_then ?_
     refine T_region ?_
     refine TL_q (Qt_move (.int .u64 _) rfl) rfl ?_
     refine TL_q (Qt_val (Qt_mulw rfl rfl) (congrArg (Value.int .u64) (show IntKind.u64.wrap (128 * ((128 ^ i : Nat) : Int)) = ((128 ^ (i + 1) : Nat) : Int) from by rw [show (128 : Int) * ((128 ^ i : Nat) : Int) = ((128 * 128 ^ i : Nat) : Int) from by rw [Int.natCast_mul]; rfl, wrap_u64 (by omega) (by omega), Nat.pow_succ, Nat.mul_comm]))) rfl ?_
     refine TL_q (Qt_assign (.int .u64 _) rfl) rfl ?_
     refine TL_nil ?_
     refine X_block ?_
     refine X_then ?_
     refine T_region ?_
     refine TL_q (Qt_move (.int .i64 _) rfl) rfl ?_
     first
      | refine TL_q (Qt_add rfl rfl (by omega) (by omega)) rfl ?_
      | refine TL_q (Qt_addw rfl rfl) rfl ?_
     refine TL_q (Qt_assign (.int .i64 _) rfl) rfl ?_
     refine TL_nil ?_
     apply X_loop
     case ha => exact (by repeat (first | with_reducible exact agree_refl | refine agree_upd rfl ?_ | refine agree_mix rfl ?_ | refine agree_setAll rfl ?_))
     case hI => exact ⟨i + 1, _, rfl, rfl, by omega, hr3, hpk.trans hat⟩
     case hm => exact by show 10 - (i + 1 : Int).toNat < 10 - (i : Int).toNat; omega
     case hH => exact (Subs.st inferInstance)
 ·
  have p10 := h10
  try simp only [decide_eq_true_eq, decide_eq_false_iff_not, Bool.not_eq_true', Bool.not_eq_false', Option.isNone_iff_eq_none, ne_eq, Decidable.not_not, Int.not_lt, Int.not_le] at p10
  have hi : i = 10 := by omega
  subst hi
  refine T_exit ?_
  refine X_then_exit ?_
  refine X_loop_exit ?_
  refine X_block_exit ?_
  refine X_then ?_
  refine T_seq ?_
  refine T_region ?_
  refine TL_q (Qt_build [(3, (.int .i64 _))] rfl (by kernel_rfl)) rfl ?_
  refine TL_n (Ef_storeN rfl rfl (?_))
  refine TL_nil ?_
  refine X_then ?_
  refine T_ret ?_
  have e : (rdPacked (l.drop k)) = (2, 0, 0) := hpk.trans (rfl)
  exact X_ret () [_] Try.results114 ⟨⟨_, rfl, res_cellN rfl⟩, trivial⟩ (by rw [e]; rfl) (Subs.st inferInstance)
set_option maxHeartbeats 1000000 in
theorem rReadCount_c {w0 : World} {H : List SA} {a : Option Addr} {l : List UInt8} {c k : Nat} [hr : RdB w0 H (.slice a l.length c) l] (hk : k ≤ l.length) (hl : l.length ≤ 4294967296) {m : Int} (hm0 : -9223372036854775808 ≤ m) (hm : m ≤ 9223372036854775807) :
 CT Try.prog w0 (H) 159 [.slice a l.length c, .int .i64 (k : Int), .int .i64 m] (α := Unit) (fun _ => .agg (GotV.mk ((rdCount (l.drop k) m).2.1 : Int) ⟨none, 0, []⟩ ((rdCount (l.drop k) m).2.2 : Int) (rdCount (l.drop k) m).1).cells) (fun _ => H) := by
 refine CT_intro Try.func159 rfl Try.ntmps159 rfl ?_
 refine T_seq ?_
 refine T_region ?_
 refine TL_e rfl (Ef_allocN (fun b6 => ?_))
 refine TL_nil ?_
 refine X_then ?_
 refine T_seq ?_
 refine T_region ?_
 refine TL_q (Qt_move (.slice _ _ _) rfl) rfl ?_
 refine TL_q (Qt_move (.int .i64 _) rfl) rfl ?_
 refine TL_e rfl (Ef_call (rReadPacked_c hk hl) rfl (fun x10 => ?_))
 obtain ⟨P, hP⟩ : ∃ P, P = (rdPacked (l.drop k)) := ⟨_, rfl⟩
 have hpe : P.1 ≠ 0 → P.2 = (0, 0) := fun h => by rw [hP] at h ⊢; exact rdPacked_err h
 have hpb := (rdPacked_bound (l.drop k)).2.2
 rw [← hP] at hpb ⊢
 refine TL_e rfl (Ef_allocN (fun b7 => ?_))
 refine TL_n (Ef_storeN rfl rfl (?_))
 refine TL_nil ?_
 refine X_then ?_
 refine T_seq ?_
 refine T_seq ?_
 refine T_region ?_
 refine TL_q (Qt_fieldAddr 3 rfl rfl) rfl ?_
 refine TL_q (Qt_load1 rfl) rfl ?_
 refine TL_q (Qt_eql rfl rfl) rfl ?_
 refine TL_q (Qt_move (.bool _) rfl) rfl ?_
 refine TL_split 14 rfl (fun h14 => ?_) (fun h14 => ?_)
 ·
  have p14 := h14
  try simp only [decide_eq_true_eq, decide_eq_false_iff_not, Bool.not_eq_true', Bool.not_eq_false', Option.isNone_iff_eq_none, ne_eq, Decidable.not_not, Int.not_lt, Int.not_le] at p14
  refine TL_take rfl rfl h14 ?_
  refine TL_q (Qt_move (.int .i64 _) rfl) rfl ?_
  refine TL_take rfl rfl h14 ?_
  refine TL_q (Qt_lss rfl rfl) rfl ?_
  refine TL_take rfl rfl h14 ?_
  refine TL_q (Qt_move (.bool _) rfl) rfl ?_
  refine TL_split 17 rfl (fun h17 => ?_) (fun h17 => ?_)
  ·
   have p17 := h17
   try simp only [decide_eq_true_eq, decide_eq_false_iff_not, Bool.not_eq_true', Bool.not_eq_false', Option.isNone_iff_eq_none, ne_eq, Decidable.not_not, Int.not_lt, Int.not_le] at p17
   refine TL_pass rfl rfl h17 rfl ?_
   refine TL_pass rfl rfl h17 rfl ?_
   refine TL_pass rfl rfl h17 rfl ?_
   refine TL_pass rfl rfl h17 rfl ?_
   refine TL_pass rfl rfl h17 rfl ?_
   refine TL_take rfl rfl h14 ?_
   refine TL_q (Qt_pick_t (.bool _) rfl h17 rfl) rfl ?_
   refine TL_q (Qt_pick_t (.bool _) rfl h14 rfl) rfl ?_
   refine TL_nil ?_
   refine X_then ?_
   refine T_cond_true rfl rfl ?_
   refine T_seq ?_
   refine T_region ?_
   refine TL_q (Qt_build [(3, (.int .i64 _))] rfl (by kernel_rfl)) rfl ?_
   refine TL_n (Ef_storeN rfl rfl (?_))
   refine TL_nil ?_
   refine X_then ?_
   refine T_ret ?_
   refine X_then_ret ?_
   have e : (rdCount (l.drop k) m) = (3, 0, 0) := by unfold rdCount; rw [← hP, if_neg (by first | omega | (simp_all; done) | (simp_all; omega)), if_pos (by first | omega | (simp_all; done) | (simp_all; omega))]
   exact X_ret () [_] Try.results159 ⟨⟨_, rfl, res_cellN rfl⟩, trivial⟩ (by rw [e]; rfl) (Subs.st inferInstance)
  ·
   have p17 := h17
   try simp only [decide_eq_true_eq, decide_eq_false_iff_not, Bool.not_eq_true', Bool.not_eq_false', Option.isNone_iff_eq_none, ne_eq, Decidable.not_not, Int.not_lt, Int.not_le] at p17
   refine TL_take rfl rfl h17 ?_
   refine TL_q (Qt_fieldAddr 0 rfl rfl) rfl ?_
   refine TL_take rfl rfl h17 ?_
   refine TL_q (Qt_load1 rfl) rfl ?_
   refine TL_take rfl rfl h17 ?_
   refine TL_q (Qt_move (.int .i64 _) rfl) rfl ?_
   refine TL_take rfl rfl h17 ?_
   refine TL_q (Qt_conv_u64 rfl rfl Try.underlying167 (by omega) (by omega)) rfl ?_
   refine TL_take rfl rfl h17 ?_
   refine TL_q (Qt_gtr rfl rfl) rfl ?_
   refine TL_take rfl rfl h14 ?_
   refine TL_q (Qt_pick_f (.bool _) rfl h17 rfl) rfl ?_
   refine TL_q (Qt_pick_t (.bool _) rfl h14 rfl) rfl ?_
   refine TL_nil ?_
   refine X_then ?_
   refine T_cond rfl (fun h24 => ?_) (fun h24 => ?_)
   ·
    have p24 := h24
    try simp only [decide_eq_true_eq, decide_eq_false_iff_not, Bool.not_eq_true', Bool.not_eq_false', Option.isNone_iff_eq_none, ne_eq, Decidable.not_not, Int.not_lt, Int.not_le] at p24
    refine T_seq ?_
    refine T_region ?_
    refine TL_q (Qt_build [(3, (.int .i64 _))] rfl (by kernel_rfl)) rfl ?_
    refine TL_n (Ef_storeN rfl rfl (?_))
    refine TL_nil ?_
    refine X_then ?_
    refine T_ret ?_
    refine X_then_ret ?_
    have e : (rdCount (l.drop k) m) = (3, 0, 0) := by unfold rdCount; rw [← hP, if_neg (by first | omega | (simp_all; done) | (simp_all; omega)), if_pos (by first | omega | (simp_all; done) | (simp_all; omega))]
    exact X_ret () [_] Try.results159 ⟨⟨_, rfl, res_cellN rfl⟩, trivial⟩ (by rw [e]; rfl) (Subs.st inferInstance)
   ·
    have p24 := h24
    try simp only [decide_eq_true_eq, decide_eq_false_iff_not, Bool.not_eq_true', Bool.not_eq_false', Option.isNone_iff_eq_none, ne_eq, Decidable.not_not, Int.not_lt, Int.not_le] at p24
    refine T_skip ?_
    refine X_then ?_
    refine T_seq ?_
    refine T_region ?_
    refine TL_q (Qt_loadN rfl rfl) rfl ?_
    refine TL_n (Ef_storeN rfl rfl (?_))
    refine TL_nil ?_
    refine X_then ?_
    refine T_ret ?_
    have e : (rdCount (l.drop k) m) = P := by
     unfold rdCount
     rw [← hP]
     by_cases hp : P.1 ≠ 0
     · rw [if_pos hp, ← hpe hp]
     · rw [if_neg hp, if_neg (by first | omega | (simp_all; done) | (simp_all; omega))]
    exact X_ret () [_] Try.results159 ⟨⟨_, rfl, res_cellN rfl⟩, trivial⟩ (by rw [e]; rfl) (Subs.st inferInstance)
 ·
  have p14 := h14
  try simp only [decide_eq_true_eq, decide_eq_false_iff_not, Bool.not_eq_true', Bool.not_eq_false', Option.isNone_iff_eq_none, ne_eq, Decidable.not_not, Int.not_lt, Int.not_le] at p14
  refine TL_pass rfl rfl h14 rfl ?_
  refine TL_pass rfl rfl h14 rfl ?_
  refine TL_pass rfl rfl h14 rfl ?_
  refine TL_passU rfl rfl rfl ?_
  refine TL_passU rfl rfl rfl ?_
  refine TL_passU rfl rfl rfl ?_
  refine TL_passU rfl rfl rfl ?_
  refine TL_passU rfl rfl rfl ?_
  refine TL_pass rfl rfl h14 rfl ?_
  refine TL_q (Qt_pick_f (.bool _) rfl h14 rfl) rfl ?_
  refine TL_nil ?_
  refine X_then ?_
  refine T_cond_false rfl rfl ?_
  refine T_skip ?_
  refine X_then ?_
  refine T_seq ?_
  refine T_region ?_
  refine TL_q (Qt_loadN rfl rfl) rfl ?_
  refine TL_n (Ef_storeN rfl rfl (?_))
  refine TL_nil ?_
  refine X_then ?_
  refine T_ret ?_
  have e : (rdCount (l.drop k) m) = P := by
   unfold rdCount
   rw [← hP]
   by_cases hp : P.1 ≠ 0
   · rw [if_pos hp, ← hpe hp]
   · rw [if_neg hp, if_neg (by first | omega | (simp_all; done) | (simp_all; omega))]
  exact X_ret () [_] Try.results159 ⟨⟨_, rfl, res_cellN rfl⟩, trivial⟩ (by rw [e]; rfl) (Subs.st inferInstance)
set_option maxHeartbeats 1000000 in
theorem rReadText_c {w0 : World} {H : List SA} {a : Option Addr} {l : List UInt8} {c k : Nat} [hr : RdB w0 H (.slice a l.length c) l] (hk : k ≤ l.length) (hl : l.length ≤ 4294967296) {m : Int} (hm0 : -9223372036854775808 ≤ m) (hm : m ≤ 9223372036854775807) :
 CT Try.prog w0 (H) 158 [.slice a l.length c, .int .i64 (k : Int), .int .i64 m] (α := AC) (fun y => .agg (GotV.mk 0 ⟨y.a, y.c, (rdText (l.drop k) m).2.1⟩ ((rdText (l.drop k) m).2.2 : Int) (rdText (l.drop k) m).1).cells) (fun y => row (.slice y.a (rdText (l.drop k) m).2.1.length y.c) 5 1 (bytesV (rdText (l.drop k) m).2.1) :: H) := by
 refine CT_intro Try.func158 rfl Try.ntmps158 rfl ?_
 refine T_seq ?_
 refine T_region ?_
 refine TL_e rfl (Ef_allocN (fun b6 => ?_))
 refine TL_nil ?_
 refine X_then ?_
 refine T_seq ?_
 refine T_region ?_
 refine TL_q (Qt_move (.slice _ _ _) rfl) rfl ?_
 refine TL_q (Qt_move (.int .i64 _) rfl) rfl ?_
 refine TL_q (Qt_move (.int .i64 _) rfl) rfl ?_
 refine TL_e rfl (Ef_call (rReadCount_c hk hl hm0 hm) rfl (fun x14 => ?_))
 obtain ⟨P, hP⟩ : ∃ P, P = (rdCount (l.drop k) m) := ⟨_, rfl⟩
 have hpe : P.1 ≠ 0 → P.2 = (0, 0) := fun h => by rw [hP] at h ⊢; exact rdCount_err h
 obtain ⟨hb1, hb2, hb3⟩ := rdCount_bound (l.drop k) m
 rw [List.length_drop] at hb2
 rw [← hP] at hb1 hb2 hb3 ⊢
 refine TL_e rfl (Ef_allocN (fun b7 => ?_))
 refine TL_n (Ef_storeN rfl rfl (?_))
 refine TL_nil ?_
 refine X_then ?_
 refine T_seq ?_
 refine T_seq ?_
 refine T_region ?_
 refine TL_q (Qt_fieldAddr 3 rfl rfl) rfl ?_
 refine TL_q (Qt_load1 rfl) rfl ?_
 refine TL_q (Qt_neq rfl rfl) rfl ?_
 refine TL_nil ?_
 refine X_then ?_
 refine T_cond rfl (fun h17 => ?_) (fun h17 => ?_)
 ·
  have p17 := h17
  try simp only [decide_eq_true_eq, decide_eq_false_iff_not, Bool.not_eq_true', Bool.not_eq_false', Option.isNone_iff_eq_none, ne_eq, Decidable.not_not, Int.not_lt, Int.not_le] at p17
  refine T_seq ?_
  refine T_region ?_
  refine TL_q (Qt_loadN rfl rfl) rfl ?_
  refine TL_n (Ef_storeN rfl rfl (?_))
  refine TL_nil ?_
  refine X_then ?_
  refine T_ret ?_
  refine X_then_ret ?_
  have e : (rdText (l.drop k) m) = (P.1, [], 0) := by unfold rdText; rw [← hP, if_pos (by omega)]
  simp only [e]
  have hz := hpe (by omega)
  obtain ⟨p1, p2, p3⟩ := P
  obtain ⟨rfl, rfl⟩ : p2 = 0 ∧ p3 = 0 := by simpa using hz
  exact X_ret ⟨none, 0⟩ [_] Try.results158 ⟨⟨_, rfl, res_cellN rfl⟩, trivial⟩ rfl (fun w hw => St.addNilB 5 (Subs.st inferInstance w hw : St w0 H w))
 ·
  have p17 := h17
  try simp only [decide_eq_true_eq, decide_eq_false_iff_not, Bool.not_eq_true', Bool.not_eq_false', Option.isNone_iff_eq_none, ne_eq, Decidable.not_not, Int.not_lt, Int.not_le] at p17
  have hp0 : P.1 = 0 := by omega
  refine T_skip ?_
  refine X_then ?_
  refine T_seq ?_
  refine T_region ?_
  refine TL_q (Qt_fieldAddr 0 rfl rfl) rfl ?_
  refine TL_q (Qt_load1 rfl) rfl ?_
  have hmn : (P.2.1 : Int) ≤ m := by rw [hP] at hp0 ⊢; have := (rdCount_ok hp0).2.1; rw [(rdCount_ok hp0).1]; exact this
  refine TL_q (Qt_conv_i64 rfl rfl Try.underlying3 (by omega) (by omega)) rfl ?_
  refine TL_q (Qt_assign (.int .i64 _) rfl) rfl ?_
  refine TL_nil ?_
  refine X_then ?_
  refine T_seq ?_
  refine T_region ?_
  refine TL_q (Qt_move (.int .i64 _) rfl) rfl ?_
  refine TL_q (Qt_fieldAddr 2 rfl rfl) rfl ?_
  refine TL_q (Qt_load1 rfl) rfl ?_
  first
   | refine TL_q (Qt_add rfl rfl (by omega) (by omega)) rfl ?_
   | refine TL_q (Qt_addw rfl rfl) rfl ?_
  refine TL_q (Qt_assign (.int .i64 _) rfl) rfl ?_
  refine TL_nil ?_
  refine X_then ?_
  refine T_seq ?_
  refine T_seq ?_
  refine T_region ?_
  refine TL_q (Qt_move (.int .i64 _) rfl) rfl ?_
  refine TL_q (Qt_move (.slice _ _ _) rfl) rfl ?_
  refine TL_q (Qt_len_slice rfl Try.underlying37) rfl ?_
  refine TL_q (Qt_move (.int .i64 _) rfl) rfl ?_
  first
   | refine TL_q (Qt_sub rfl rfl (by omega) (by omega)) rfl ?_
   | refine TL_q (Qt_subw rfl rfl) rfl ?_
  refine TL_q (Qt_gtr rfl rfl) rfl ?_
  refine TL_nil ?_
  refine X_then ?_
  refine T_cond rfl (fun h31 => ?_) (fun h31 => ?_)
  ·
   have p31 := h31
   try simp only [decide_eq_true_eq, decide_eq_false_iff_not, Bool.not_eq_true', Bool.not_eq_false', Option.isNone_iff_eq_none, ne_eq, Decidable.not_not, Int.not_lt, Int.not_le] at p31
   refine T_seq ?_
   refine T_region ?_
   refine TL_q (Qt_build [(3, (.int .i64 _))] rfl (by kernel_rfl)) rfl ?_
   refine TL_n (Ef_storeN rfl rfl (?_))
   refine TL_nil ?_
   refine X_then ?_
   refine T_ret ?_
   refine X_then_ret ?_
   have e : (rdText (l.drop k) m) = (1, [], 0) := by unfold rdText; rw [← hP, if_neg (by omega), if_pos (by rw [List.length_drop]; omega)]
   simp only [e]
   exact X_ret ⟨none, 0⟩ [_] Try.results158 ⟨⟨_, rfl, res_cellN rfl⟩, trivial⟩ rfl (fun w hw => St.addNilB 5 (Subs.st inferInstance w hw : St w0 H w))
  ·
   have p31 := h31
   try simp only [decide_eq_true_eq, decide_eq_false_iff_not, Bool.not_eq_true', Bool.not_eq_false', Option.isNone_iff_eq_none, ne_eq, Decidable.not_not, Int.not_lt, Int.not_le] at p31
   refine T_skip ?_
   refine X_then ?_
   refine T_seq ?_
   refine T_region ?_
   refine TL_q (Qt_fieldAddr 2 rfl rfl) rfl ?_
   refine TL_q (Qt_load1 rfl) rfl ?_
   refine TL_q (Qt_move (.int .i64 _) rfl) rfl ?_
   first
    | refine TL_q (Qt_add rfl rfl (by omega) (by omega)) rfl ?_
    | refine TL_q (Qt_addw rfl rfl) rfl ?_
   refine TL_q (Qt_build [(2, (.int .i64 _))] rfl (by kernel_rfl)) rfl ?_
   refine TL_e rfl (Ef_allocN (fun b10 => ?_))
   refine TL_n (Ef_storeN rfl rfl (?_))
   refine TL_conv (fun w hw => St.addNilB 5 hw) ?_
   refine TL_nil ?_
   refine X_then ?_
   refine T_seq ?_
   refine T_drawF H (by kernel_rfl) (Subs.st inferInstance) ?_
   refine DLF_q (i := 0) (by kernel_rfl) rfl (by kernel_rfl) (by kernel_rfl) (Qt_fieldAddr 1 rfl rfl) rfl ?_
   refine DLF_q (i := 2) (by kernel_rfl) rfl (by kernel_rfl) (by kernel_rfl) (Qt_move (.slice _ _ _) rfl) rfl ?_
   refine DLF_q (i := 3) (by kernel_rfl) rfl (by kernel_rfl) (by kernel_rfl) (Qt_move (.int .i64 _) rfl) rfl ?_
   refine DLF_q (i := 4) (by kernel_rfl) rfl (by kernel_rfl) (by kernel_rfl) (Qt_move (.int .i64 _) rfl) rfl ?_
   refine DLF_q (i := 5) (by kernel_rfl) rfl (by kernel_rfl) (by kernel_rfl) (Qt_move (.int .i64 _) rfl) rfl ?_
   first
    | refine DLF_q (i := 6) (by kernel_rfl) rfl (by kernel_rfl) (by kernel_rfl) (Qt_add rfl rfl (by omega) (by omega)) rfl ?_
    | refine DLF_q (i := 6) (by kernel_rfl) rfl (by kernel_rfl) (by kernel_rfl) (Qt_addw rfl rfl) rfl ?_
   refine DLF_q (i := 7) (by kernel_rfl) rfl (by kernel_rfl) (by kernel_rfl) (Qt_sliceB_lh (k + P.2.2) P.2.1 rfl (by refine congrArg (Value.int .i64) ?_; omega) (by refine congrArg (Value.int .i64) ?_; omega) (by omega)) rfl ?_
   refine DLF_1 (i := 1) (by kernel_rfl) ?_
   refine DLS_e rfl rfl (Ef_of_Qt (Qt_load1 rfl) ⟨(Subs.st inferInstance), ?_⟩)
   refine DLF_1 (i := 8) (by kernel_rfl) ?_
   refine DLS_e rfl rfl (Ef_appendB (sv := .slice _ _ _) (xv := .slice _ _ _) rfl rfl (by first | omega | (simp; omega)) rfl (fun a46 c46 => ⟨(Subs.st inferInstance), ?_⟩))
   rw [List.nil_append]
   refine DLF_q (i := 9) (by kernel_rfl) rfl (by kernel_rfl) (by kernel_rfl) (Qt_fieldAddr 1 rfl rfl) rfl ?_
   refine DLF_1 (i := 10) (by kernel_rfl) ?_
   refine DLS_n rfl (Ef_store1 (.slice _ _ _) rfl rfl (⟨(Subs.st inferInstance), ?_⟩))
   refine DLF_nil (by kernel_rfl) ?_
   refine X_then ?_
   refine T_seq ?_
   refine T_region ?_
   refine TL_q (Qt_loadN rfl rfl) rfl ?_
   refine TL_n (Ef_storeN rfl rfl (?_))
   refine TL_nil ?_
   refine X_then ?_
   refine T_ret ?_
   have e : (rdText (l.drop k) m) = (0, (l.drop (k + P.2.2)).take P.2.1, P.2.2 + P.2.1) := by unfold rdText; rw [← hP, if_neg (by omega), if_neg (by rw [List.length_drop]; omega), List.drop_drop]
   simp only [e]
   exact X_ret ⟨a46, c46⟩ [_] Try.results158 ⟨⟨_, rfl, res_cellN rfl⟩, trivial⟩ rfl (Subs.st inferInstance)
end
section
open Go.RowKit Go.Sx
set_option maxRecDepth 100000
set_option linter.unusedSimpArgs false
set_option linter.unusedVariables false
theorem be_one {l : List UInt8} {o : Nat} (h : o < l.length) : be l o 1 = (l[o].toNat : Int) := by
 have e : (l.drop o).take 1 = [l[o]] := by rw [List.drop_eq_getElem_cons h]; rfl
 simp [be, e, beN]
theorem rd2 {l : List UInt8} {o : Nat} (h : o + 2 ≤ l.length) : ((rdFixed (l.drop o) ((2 : Nat) : Int)).2.1 : Int) = be l o 2 := by rw [rdFixed_ok rfl (by simp; omega)]; rfl
theorem hashAt_get {l : List UInt8} {i : Nat} (hi : i < 32) (h : 8 + i < l.length) : l[8 + i].toNat = (hashAt l)[i].toNat := by
 have e : (l.drop (8 + i)).take 1 = [l[8 + i]] := by rw [List.drop_eq_getElem_cons h]; rfl
 rw [← hashAt_byte hi h, e]
 simp [beN]
theorem be_lt2 (l : List UInt8) (o : Nat) : 0 ≤ be l o 2 ∧ be l o 2 < 65536 := by
 have h := beN_lt ((l.drop o).take 2)
 have h2 : (256 : Nat) ^ ((l.drop o).take 2).length ≤ 256 ^ 2 := Nat.pow_le_pow_right (by decide) (by simp; omega)
 have h3 : (256 : Nat) ^ 2 = 65536 := by decide
 unfold be
 omega
theorem rpt_err {l : List UInt8} (h : (rdCount l 16).1 ≠ 0) : (partsR l).1 = (rdCount l 16).1 := by rw [partsR, if_pos h]
attribute [local irreducible] beN rdText rdCount rdFixed partsR prs be hashAt
set_option maxHeartbeats 1000000 in
theorem rGetM_c {w0 : World} {H : List SA} {a0 : Option Addr} {l : List UInt8} {c0 : Nat} [hr : RdB w0 H (.slice a0 l.length c0) l] (hl : l.length ≤ 4294967296) :
 CT Try.prog w0 (H) 111 [.slice a0 l.length c0] (α := MsgV × List Nat) (fun y => .agg (MGotV.mk y.1 (getM l).1).cells) (fun y => pu (y.1.abs = (getM l).2) :: dat y.2 (Deep.leads y.1) :: H) := by
 refine CT_intro Try.func111 rfl Try.ntmps111 rfl ?_
 refine T_seq ?_
 refine T_region ?_
 refine TL_e rfl (Ef_allocN (fun b2 => ?_))
 refine TL_nil ?_
 refine X_then ?_
 refine T_seq ?_
 refine T_seq ?_
 refine T_region ?_
 refine TL_q (Qt_move (.slice _ _ _) rfl) rfl ?_
 refine TL_q (Qt_len_slice rfl Try.underlying37) rfl ?_
 refine TL_q (Qt_gtr rfl rfl) rfl ?_
 refine TL_nil ?_
 refine X_then ?_
 refine T_cond rfl (fun h12 => ?_) (fun h12 => ?_)
 ·
  have p12 := h12
  try simp only [decide_eq_true_eq, decide_eq_false_iff_not, Bool.not_eq_true', Bool.not_eq_false', Option.isNone_iff_eq_none, ne_eq, Decidable.not_not, Int.not_lt, Int.not_le] at p12
  refine T_seq ?_
  refine T_region ?_
  refine TL_q (Qt_build [(1, (.int .i64 _))] rfl (by kernel_rfl)) rfl ?_
  refine TL_n (Ef_storeN rfl rfl (?_))
  refine TL_nil ?_
  refine X_then ?_
  refine T_ret ?_
  refine X_then_ret ?_
  have e : getM l = (4, .zero) := getM_full (by omega)
  exact X_ret (MsgV.zero, []) [_] Try.results111 ⟨⟨_, rfl, res_cellN rfl⟩, trivial⟩ (by rw [e]; rfl) (fun w hw => (St.datMsgZero (Subs.st inferInstance w hw : St w0 H w)).addPure (by rw [e]; rfl))
 ·
  have p12 := h12
  try simp only [decide_eq_true_eq, decide_eq_false_iff_not, Bool.not_eq_true', Bool.not_eq_false', Option.isNone_iff_eq_none, ne_eq, Decidable.not_not, Int.not_lt, Int.not_le] at p12
  have h65 : ¬ 65504 < l.length := by omega
  refine T_skip ?_
  refine X_then ?_
  refine T_seq ?_
  refine T_seq ?_
  refine T_region ?_
  refine TL_q (Qt_move (.slice _ _ _) rfl) rfl ?_
  refine TL_q (Qt_len_slice rfl Try.underlying37) rfl ?_
  refine TL_q (Qt_lss rfl rfl) rfl ?_
  refine TL_nil ?_
  refine X_then ?_
  refine T_cond rfl (fun h16 => ?_) (fun h16 => ?_)
  ·
   have p16 := h16
   try simp only [decide_eq_true_eq, decide_eq_false_iff_not, Bool.not_eq_true', Bool.not_eq_false', Option.isNone_iff_eq_none, ne_eq, Decidable.not_not, Int.not_lt, Int.not_le] at p16
   refine T_seq ?_
   refine T_region ?_
   refine TL_q (Qt_build [(1, (.int .i64 _))] rfl (by kernel_rfl)) rfl ?_
   refine TL_n (Ef_storeN rfl rfl (?_))
   refine TL_nil ?_
   refine X_then ?_
   refine T_ret ?_
   refine X_then_ret ?_
   have e : getM l = (1, .zero) := by have hx := msgR_short (l := l) (by omega); rw [getM_bad h65 (by rw [hx]; first | assumption | decide | omega), hx]
   exact X_ret (MsgV.zero, []) [_] Try.results111 ⟨⟨_, rfl, res_cellN rfl⟩, trivial⟩ (by rw [e]; rfl) (fun w hw => (St.datMsgZero (Subs.st inferInstance w hw : St w0 H w)).addPure (by rw [e]; rfl))
  ·
   have p16 := h16
   try simp only [decide_eq_true_eq, decide_eq_false_iff_not, Bool.not_eq_true', Bool.not_eq_false', Option.isNone_iff_eq_none, ne_eq, Decidable.not_not, Int.not_lt, Int.not_le] at p16
   have h40 : ¬ l.length < 40 := by omega
   refine T_skip ?_
   refine X_then ?_
   refine T_seq ?_
   refine T_draw (blk b2 (.cells (MGotV.mk MsgV.zero 0).cells 147 (0, 0)) :: H) [(0, true), (1, true), (2, true), (3, true), (4, true), (5, true), (6, true), (7, true), (8, true), (9, false), (10, false)] (by kernel_rfl) (by kernel_rfl) rfl (by kernel_rfl) (Subs.st inferInstance) (fun hns0 => ?_)
   refine DL_q hns0 rfl (Qt_move (.slice _ _ _) rfl) rfl ?_
   refine DL_q hns0 rfl (Qt_indexR rfl rfl (by omega) (by simp; omega)) rfl ?_
   refine DL_q hns0 rfl (Qt_loadR (.int .u8 (l[0].toNat : Int)) rfl (bytes_get l 0 (by omega))) rfl ?_
   refine DL_q hns0 rfl (Qt_val (Qt_conv_i64 rfl rfl Try.underlying3 (by omega) (by have := l[0].toNat_lt; omega)) (congrArg (Value.int .i64) (be_one (l := l) (o := 0) (by omega)).symm)) rfl ?_
   refine DL_q hns0 rfl (Qt_move (.slice _ _ _) rfl) rfl ?_
   refine DL_q hns0 rfl (Qt_indexR rfl rfl (by omega) (by simp; omega)) rfl ?_
   refine DL_q hns0 rfl (Qt_loadR (.int .u8 (l[1].toNat : Int)) rfl (bytes_get l 1 (by omega))) rfl ?_
   refine DL_q hns0 rfl (Qt_val (Qt_conv_i64 rfl rfl Try.underlying3 (by omega) (by have := l[1].toNat_lt; omega)) (congrArg (Value.int .i64) (be_one (l := l) (o := 0 + 1) (by omega)).symm)) rfl ?_
   refine DL_q hns0 rfl (Qt_build [(0, (.int .i64 _)), (1, (.int .i64 _))] rfl (by kernel_rfl)) rfl ?_
   refine DL_e rfl rfl (Ef_allocN (fun b3 => ⟨(Subs.st inferInstance), ?_⟩))
   refine DL_n rfl (Ef_storeN rfl rfl (⟨(Subs.st inferInstance), ?_⟩))
   refine DL_nil ?_
   refine X_then ?_
   refine T_seq ?_
   refine T_region ?_
   refine TL_q (Qt_move (.slice _ _ _) rfl) rfl ?_
   refine TL_e rfl (Ef_call (rReadFixed_c (k := 2) (n := ((2 : Nat) : Int)) (by omega) hl) rfl (fun x28 => ?_))
   refine TL_q (Qt_field1 (ft := 167) rfl rfl) rfl ?_
   refine TL_q (Qt_val (Qt_conv_i64 rfl rfl Try.underlying3 (by rw [rd2 (by omega)]; have := be_lt2 l 2; omega) (by rw [rd2 (by omega)]; have := be_lt2 l 2; omega)) (congrArg (Value.int .i64) (rd2 (l := l) (o := 2) (by omega)))) rfl ?_
   refine TL_q (Qt_fieldAddr 2 rfl rfl) rfl ?_
   refine TL_n (Ef_store1 (.int .i64 _) rfl rfl (?_))
   refine TL_nil ?_
   refine X_then ?_
   refine T_seq ?_
   refine T_region ?_
   refine TL_q (Qt_move (.slice _ _ _) rfl) rfl ?_
   refine TL_e rfl (Ef_call (rReadFixed_c (k := 4) (n := ((2 : Nat) : Int)) (by omega) hl) rfl (fun x33 => ?_))
   refine TL_q (Qt_field1 (ft := 167) rfl rfl) rfl ?_
   refine TL_q (Qt_val (Qt_conv_i64 rfl rfl Try.underlying3 (by rw [rd2 (by omega)]; have := be_lt2 l 4; omega) (by rw [rd2 (by omega)]; have := be_lt2 l 4; omega)) (congrArg (Value.int .i64) (rd2 (l := l) (o := 4) (by omega)))) rfl ?_
   refine TL_q (Qt_fieldAddr 3 rfl rfl) rfl ?_
   refine TL_n (Ef_store1 (.int .i64 _) rfl rfl (?_))
   refine TL_nil ?_
   refine X_then ?_
   refine T_seq ?_
   refine T_region ?_
   refine TL_q (Qt_move (.slice _ _ _) rfl) rfl ?_
   refine TL_e rfl (Ef_call (rReadFixed_c (k := 6) (n := ((2 : Nat) : Int)) (by omega) hl) rfl (fun x38 => ?_))
   refine TL_q (Qt_field1 (ft := 167) rfl rfl) rfl ?_
   refine TL_q (Qt_val (Qt_conv_i64 rfl rfl Try.underlying3 (by rw [rd2 (by omega)]; have := be_lt2 l 6; omega) (by rw [rd2 (by omega)]; have := be_lt2 l 6; omega)) (congrArg (Value.int .i64) (rd2 (l := l) (o := 6) (by omega)))) rfl ?_
   refine TL_q (Qt_fieldAddr 4 rfl rfl) rfl ?_
   refine TL_n (Ef_store1 (.int .i64 _) rfl rfl (?_))
   refine TL_nil ?_
   refine X_then ?_
   refine T_seq ?_
   refine T_seq ?_
   refine T_region ?_
   refine TL_q (Qt_assign (.int .i64 _) rfl) rfl ?_
   refine TL_nil ?_
   refine X_then ?_
   refine T_block ?_
   refine T_loop [4, 42, 43, 44, 45, 46, 47, 48, 49, 50, 51, 52, 53] [4] (fun us H' => ∃ (i : Nat), us = [.int .i64 (i : Int)] ∧ blk b3 (.cells (MsgV.mk (be l 0 1) (be l (0 + 1) 1) (be l (0 + 1 + 1) 2) (be l (0 + 1 + 1 + 2) 2) (be l (0 + 1 + 1 + 2 + 2) 2) (hvec (hashAt l) i) ⟨none, 0, []⟩ ⟨none, 0, []⟩).cells 45 (0, 0)) :: blk b2 (.cells (MGotV.mk MsgV.zero 0).cells 147 (0, 0)) :: H = H' ∧ i ≤ 32) (fun us => match us with | .int _ i :: _ => 32 - i.toNat | _ => 0) ⟨0, rfl, rfl, by omega⟩ (fun w hw => by
    rw [hvec_zero]
    exact (Subs.st inferInstance w hw : St w0 (blk b3 (.cells (MsgV.mk (be l 0 1) (be l (0 + 1) 1) (be l (0 + 1 + 1) 2) (be l (0 + 1 + 1 + 2) 2) (be l (0 + 1 + 1 + 2 + 2) 2) (zeroV 32) ⟨none, 0, []⟩ ⟨none, 0, []⟩).cells 45 (0, 0)) :: blk b2 (.cells (MGotV.mk MsgV.zero 0).cells 147 (0, 0)) :: H) w)) ?_
   rintro τ0 _ _  ⟨i, rfl, rfl, hi0⟩ _
   refine T_seq ?_
   refine T_seq ?_
   refine T_region ?_
   refine TL_q (Qt_move (.int .i64 _) rfl) rfl ?_
   refine TL_q (Qt_lss rfl rfl) rfl ?_
   refine TL_nil ?_
   refine X_then ?_
   refine T_cond rfl (fun h43 => ?_) (fun h43 => ?_)
   ·
    have p43 := h43
    try simp only [decide_eq_true_eq, decide_eq_false_iff_not, Bool.not_eq_true', Bool.not_eq_false', Option.isNone_iff_eq_none, ne_eq, Decidable.not_not, Int.not_lt, Int.not_le] at p43
    have hi : i < 32 := by omega
    refine T_skip ?_
    refine X_then ?_
    refine T_seq ?_
    refine T_block ?_
    refine T_region ?_
    refine TL_q (Qt_move (.int .i64 _) rfl) rfl ?_
    refine TL_q (Qt_move (.slice _ _ _) rfl) rfl ?_
    refine TL_q (Qt_move (.int .i64 _) rfl) rfl ?_
    first
     | refine TL_q (Qt_add rfl rfl (by omega) (by omega)) rfl ?_
     | refine TL_q (Qt_addw rfl rfl) rfl ?_
    refine TL_q (Qt_indexR rfl rfl (by omega) (by simp; omega)) rfl ?_
    refine TL_q (Qt_loadR (.int .u8 (l[8 + i].toNat : Int)) rfl (bytes_get l (8 + i) (by omega))) rfl ?_
    have hby := hashAt_get (l := l) hi (by omega)
    rw [hby]
    refine TL_q (Qt_fieldAddr 5 rfl rfl) rfl ?_
    refine TL_q (Qt_indexAddr_arr (sz := 1) rfl rfl Try.underlying36 rfl rfl (by omega) (by omega)) rfl ?_
    have hput : Put ((MsgV.mk (be l 0 1) (be l (0 + 1) 1) (be l (0 + 1 + 1) 2) (be l (0 + 1 + 1 + 2) 2) (be l (0 + 1 + 1 + 2 + 2) 2) (hvec (hashAt l) i) ⟨none, 0, []⟩ ⟨none, 0, []⟩)).cells (5 + (i : Int).toNat * 1) (.int .u8 ((hashAt l)[i].toNat : Int)) ((MsgV.mk (be l 0 1) (be l (0 + 1) 1) (be l (0 + 1 + 1) 2) (be l (0 + 1 + 1 + 2) 2) (be l (0 + 1 + 1 + 2 + 2) 2) (hvec (hashAt l) (i + 1)) ⟨none, 0, []⟩ ⟨none, 0, []⟩)).cells := by
     have h1 := MsgV.putHash (MsgV.mk (be l 0 1) (be l (0 + 1) 1) (be l (0 + 1 + 1) 2) (be l (0 + 1 + 1 + 2) 2) (be l (0 + 1 + 1 + 2 + 2) 2) (hvec (hashAt l) i) ⟨none, 0, []⟩ ⟨none, 0, []⟩) i hi (hashAt l)[i]
     rw [show ({ (MsgV.mk (be l 0 1) (be l (0 + 1) 1) (be l (0 + 1 + 1) 2) (be l (0 + 1 + 1 + 2) 2) (be l (0 + 1 + 1 + 2 + 2) 2) (hvec (hashAt l) i) ⟨none, 0, []⟩ ⟨none, 0, []⟩) with hash := (hvec (hashAt l) i).set i (hashAt l)[i] } : MsgV) = (MsgV.mk (be l 0 1) (be l (0 + 1) 1) (be l (0 + 1 + 1) 2) (be l (0 + 1 + 1 + 2) 2) (be l (0 + 1 + 1 + 2 + 2) 2) (hvec (hashAt l) (i + 1)) ⟨none, 0, []⟩ ⟨none, 0, []⟩) from by rw [← hvec_set (hashAt l) i hi]] at h1
     rw [show 5 + (i : Int).toNat * 1 = 5 + i from by simp]; exact h1
    refine TL_n (Ef_store1 (.int .u8 _) rfl rfl (?_))
    refine TL_nil ?_
    refine X_block ?_
    refine X_then ?_
    refine T_region ?_
    refine TL_q (Qt_move (.int .i64 _) rfl) rfl ?_
    first
     | refine TL_q (Qt_add rfl rfl (by omega) (by omega)) rfl ?_
     | refine TL_q (Qt_addw rfl rfl) rfl ?_
    refine TL_q (Qt_assign (.int .i64 _) rfl) rfl ?_
    refine TL_nil ?_
    apply X_loop
    case ha => exact (by repeat (first | with_reducible exact agree_refl | refine agree_upd rfl ?_ | refine agree_mix rfl ?_ | refine agree_setAll rfl ?_))
    case hI => exact ⟨i + 1, rfl, rfl, by omega⟩
    case hm => exact by show 32 - (i + 1 : Int).toNat < 32 - (i : Int).toNat; omega
    case hH => exact (Subs.st inferInstance)
   ·
    have p43 := h43
    try simp only [decide_eq_true_eq, decide_eq_false_iff_not, Bool.not_eq_true', Bool.not_eq_false', Option.isNone_iff_eq_none, ne_eq, Decidable.not_not, Int.not_lt, Int.not_le] at p43
    have hi : i = 32 := by omega
    subst hi
    rw [hvec_all]
    refine T_exit ?_
    refine X_then_exit ?_
    refine X_loop_exit ?_
    refine X_block_exit ?_
    refine X_then ?_
    refine T_seq ?_
    refine T_region ?_
    refine TL_q (Qt_move (.slice _ _ _) rfl) rfl ?_
    refine TL_e rfl (Ef_call (rReadText_c (k := 8 + 32) (m := 65536) (by omega) hl (by decide) (by decide)) rfl (fun x55 => ?_))
    rw [show rdText (l.drop (8 + 32)) 65536 = bodyR l from rfl]
    have hbb : (bodyR l).2.2 ≤ (l.drop (8 + 32)).length := (rdText_bound (l.drop (8 + 32)) 65536).1
    rw [List.length_drop] at hbb
    have hkb : 8 + 32 + (bodyR l).2.2 ≤ l.length := by omega
    refine TL_e rfl (Ef_allocN (fun b5 => ?_))
    refine TL_n (Ef_storeN rfl rfl (?_))
    refine TL_nil ?_
    refine X_then ?_
    refine T_seq ?_
    refine T_seq ?_
    refine T_region ?_
    refine TL_q (Qt_fieldAddr 3 rfl rfl) rfl ?_
    refine TL_q (Qt_load1 rfl) rfl ?_
    refine TL_q (Qt_neq rfl rfl) rfl ?_
    refine TL_nil ?_
    refine X_then ?_
    refine T_cond rfl (fun h58 => ?_) (fun h58 => ?_)
    ·
     have p58 := h58
     try simp only [decide_eq_true_eq, decide_eq_false_iff_not, Bool.not_eq_true', Bool.not_eq_false', Option.isNone_iff_eq_none, ne_eq, Decidable.not_not, Int.not_lt, Int.not_le] at p58
     refine T_seq ?_
     refine T_region ?_
     refine TL_q (Qt_fieldAddr 3 rfl rfl) rfl ?_
     refine TL_q (Qt_load1 rfl) rfl ?_
     refine TL_q (Qt_build [(1, (.int .i64 _))] rfl (by kernel_rfl)) rfl ?_
     refine TL_n (Ef_storeN rfl rfl (?_))
     refine TL_nil ?_
     refine X_then ?_
     refine T_ret ?_
     refine X_then_ret ?_
     have e : getM l = ((bodyR l).1, .zero) := by have hx := msgR_body h40 (by omega); rw [getM_bad h65 (by rw [hx]; first | assumption | decide | omega), hx]
     exact X_ret (MsgV.zero, []) [_] Try.results111 ⟨⟨_, rfl, res_cellN rfl⟩, trivial⟩ (by rw [e]; rfl) (fun w hw => (St.datMsgZero (Subs.st inferInstance w hw : St w0 H w)).addPure (by rw [e]; rfl))
    ·
     have p58 := h58
     try simp only [decide_eq_true_eq, decide_eq_false_iff_not, Bool.not_eq_true', Bool.not_eq_false', Option.isNone_iff_eq_none, ne_eq, Decidable.not_not, Int.not_lt, Int.not_le] at p58
     have hbz : (bodyR l).1 = 0 := by omega
     refine T_skip ?_
     refine X_then ?_
     refine T_seq ?_
     refine T_region ?_
     refine TL_q (Qt_fieldAddr 1 rfl rfl) rfl ?_
     refine TL_q (Qt_load1 rfl) rfl ?_
     refine TL_q (Qt_fieldAddr 37 rfl rfl) rfl ?_
     refine TL_n (Ef_store1 (.slice _ _ _) rfl rfl (?_))
     refine TL_nil ?_
     refine X_then ?_
     refine T_seq ?_
     refine T_region ?_
     refine TL_q (Qt_fieldAddr 2 rfl rfl) rfl ?_
     refine TL_q (Qt_load1 rfl) rfl ?_
     refine TL_q (Qt_val (Qt_add rfl rfl (by omega) (by omega)) (congrArg (Value.int .i64) (show (40 : Int) + ((bodyR l).2.2 : Int) = ((8 + 32 + (bodyR l).2.2 : Nat) : Int) from by omega))) rfl ?_
     refine TL_q (Qt_assign (.int .i64 _) rfl) rfl ?_
     refine TL_nil ?_
     refine X_then ?_
     refine T_seq ?_
     refine T_region ?_
     refine TL_q (Qt_move (.slice _ _ _) rfl) rfl ?_
     refine TL_q (Qt_move (.int .i64 _) rfl) rfl ?_
     refine TL_e rfl (Ef_call (rReadCount_c (k := 8 + 32 + (bodyR l).2.2) (m := 16) hkb hl (by decide) (by decide)) rfl (fun x70 => ?_))
     have hcb := (rdCount_bound (l.drop (8 + 32 + (bodyR l).2.2)) 16).2.1
     rw [List.length_drop] at hcb
     refine TL_e rfl (Ef_allocN (fun b7 => ?_))
     refine TL_n (Ef_storeN rfl rfl (?_))
     refine TL_nil ?_
     refine X_then ?_
     refine T_seq ?_
     refine T_seq ?_
     refine T_region ?_
     refine TL_q (Qt_fieldAddr 3 rfl rfl) rfl ?_
     refine TL_q (Qt_load1 rfl) rfl ?_
     refine TL_q (Qt_neq rfl rfl) rfl ?_
     refine TL_nil ?_
     refine X_then ?_
     refine T_cond rfl (fun h73 => ?_) (fun h73 => ?_)
     ·
      have p73 := h73
      try simp only [decide_eq_true_eq, decide_eq_false_iff_not, Bool.not_eq_true', Bool.not_eq_false', Option.isNone_iff_eq_none, ne_eq, Decidable.not_not, Int.not_lt, Int.not_le] at p73
      refine T_seq ?_
      refine T_region ?_
      refine TL_q (Qt_fieldAddr 3 rfl rfl) rfl ?_
      refine TL_q (Qt_load1 rfl) rfl ?_
      refine TL_q (Qt_build [(1, (.int .i64 _))] rfl (by kernel_rfl)) rfl ?_
      refine TL_n (Ef_storeN rfl rfl (?_))
      refine TL_nil ?_
      refine X_then ?_
      refine T_ret ?_
      refine X_then_ret ?_
      have e : getM l = ((rdCount (l.drop (8 + 32 + (bodyR l).2.2)) 16).1, .zero) := by have hy : (restR l).1 = (rdCount (l.drop (8 + 32 + (bodyR l).2.2)) 16).1 := rpt_err (by omega); have hx := msgR_rest h40 hbz (by rw [hy]; omega); rw [getM_bad h65 (by rw [hx]; show (restR l).1 ≠ 0; rw [hy]; omega), hx, hy]
      exact X_ret (MsgV.zero, []) [_] Try.results111 ⟨⟨_, rfl, res_cellN rfl⟩, trivial⟩ (by rw [e]; rfl) (fun w hw => (St.datMsgZero (Subs.st inferInstance w hw : St w0 H w)).addPure (by rw [e]; rfl))
     ·
      have p73 := h73
      try simp only [decide_eq_true_eq, decide_eq_false_iff_not, Bool.not_eq_true', Bool.not_eq_false', Option.isNone_iff_eq_none, ne_eq, Decidable.not_not, Int.not_lt, Int.not_le] at p73
      have hcz : (rdCount (l.drop (8 + 32 + (bodyR l).2.2)) 16).1 = 0 := by omega
      have hn16 : (rdCount (l.drop (8 + 32 + (bodyR l).2.2)) 16).2.1 ≤ 16 := by have := (rdCount_ok hcz).2.1; rw [← (rdCount_ok hcz).1] at this; omega
      refine T_skip ?_
      refine X_then ?_
      refine T_seq ?_
      refine T_region ?_
      refine TL_q (Qt_move (.int .i64 _) rfl) rfl ?_
      refine TL_q (Qt_fieldAddr 2 rfl rfl) rfl ?_
      refine TL_q (Qt_load1 rfl) rfl ?_
      refine TL_q (Qt_val (Qt_add rfl rfl (by omega) (by omega)) (congrArg (Value.int .i64) (show ((8 + 32 + (bodyR l).2.2 : Nat) : Int) + ((rdCount (l.drop (8 + 32 + (bodyR l).2.2)) 16).2.2 : Int) = (((8 + 32 + (bodyR l).2.2 + (rdCount (l.drop (8 + 32 + (bodyR l).2.2)) 16).2.2) : Nat) : Int) from by omega))) rfl ?_
      refine TL_q (Qt_assign (.int .i64 _) rfl) rfl ?_
      refine TL_nil ?_
      refine X_then ?_
      refine T_seq ?_
      refine T_seq ?_
      refine T_region ?_
      refine TL_q (Qt_assign (.int .i64 _) rfl) rfl ?_
      refine TL_nil ?_
      refine X_then ?_
      refine T_block ?_
      refine T_loop [6, 8, 9, 81, 82, 83, 84, 85, 86, 87, 88, 89, 90, 91, 92, 93, 94, 95, 96, 97, 98, 99, 100, 101, 102, 103, 104, 105, 106, 107] [8, 6] (fun us H' => ∃ (i : Nat) (q : Nat) (a : Option Addr) (c : Nat) (ts : List BS) (fp : List Nat), us = [.int .i64 (i : Int), .int .i64 (q : Int)] ∧ row (.slice a (ts).length c) 37 1 ((ts).map BS.val) :: eachA fp ts :: row (.slice x55.a (bodyR l).2.1.length x55.c) 5 1 (bytesV (bodyR l).2.1) :: blk b3 (.cells (MsgV.mk (be l 0 1) (be l (0 + 1) 1) (be l (0 + 1 + 1) 2) (be l (0 + 1 + 1 + 2) 2) (be l (0 + 1 + 1 + 2 + 2) 2) (hashAt l) ⟨x55.a, x55.c, (bodyR l).2.1⟩ ⟨a, c, ts⟩).cells 45 (0, 0)) :: blk b2 (.cells (MGotV.mk MsgV.zero 0).cells 147 (0, 0)) :: blk b5 (.cells (GotV.mk 0 ⟨x55.a, x55.c, (bodyR l).2.1⟩ ((bodyR l).2.2 : Int) (bodyR l).1).cells 199 (0, 0)) :: blk b7 (.cells (GotV.mk ((rdCount (l.drop (8 + 32 + (bodyR l).2.2)) 16).2.1 : Int) ⟨none, 0, []⟩ ((rdCount (l.drop (8 + 32 + (bodyR l).2.2)) 16).2.2 : Int) (rdCount (l.drop (8 + 32 + (bodyR l).2.2)) 16).1).cells 199 (0, 0)) :: H = H' ∧ i ≤ (rdCount (l.drop (8 + 32 + (bodyR l).2.2)) 16).2.1 ∧ (PrsAt l (rdCount (l.drop (8 + 32 + (bodyR l).2.2)) 16).2.1 i ((rdCount (l.drop (8 + 32 + (bodyR l).2.2)) 16).2.1 - i) (ts.map BS.l) (8 + 32 + (bodyR l).2.2 + (rdCount (l.drop (8 + 32 + (bodyR l).2.2)) 16).2.2) q) ∧ (q ≤ l.length) ∧ ((8 + 32 + (bodyR l).2.2 + (rdCount (l.drop (8 + 32 + (bodyR l).2.2)) 16).2.2) ≤ q) ∧ (ts.length = i)) (fun us => match us with | .int _ i :: _ => (rdCount (l.drop (8 + 32 + (bodyR l).2.2)) 16).2.1 - i.toNat | _ => 0) ⟨0, (8 + 32 + (bodyR l).2.2 + (rdCount (l.drop (8 + 32 + (bodyR l).2.2)) 16).2.2), none, 0, [], [], rfl, rfl, by omega, PrsAt.start, by omega, Nat.le_refl _, rfl⟩ (fun w hw => by
       have h0 : St w0 (row (.slice x55.a (bodyR l).2.1.length x55.c) 5 1 (bytesV (bodyR l).2.1) :: blk b3 (.cells (MsgV.mk (be l 0 1) (be l (0 + 1) 1) (be l (0 + 1 + 1) 2) (be l (0 + 1 + 1 + 2) 2) (be l (0 + 1 + 1 + 2 + 2) 2) (hashAt l) ⟨x55.a, x55.c, (bodyR l).2.1⟩ ⟨none, 0, []⟩).cells 45 (0, 0)) :: blk b2 (.cells (MGotV.mk MsgV.zero 0).cells 147 (0, 0)) :: blk b5 (.cells (GotV.mk 0 ⟨x55.a, x55.c, (bodyR l).2.1⟩ ((bodyR l).2.2 : Int) (bodyR l).1).cells 199 (0, 0)) :: blk b7 (.cells (GotV.mk ((rdCount (l.drop (8 + 32 + (bodyR l).2.2)) 16).2.1 : Int) ⟨none, 0, []⟩ ((rdCount (l.drop (8 + 32 + (bodyR l).2.2)) 16).2.2 : Int) (rdCount (l.drop (8 + 32 + (bodyR l).2.2)) 16).1).cells 199 (0, 0)) :: H) w := Subs.st inferInstance w hw
       exact (h0.eachNil).addNil 37 1) ?_
      rintro τ1 _ _  ⟨i, q, a, c, ts, fp, rfl, rfl, hi0, hp, hql, hkq, hll⟩ _
      refine T_seq ?_
      refine T_seq ?_
      refine T_region ?_
      refine TL_q (Qt_move (.int .i64 _) rfl) rfl ?_
      refine TL_q (Qt_fieldAddr 0 rfl rfl) rfl ?_
      refine TL_q (Qt_load1 rfl) rfl ?_
      refine TL_q (Qt_conv_i64 rfl rfl Try.underlying3 (by omega) (by omega)) rfl ?_
      refine TL_q (Qt_lss rfl rfl) rfl ?_
      refine TL_nil ?_
      refine X_then ?_
      refine T_cond rfl (fun h85 => ?_) (fun h85 => ?_)
      ·
       have p85 := h85
       try simp only [decide_eq_true_eq, decide_eq_false_iff_not, Bool.not_eq_true', Bool.not_eq_false', Option.isNone_iff_eq_none, ne_eq, Decidable.not_not, Int.not_lt, Int.not_le] at p85
       have hik : i < (rdCount (l.drop (8 + 32 + (bodyR l).2.2)) 16).2.1 := by omega
       obtain ⟨r, hr2⟩ : ∃ r, (rdCount (l.drop (8 + 32 + (bodyR l).2.2)) 16).2.1 - i = r + 1 := ⟨(rdCount (l.drop (8 + 32 + (bodyR l).2.2)) 16).2.1 - i - 1, by omega⟩
       rw [hr2] at hp
       refine T_skip ?_
       refine X_then ?_
       refine T_seq ?_
       refine T_block ?_
       refine T_seq ?_
       refine T_region ?_
       refine TL_q (Qt_move (.slice _ _ _) rfl) rfl ?_
       refine TL_q (Qt_move (.int .i64 _) rfl) rfl ?_
       refine TL_e rfl (Ef_call (rReadText_c (k := q) (m := 65536) hql hl (by decide) (by decide)) rfl (fun x90 => ?_))
       have htb := (rdText_bound (l.drop q) 65536).1
       rw [List.length_drop] at htb
       refine TL_e rfl (Ef_allocN (fun b9 => ?_))
       refine TL_n (Ef_storeN rfl rfl (?_))
       refine TL_nil ?_
       refine X_then ?_
       refine T_seq ?_
       refine T_seq ?_
       refine T_region ?_
       refine TL_q (Qt_fieldAddr 3 rfl rfl) rfl ?_
       refine TL_q (Qt_load1 rfl) rfl ?_
       refine TL_q (Qt_neq rfl rfl) rfl ?_
       refine TL_nil ?_
       refine X_then ?_
       refine T_cond rfl (fun h93 => ?_) (fun h93 => ?_)
       ·
        have p93 := h93
        try simp only [decide_eq_true_eq, decide_eq_false_iff_not, Bool.not_eq_true', Bool.not_eq_false', Option.isNone_iff_eq_none, ne_eq, Decidable.not_not, Int.not_lt, Int.not_le] at p93
        refine T_seq ?_
        refine T_region ?_
        refine TL_q (Qt_fieldAddr 3 rfl rfl) rfl ?_
        refine TL_q (Qt_load1 rfl) rfl ?_
        refine TL_q (Qt_build [(1, (.int .i64 _))] rfl (by kernel_rfl)) rfl ?_
        refine TL_n (Ef_storeN rfl rfl (?_))
        refine TL_nil ?_
        refine X_then ?_
        refine T_ret ?_
        refine X_then_ret ?_
        refine X_block_ret ?_
        refine X_then_ret ?_
        refine X_loop_ret ?_
        refine X_block_ret ?_
        refine X_then_ret ?_
        have e : getM l = ((rdText (l.drop q) 65536).1, .zero) := by have hb := hp.bad (by omega : (rdText (l.drop q) 65536).1 ≠ 0); have hy : (restR l).1 = (rdText (l.drop q) 65536).1 := (by rw [restR, partsR, if_neg (by omega), if_pos (by rw [List.drop_drop, hb]; omega), List.drop_drop, hb]); have hx := msgR_rest h40 hbz (by rw [hy]; omega); rw [getM_bad h65 (by rw [hx]; show (restR l).1 ≠ 0; rw [hy]; omega), hx, hy]
        exact X_ret (MsgV.zero, []) [_] Try.results111 ⟨⟨_, rfl, res_cellN rfl⟩, trivial⟩ (by rw [e]; rfl) (fun w hw => (St.datMsgZero (Subs.st inferInstance w hw : St w0 H w)).addPure (by rw [e]; rfl))
       ·
        have p93 := h93
        try simp only [decide_eq_true_eq, decide_eq_false_iff_not, Bool.not_eq_true', Bool.not_eq_false', Option.isNone_iff_eq_none, ne_eq, Decidable.not_not, Int.not_lt, Int.not_le] at p93
        have het : (rdText (l.drop q) 65536).1 = 0 := by omega
        refine T_skip ?_
        refine X_then ?_
        refine T_seq ?_
        refine T_region ?_
        refine TL_q (Qt_fieldAddr 38 rfl rfl) rfl ?_
        refine TL_q (Qt_load1 rfl) rfl ?_
        refine TL_q (Qt_fieldAddr 1 rfl rfl) rfl ?_
        refine TL_q (Qt_load1 rfl) rfl ?_
        refine TL_e rfl (Ef_slice1 (v := .slice _ _ _) rfl (fun a101 c101 => ?_))
        refine TL_e rfl (Ef_appendP (sv := .slice _ _ _) (xv := .slice _ _ _) ⟨x90.a, x90.c, (rdText (l.drop q) 65536).2.1⟩ rfl rfl (by omega) rfl (fun a102 c102 => ?_))
        refine TL_q (Qt_fieldAddr 38 rfl rfl) rfl ?_
        refine TL_n (Ef_store1 (.slice _ _ _) rfl rfl (?_))
        refine TL_nil ?_
        refine X_then ?_
        refine T_region ?_
        refine TL_q (Qt_move (.int .i64 _) rfl) rfl ?_
        refine TL_q (Qt_fieldAddr 2 rfl rfl) rfl ?_
        refine TL_q (Qt_load1 rfl) rfl ?_
        first
         | refine TL_q (Qt_add rfl rfl (by omega) (by omega)) rfl ?_
         | refine TL_q (Qt_addw rfl rfl) rfl ?_
        refine TL_q (Qt_assign (.int .i64 _) rfl) rfl ?_
        refine TL_nil ?_
        refine X_block ?_
        refine X_then ?_
        refine T_region ?_
        refine TL_q (Qt_move (.int .i64 _) rfl) rfl ?_
        first
         | refine TL_q (Qt_add rfl rfl (by omega) (by omega)) rfl ?_
         | refine TL_q (Qt_addw rfl rfl) rfl ?_
        refine TL_q (Qt_assign (.int .i64 _) rfl) rfl ?_
        refine TL_nil ?_
        apply X_loop
        case ha => exact (by repeat (first | with_reducible exact agree_refl | refine agree_upd rfl ?_ | refine agree_mix rfl ?_ | refine agree_setAll rfl ?_))
        case hI => exact ⟨i + 1, q + (rdText (l.drop q) 65536).2.2, a102, c102, ts ++ [⟨x90.a, x90.c, (rdText (l.drop q) 65536).2.1⟩], rowFp (.slice x90.a (rdText (l.drop q) 65536).2.1.length x90.c) ++ fp, rfl, rfl, by omega, by rw [show (rdCount (l.drop (8 + 32 + (bodyR l).2.2)) 16).2.1 - (i + 1) = r from by omega, List.map_append]; exact hp.step hkq het, by omega, by omega, by simp [hll]⟩
        case hm => exact by show (rdCount (l.drop (8 + 32 + (bodyR l).2.2)) 16).2.1 - (i + 1 : Int).toNat < (rdCount (l.drop (8 + 32 + (bodyR l).2.2)) 16).2.1 - (i : Int).toNat; omega
        case hH => exact fun w hw => eachUnder (Subs.st inferInstance w hw : St w0 (row (.slice a102 (ts ++ [(⟨x90.a, x90.c, (rdText (l.drop q) 65536).2.1⟩ : BS)]).length c102) 37 1 ((ts ++ [(⟨x90.a, x90.c, (rdText (l.drop q) 65536).2.1⟩ : BS)]).map BS.val) :: row (BS.val ⟨x90.a, x90.c, (rdText (l.drop q) 65536).2.1⟩) 5 1 (bytesV (BS.l ⟨x90.a, x90.c, (rdText (l.drop q) 65536).2.1⟩)) :: eachA fp ts :: row (.slice x55.a (bodyR l).2.1.length x55.c) 5 1 (bytesV (bodyR l).2.1) :: blk b3 (.cells (MsgV.mk (be l 0 1) (be l (0 + 1) 1) (be l (0 + 1 + 1) 2) (be l (0 + 1 + 1 + 2) 2) (be l (0 + 1 + 1 + 2 + 2) 2) (hashAt l) ⟨x55.a, x55.c, (bodyR l).2.1⟩ ⟨a102, c102, ts ++ [⟨x90.a, x90.c, (rdText (l.drop q) 65536).2.1⟩]⟩).cells 45 (0, 0)) :: blk b2 (.cells (MGotV.mk MsgV.zero 0).cells 147 (0, 0)) :: blk b5 (.cells (GotV.mk 0 ⟨x55.a, x55.c, (bodyR l).2.1⟩ ((bodyR l).2.2 : Int) (bodyR l).1).cells 199 (0, 0)) :: blk b7 (.cells (GotV.mk ((rdCount (l.drop (8 + 32 + (bodyR l).2.2)) 16).2.1 : Int) ⟨none, 0, []⟩ ((rdCount (l.drop (8 + 32 + (bodyR l).2.2)) 16).2.2 : Int) (rdCount (l.drop (8 + 32 + (bodyR l).2.2)) 16).1).cells 199 (0, 0)) :: H) w)
      ·
       have p85 := h85
       try simp only [decide_eq_true_eq, decide_eq_false_iff_not, Bool.not_eq_true', Bool.not_eq_false', Option.isNone_iff_eq_none, ne_eq, Decidable.not_not, Int.not_lt, Int.not_le] at p85
       have hi : i = (rdCount (l.drop (8 + 32 + (bodyR l).2.2)) 16).2.1 := by omega
       rw [hi, Nat.sub_self] at hp
       have hd := hp.done
       have hrx : restR l = (0, ts.map BS.l, (rdCount (l.drop (8 + 32 + (bodyR l).2.2)) 16).2.2 + (q - (8 + 32 + (bodyR l).2.2 + (rdCount (l.drop (8 + 32 + (bodyR l).2.2)) 16).2.2))) := by rw [restR, partsR, if_neg (by omega), List.drop_drop, hd]; rfl
       have hrz : (restR l).1 = 0 := by rw [hrx]
       have hqe : q = 8 + 32 + (bodyR l).2.2 + (restR l).2.2 := by rw [hrx]; show q = 8 + 32 + (bodyR l).2.2 + ((rdCount (l.drop (8 + 32 + (bodyR l).2.2)) 16).2.2 + (q - (8 + 32 + (bodyR l).2.2 + (rdCount (l.drop (8 + 32 + (bodyR l).2.2)) 16).2.2))); omega
       have h411 : (restR l).2.1 = ts.map BS.l := by rw [hrx]
       have hab : ((MsgV.mk (be l 0 1) (be l (0 + 1) 1) (be l (0 + 1 + 1) 2) (be l (0 + 1 + 1 + 2) 2) (be l (0 + 1 + 1 + 2 + 2) 2) (hashAt l) ⟨x55.a, x55.c, (bodyR l).2.1⟩ ⟨a, c, ts⟩)).abs = readM l := by simp only [MsgV.abs, readM, h411]
       refine T_exit ?_
       refine X_then_exit ?_
       refine X_loop_exit ?_
       refine X_block_exit ?_
       refine X_then ?_
       refine T_seq ?_
       refine T_seq ?_
       refine T_region ?_
       refine TL_q (Qt_move (.int .i64 _) rfl) rfl ?_
       refine TL_q (Qt_move (.slice _ _ _) rfl) rfl ?_
       refine TL_q (Qt_len_slice rfl Try.underlying37) rfl ?_
       refine TL_q (Qt_lss rfl rfl) rfl ?_
       refine TL_nil ?_
       refine X_then ?_
       refine T_cond rfl (fun h111 => ?_) (fun h111 => ?_)
       ·
        have p111 := h111
        try simp only [decide_eq_true_eq, decide_eq_false_iff_not, Bool.not_eq_true', Bool.not_eq_false', Option.isNone_iff_eq_none, ne_eq, Decidable.not_not, Int.not_lt, Int.not_le] at p111
        refine T_seq ?_
        refine T_region ?_
        refine TL_q (Qt_build [(1, (.int .i64 _))] rfl (by kernel_rfl)) rfl ?_
        refine TL_n (Ef_storeN rfl rfl (?_))
        refine TL_nil ?_
        refine X_then ?_
        refine T_ret ?_
        refine X_then_ret ?_
        have e : getM l = (2, .zero) := by have hx := msgR_more h40 hbz hrz (by omega); rw [getM_bad h65 (by rw [hx]; first | assumption | decide | omega), hx]
        exact X_ret (MsgV.zero, []) [_] Try.results111 ⟨⟨_, rfl, res_cellN rfl⟩, trivial⟩ (by rw [e]; rfl) (fun w hw => (St.datMsgZero (Subs.st inferInstance w hw : St w0 H w)).addPure (by rw [e]; rfl))
       ·
        have p111 := h111
        try simp only [decide_eq_true_eq, decide_eq_false_iff_not, Bool.not_eq_true', Bool.not_eq_false', Option.isNone_iff_eq_none, ne_eq, Decidable.not_not, Int.not_lt, Int.not_le] at p111
        have hm : ¬ 8 + 32 + (bodyR l).2.2 + (restR l).2.2 < l.length := by omega
        refine T_skip ?_
        refine X_then ?_
        refine T_seq ?_
        refine T_seq ?_
        refine T_region ?_
        refine TL_q (Qt_loadN rfl rfl) rfl ?_
        refine TL_e rfl (Ef_call (rNumbers_c (m := (MsgV.mk (be l 0 1) (be l (0 + 1) 1) (be l (0 + 1 + 1) 2) (be l (0 + 1 + 1 + 2) 2) (be l (0 + 1 + 1 + 2 + 2) 2) (hashAt l) ⟨x55.a, x55.c, (bodyR l).2.1⟩ ⟨a, c, ts⟩))) rfl (fun x114 => ?_))
        refine TL_q (Qt_not rfl) rfl ?_
        refine TL_nil ?_
        refine X_then ?_
        refine T_cond rfl (fun h115 => ?_) (fun h115 => ?_)
        ·
         have p115 := h115
         try simp only [decide_eq_true_eq, decide_eq_false_iff_not, Bool.not_eq_true', Bool.not_eq_false', Option.isNone_iff_eq_none, ne_eq, Decidable.not_not, Int.not_lt, Int.not_le] at p115
         refine T_seq ?_
         refine T_region ?_
         refine TL_q (Qt_build [(1, (.int .i64 _))] rfl (by kernel_rfl)) rfl ?_
         refine TL_n (Ef_storeN rfl rfl (?_))
         refine TL_nil ?_
         refine X_then ?_
         refine T_ret ?_
         refine X_then_ret ?_
         have e : getM l = (15, .zero) := by have hx : msgR l = (15, .zero) := (by rw [msgR_end h40 hbz hrz hm, if_neg (by rw [← hab]; simpa using h115)]); rw [getM_bad h65 (by rw [hx]; decide), hx]
         exact X_ret (MsgV.zero, []) [_] Try.results111 ⟨⟨_, rfl, res_cellN rfl⟩, trivial⟩ (by rw [e]; rfl) (fun w hw => (St.datMsgZero (Subs.st inferInstance w hw : St w0 H w)).addPure (by rw [e]; rfl))
        ·
         have p115 := h115
         try simp only [decide_eq_true_eq, decide_eq_false_iff_not, Bool.not_eq_true', Bool.not_eq_false', Option.isNone_iff_eq_none, ne_eq, Decidable.not_not, Int.not_lt, Int.not_le] at p115
         refine T_skip ?_
         refine X_then ?_
         refine T_seq ?_
         refine T_region ?_
         refine TL_q (Qt_loadN rfl rfl) rfl ?_
         refine TL_q (Qt_build [(0, (.agg _))] rfl (by kernel_rfl)) rfl ?_
         refine TL_n (Ef_storeN rfl rfl (?_))
         refine TL_nil ?_
         refine X_then ?_
         refine T_ret ?_
         have hx : msgR l = (0, ((MsgV.mk (be l 0 1) (be l (0 + 1) 1) (be l (0 + 1 + 1) 2) (be l (0 + 1 + 1 + 2) 2) (be l (0 + 1 + 1 + 2 + 2) 2) (hashAt l) ⟨x55.a, x55.c, (bodyR l).2.1⟩ ⟨a, c, ts⟩)).abs) := by rw [msgR_end h40 hbz hrz hm, hab, if_pos (by rw [← hab]; simpa using h115)]
         have e : getM l = (0, ((MsgV.mk (be l 0 1) (be l (0 + 1) 1) (be l (0 + 1 + 1) 2) (be l (0 + 1 + 1 + 2) 2) (be l (0 + 1 + 1 + 2 + 2) 2) (hashAt l) ⟨x55.a, x55.c, (bodyR l).2.1⟩ ⟨a, c, ts⟩)).abs) := getM_good h65 hx
         refine X_conv (fun w hw => St.datMsg (m := (MsgV.mk (be l 0 1) (be l (0 + 1) 1) (be l (0 + 1 + 1) 2) (be l (0 + 1 + 1 + 2) 2) (be l (0 + 1 + 1 + 2 + 2) 2) (hashAt l) ⟨x55.a, x55.c, (bodyR l).2.1⟩ ⟨a, c, ts⟩)) (fp := fp) (e := 37) (e2 := 5) (H := blk b2 (.cells (MGotV.mk (MsgV.mk (be l 0 1) (be l (0 + 1) 1) (be l (0 + 1 + 1) 2) (be l (0 + 1 + 1 + 2) 2) (be l (0 + 1 + 1 + 2 + 2) 2) (hashAt l) ⟨x55.a, x55.c, (bodyR l).2.1⟩ ⟨a, c, ts⟩) 0).cells 147 (0, 0)) :: H) (Subs.st inferInstance w hw)) (fun fp2 => ?_)
         exact X_ret ((MsgV.mk (be l 0 1) (be l (0 + 1) 1) (be l (0 + 1 + 1) 2) (be l (0 + 1 + 1 + 2) 2) (be l (0 + 1 + 1 + 2 + 2) 2) (hashAt l) ⟨x55.a, x55.c, (bodyR l).2.1⟩ ⟨a, c, ts⟩), fp2) [_] Try.results111 ⟨⟨_, rfl, res_cellN rfl⟩, trivial⟩ (by rw [e]; rfl) (fun w hw => (Subs.st inferInstance w hw : St w0 (dat fp2 (Deep.leads (MsgV.mk (be l 0 1) (be l (0 + 1) 1) (be l (0 + 1 + 1) 2) (be l (0 + 1 + 1 + 2) 2) (be l (0 + 1 + 1 + 2 + 2) 2) (hashAt l) ⟨x55.a, x55.c, (bodyR l).2.1⟩ ⟨a, c, ts⟩)) :: H) w).addPure (by rw [e]))
end
section
open Go.RowKit Go.Sx
set_option maxRecDepth 100000
set_option linter.unusedSimpArgs false
set_option linter.unusedVariables false
theorem getM_err {l : List UInt8} (h : (getM l).1 ≠ 0) : (getM l).2 = .zero := by
 unfold getM at h ⊢
 split
 · rfl
 · split
   · rfl
   · rename_i h1 h2; rw [if_neg h1, if_neg h2] at h; exact absurd h h2
theorem tag_eq {t : Vector UInt8 32} {l : List UInt8} (hl : l.length = 32) : t.toList = l ↔ t = vec32 l := by
 constructor
 · intro h; rw [← h, vec32_toList]
 · intro h; rw [h, vec32_list l hl]
attribute [local irreducible] getM tagOf openK
set_option maxHeartbeats 1000000 in
theorem rOpen_c {w0 : World} {H : List SA} {k : KeysV} [rk : RdC w0 H (.slice k.seals.a k.seals.ls.length k.seals.c) 1 (k.seals.ls.map BS.val)] [rke : RdE w0 H k.seals.ls] (hkl : ∀ x ∈ k.seals.ls, x.l.length ≤ 4294967000) {a : Option Addr} {l : List UInt8} {c : Nat} [hr : RdB w0 H (.slice a l.length c) l] (hl : l.length ≤ 4294960000) :
 CT Try.prog w0 (H) 69 [.agg k.cells, .slice a l.length c] (α := MsgV × List Nat) (fun y => .agg (MGotV.mk y.1 (openK (k.seals.ls.map BS.l) l).1).cells) (fun y => pu (y.1.abs = (openK (k.seals.ls.map BS.l) l).2) :: dat y.2 (Deep.leads y.1) :: H) := by
 refine CT_intro Try.func69 rfl Try.ntmps69 rfl ?_
 refine T_seq ?_
 refine T_region ?_
 refine TL_e rfl (Ef_boxN rfl (fun b2 => ?_))
 refine TL_e rfl (Ef_allocN (fun b4 => ?_))
 refine TL_nil ?_
 refine X_then ?_
 refine T_seq ?_
 refine T_seq ?_
 refine T_region ?_
 refine TL_q (Qt_move (.slice _ _ _) rfl) rfl ?_
 refine TL_q (Qt_len_slice rfl Try.underlying37) rfl ?_
 refine TL_q (Qt_lss rfl rfl) rfl ?_
 refine TL_nil ?_
 refine X_then ?_
 refine T_cond rfl (fun h10 => ?_) (fun h10 => ?_)
 ·
  have p10 := h10
  try simp only [decide_eq_true_eq, decide_eq_false_iff_not, Bool.not_eq_true', Bool.not_eq_false', Option.isNone_iff_eq_none, ne_eq, Decidable.not_not, Int.not_lt, Int.not_le] at p10
  refine T_seq ?_
  refine T_region ?_
  refine TL_q (Qt_build [(1, (.int .i64 _))] rfl (by kernel_rfl)) rfl ?_
  refine TL_n (Ef_storeN rfl rfl (?_))
  refine TL_nil ?_
  refine X_then ?_
  refine T_ret ?_
  refine X_then_ret ?_
  have e := openK_1 (K := (k.seals.ls.map BS.l)) (l := l) (by omega)
  exact X_ret (MsgV.zero, []) [_] Try.results69 ⟨⟨_, rfl, res_cellN rfl⟩, trivial⟩ (by rw [e]; rfl) (fun w hw => (St.datMsgZero (Subs.st inferInstance w hw : St w0 H w)).addPure (by rw [e]; rfl))
 ·
  have p10 := h10
  try simp only [decide_eq_true_eq, decide_eq_false_iff_not, Bool.not_eq_true', Bool.not_eq_false', Option.isNone_iff_eq_none, ne_eq, Decidable.not_not, Int.not_lt, Int.not_le] at p10
  have h32 : ¬ l.length < 32 := by omega
  refine T_skip ?_
  refine X_then ?_
  refine T_seq ?_
  refine T_region ?_
  refine TL_q (Qt_move (.slice _ _ _) rfl) rfl ?_
  refine TL_q (Qt_len_slice rfl Try.underlying37) rfl ?_
  first
   | refine TL_q (Qt_sub rfl rfl (by omega) (by omega)) rfl ?_
   | refine TL_q (Qt_subw rfl rfl) rfl ?_
  refine TL_q (Qt_assign (.int .i64 _) rfl) rfl ?_
  refine TL_nil ?_
  refine X_then ?_
  refine T_seq ?_
  refine T_region ?_
  refine TL_q (Qt_move (.slice _ _ _) rfl) rfl ?_
  refine TL_q (Qt_move (.int .i64 _) rfl) rfl ?_
  refine TL_q (Qt_sliceB_h (l.length - 32) rfl (by refine congrArg (Value.int .i64) ?_; omega) (by omega)) rfl ?_
  refine TL_e rfl (Ef_call (rGetM_c (l := (l.take (l.length - 32))) (by simp; omega)) rfl (fun x18 => ?_))
  refine TL_pure (fun h18 => ?_)
  have hfrm : x18.1.frm = (getM (l.take (l.length - 32))).2.frm := congrArg MsgD.frm h18
  refine TL_e rfl (Ef_allocN (fun b6 => ?_))
  refine TL_n (Ef_storeN rfl rfl (?_))
  refine TL_nil ?_
  refine X_then ?_
  refine T_seq ?_
  refine T_seq ?_
  refine T_region ?_
  refine TL_q (Qt_fieldAddr 39 rfl rfl) rfl ?_
  refine TL_q (Qt_load1 rfl) rfl ?_
  refine TL_q (Qt_neq rfl rfl) rfl ?_
  refine TL_nil ?_
  refine X_then ?_
  refine T_cond rfl (fun h21 => ?_) (fun h21 => ?_)
  ·
   have p21 := h21
   try simp only [decide_eq_true_eq, decide_eq_false_iff_not, Bool.not_eq_true', Bool.not_eq_false', Option.isNone_iff_eq_none, ne_eq, Decidable.not_not, Int.not_lt, Int.not_le] at p21
   refine T_seq ?_
   refine T_region ?_
   refine TL_q (Qt_loadN rfl rfl) rfl ?_
   refine TL_n (Ef_storeN rfl rfl (?_))
   refine TL_nil ?_
   refine X_then ?_
   refine T_ret ?_
   refine X_then_ret ?_
   have e := openK_e (K := (k.seals.ls.map BS.l)) h32 (by omega)
   exact X_ret x18 [_] Try.results69 ⟨⟨_, rfl, res_cellN rfl⟩, trivial⟩ (by rw [e]; first | rfl | (rw [hz]; rfl)) (fun w hw => (Subs.st inferInstance w hw : St w0 (dat x18.2 (Deep.leads x18.1) :: H) w).addPure (by rw [e]; exact h18.trans (getM_err (by omega))))
  ·
   have p21 := h21
   try simp only [decide_eq_true_eq, decide_eq_false_iff_not, Bool.not_eq_true', Bool.not_eq_false', Option.isNone_iff_eq_none, ne_eq, Decidable.not_not, Int.not_lt, Int.not_le] at p21
   have hz : (getM (l.take (l.length - 32))).1 = 0 := by omega
   refine T_skip ?_
   refine X_then ?_
   refine T_seq ?_
   refine T_seq ?_
   refine T_region ?_
   refine TL_q (Qt_fieldAddr 0 rfl rfl) rfl ?_
   refine TL_q (Qt_fieldAddr 1 rfl rfl) rfl ?_
   refine TL_q (Qt_load1 rfl) rfl ?_
   refine TL_q (Qt_fieldAddr 0 rfl rfl) rfl ?_
   refine TL_q (Qt_load1 rfl) rfl ?_
   refine TL_q (Qt_len_slice rfl Try.underlying38) rfl ?_
   refine TL_q (Qt_geq rfl rfl) rfl ?_
   refine TL_nil ?_
   refine X_then ?_
   refine T_cond rfl (fun h29 => ?_) (fun h29 => ?_)
   ·
    have p29 := h29
    try simp only [decide_eq_true_eq, decide_eq_false_iff_not, Bool.not_eq_true', Bool.not_eq_false', Option.isNone_iff_eq_none, ne_eq, Decidable.not_not, Int.not_lt, Int.not_le] at p29
    refine T_seq ?_
    refine T_region ?_
    refine TL_q (Qt_build [(1, (.int .i64 _))] rfl (by kernel_rfl)) rfl ?_
    refine TL_n (Ef_storeN rfl rfl (?_))
    refine TL_nil ?_
    refine X_then ?_
    refine T_ret ?_
    refine X_then_ret ?_
    have e := openK_6 (K := (k.seals.ls.map BS.l)) h32 hz (by rw [List.length_map]; omega)
    exact X_ret (MsgV.zero, []) [_] Try.results69 ⟨⟨_, rfl, res_cellN rfl⟩, trivial⟩ (by rw [e]; rfl) (fun w hw => (St.datMsgZero (Subs.st inferInstance w hw : St w0 H w)).addPure (by rw [e]; rfl))
   ·
    have p29 := h29
    try simp only [decide_eq_true_eq, decide_eq_false_iff_not, Bool.not_eq_true', Bool.not_eq_false', Option.isNone_iff_eq_none, ne_eq, Decidable.not_not, Int.not_lt, Int.not_le] at p29
    have hfr := frm_range (getM_formed hz)
    have hlt : ¬ (k.seals.ls.length : Int) ≤ (getM (l.take (l.length - 32))).2.frm := by omega
    have hk : x18.1.frm.toNat < k.seals.ls.length := by omega
    have : RdB w0 H (.slice k.seals.ls[x18.1.frm.toNat].a k.seals.ls[x18.1.frm.toNat].l.length k.seals.ls[x18.1.frm.toNat].c) k.seals.ls[x18.1.frm.toNat].l := rke.get (List.getElem_mem hk)
    have hkl1 := hkl _ (List.getElem_mem hk)
    have ht := openK_t (K := (k.seals.ls.map BS.l)) h32 hz (by rw [List.length_map]; exact hlt)
    rw [← hfrm, keys_get hk] at ht
    refine T_skip ?_
    refine X_then ?_
    refine T_seq ?_
    refine T_drawF (blk b6 (.cells (MGotV.mk x18.1 (getM (l.take (l.length - 32))).1).cells 147 (0, 0)) :: blk b2 (.cells k.cells 62 (0, 0)) :: H) (by kernel_rfl) (Subs.st inferInstance) ?_
    refine DLF_q (i := 0) (by kernel_rfl) rfl (by kernel_rfl) (by kernel_rfl) (Qt_fieldAddr 0 rfl rfl) rfl ?_
    refine DLF_q (i := 1) (by kernel_rfl) rfl (by kernel_rfl) (by kernel_rfl) (Qt_load1 rfl) rfl ?_
    refine DLF_q (i := 2) (by kernel_rfl) rfl (by kernel_rfl) (by kernel_rfl) (Qt_fieldAddr 0 rfl rfl) rfl ?_
    refine DLF_q (i := 3) (by kernel_rfl) rfl (by kernel_rfl) (by kernel_rfl) (Qt_fieldAddr 1 rfl rfl) rfl ?_
    refine DLF_q (i := 4) (by kernel_rfl) rfl (by kernel_rfl) (by kernel_rfl) (Qt_load1 rfl) rfl ?_
    refine DLF_q (i := 5) (by kernel_rfl) rfl (by kernel_rfl) (by kernel_rfl) (Qt_indexR rfl (show _ = Value.int .i64 x18.1.frm from rfl) (show 0 ≤ x18.1.frm by omega) (by show x18.1.frm < ((k.seals.ls.map BS.val).length : Int); rw [List.length_map]; omega)) rfl ?_
    refine DLF_q (i := 6) (by kernel_rfl) rfl (by kernel_rfl) (by kernel_rfl) (Qt_loadR (.slice _ _ _) rfl (vals_get _ _ hk)) rfl ?_
    refine DLF_q (i := 7) (by kernel_rfl) rfl (by kernel_rfl) (by kernel_rfl) (Qt_move (.slice _ _ _) rfl) rfl ?_
    refine DLF_q (i := 8) (by kernel_rfl) rfl (by kernel_rfl) (by kernel_rfl) (Qt_move (.int .i64 _) rfl) rfl ?_
    refine DLF_q (i := 9) (by kernel_rfl) rfl (by kernel_rfl) (by kernel_rfl) (Qt_sliceB_h (l.length - 32) rfl (by refine congrArg (Value.int .i64) ?_; omega) (by omega)) rfl ?_
    refine DLF_2 (i := 10) (j := 11) (by kernel_rfl) ?_ ?_
    ·
     refine DLS_e rfl rfl (Ef_call (rTag_c (l := (l.take (l.length - 32))) (by omega) (by simp; omega)) rfl (fun x41 => ⟨(Subs.st inferInstance), ?_⟩))
     obtain ⟨tv, htv⟩ : ∃ tv, tv = tagOf k.seals.ls[x18.1.frm.toNat].l (l.take (l.length - 32)) := ⟨_, rfl⟩
     rw [← htv]
     refine DLF_1 (i := 11) (by kernel_rfl) ?_
     refine DLS_e rfl rfl (Ef_allocN (fun b7 => ⟨(Subs.st inferInstance), ?_⟩))
     refine DLF_1 (i := 12) (by kernel_rfl) ?_
     refine DLS_n rfl (Ef_storeN rfl rfl (⟨(Subs.st inferInstance), ?_⟩))
     refine DLF_nil (by kernel_rfl) ?_
     refine X_then ?_
     refine T_seq ?_
     refine T_seq ?_
     refine T_draw (blk b7 (.cells (hlist tv).toArray 36 (0, 0)) :: H) [(0, true), (2, true), (3, true), (4, true), (1, false), (5, false), (6, true)] (by kernel_rfl) (by kernel_rfl) rfl (by kernel_rfl) (Subs.st inferInstance) (fun hns0 => ?_)
     refine DL_q hns0 rfl (Qt_loadN rfl rfl) rfl ?_
     refine DL_q hns0 rfl (Qt_move (.slice _ _ _) rfl) rfl ?_
     refine DL_q hns0 rfl (Qt_move (.int .i64 _) rfl) rfl ?_
     refine DL_q hns0 rfl (Qt_sliceB_l (l.length - 32) rfl (by refine congrArg (Value.int .i64) ?_; omega) (by omega)) rfl ?_
     refine DL_e rfl rfl (Ef_call (rHash_c) rfl (fun x43 => ⟨(Subs.st inferInstance), ?_⟩))
     refine DL_e rfl rfl (Ef_call (same_c (by simp)) rfl (fun x47 => ⟨(Subs.st inferInstance), ?_⟩))
     refine DL_q hns0 rfl (Qt_not rfl) rfl ?_
     refine DL_nil ?_
     refine X_then ?_
     refine T_cond rfl (fun h48 => ?_) (fun h48 => ?_)
     ·
      have p48 := h48
      try simp only [decide_eq_true_eq, decide_eq_false_iff_not, Bool.not_eq_true', Bool.not_eq_false', Option.isNone_iff_eq_none, ne_eq, Decidable.not_not, Int.not_lt, Int.not_le] at p48
      have hne : tv ≠ vec32 (l.drop (l.length - 32)) := fun h => by have h2 := (tag_eq (by rw [List.length_drop]; omega)).2 h; simp [h2] at h48
      rw [htv] at hne
      rw [if_pos hne] at ht
      refine T_seq ?_
      refine T_region ?_
      refine TL_q (Qt_build [(1, (.int .i64 _))] rfl (by kernel_rfl)) rfl ?_
      refine TL_n (Ef_storeN rfl rfl (?_))
      refine TL_nil ?_
      refine X_then ?_
      refine T_ret ?_
      refine X_then_ret ?_
      have e := ht
      exact X_ret (MsgV.zero, []) [_] Try.results69 ⟨⟨_, rfl, res_cellN rfl⟩, trivial⟩ (by rw [e]; rfl) (fun w hw => (St.datMsgZero (Subs.st inferInstance w hw : St w0 H w)).addPure (by rw [e]; rfl))
     ·
      have p48 := h48
      try simp only [decide_eq_true_eq, decide_eq_false_iff_not, Bool.not_eq_true', Bool.not_eq_false', Option.isNone_iff_eq_none, ne_eq, Decidable.not_not, Int.not_lt, Int.not_le] at p48
      have heq : tv = vec32 (l.drop (l.length - 32)) := (tag_eq (by rw [List.length_drop]; omega)).1 (by simpa using h48)
      rw [htv] at heq
      rw [if_neg (by rw [heq]; simp)] at ht
      refine T_skip ?_
      refine X_then ?_
      refine T_seq ?_
      refine T_region ?_
      refine TL_q (Qt_loadN rfl rfl) rfl ?_
      refine TL_n (Ef_storeN rfl rfl (?_))
      refine TL_nil ?_
      refine X_then ?_
      refine T_ret ?_
      have e := ht
      exact X_ret x18 [_] Try.results69 ⟨⟨_, rfl, res_cellN rfl⟩, trivial⟩ (by rw [e]; first | rfl | (rw [hz]; rfl)) (fun w hw => (Subs.st inferInstance w hw : St w0 (dat x18.2 (Deep.leads x18.1) :: H) w).addPure (by rw [e]; exact h18))
    ·
     refine DLS_e rfl rfl (Ef_allocN (fun b7 => ⟨(Subs.st inferInstance), ?_⟩))
     refine DLF_1 (i := 10) (by kernel_rfl) ?_
     refine DLS_e rfl rfl (Ef_call (rTag_c (l := (l.take (l.length - 32))) (by omega) (by simp; omega)) rfl (fun x41 => ⟨(Subs.st inferInstance), ?_⟩))
     obtain ⟨tv, htv⟩ : ∃ tv, tv = tagOf k.seals.ls[x18.1.frm.toNat].l (l.take (l.length - 32)) := ⟨_, rfl⟩
     rw [← htv]
     refine DLF_1 (i := 12) (by kernel_rfl) ?_
     refine DLS_n rfl (Ef_storeN rfl rfl (⟨(Subs.st inferInstance), ?_⟩))
     refine DLF_nil (by kernel_rfl) ?_
     refine X_then ?_
     refine T_seq ?_
     refine T_seq ?_
     refine T_draw (blk b7 (.cells (hlist tv).toArray 36 (0, 0)) :: H) [(0, true), (2, true), (3, true), (4, true), (1, false), (5, false), (6, true)] (by kernel_rfl) (by kernel_rfl) rfl (by kernel_rfl) (Subs.st inferInstance) (fun hns1 => ?_)
     refine DL_q hns1 rfl (Qt_loadN rfl rfl) rfl ?_
     refine DL_q hns1 rfl (Qt_move (.slice _ _ _) rfl) rfl ?_
     refine DL_q hns1 rfl (Qt_move (.int .i64 _) rfl) rfl ?_
     refine DL_q hns1 rfl (Qt_sliceB_l (l.length - 32) rfl (by refine congrArg (Value.int .i64) ?_; omega) (by omega)) rfl ?_
     refine DL_e rfl rfl (Ef_call (rHash_c) rfl (fun x43 => ⟨(Subs.st inferInstance), ?_⟩))
     refine DL_e rfl rfl (Ef_call (same_c (by simp)) rfl (fun x47 => ⟨(Subs.st inferInstance), ?_⟩))
     refine DL_q hns1 rfl (Qt_not rfl) rfl ?_
     refine DL_nil ?_
     refine X_then ?_
     refine T_cond rfl (fun h48 => ?_) (fun h48 => ?_)
     ·
      have p48 := h48
      try simp only [decide_eq_true_eq, decide_eq_false_iff_not, Bool.not_eq_true', Bool.not_eq_false', Option.isNone_iff_eq_none, ne_eq, Decidable.not_not, Int.not_lt, Int.not_le] at p48
      have hne : tv ≠ vec32 (l.drop (l.length - 32)) := fun h => by have h2 := (tag_eq (by rw [List.length_drop]; omega)).2 h; simp [h2] at h48
      rw [htv] at hne
      rw [if_pos hne] at ht
      refine T_seq ?_
      refine T_region ?_
      refine TL_q (Qt_build [(1, (.int .i64 _))] rfl (by kernel_rfl)) rfl ?_
      refine TL_n (Ef_storeN rfl rfl (?_))
      refine TL_nil ?_
      refine X_then ?_
      refine T_ret ?_
      refine X_then_ret ?_
      have e := ht
      exact X_ret (MsgV.zero, []) [_] Try.results69 ⟨⟨_, rfl, res_cellN rfl⟩, trivial⟩ (by rw [e]; rfl) (fun w hw => (St.datMsgZero (Subs.st inferInstance w hw : St w0 H w)).addPure (by rw [e]; rfl))
     ·
      have p48 := h48
      try simp only [decide_eq_true_eq, decide_eq_false_iff_not, Bool.not_eq_true', Bool.not_eq_false', Option.isNone_iff_eq_none, ne_eq, Decidable.not_not, Int.not_lt, Int.not_le] at p48
      have heq : tv = vec32 (l.drop (l.length - 32)) := (tag_eq (by rw [List.length_drop]; omega)).1 (by simpa using h48)
      rw [htv] at heq
      rw [if_neg (by rw [heq]; simp)] at ht
      refine T_skip ?_
      refine X_then ?_
      refine T_seq ?_
      refine T_region ?_
      refine TL_q (Qt_loadN rfl rfl) rfl ?_
      refine TL_n (Ef_storeN rfl rfl (?_))
      refine TL_nil ?_
      refine X_then ?_
      refine T_ret ?_
      have e := ht
      exact X_ret x18 [_] Try.results69 ⟨⟨_, rfl, res_cellN rfl⟩, trivial⟩ (by rw [e]; first | rfl | (rw [hz]; rfl)) (fun w hw => (Subs.st inferInstance w hw : St w0 (dat x18.2 (Deep.leads x18.1) :: H) w).addPure (by rw [e]; exact h18))
theorem rOpenF_c {w0 : World} {H : List SA} {sa : Option Addr} {sc : Nat} {ls : List BS} {rt : Sl} [rk : RdC w0 H (.slice sa ls.length sc) 1 (ls.map BS.val)] [rke : RdE w0 H ls] (hkl : ∀ x ∈ ls, x.l.length ≤ 4294967000) {a : Option Addr} {l : List UInt8} {c : Nat} [hr : RdB w0 H (.slice a l.length c) l] (hl : l.length ≤ 4294960000) :
 CT Try.prog w0 H 69 [.agg (KeysV.mk ⟨sa, sc, ls⟩ rt).cells, .slice a l.length c] (α := MsgV × List Nat) (fun y => .agg (MGotV.mk y.1 (openK (ls.map BS.l) l).1).cells) (fun y => pu (y.1.abs = (openK (ls.map BS.l) l).2) :: dat y.2 (Deep.leads y.1) :: H) :=
 rOpen_c (k := ⟨⟨sa, sc, ls⟩, rt⟩) (rk := rk) (rke := rke) hkl hl
end
end Go.Proofs.Ytpdpapcmfnhgpaa
