/- Walks: the reference on views. -/
import Derived.Test.YtgjkgdjjolnhdaaDoorMb
namespace Go.Proofs.YtgjkgdjjolnhdaaDoor
open Go.RowKit Go.Sx
set_option maxRecDepth 100000
set_option linter.unusedSimpArgs false
set_option linter.unusedVariables false
theorem sizeV_range {num : Int} {mk : Nat} : sizeV num mk = 0 ∨ (4 ≤ sizeV num mk ∧ sizeV num mk ≤ 7) := by
 unfold sizeV
 split
 · rename_i h; simp only [rightV, decide_eq_true_eq] at h; omega
 · exact .inl rfl
set_option maxHeartbeats 1000000 in
theorem rRight_c {w0 : World} {H : List SA} {num : Int} {mk : Nat} (hmk : mk < 65536) :
 CT Tryd.prog w0 (H) 49 [.agg (ViewV.mk num (mk : Int)).cells] (α := Unit) (fun _ => .bool (rightV num mk)) (fun _ => H) := by
 refine CT_intro Tryd.func49 rfl Tryd.ntmps49 rfl ?_
 refine T_seq ?_
 refine T_region ?_
 refine TL_e rfl (Ef_boxN rfl (fun b1 => ?_))
 refine TL_q (Qt_assign (.bool _) rfl) rfl ?_
 refine TL_nil ?_
 refine X_then ?_
 refine T_seq ?_
 refine T_region ?_
 refine TL_q (Qt_loadN rfl rfl) rfl ?_
 refine TL_e rfl (Ef_call (rMembers_c (num := num) hmk) rfl (fun x5 => ?_))
 have hones := ones16_mem hmk
 refine TL_q (Qt_len_slice rfl Tryd.underlying42) rfl ?_
 refine TL_q (Qt_assign (.int .i64 _) rfl) rfl ?_
 refine TL_nil ?_
 refine X_then ?_
 refine T_seq ?_
 refine T_region ?_
 refine TL_q (Qt_fieldAddr 0 rfl rfl) rfl ?_
 refine TL_q (Qt_load1 rfl) rfl ?_
 refine TL_q (Qt_geq rfl rfl) rfl ?_
 refine TL_q (Qt_move (.bool _) rfl) rfl ?_
 refine TL_split 10 rfl (fun h10 => ?_) (fun h10 => ?_)
 ·
  have p10 := h10
  try simp only [decide_eq_true_eq, decide_eq_false_iff_not, Bool.not_eq_true', Bool.not_eq_false', Option.isNone_iff_eq_none, ne_eq, Decidable.not_not, Int.not_lt, Int.not_le] at p10
  refine TL_take rfl rfl h10 ?_
  refine TL_q (Qt_fieldAddr 0 rfl rfl) rfl ?_
  refine TL_take rfl rfl h10 ?_
  refine TL_q (Qt_load1 rfl) rfl ?_
  refine TL_take rfl rfl h10 ?_
  refine TL_q (Qt_leq rfl rfl) rfl ?_
  refine TL_q (Qt_pick_t (.bool _) rfl h10 rfl) rfl ?_
  refine TL_q (Qt_move (.bool _) rfl) rfl ?_
  refine TL_split 15 rfl (fun h15 => ?_) (fun h15 => ?_)
  ·
   have p15 := h15
   try simp only [decide_eq_true_eq, decide_eq_false_iff_not, Bool.not_eq_true', Bool.not_eq_false', Option.isNone_iff_eq_none, ne_eq, Decidable.not_not, Int.not_lt, Int.not_le] at p15
   refine TL_take rfl rfl h15 ?_
   refine TL_q (Qt_move (.int .i64 _) rfl) rfl ?_
   refine TL_take rfl rfl h15 ?_
   refine TL_q (Qt_geq rfl rfl) rfl ?_
   refine TL_q (Qt_pick_t (.bool _) rfl h15 rfl) rfl ?_
   refine TL_q (Qt_move (.bool _) rfl) rfl ?_
   refine TL_split 19 rfl (fun h19 => ?_) (fun h19 => ?_)
   ·
    have p19 := h19
    try simp only [decide_eq_true_eq, decide_eq_false_iff_not, Bool.not_eq_true', Bool.not_eq_false', Option.isNone_iff_eq_none, ne_eq, Decidable.not_not, Int.not_lt, Int.not_le] at p19
    refine TL_take rfl rfl h19 ?_
    refine TL_q (Qt_move (.int .i64 _) rfl) rfl ?_
    refine TL_take rfl rfl h19 ?_
    refine TL_q (Qt_leq rfl rfl) rfl ?_
    refine TL_q (Qt_pick_t (.bool _) rfl h19 rfl) rfl ?_
    refine TL_q (Qt_assign (.bool _) rfl) rfl ?_
    refine TL_nil ?_
    refine X_then ?_
    refine T_ret ?_
    refine X_ret () [.bool (rightV num mk)] Tryd.results49 ⟨?_, trivial⟩ rfl (Subs.st inferInstance)
    refine congrArg Value.bool ?_
    rw [Bool.eq_iff_iff]
    simp only [rightV, decide_eq_true_eq, Bool.false_eq_true, false_iff]
    omega
   ·
    have p19 := h19
    try simp only [decide_eq_true_eq, decide_eq_false_iff_not, Bool.not_eq_true', Bool.not_eq_false', Option.isNone_iff_eq_none, ne_eq, Decidable.not_not, Int.not_lt, Int.not_le] at p19
    refine TL_pass rfl rfl h19 rfl ?_
    refine TL_pass rfl rfl h19 rfl ?_
    refine TL_q (Qt_pick_f (.bool _) rfl h19 rfl) rfl ?_
    refine TL_q (Qt_assign (.bool _) rfl) rfl ?_
    refine TL_nil ?_
    refine X_then ?_
    refine T_ret ?_
    refine X_ret () [.bool (rightV num mk)] Tryd.results49 ⟨?_, trivial⟩ rfl (Subs.st inferInstance)
    refine congrArg Value.bool ?_
    rw [Bool.eq_iff_iff]
    simp only [rightV, decide_eq_true_eq, Bool.false_eq_true, false_iff]
    omega
  ·
   have p15 := h15
   try simp only [decide_eq_true_eq, decide_eq_false_iff_not, Bool.not_eq_true', Bool.not_eq_false', Option.isNone_iff_eq_none, ne_eq, Decidable.not_not, Int.not_lt, Int.not_le] at p15
   refine TL_pass rfl rfl h15 rfl ?_
   refine TL_pass rfl rfl h15 rfl ?_
   refine TL_q (Qt_pick_f (.bool _) rfl h15 rfl) rfl ?_
   refine TL_q (Qt_move (.bool _) rfl) rfl ?_
   refine TL_pass rfl rfl rfl rfl ?_
   refine TL_pass rfl rfl rfl rfl ?_
   refine TL_q (Qt_pick_f (.bool _) rfl rfl rfl) rfl ?_
   refine TL_q (Qt_assign (.bool _) rfl) rfl ?_
   refine TL_nil ?_
   refine X_then ?_
   refine T_ret ?_
   refine X_ret () [.bool (rightV num mk)] Tryd.results49 ⟨?_, trivial⟩ rfl (Subs.st inferInstance)
   refine congrArg Value.bool ?_
   rw [Bool.eq_iff_iff]
   simp only [rightV, decide_eq_true_eq, Bool.false_eq_true, false_iff]
   omega
 ·
  have p10 := h10
  try simp only [decide_eq_true_eq, decide_eq_false_iff_not, Bool.not_eq_true', Bool.not_eq_false', Option.isNone_iff_eq_none, ne_eq, Decidable.not_not, Int.not_lt, Int.not_le] at p10
  refine TL_pass rfl rfl h10 rfl ?_
  refine TL_pass rfl rfl h10 rfl ?_
  refine TL_pass rfl rfl h10 rfl ?_
  refine TL_q (Qt_pick_f (.bool _) rfl h10 rfl) rfl ?_
  refine TL_q (Qt_move (.bool _) rfl) rfl ?_
  refine TL_pass rfl rfl rfl rfl ?_
  refine TL_pass rfl rfl rfl rfl ?_
  refine TL_q (Qt_pick_f (.bool _) rfl rfl rfl) rfl ?_
  refine TL_q (Qt_move (.bool _) rfl) rfl ?_
  refine TL_pass rfl rfl rfl rfl ?_
  refine TL_pass rfl rfl rfl rfl ?_
  refine TL_q (Qt_pick_f (.bool _) rfl rfl rfl) rfl ?_
  refine TL_q (Qt_assign (.bool _) rfl) rfl ?_
  refine TL_nil ?_
  refine X_then ?_
  refine T_ret ?_
  refine X_ret () [.bool (rightV num mk)] Tryd.results49 ⟨?_, trivial⟩ rfl (Subs.st inferInstance)
  refine congrArg Value.bool ?_
  rw [Bool.eq_iff_iff]
  simp only [rightV, decide_eq_true_eq, Bool.false_eq_true, false_iff]
  omega
set_option maxHeartbeats 1000000 in
theorem rSize_c {w0 : World} {H : List SA} {num : Int} {mk : Nat} (hmk : mk < 65536) :
 CT Tryd.prog w0 (H) 39 [.agg (ViewV.mk num (mk : Int)).cells] (α := Unit) (fun _ => .int .i64 (sizeV num mk : Int)) (fun _ => H) := by
 refine CT_intro Tryd.func39 rfl Tryd.ntmps39 rfl ?_
 refine T_seq ?_
 refine T_region ?_
 refine TL_e rfl (Ef_boxN rfl (fun b1 => ?_))
 refine TL_q (Qt_assign (.int .i64 _) rfl) rfl ?_
 refine TL_nil ?_
 refine X_then ?_
 refine T_seq ?_
 refine T_seq ?_
 refine T_region ?_
 refine TL_q (Qt_loadN rfl rfl) rfl ?_
 refine TL_e rfl (Ef_call (rRight_c hmk) rfl (fun x4 => ?_))
 refine TL_q (Qt_not rfl) rfl ?_
 refine TL_nil ?_
 refine X_then ?_
 refine T_cond rfl (fun h5 => ?_) (fun h5 => ?_)
 ·
  have p5 := h5
  try simp only [decide_eq_true_eq, decide_eq_false_iff_not, Bool.not_eq_true', Bool.not_eq_false', Option.isNone_iff_eq_none, ne_eq, Decidable.not_not, Int.not_lt, Int.not_le] at p5
  refine T_seq ?_
  refine T_region ?_
  refine TL_q (Qt_assign (.int .i64 _) rfl) rfl ?_
  refine TL_nil ?_
  refine X_then ?_
  refine T_ret ?_
  refine X_then_ret ?_
  have e : sizeV num mk = 0 := if_neg (by simp_all)
  exact X_ret () [_] Tryd.results39 ⟨rfl, trivial⟩ (by rw [e]; rfl) (Subs.st inferInstance)
 ·
  have p5 := h5
  try simp only [decide_eq_true_eq, decide_eq_false_iff_not, Bool.not_eq_true', Bool.not_eq_false', Option.isNone_iff_eq_none, ne_eq, Decidable.not_not, Int.not_lt, Int.not_le] at p5
  refine T_skip ?_
  refine X_then ?_
  refine T_seq ?_
  refine T_region ?_
  refine TL_q (Qt_loadN rfl rfl) rfl ?_
  refine TL_e rfl (Ef_call (rMembers_c (num := num) hmk) rfl (fun x7 => ?_))
  refine TL_q (Qt_len_slice rfl Tryd.underlying42) rfl ?_
  refine TL_q (Qt_assign (.int .i64 _) rfl) rfl ?_
  refine TL_nil ?_
  refine X_then ?_
  refine T_ret ?_
  have e : sizeV num mk = (memK mk).length := by rw [sizeV, if_pos (by simp_all), ones16_mem hmk]
  exact X_ret () [_] Tryd.results39 ⟨rfl, trivial⟩ (by rw [e]; rfl) (Subs.st inferInstance)
set_option maxHeartbeats 1000000 in
theorem rFaults_c {w0 : World} {H : List SA} {num : Int} {mk : Nat} (hmk : mk < 65536) :
 CT Tryd.prog w0 (H) 16 [.agg (ViewV.mk num (mk : Int)).cells] (α := Unit) (fun _ => .int .i64 (faultsV num mk : Int)) (fun _ => H) := by
 refine CT_intro Tryd.func16 rfl Tryd.ntmps16 rfl ?_
 refine T_seq ?_
 refine T_region ?_
 refine TL_e rfl (Ef_boxN rfl (fun b1 => ?_))
 refine TL_q (Qt_assign (.int .i64 _) rfl) rfl ?_
 refine TL_nil ?_
 refine X_then ?_
 refine T_seq ?_
 refine T_region ?_
 refine TL_q (Qt_loadN rfl rfl) rfl ?_
 refine TL_e rfl (Ef_call (rSize_c hmk) rfl (fun x5 => ?_))
 have hsr := sizeV_range (num := num) (mk := mk)
 refine TL_q (Qt_assign (.int .i64 _) rfl) rfl ?_
 refine TL_nil ?_
 refine X_then ?_
 refine T_seq ?_
 refine T_seq ?_
 refine T_region ?_
 refine TL_q (Qt_move (.int .i64 _) rfl) rfl ?_
 refine TL_q (Qt_eql rfl rfl) rfl ?_
 refine TL_nil ?_
 refine X_then ?_
 refine T_cond rfl (fun h7 => ?_) (fun h7 => ?_)
 ·
  have p7 := h7
  try simp only [decide_eq_true_eq, decide_eq_false_iff_not, Bool.not_eq_true', Bool.not_eq_false', Option.isNone_iff_eq_none, ne_eq, Decidable.not_not, Int.not_lt, Int.not_le] at p7
  refine T_seq ?_
  refine T_region ?_
  refine TL_q (Qt_assign (.int .i64 _) rfl) rfl ?_
  refine TL_nil ?_
  refine X_then ?_
  refine T_ret ?_
  refine X_then_ret ?_
  have e : faultsV num mk = 2 := by unfold faultsV; omega
  exact X_ret () [_] Tryd.results16 ⟨rfl, trivial⟩ (by rw [e]; rfl) (Subs.st inferInstance)
 ·
  have p7 := h7
  try simp only [decide_eq_true_eq, decide_eq_false_iff_not, Bool.not_eq_true', Bool.not_eq_false', Option.isNone_iff_eq_none, ne_eq, Decidable.not_not, Int.not_lt, Int.not_le] at p7
  refine T_skip ?_
  refine X_then ?_
  refine T_seq ?_
  refine T_seq ?_
  refine T_region ?_
  refine TL_q (Qt_move (.int .i64 _) rfl) rfl ?_
  refine TL_q (Qt_geq rfl rfl) rfl ?_
  refine TL_nil ?_
  refine X_then ?_
  refine T_cond rfl (fun h9 => ?_) (fun h9 => ?_)
  ·
   have p9 := h9
   try simp only [decide_eq_true_eq, decide_eq_false_iff_not, Bool.not_eq_true', Bool.not_eq_false', Option.isNone_iff_eq_none, ne_eq, Decidable.not_not, Int.not_lt, Int.not_le] at p9
   refine T_seq ?_
   refine T_region ?_
   refine TL_q (Qt_assign (.int .i64 _) rfl) rfl ?_
   refine TL_nil ?_
   refine X_then ?_
   refine T_ret ?_
   refine X_then_ret ?_
   have e : faultsV num mk = 1 := by unfold faultsV; omega
   exact X_ret () [_] Tryd.results16 ⟨rfl, trivial⟩ (by rw [e]; rfl) (Subs.st inferInstance)
  ·
   have p9 := h9
   try simp only [decide_eq_true_eq, decide_eq_false_iff_not, Bool.not_eq_true', Bool.not_eq_false', Option.isNone_iff_eq_none, ne_eq, Decidable.not_not, Int.not_lt, Int.not_le] at p9
   refine T_skip ?_
   refine X_then ?_
   refine T_seq ?_
   refine T_region ?_
   refine TL_q (Qt_assign (.int .i64 _) rfl) rfl ?_
   refine TL_nil ?_
   refine X_then ?_
   refine T_ret ?_
   have e : faultsV num mk = 0 := by unfold faultsV; omega
   exact X_ret () [_] Tryd.results16 ⟨rfl, trivial⟩ (by rw [e]; rfl) (Subs.st inferInstance)
set_option maxHeartbeats 1000000 in
theorem rQuorum_c {w0 : World} {H : List SA} {num : Int} {mk : Nat} (hmk : mk < 65536) :
 CT Tryd.prog w0 (H) 22 [.agg (ViewV.mk num (mk : Int)).cells] (α := Unit) (fun _ => .int .i64 (quorumV num mk : Int)) (fun _ => H) := by
 refine CT_intro Tryd.func22 rfl Tryd.ntmps22 rfl ?_
 refine T_seq ?_
 refine T_region ?_
 refine TL_e rfl (Ef_boxN rfl (fun b1 => ?_))
 refine TL_q (Qt_assign (.int .i64 _) rfl) rfl ?_
 refine TL_nil ?_
 refine X_then ?_
 refine T_seq ?_
 refine T_seq ?_
 refine T_region ?_
 refine TL_q (Qt_loadN rfl rfl) rfl ?_
 refine TL_e rfl (Ef_call (rSize_c hmk) rfl (fun x4 => ?_))
 refine TL_q (Qt_eql rfl rfl) rfl ?_
 refine TL_nil ?_
 refine X_then ?_
 refine T_cond rfl (fun h5 => ?_) (fun h5 => ?_)
 ·
  have p5 := h5
  try simp only [decide_eq_true_eq, decide_eq_false_iff_not, Bool.not_eq_true', Bool.not_eq_false', Option.isNone_iff_eq_none, ne_eq, Decidable.not_not, Int.not_lt, Int.not_le] at p5
  refine T_seq ?_
  refine T_region ?_
  refine TL_q (Qt_assign (.int .i64 _) rfl) rfl ?_
  refine TL_nil ?_
  refine X_then ?_
  refine T_ret ?_
  refine X_then_ret ?_
  have e : quorumV num mk = 0 := if_pos (by omega)
  exact X_ret () [_] Tryd.results22 ⟨rfl, trivial⟩ (by rw [e]; rfl) (Subs.st inferInstance)
 ·
  have p5 := h5
  try simp only [decide_eq_true_eq, decide_eq_false_iff_not, Bool.not_eq_true', Bool.not_eq_false', Option.isNone_iff_eq_none, ne_eq, Decidable.not_not, Int.not_lt, Int.not_le] at p5
  refine T_skip ?_
  refine X_then ?_
  refine T_seq ?_
  refine T_draw (blk b1 (.cells (ViewV.mk num (mk : Int)).cells 24 (0, 0)) :: H) [(0, true), (2, true), (1, false), (3, false), (4, true), (5, true), (6, true), (7, true)] (by kernel_rfl) (by kernel_rfl) rfl (by kernel_rfl) (Subs.st inferInstance) (fun hns0 => ?_)
  refine DL_q hns0 rfl (Qt_loadN rfl rfl) rfl ?_
  refine DL_q hns0 rfl (Qt_loadN rfl rfl) rfl ?_
  refine DL_e rfl rfl (Ef_call (rSize_c hmk) rfl (fun x7 => ⟨(Subs.st inferInstance), ?_⟩))
  refine DL_e rfl rfl (Ef_call (rFaults_c hmk) rfl (fun x9 => ⟨(Subs.st inferInstance), ?_⟩))
  have hsz := sizeV_le (num := num) hmk
  have hfa : faultsV num mk ≤ 16 := by unfold faultsV; omega
  first
   | refine DL_q hns0 rfl (Qt_add rfl rfl (by omega) (by omega)) rfl ?_
   | refine DL_q hns0 rfl (Qt_addw rfl rfl) rfl ?_
  refine DL_q hns0 rfl (Qt_quo rfl rfl (by omega)) rfl ?_
  rw [show IntKind.i64.wrap (((sizeV num mk : Int) + (faultsV num mk : Int)).tdiv 2) = (((sizeV num mk + faultsV num mk) / 2 : Nat) : Int) from by rw [← Int.natCast_add]; exact quo_i64 _ 2 (by omega)]
  refine DL_q hns0 rfl (Qt_add rfl rfl (by omega) (by omega)) rfl ?_
  refine DL_q hns0 rfl (Qt_assign (.int .i64 _) rfl) rfl ?_
  refine DL_nil ?_
  refine X_then ?_
  refine T_ret ?_
  have e : quorumV num mk = (sizeV num mk + faultsV num mk) / 2 + 1 := if_neg (by omega)
  exact X_ret () [_] Tryd.results22 ⟨rfl, trivial⟩ (by rw [e]; push_cast; rfl) (Subs.st inferInstance)
set_option maxHeartbeats 1000000 in
theorem rHas_c {w0 : World} {H : List SA} {num : Int} {mk : Nat} (hmk : mk < 65536) {i : Int} :
 CT Tryd.prog w0 (H) 74 [.agg (ViewV.mk num (mk : Int)).cells, .int .i64 i] (α := Unit) (fun _ => .bool (hasV mk i)) (fun _ => H) := by
 refine CT_intro Tryd.func74 rfl Tryd.ntmps74 rfl ?_
 refine T_seq ?_
 refine T_region ?_
 refine TL_e rfl (Ef_boxN rfl (fun b2 => ?_))
 refine TL_q (Qt_assign (.bool _) rfl) rfl ?_
 refine TL_nil ?_
 refine X_then ?_
 refine T_seq ?_
 refine T_region ?_
 refine TL_q (Qt_loadN rfl rfl) rfl ?_
 refine TL_e rfl (Ef_call (rMembers_c (num := num) hmk) rfl (fun x8 => ?_))
 have hml := memK_len mk
 refine TL_q (Qt_assign (.slice _ _ _) rfl) rfl ?_
 refine TL_nil ?_
 refine X_then ?_
 refine T_seq ?_
 refine T_seq ?_
 refine T_region ?_
 refine TL_q (Qt_assign (.int .i64 _) rfl) rfl ?_
 refine TL_nil ?_
 refine X_then ?_
 refine T_block ?_
 refine T_loop [4, 6, 9, 10, 11, 12, 13, 14, 15, 16, 17, 18, 19, 20] [6] (fun us H' => ∃ (k : Nat), us = [.int .i64 (k : Int)] ∧ row (.slice x8.a (memK mk).length x8.c) 3 1 ((memK mk).flatMap encN) :: blk b2 (.cells (ViewV.mk num (mk : Int)).cells 24 (0, 0)) :: H = H' ∧ k ≤ (memK mk).length ∧ (∀ (j : Nat) (hj : j < (memK mk).length), j < k → ((memK mk)[j] : Int) ≠ i)) (fun us => match us with | .int _ i :: _ => (memK mk).length - i.toNat | _ => 0) ⟨0, rfl, rfl, by omega, fun j _ h => by omega⟩ (Subs.st inferInstance) ?_
 rintro τ0 _ _  ⟨k, rfl, rfl, hk0, hno⟩ _
 refine T_seq ?_
 refine T_seq ?_
 refine T_region ?_
 refine TL_q (Qt_move (.int .i64 _) rfl) rfl ?_
 refine TL_q (Qt_move (.slice _ _ _) rfl) rfl ?_
 refine TL_q (Qt_len_slice rfl Tryd.underlying42) rfl ?_
 refine TL_q (Qt_lss rfl rfl) rfl ?_
 refine TL_nil ?_
 refine X_then ?_
 refine T_cond rfl (fun h12 => ?_) (fun h12 => ?_)
 ·
  have p12 := h12
  try simp only [decide_eq_true_eq, decide_eq_false_iff_not, Bool.not_eq_true', Bool.not_eq_false', Option.isNone_iff_eq_none, ne_eq, Decidable.not_not, Int.not_lt, Int.not_le] at p12
  have hk : k < (memK mk).length := by omega
  refine T_skip ?_
  refine X_then ?_
  refine T_seq ?_
  refine T_block ?_
  refine T_seq ?_
  refine T_region ?_
  refine TL_q (Qt_move (.slice _ _ _) rfl) rfl ?_
  refine TL_q (Qt_move (.int .i64 _) rfl) rfl ?_
  refine TL_q (Qt_indexR rfl rfl (by omega) (by rw [encN_len]; omega)) rfl ?_
  refine TL_q (Qt_loadR (.int .i64 ((memK mk)[k] : Int)) rfl (encN_get _ k hk)) rfl ?_
  refine TL_q (Qt_move (.int .i64 _) rfl) rfl ?_
  refine TL_q (Qt_eql rfl rfl) rfl ?_
  refine TL_nil ?_
  refine X_then ?_
  refine T_cond rfl (fun h20 => ?_) (fun h20 => ?_)
  ·
   have p20 := h20
   try simp only [decide_eq_true_eq, decide_eq_false_iff_not, Bool.not_eq_true', Bool.not_eq_false', Option.isNone_iff_eq_none, ne_eq, Decidable.not_not, Int.not_lt, Int.not_le] at p20
   refine T_seq ?_
   refine T_region ?_
   refine TL_q (Qt_assign (.bool _) rfl) rfl ?_
   refine TL_nil ?_
   refine X_then ?_
   refine T_ret ?_
   refine X_block_ret ?_
   refine X_then_ret ?_
   refine X_loop_ret ?_
   refine X_block_ret ?_
   refine X_then_ret ?_
   have e : hasV mk i = true := by rw [show i = ((memK mk)[k] : Int) by omega]; exact hasV_nat.2 (List.getElem_mem hk)
   exact X_ret () [_] Tryd.results74 ⟨rfl, trivial⟩ (by rw [e]; rfl) (Subs.st inferInstance)
  ·
   have p20 := h20
   try simp only [decide_eq_true_eq, decide_eq_false_iff_not, Bool.not_eq_true', Bool.not_eq_false', Option.isNone_iff_eq_none, ne_eq, Decidable.not_not, Int.not_lt, Int.not_le] at p20
   refine T_skip ?_
   refine X_block ?_
   refine X_then ?_
   refine T_region ?_
   refine TL_q (Qt_move (.int .i64 _) rfl) rfl ?_
   first
    | refine TL_q (Qt_add rfl rfl (by omega) (by omega)) rfl ?_
    | refine TL_q (Qt_addw rfl rfl) rfl ?_
   refine TL_q (Qt_assign (.int .i64 _) rfl) rfl ?_
   refine TL_nil ?_
   apply X_loop
   case ha => exact (by repeat (first | with_reducible exact agree_refl | refine agree_upd rfl ?_ | refine agree_mix rfl ?_ | refine agree_setAll rfl ?_))
   case hI => exact ⟨k + 1, rfl, rfl, by omega, fun j hj h => by rcases Nat.lt_or_ge j k with h1 | h1; exact hno j hj h1; obtain rfl : j = k := (by omega); omega⟩
   case hm => exact by show (memK mk).length - (k + 1 : Int).toNat < (memK mk).length - (k : Int).toNat; omega
   case hH => exact (Subs.st inferInstance)
 ·
  have p12 := h12
  try simp only [decide_eq_true_eq, decide_eq_false_iff_not, Bool.not_eq_true', Bool.not_eq_false', Option.isNone_iff_eq_none, ne_eq, Decidable.not_not, Int.not_lt, Int.not_le] at p12
  refine T_exit ?_
  refine X_then_exit ?_
  refine X_loop_exit ?_
  refine X_block_exit ?_
  refine X_then ?_
  refine T_seq ?_
  refine T_region ?_
  refine TL_q (Qt_assign (.bool _) rfl) rfl ?_
  refine TL_nil ?_
  refine X_then ?_
  refine T_ret ?_
  have e : hasV mk i = false := by
   rw [Bool.eq_false_iff]
   intro h
   have h0 : 0 ≤ i := by simp only [hasV, decide_eq_true_eq] at h; omega
   obtain ⟨n, rfl⟩ := Int.eq_ofNat_of_zero_le h0
   obtain ⟨j, hj, he⟩ := List.getElem_of_mem (hasV_nat.1 h)
   exact hno j hj (by omega) (by rw [he])
  exact X_ret () [_] Tryd.results74 ⟨rfl, trivial⟩ (by rw [e]; rfl) (Subs.st inferInstance)
end Go.Proofs.YtgjkgdjjolnhdaaDoor
