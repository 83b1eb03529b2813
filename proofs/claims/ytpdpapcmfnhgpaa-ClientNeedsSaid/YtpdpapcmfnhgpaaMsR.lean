/- Walks: Concat of byte slices; the reference on messages: bytes, numbers, Put, Long, Copied, Same. -/
import Derived.Test.YtpdpapcmfnhgpaaWgR
namespace Go.Proofs.Ytpdpapcmfnhgpaa
open Go.RowKit Go.Sx
set_option maxRecDepth 100000
set_option linter.unusedSimpArgs false
set_option linter.unusedVariables false
set_option maxHeartbeats 1000000 in
theorem grow_c {w0 : World} {H : List SA} {n : Nat} (hn : n ≤ 4294967296) :
 CT Try.prog w0 (H) 164 [.slice none 0 0, .int .i64 (n : Int)] (α := AC) (fun y => .slice y.a ([] : List UInt8).length y.c) (fun y => row (.slice y.a ([] : List UInt8).length y.c) 5 1 (bytesV []) :: H) := by
 refine CT_intro Try.func164 rfl Try.ntmps164 rfl ?_
 refine T_seq ?_
 refine T_region ?_
 refine TL_q (Qt_assign (.slice _ _ _) rfl) rfl ?_
 refine TL_nil ?_
 refine X_then ?_
 refine T_seq ?_
 refine T_seq ?_
 refine T_region ?_
 refine TL_q (Qt_move (.int .i64 _) rfl) rfl ?_
 refine TL_q (Qt_lss rfl rfl) rfl ?_
 refine TL_nil ?_
 refine X_then ?_
 refine T_cond rfl (fun h6 => ?_) (fun h6 => ?_)
 ·
  have p6 := h6
  try simp only [decide_eq_true_eq, decide_eq_false_iff_not, Bool.not_eq_true', Bool.not_eq_false', Option.isNone_iff_eq_none, ne_eq, Decidable.not_not, Int.not_lt, Int.not_le] at p6
  exact absurd p6 (by omega)
 ·
  have p6 := h6
  try simp only [decide_eq_true_eq, decide_eq_false_iff_not, Bool.not_eq_true', Bool.not_eq_false', Option.isNone_iff_eq_none, ne_eq, Decidable.not_not, Int.not_lt, Int.not_le] at p6
  refine T_skip ?_
  refine X_then ?_
  refine T_seq ?_
  refine T_seq ?_
  refine T_region ?_
  refine TL_q (Qt_move (.int .i64 _) rfl) rfl ?_
  refine TL_q (Qt_move (.slice _ _ _) rfl) rfl ?_
  refine TL_q (Qt_cap_slice rfl Try.underlying37) rfl ?_
  refine TL_q (Qt_move (.slice _ _ _) rfl) rfl ?_
  refine TL_q (Qt_len_slice rfl Try.underlying37) rfl ?_
  first
   | refine TL_q (Qt_sub rfl rfl (by omega) (by omega)) rfl ?_
   | refine TL_q (Qt_subw rfl rfl) rfl ?_
  refine TL_q (Qt_val (Qt_sub rfl rfl (by omega) (by omega)) (congrArg (Value.int .i64) (show _ = (n : Int) from by omega))) rfl ?_
  refine TL_q (Qt_assign (.int .i64 _) rfl) rfl ?_
  refine TL_nil ?_
  refine X_then ?_
  refine T_seq ?_
  refine T_region ?_
  refine TL_q (Qt_move (.int .i64 _) rfl) rfl ?_
  refine TL_q (Qt_gtr rfl rfl) rfl ?_
  refine TL_nil ?_
  refine X_then ?_
  refine T_cond rfl (fun h16 => ?_) (fun h16 => ?_)
  ·
   have p16 := h16
   try simp only [decide_eq_true_eq, decide_eq_false_iff_not, Bool.not_eq_true', Bool.not_eq_false', Option.isNone_iff_eq_none, ne_eq, Decidable.not_not, Int.not_lt, Int.not_le] at p16
   refine T_region ?_
   refine TL_q (Qt_move (.slice _ _ _) rfl) rfl ?_
   refine TL_q (Qt_move (.slice _ _ _) rfl) rfl ?_
   refine TL_q (Qt_cap_slice rfl Try.underlying37) rfl ?_
   refine TL_q (Qt_slice_h 0 rfl rfl (fun _ _ => Nat.le_refl _)) rfl ?_
   refine TL_q (Qt_move (.int .i64 _) rfl) rfl ?_
   refine TL_e rfl (Ef_appendMake rfl rfl Try.underlying3 (by omega) hn rfl (fun a22 c22 => ?_))
   refine TL_q (Qt_move (.slice _ _ _) rfl) rfl ?_
   refine TL_q (Qt_len_slice rfl Try.underlying37) rfl ?_
   refine TL_q (Qt_slice_h 0 rfl rfl (fun _ _ => Nat.zero_le _)) rfl ?_
   refine TL_q (Qt_assign (.slice _ _ _) rfl) rfl ?_
   refine TL_nil ?_
   refine X_then ?_
   refine T_seq ?_
   refine T_region ?_
   refine TL_q (Qt_move (.slice _ _ _) rfl) rfl ?_
   refine TL_q (Qt_assign (.slice _ _ _) rfl) rfl ?_
   refine TL_nil ?_
   refine X_then ?_
   refine T_ret ?_
   exact X_ret ⟨a22, c22⟩ [_] Try.results164 ⟨rfl, trivial⟩ rfl (fun _ hw => hw)
  ·
   have p16 := h16
   try simp only [decide_eq_true_eq, decide_eq_false_iff_not, Bool.not_eq_true', Bool.not_eq_false', Option.isNone_iff_eq_none, ne_eq, Decidable.not_not, Int.not_lt, Int.not_le] at p16
   obtain rfl : n = 0 := by omega
   refine T_skip ?_
   refine X_then ?_
   refine T_seq ?_
   refine T_region ?_
   refine TL_q (Qt_move (.slice _ _ _) rfl) rfl ?_
   refine TL_q (Qt_assign (.slice _ _ _) rfl) rfl ?_
   refine TL_nil ?_
   refine X_then ?_
   refine T_ret ?_
   exact X_ret ⟨none, 0⟩ [_] Try.results164 ⟨rfl, trivial⟩ rfl (fun w hw => (Subs.st inferInstance w hw : St w0 H w).addNilB 5)
def joined (ls : List BS) (k : Nat) : List UInt8 := ((ls.map BS.l).take k).flatten
theorem joined_succ (ls : List BS) (k : Nat) (hk : k < ls.length) : joined ls (k + 1) = joined ls k ++ ls[k].l := by
 unfold joined; rw [take_get _ _ (by simpa using hk)]; simp
theorem joined_all (ls : List BS) {k : Nat} (hk : ls.length ≤ k) : joined ls k = (ls.map BS.l).flatten := by
 unfold joined; rw [List.take_of_length_le (by simpa using hk)]
theorem joined_le (ls : List BS) (k : Nat) : (joined ls k).length ≤ ((ls.map BS.l).flatten).length := by
 have h : (ls.map BS.l).flatten = joined ls k ++ ((ls.map BS.l).drop k).flatten := by unfold joined; rw [← List.flatten_append, List.take_append_drop]
 rw [h]; simp

set_option maxHeartbeats 1000000 in
theorem concat_c {w0 : World} {H : List SA} {a : Option Addr} {ls : List BS} {c : Nat} [hr : RdC w0 H (.slice a ls.length c) 1 (ls.map BS.val)] [re : RdE w0 H ls] (hs : (ls.map BS.l).flatten.length ≤ 4294967296) (hn : ls.length ≤ 4294967296) :
 CT Try.prog w0 (H) 117 [.slice a ls.length c] (α := AC) (fun y => .slice y.a (ls.map BS.l).flatten.length y.c) (fun y => row (.slice y.a (ls.map BS.l).flatten.length y.c) 5 1 (bytesV (ls.map BS.l).flatten) :: H) := by
 refine CT_intro Try.func117 rfl Try.ntmps117 rfl ?_
 refine T_seq ?_
 refine T_region ?_
 refine TL_q (Qt_assign (.slice _ _ _) rfl) rfl ?_
 refine TL_nil ?_
 refine X_then ?_
 refine T_seq ?_
 refine T_region ?_
 refine TL_q (Qt_assign (.int .i64 _) rfl) rfl ?_
 refine TL_nil ?_
 refine X_then ?_
 refine T_seq ?_
 refine T_seq ?_
 refine T_region ?_
 refine TL_q (Qt_move (.slice _ _ _) rfl) rfl ?_
 refine TL_q (Qt_len_slice rfl Try.underlying38) rfl ?_
 refine TL_q (Qt_move (.int .i64 _) rfl) rfl ?_
 refine TL_nil ?_
 refine X_then ?_
 refine T_block ?_
 refine T_loop [3, 5, 11, 12, 13, 14, 15, 16, 17, 18, 19, 20, 21, 22] [11, 3] (fun us H' => ∃ (k : Nat), us = [.int .i64 (k : Int), .int .i64 ((joined ls k).length : Int)] ∧ H = H' ∧ k ≤ ls.length) (fun us => match us with | .int _ i :: _ => ls.length - i.toNat | _ => 0) ⟨0, rfl, rfl, by omega⟩ (Subs.st inferInstance) ?_
 rintro τ0 _ _  ⟨k, rfl, rfl, hk0⟩ _
 refine T_seq ?_
 refine T_region ?_
 refine TL_q (Qt_lss rfl rfl) rfl ?_
 refine TL_nil ?_
 refine X_then ?_
 refine T_seq ?_
 refine T_cond rfl (fun h12 => ?_) (fun h12 => ?_)
 ·
  have p12 := h12
  try simp only [decide_eq_true_eq, decide_eq_false_iff_not, Bool.not_eq_true', Bool.not_eq_false', Option.isNone_iff_eq_none, ne_eq, Decidable.not_not, Int.not_lt, Int.not_le] at p12
  have hk : k < ls.length := by omega
  have hj := joined_le ls (k + 1)
  rw [joined_succ ls k hk, List.length_append] at hj
  refine T_skip ?_
  refine X_then ?_
  refine T_seq ?_
  refine T_block ?_
  refine T_seq ?_
  refine T_region ?_
  refine TL_q (Qt_indexR rfl rfl (by omega) (by simp; omega)) rfl ?_
  refine TL_q (Qt_loadR (.slice _ _ _) rfl (vals_get _ _ hk)) rfl ?_
  refine TL_q (Qt_assign (.slice _ _ _) rfl) rfl ?_
  refine TL_nil ?_
  refine X_then ?_
  refine T_seq ?_
  refine T_region ?_
  refine TL_q (Qt_move (.int .i64 _) rfl) rfl ?_
  refine TL_q (Qt_move (.slice _ _ _) rfl) rfl ?_
  refine TL_q (Qt_len_slice rfl Try.underlying37) rfl ?_
  refine TL_q (Qt_val (Qt_add rfl rfl (by omega) (by omega)) (congrArg (Value.int .i64) (show ((joined ls k).length : Int) + (ls[k].l.length : Int) = ((joined ls (k + 1)).length : Int) from by rw [joined_succ ls k hk, List.length_append]; omega))) rfl ?_
  refine TL_q (Qt_assign (.int .i64 _) rfl) rfl ?_
  refine TL_nil ?_
  refine X_then ?_
  refine T_seq ?_
  refine T_region ?_
  refine TL_q (Qt_move (.int .i64 _) rfl) rfl ?_
  refine TL_q (Qt_lss rfl rfl) rfl ?_
  refine TL_nil ?_
  refine X_then ?_
  refine T_cond rfl (fun h20 => ?_) (fun h20 => ?_)
  ·
   have p20 := h20
   try simp only [decide_eq_true_eq, decide_eq_false_iff_not, Bool.not_eq_true', Bool.not_eq_false', Option.isNone_iff_eq_none, ne_eq, Decidable.not_not, Int.not_lt, Int.not_le] at p20
   exact absurd p20 (by omega)
  ·
   have p20 := h20
   try simp only [decide_eq_true_eq, decide_eq_false_iff_not, Bool.not_eq_true', Bool.not_eq_false', Option.isNone_iff_eq_none, ne_eq, Decidable.not_not, Int.not_lt, Int.not_le] at p20
   refine T_skip ?_
   refine X_block ?_
   refine X_then ?_
   refine T_region ?_
   first
    | refine TL_q (Qt_add rfl rfl (by omega) (by omega)) rfl ?_
    | refine TL_q (Qt_addw rfl rfl) rfl ?_
   refine TL_q (Qt_move (.int .i64 _) rfl) rfl ?_
   refine TL_nil ?_
   apply X_loop
   case ha => exact (by repeat (first | with_reducible exact agree_refl | refine agree_upd rfl ?_ | refine agree_mix rfl ?_ | refine agree_setAll rfl ?_))
   case hI => exact ⟨k + 1, rfl, rfl, by omega⟩
   case hm => exact by show ls.length - (k + 1 : Int).toNat < ls.length - (k : Int).toNat; omega
   case hH => exact (Subs.st inferInstance)
 ·
  have p12 := h12
  try simp only [decide_eq_true_eq, decide_eq_false_iff_not, Bool.not_eq_true', Bool.not_eq_false', Option.isNone_iff_eq_none, ne_eq, Decidable.not_not, Int.not_lt, Int.not_le] at p12
  have ej := joined_all ls (k := k) (by omega)
  rw [ej]
  refine T_exit ?_
  refine X_then_exit ?_
  refine X_loop_exit ?_
  refine X_block_exit ?_
  refine X_then ?_
  refine T_seq ?_
  refine T_region ?_
  refine TL_q (Qt_move (.int .i64 _) rfl) rfl ?_
  refine TL_e rfl (Ef_call (grow_c hs) rfl (fun x24 => ?_))
  refine TL_q (Qt_assign (.slice _ _ _) rfl) rfl ?_
  refine TL_nil ?_
  refine X_then ?_
  refine T_seq ?_
  refine T_seq ?_
  refine T_region ?_
  refine TL_q (Qt_move (.slice _ _ _) rfl) rfl ?_
  refine TL_q (Qt_len_slice rfl Try.underlying38) rfl ?_
  refine TL_q (Qt_move (.int .i64 _) rfl) rfl ?_
  refine TL_nil ?_
  refine X_then ?_
  refine T_block ?_
  refine T_loop [6, 8, 27, 28, 29, 30, 31, 32, 33, 34] [27, 6] (fun us H' => ∃ (k : Nat) (a1 : Option Addr) (c1 : Nat), us = [.int .i64 (k : Int), .slice a1 (joined ls k).length c1] ∧ row (.slice a1 (joined ls k).length c1) 5 1 (bytesV (joined ls k)) :: H = H' ∧ k ≤ ls.length) (fun us => match us with | .int _ i :: _ => ls.length - i.toNat | _ => 0) ⟨0, _, _, rfl, rfl, by omega⟩ (fun _ hw => hw) ?_
  rintro τ1 _ _  ⟨k, a1, c1, rfl, rfl, hk0⟩ _
  refine T_seq ?_
  refine T_region ?_
  refine TL_q (Qt_lss rfl rfl) rfl ?_
  refine TL_nil ?_
  refine X_then ?_
  refine T_seq ?_
  refine T_cond rfl (fun h28 => ?_) (fun h28 => ?_)
  ·
   have p28 := h28
   try simp only [decide_eq_true_eq, decide_eq_false_iff_not, Bool.not_eq_true', Bool.not_eq_false', Option.isNone_iff_eq_none, ne_eq, Decidable.not_not, Int.not_lt, Int.not_le] at p28
   have hk : k < ls.length := by omega
   have hj := joined_le ls (k + 1)
   rw [joined_succ ls k hk, List.length_append] at hj
   refine T_skip ?_
   refine X_then ?_
   refine T_seq ?_
   refine T_block ?_
   refine T_seq ?_
   refine T_region ?_
   refine TL_q (Qt_indexR rfl rfl (by omega) (by simp; omega)) rfl ?_
   refine TL_q (Qt_loadR (.slice _ _ _) rfl (vals_get _ _ hk)) rfl ?_
   refine TL_q (Qt_assign (.slice _ _ _) rfl) rfl ?_
   refine TL_nil ?_
   refine X_then ?_
   refine T_region ?_
   refine TL_q (Qt_move (.slice _ _ _) rfl) rfl ?_
   refine TL_q (Qt_move (.slice _ _ _) rfl) rfl ?_
   refine TL_e rfl (Ef_appendB (sv := .slice _ _ _) (xv := .slice _ _ _) rfl rfl (by omega) rfl (fun a33 c33 => ?_))
   rw [← joined_succ ls k hk]
   refine TL_q (Qt_assign (.slice _ _ _) rfl) rfl ?_
   refine TL_nil ?_
   refine X_block ?_
   refine X_then ?_
   refine T_region ?_
   first
    | refine TL_q (Qt_add rfl rfl (by omega) (by omega)) rfl ?_
    | refine TL_q (Qt_addw rfl rfl) rfl ?_
   refine TL_q (Qt_move (.int .i64 _) rfl) rfl ?_
   refine TL_nil ?_
   apply X_loop
   case ha => exact (by repeat (first | with_reducible exact agree_refl | refine agree_upd rfl ?_ | refine agree_mix rfl ?_ | refine agree_setAll rfl ?_))
   case hI => exact ⟨k + 1, _, _, rfl, rfl, by omega⟩
   case hm => exact by show ls.length - (k + 1 : Int).toNat < ls.length - (k : Int).toNat; omega
   case hH => exact (Subs.st inferInstance)
  ·
   have p28 := h28
   try simp only [decide_eq_true_eq, decide_eq_false_iff_not, Bool.not_eq_true', Bool.not_eq_false', Option.isNone_iff_eq_none, ne_eq, Decidable.not_not, Int.not_lt, Int.not_le] at p28
   have ej := joined_all ls (k := k) (by omega)
   rw [ej]
   refine T_exit ?_
   refine X_then_exit ?_
   refine X_loop_exit ?_
   refine X_block_exit ?_
   refine X_then ?_
   refine T_seq ?_
   refine T_region ?_
   refine TL_q (Qt_move (.slice _ _ _) rfl) rfl ?_
   refine TL_q (Qt_assign (.slice _ _ _) rfl) rfl ?_
   refine TL_nil ?_
   refine X_then ?_
   refine T_ret ?_
   exact X_ret ⟨a1, c1⟩ [_] Try.results117 ⟨rfl, trivial⟩ rfl (Subs.st inferInstance)
set_option maxHeartbeats 1000000 in
theorem rNumbers_c {w0 : World} {H : List SA} {m : MsgV} :
 CT Try.prog w0 (H) 160 [.agg m.cells] (α := Unit) (fun _ => .bool (formedM m.abs)) (fun _ => H) := by
 refine CT_intro Try.func160 rfl Try.ntmps160 rfl ?_
 refine T_seq ?_
 refine T_region ?_
 refine TL_e rfl (Ef_boxN rfl (fun b1 => ?_))
 refine TL_q (Qt_assign (.bool _) rfl) rfl ?_
 refine TL_nil ?_
 refine X_then ?_
 refine T_seq ?_
 refine T_region ?_
 refine TL_q (Qt_fieldAddr 0 rfl rfl) rfl ?_
 refine TL_q (Qt_load1 rfl) rfl ?_
 refine TL_q (Qt_geq rfl rfl) rfl ?_
 refine TL_q (Qt_move (.bool _) rfl) rfl ?_
 refine TL_split 6 rfl (fun h6 => ?_) (fun h6 => ?_)
 ·
  have p6 := h6
  try simp only [decide_eq_true_eq, decide_eq_false_iff_not, Bool.not_eq_true', Bool.not_eq_false', Option.isNone_iff_eq_none, ne_eq, Decidable.not_not, Int.not_lt, Int.not_le] at p6
  refine TL_take rfl rfl h6 ?_
  refine TL_q (Qt_fieldAddr 0 rfl rfl) rfl ?_
  refine TL_take rfl rfl h6 ?_
  refine TL_q (Qt_load1 rfl) rfl ?_
  refine TL_take rfl rfl h6 ?_
  refine TL_q (Qt_leq rfl rfl) rfl ?_
  refine TL_q (Qt_pick_t (.bool _) rfl h6 rfl) rfl ?_
  refine TL_q (Qt_move (.bool _) rfl) rfl ?_
  refine TL_split 11 rfl (fun h11 => ?_) (fun h11 => ?_)
  ·
   have p11 := h11
   try simp only [decide_eq_true_eq, decide_eq_false_iff_not, Bool.not_eq_true', Bool.not_eq_false', Option.isNone_iff_eq_none, ne_eq, Decidable.not_not, Int.not_lt, Int.not_le] at p11
   refine TL_take rfl rfl h11 ?_
   refine TL_q (Qt_fieldAddr 1 rfl rfl) rfl ?_
   refine TL_take rfl rfl h11 ?_
   refine TL_q (Qt_load1 rfl) rfl ?_
   refine TL_take rfl rfl h11 ?_
   refine TL_q (Qt_geq rfl rfl) rfl ?_
   refine TL_q (Qt_pick_t (.bool _) rfl h11 rfl) rfl ?_
   refine TL_q (Qt_move (.bool _) rfl) rfl ?_
   refine TL_split 16 rfl (fun h16 => ?_) (fun h16 => ?_)
   ·
    have p16 := h16
    try simp only [decide_eq_true_eq, decide_eq_false_iff_not, Bool.not_eq_true', Bool.not_eq_false', Option.isNone_iff_eq_none, ne_eq, Decidable.not_not, Int.not_lt, Int.not_le] at p16
    refine TL_take rfl rfl h16 ?_
    refine TL_q (Qt_fieldAddr 1 rfl rfl) rfl ?_
    refine TL_take rfl rfl h16 ?_
    refine TL_q (Qt_load1 rfl) rfl ?_
    refine TL_take rfl rfl h16 ?_
    refine TL_q (Qt_leq rfl rfl) rfl ?_
    refine TL_q (Qt_pick_t (.bool _) rfl h16 rfl) rfl ?_
    refine TL_q (Qt_move (.bool _) rfl) rfl ?_
    refine TL_split 21 rfl (fun h21 => ?_) (fun h21 => ?_)
    ·
     have p21 := h21
     try simp only [decide_eq_true_eq, decide_eq_false_iff_not, Bool.not_eq_true', Bool.not_eq_false', Option.isNone_iff_eq_none, ne_eq, Decidable.not_not, Int.not_lt, Int.not_le] at p21
     refine TL_take rfl rfl h21 ?_
     refine TL_q (Qt_fieldAddr 2 rfl rfl) rfl ?_
     refine TL_take rfl rfl h21 ?_
     refine TL_q (Qt_load1 rfl) rfl ?_
     refine TL_take rfl rfl h21 ?_
     refine TL_q (Qt_geq rfl rfl) rfl ?_
     refine TL_q (Qt_pick_t (.bool _) rfl h21 rfl) rfl ?_
     refine TL_q (Qt_move (.bool _) rfl) rfl ?_
     refine TL_split 26 rfl (fun h26 => ?_) (fun h26 => ?_)
     ·
      have p26 := h26
      try simp only [decide_eq_true_eq, decide_eq_false_iff_not, Bool.not_eq_true', Bool.not_eq_false', Option.isNone_iff_eq_none, ne_eq, Decidable.not_not, Int.not_lt, Int.not_le] at p26
      refine TL_take rfl rfl h26 ?_
      refine TL_q (Qt_fieldAddr 2 rfl rfl) rfl ?_
      refine TL_take rfl rfl h26 ?_
      refine TL_q (Qt_load1 rfl) rfl ?_
      refine TL_take rfl rfl h26 ?_
      refine TL_q (Qt_leq rfl rfl) rfl ?_
      refine TL_q (Qt_pick_t (.bool _) rfl h26 rfl) rfl ?_
      refine TL_q (Qt_move (.bool _) rfl) rfl ?_
      refine TL_split 31 rfl (fun h31 => ?_) (fun h31 => ?_)
      ·
       have p31 := h31
       try simp only [decide_eq_true_eq, decide_eq_false_iff_not, Bool.not_eq_true', Bool.not_eq_false', Option.isNone_iff_eq_none, ne_eq, Decidable.not_not, Int.not_lt, Int.not_le] at p31
       refine TL_take rfl rfl h31 ?_
       refine TL_q (Qt_fieldAddr 3 rfl rfl) rfl ?_
       refine TL_take rfl rfl h31 ?_
       refine TL_q (Qt_load1 rfl) rfl ?_
       refine TL_take rfl rfl h31 ?_
       refine TL_q (Qt_geq rfl rfl) rfl ?_
       refine TL_q (Qt_pick_t (.bool _) rfl h31 rfl) rfl ?_
       refine TL_q (Qt_move (.bool _) rfl) rfl ?_
       refine TL_split 36 rfl (fun h36 => ?_) (fun h36 => ?_)
       ·
        have p36 := h36
        try simp only [decide_eq_true_eq, decide_eq_false_iff_not, Bool.not_eq_true', Bool.not_eq_false', Option.isNone_iff_eq_none, ne_eq, Decidable.not_not, Int.not_lt, Int.not_le] at p36
        refine TL_take rfl rfl h36 ?_
        refine TL_q (Qt_fieldAddr 3 rfl rfl) rfl ?_
        refine TL_take rfl rfl h36 ?_
        refine TL_q (Qt_load1 rfl) rfl ?_
        refine TL_take rfl rfl h36 ?_
        refine TL_q (Qt_leq rfl rfl) rfl ?_
        refine TL_q (Qt_pick_t (.bool _) rfl h36 rfl) rfl ?_
        refine TL_q (Qt_move (.bool _) rfl) rfl ?_
        refine TL_split 41 rfl (fun h41 => ?_) (fun h41 => ?_)
        ·
         have p41 := h41
         try simp only [decide_eq_true_eq, decide_eq_false_iff_not, Bool.not_eq_true', Bool.not_eq_false', Option.isNone_iff_eq_none, ne_eq, Decidable.not_not, Int.not_lt, Int.not_le] at p41
         refine TL_take rfl rfl h41 ?_
         refine TL_q (Qt_fieldAddr 4 rfl rfl) rfl ?_
         refine TL_take rfl rfl h41 ?_
         refine TL_q (Qt_load1 rfl) rfl ?_
         refine TL_take rfl rfl h41 ?_
         refine TL_q (Qt_geq rfl rfl) rfl ?_
         refine TL_q (Qt_pick_t (.bool _) rfl h41 rfl) rfl ?_
         refine TL_q (Qt_move (.bool _) rfl) rfl ?_
         refine TL_split 46 rfl (fun h46 => ?_) (fun h46 => ?_)
         ·
          have p46 := h46
          try simp only [decide_eq_true_eq, decide_eq_false_iff_not, Bool.not_eq_true', Bool.not_eq_false', Option.isNone_iff_eq_none, ne_eq, Decidable.not_not, Int.not_lt, Int.not_le] at p46
          refine TL_take rfl rfl h46 ?_
          refine TL_q (Qt_fieldAddr 4 rfl rfl) rfl ?_
          refine TL_take rfl rfl h46 ?_
          refine TL_q (Qt_load1 rfl) rfl ?_
          refine TL_take rfl rfl h46 ?_
          refine TL_q (Qt_leq rfl rfl) rfl ?_
          refine TL_q (Qt_pick_t (.bool _) rfl h46 rfl) rfl ?_
          refine TL_q (Qt_assign (.bool _) rfl) rfl ?_
          refine TL_nil ?_
          refine X_then ?_
          refine T_ret ?_
          refine X_ret () [.bool (formedM m.abs)] Try.results160 ⟨?_, trivial⟩ rfl (Subs.st inferInstance)
          refine congrArg Value.bool ?_
          rw [Bool.eq_iff_iff, formedM_iff]
          simp only [within_iff, within_not, MsgV.abs, decide_eq_true_eq, decide_eq_false_iff_not, Bool.not_eq_false, Bool.not_eq_true, Bool.false_eq_true, false_iff, not_and] at *
          first | omega | (constructor <;> (intros; omega))
         ·
          have p46 := h46
          try simp only [decide_eq_true_eq, decide_eq_false_iff_not, Bool.not_eq_true', Bool.not_eq_false', Option.isNone_iff_eq_none, ne_eq, Decidable.not_not, Int.not_lt, Int.not_le] at p46
          refine TL_pass rfl rfl h46 rfl ?_
          refine TL_pass rfl rfl h46 rfl ?_
          refine TL_pass rfl rfl h46 rfl ?_
          refine TL_q (Qt_pick_f (.bool _) rfl h46 rfl) rfl ?_
          refine TL_q (Qt_assign (.bool _) rfl) rfl ?_
          refine TL_nil ?_
          refine X_then ?_
          refine T_ret ?_
          refine X_ret () [.bool (formedM m.abs)] Try.results160 ⟨?_, trivial⟩ rfl (Subs.st inferInstance)
          refine congrArg Value.bool ?_
          rw [Bool.eq_iff_iff, formedM_iff]
          simp only [within_iff, within_not, MsgV.abs, decide_eq_true_eq, decide_eq_false_iff_not, Bool.not_eq_false, Bool.not_eq_true, Bool.false_eq_true, false_iff, not_and] at *
          first | omega | (constructor <;> (intros; omega))
        ·
         have p41 := h41
         try simp only [decide_eq_true_eq, decide_eq_false_iff_not, Bool.not_eq_true', Bool.not_eq_false', Option.isNone_iff_eq_none, ne_eq, Decidable.not_not, Int.not_lt, Int.not_le] at p41
         refine TL_pass rfl rfl h41 rfl ?_
         refine TL_pass rfl rfl h41 rfl ?_
         refine TL_pass rfl rfl h41 rfl ?_
         refine TL_q (Qt_pick_f (.bool _) rfl h41 rfl) rfl ?_
         refine TL_q (Qt_move (.bool _) rfl) rfl ?_
         refine TL_pass rfl rfl rfl rfl ?_
         refine TL_pass rfl rfl rfl rfl ?_
         refine TL_pass rfl rfl rfl rfl ?_
         refine TL_q (Qt_pick_f (.bool _) rfl rfl rfl) rfl ?_
         refine TL_q (Qt_assign (.bool _) rfl) rfl ?_
         refine TL_nil ?_
         refine X_then ?_
         refine T_ret ?_
         refine X_ret () [.bool (formedM m.abs)] Try.results160 ⟨?_, trivial⟩ rfl (Subs.st inferInstance)
         refine congrArg Value.bool ?_
         rw [Bool.eq_iff_iff, formedM_iff]
         simp only [within_iff, within_not, MsgV.abs, decide_eq_true_eq, decide_eq_false_iff_not, Bool.not_eq_false, Bool.not_eq_true, Bool.false_eq_true, false_iff, not_and] at *
         first | omega | (constructor <;> (intros; omega))
       ·
        have p36 := h36
        try simp only [decide_eq_true_eq, decide_eq_false_iff_not, Bool.not_eq_true', Bool.not_eq_false', Option.isNone_iff_eq_none, ne_eq, Decidable.not_not, Int.not_lt, Int.not_le] at p36
        refine TL_pass rfl rfl h36 rfl ?_
        refine TL_pass rfl rfl h36 rfl ?_
        refine TL_pass rfl rfl h36 rfl ?_
        refine TL_q (Qt_pick_f (.bool _) rfl h36 rfl) rfl ?_
        refine TL_q (Qt_move (.bool _) rfl) rfl ?_
        refine TL_pass rfl rfl rfl rfl ?_
        refine TL_pass rfl rfl rfl rfl ?_
        refine TL_pass rfl rfl rfl rfl ?_
        refine TL_q (Qt_pick_f (.bool _) rfl rfl rfl) rfl ?_
        refine TL_q (Qt_move (.bool _) rfl) rfl ?_
        refine TL_pass rfl rfl rfl rfl ?_
        refine TL_pass rfl rfl rfl rfl ?_
        refine TL_pass rfl rfl rfl rfl ?_
        refine TL_q (Qt_pick_f (.bool _) rfl rfl rfl) rfl ?_
        refine TL_q (Qt_assign (.bool _) rfl) rfl ?_
        refine TL_nil ?_
        refine X_then ?_
        refine T_ret ?_
        refine X_ret () [.bool (formedM m.abs)] Try.results160 ⟨?_, trivial⟩ rfl (Subs.st inferInstance)
        refine congrArg Value.bool ?_
        rw [Bool.eq_iff_iff, formedM_iff]
        simp only [within_iff, within_not, MsgV.abs, decide_eq_true_eq, decide_eq_false_iff_not, Bool.not_eq_false, Bool.not_eq_true, Bool.false_eq_true, false_iff, not_and] at *
        first | omega | (constructor <;> (intros; omega))
      ·
       have p31 := h31
       try simp only [decide_eq_true_eq, decide_eq_false_iff_not, Bool.not_eq_true', Bool.not_eq_false', Option.isNone_iff_eq_none, ne_eq, Decidable.not_not, Int.not_lt, Int.not_le] at p31
       refine TL_pass rfl rfl h31 rfl ?_
       refine TL_pass rfl rfl h31 rfl ?_
       refine TL_pass rfl rfl h31 rfl ?_
       refine TL_q (Qt_pick_f (.bool _) rfl h31 rfl) rfl ?_
       refine TL_q (Qt_move (.bool _) rfl) rfl ?_
       refine TL_pass rfl rfl rfl rfl ?_
       refine TL_pass rfl rfl rfl rfl ?_
       refine TL_pass rfl rfl rfl rfl ?_
       refine TL_q (Qt_pick_f (.bool _) rfl rfl rfl) rfl ?_
       refine TL_q (Qt_move (.bool _) rfl) rfl ?_
       refine TL_pass rfl rfl rfl rfl ?_
       refine TL_pass rfl rfl rfl rfl ?_
       refine TL_pass rfl rfl rfl rfl ?_
       refine TL_q (Qt_pick_f (.bool _) rfl rfl rfl) rfl ?_
       refine TL_q (Qt_move (.bool _) rfl) rfl ?_
       refine TL_pass rfl rfl rfl rfl ?_
       refine TL_pass rfl rfl rfl rfl ?_
       refine TL_pass rfl rfl rfl rfl ?_
       refine TL_q (Qt_pick_f (.bool _) rfl rfl rfl) rfl ?_
       refine TL_q (Qt_assign (.bool _) rfl) rfl ?_
       refine TL_nil ?_
       refine X_then ?_
       refine T_ret ?_
       refine X_ret () [.bool (formedM m.abs)] Try.results160 ⟨?_, trivial⟩ rfl (Subs.st inferInstance)
       refine congrArg Value.bool ?_
       rw [Bool.eq_iff_iff, formedM_iff]
       simp only [within_iff, within_not, MsgV.abs, decide_eq_true_eq, decide_eq_false_iff_not, Bool.not_eq_false, Bool.not_eq_true, Bool.false_eq_true, false_iff, not_and] at *
       first | omega | (constructor <;> (intros; omega))
     ·
      have p26 := h26
      try simp only [decide_eq_true_eq, decide_eq_false_iff_not, Bool.not_eq_true', Bool.not_eq_false', Option.isNone_iff_eq_none, ne_eq, Decidable.not_not, Int.not_lt, Int.not_le] at p26
      refine TL_pass rfl rfl h26 rfl ?_
      refine TL_pass rfl rfl h26 rfl ?_
      refine TL_pass rfl rfl h26 rfl ?_
      refine TL_q (Qt_pick_f (.bool _) rfl h26 rfl) rfl ?_
      refine TL_q (Qt_move (.bool _) rfl) rfl ?_
      refine TL_pass rfl rfl rfl rfl ?_
      refine TL_pass rfl rfl rfl rfl ?_
      refine TL_pass rfl rfl rfl rfl ?_
      refine TL_q (Qt_pick_f (.bool _) rfl rfl rfl) rfl ?_
      refine TL_q (Qt_move (.bool _) rfl) rfl ?_
      refine TL_pass rfl rfl rfl rfl ?_
      refine TL_pass rfl rfl rfl rfl ?_
      refine TL_pass rfl rfl rfl rfl ?_
      refine TL_q (Qt_pick_f (.bool _) rfl rfl rfl) rfl ?_
      refine TL_q (Qt_move (.bool _) rfl) rfl ?_
      refine TL_pass rfl rfl rfl rfl ?_
      refine TL_pass rfl rfl rfl rfl ?_
      refine TL_pass rfl rfl rfl rfl ?_
      refine TL_q (Qt_pick_f (.bool _) rfl rfl rfl) rfl ?_
      refine TL_q (Qt_move (.bool _) rfl) rfl ?_
      refine TL_pass rfl rfl rfl rfl ?_
      refine TL_pass rfl rfl rfl rfl ?_
      refine TL_pass rfl rfl rfl rfl ?_
      refine TL_q (Qt_pick_f (.bool _) rfl rfl rfl) rfl ?_
      refine TL_q (Qt_assign (.bool _) rfl) rfl ?_
      refine TL_nil ?_
      refine X_then ?_
      refine T_ret ?_
      refine X_ret () [.bool (formedM m.abs)] Try.results160 ⟨?_, trivial⟩ rfl (Subs.st inferInstance)
      refine congrArg Value.bool ?_
      rw [Bool.eq_iff_iff, formedM_iff]
      simp only [within_iff, within_not, MsgV.abs, decide_eq_true_eq, decide_eq_false_iff_not, Bool.not_eq_false, Bool.not_eq_true, Bool.false_eq_true, false_iff, not_and] at *
      first | omega | (constructor <;> (intros; omega))
    ·
     have p21 := h21
     try simp only [decide_eq_true_eq, decide_eq_false_iff_not, Bool.not_eq_true', Bool.not_eq_false', Option.isNone_iff_eq_none, ne_eq, Decidable.not_not, Int.not_lt, Int.not_le] at p21
     refine TL_pass rfl rfl h21 rfl ?_
     refine TL_pass rfl rfl h21 rfl ?_
     refine TL_pass rfl rfl h21 rfl ?_
     refine TL_q (Qt_pick_f (.bool _) rfl h21 rfl) rfl ?_
     refine TL_q (Qt_move (.bool _) rfl) rfl ?_
     refine TL_pass rfl rfl rfl rfl ?_
     refine TL_pass rfl rfl rfl rfl ?_
     refine TL_pass rfl rfl rfl rfl ?_
     refine TL_q (Qt_pick_f (.bool _) rfl rfl rfl) rfl ?_
     refine TL_q (Qt_move (.bool _) rfl) rfl ?_
     refine TL_pass rfl rfl rfl rfl ?_
     refine TL_pass rfl rfl rfl rfl ?_
     refine TL_pass rfl rfl rfl rfl ?_
     refine TL_q (Qt_pick_f (.bool _) rfl rfl rfl) rfl ?_
     refine TL_q (Qt_move (.bool _) rfl) rfl ?_
     refine TL_pass rfl rfl rfl rfl ?_
     refine TL_pass rfl rfl rfl rfl ?_
     refine TL_pass rfl rfl rfl rfl ?_
     refine TL_q (Qt_pick_f (.bool _) rfl rfl rfl) rfl ?_
     refine TL_q (Qt_move (.bool _) rfl) rfl ?_
     refine TL_pass rfl rfl rfl rfl ?_
     refine TL_pass rfl rfl rfl rfl ?_
     refine TL_pass rfl rfl rfl rfl ?_
     refine TL_q (Qt_pick_f (.bool _) rfl rfl rfl) rfl ?_
     refine TL_q (Qt_move (.bool _) rfl) rfl ?_
     refine TL_pass rfl rfl rfl rfl ?_
     refine TL_pass rfl rfl rfl rfl ?_
     refine TL_pass rfl rfl rfl rfl ?_
     refine TL_q (Qt_pick_f (.bool _) rfl rfl rfl) rfl ?_
     refine TL_q (Qt_assign (.bool _) rfl) rfl ?_
     refine TL_nil ?_
     refine X_then ?_
     refine T_ret ?_
     refine X_ret () [.bool (formedM m.abs)] Try.results160 ⟨?_, trivial⟩ rfl (Subs.st inferInstance)
     refine congrArg Value.bool ?_
     rw [Bool.eq_iff_iff, formedM_iff]
     simp only [within_iff, within_not, MsgV.abs, decide_eq_true_eq, decide_eq_false_iff_not, Bool.not_eq_false, Bool.not_eq_true, Bool.false_eq_true, false_iff, not_and] at *
     first | omega | (constructor <;> (intros; omega))
   ·
    have p16 := h16
    try simp only [decide_eq_true_eq, decide_eq_false_iff_not, Bool.not_eq_true', Bool.not_eq_false', Option.isNone_iff_eq_none, ne_eq, Decidable.not_not, Int.not_lt, Int.not_le] at p16
    refine TL_pass rfl rfl h16 rfl ?_
    refine TL_pass rfl rfl h16 rfl ?_
    refine TL_pass rfl rfl h16 rfl ?_
    refine TL_q (Qt_pick_f (.bool _) rfl h16 rfl) rfl ?_
    refine TL_q (Qt_move (.bool _) rfl) rfl ?_
    refine TL_pass rfl rfl rfl rfl ?_
    refine TL_pass rfl rfl rfl rfl ?_
    refine TL_pass rfl rfl rfl rfl ?_
    refine TL_q (Qt_pick_f (.bool _) rfl rfl rfl) rfl ?_
    refine TL_q (Qt_move (.bool _) rfl) rfl ?_
    refine TL_pass rfl rfl rfl rfl ?_
    refine TL_pass rfl rfl rfl rfl ?_
    refine TL_pass rfl rfl rfl rfl ?_
    refine TL_q (Qt_pick_f (.bool _) rfl rfl rfl) rfl ?_
    refine TL_q (Qt_move (.bool _) rfl) rfl ?_
    refine TL_pass rfl rfl rfl rfl ?_
    refine TL_pass rfl rfl rfl rfl ?_
    refine TL_pass rfl rfl rfl rfl ?_
    refine TL_q (Qt_pick_f (.bool _) rfl rfl rfl) rfl ?_
    refine TL_q (Qt_move (.bool _) rfl) rfl ?_
    refine TL_pass rfl rfl rfl rfl ?_
    refine TL_pass rfl rfl rfl rfl ?_
    refine TL_pass rfl rfl rfl rfl ?_
    refine TL_q (Qt_pick_f (.bool _) rfl rfl rfl) rfl ?_
    refine TL_q (Qt_move (.bool _) rfl) rfl ?_
    refine TL_pass rfl rfl rfl rfl ?_
    refine TL_pass rfl rfl rfl rfl ?_
    refine TL_pass rfl rfl rfl rfl ?_
    refine TL_q (Qt_pick_f (.bool _) rfl rfl rfl) rfl ?_
    refine TL_q (Qt_move (.bool _) rfl) rfl ?_
    refine TL_pass rfl rfl rfl rfl ?_
    refine TL_pass rfl rfl rfl rfl ?_
    refine TL_pass rfl rfl rfl rfl ?_
    refine TL_q (Qt_pick_f (.bool _) rfl rfl rfl) rfl ?_
    refine TL_q (Qt_assign (.bool _) rfl) rfl ?_
    refine TL_nil ?_
    refine X_then ?_
    refine T_ret ?_
    refine X_ret () [.bool (formedM m.abs)] Try.results160 ⟨?_, trivial⟩ rfl (Subs.st inferInstance)
    refine congrArg Value.bool ?_
    rw [Bool.eq_iff_iff, formedM_iff]
    simp only [within_iff, within_not, MsgV.abs, decide_eq_true_eq, decide_eq_false_iff_not, Bool.not_eq_false, Bool.not_eq_true, Bool.false_eq_true, false_iff, not_and] at *
    first | omega | (constructor <;> (intros; omega))
  ·
   have p11 := h11
   try simp only [decide_eq_true_eq, decide_eq_false_iff_not, Bool.not_eq_true', Bool.not_eq_false', Option.isNone_iff_eq_none, ne_eq, Decidable.not_not, Int.not_lt, Int.not_le] at p11
   refine TL_pass rfl rfl h11 rfl ?_
   refine TL_pass rfl rfl h11 rfl ?_
   refine TL_pass rfl rfl h11 rfl ?_
   refine TL_q (Qt_pick_f (.bool _) rfl h11 rfl) rfl ?_
   refine TL_q (Qt_move (.bool _) rfl) rfl ?_
   refine TL_pass rfl rfl rfl rfl ?_
   refine TL_pass rfl rfl rfl rfl ?_
   refine TL_pass rfl rfl rfl rfl ?_
   refine TL_q (Qt_pick_f (.bool _) rfl rfl rfl) rfl ?_
   refine TL_q (Qt_move (.bool _) rfl) rfl ?_
   refine TL_pass rfl rfl rfl rfl ?_
   refine TL_pass rfl rfl rfl rfl ?_
   refine TL_pass rfl rfl rfl rfl ?_
   refine TL_q (Qt_pick_f (.bool _) rfl rfl rfl) rfl ?_
   refine TL_q (Qt_move (.bool _) rfl) rfl ?_
   refine TL_pass rfl rfl rfl rfl ?_
   refine TL_pass rfl rfl rfl rfl ?_
   refine TL_pass rfl rfl rfl rfl ?_
   refine TL_q (Qt_pick_f (.bool _) rfl rfl rfl) rfl ?_
   refine TL_q (Qt_move (.bool _) rfl) rfl ?_
   refine TL_pass rfl rfl rfl rfl ?_
   refine TL_pass rfl rfl rfl rfl ?_
   refine TL_pass rfl rfl rfl rfl ?_
   refine TL_q (Qt_pick_f (.bool _) rfl rfl rfl) rfl ?_
   refine TL_q (Qt_move (.bool _) rfl) rfl ?_
   refine TL_pass rfl rfl rfl rfl ?_
   refine TL_pass rfl rfl rfl rfl ?_
   refine TL_pass rfl rfl rfl rfl ?_
   refine TL_q (Qt_pick_f (.bool _) rfl rfl rfl) rfl ?_
   refine TL_q (Qt_move (.bool _) rfl) rfl ?_
   refine TL_pass rfl rfl rfl rfl ?_
   refine TL_pass rfl rfl rfl rfl ?_
   refine TL_pass rfl rfl rfl rfl ?_
   refine TL_q (Qt_pick_f (.bool _) rfl rfl rfl) rfl ?_
   refine TL_q (Qt_move (.bool _) rfl) rfl ?_
   refine TL_pass rfl rfl rfl rfl ?_
   refine TL_pass rfl rfl rfl rfl ?_
   refine TL_pass rfl rfl rfl rfl ?_
   refine TL_q (Qt_pick_f (.bool _) rfl rfl rfl) rfl ?_
   refine TL_q (Qt_assign (.bool _) rfl) rfl ?_
   refine TL_nil ?_
   refine X_then ?_
   refine T_ret ?_
   refine X_ret () [.bool (formedM m.abs)] Try.results160 ⟨?_, trivial⟩ rfl (Subs.st inferInstance)
   refine congrArg Value.bool ?_
   rw [Bool.eq_iff_iff, formedM_iff]
   simp only [within_iff, within_not, MsgV.abs, decide_eq_true_eq, decide_eq_false_iff_not, Bool.not_eq_false, Bool.not_eq_true, Bool.false_eq_true, false_iff, not_and] at *
   first | omega | (constructor <;> (intros; omega))
 ·
  have p6 := h6
  try simp only [decide_eq_true_eq, decide_eq_false_iff_not, Bool.not_eq_true', Bool.not_eq_false', Option.isNone_iff_eq_none, ne_eq, Decidable.not_not, Int.not_lt, Int.not_le] at p6
  refine TL_pass rfl rfl h6 rfl ?_
  refine TL_pass rfl rfl h6 rfl ?_
  refine TL_pass rfl rfl h6 rfl ?_
  refine TL_q (Qt_pick_f (.bool _) rfl h6 rfl) rfl ?_
  refine TL_q (Qt_move (.bool _) rfl) rfl ?_
  refine TL_pass rfl rfl rfl rfl ?_
  refine TL_pass rfl rfl rfl rfl ?_
  refine TL_pass rfl rfl rfl rfl ?_
  refine TL_q (Qt_pick_f (.bool _) rfl rfl rfl) rfl ?_
  refine TL_q (Qt_move (.bool _) rfl) rfl ?_
  refine TL_pass rfl rfl rfl rfl ?_
  refine TL_pass rfl rfl rfl rfl ?_
  refine TL_pass rfl rfl rfl rfl ?_
  refine TL_q (Qt_pick_f (.bool _) rfl rfl rfl) rfl ?_
  refine TL_q (Qt_move (.bool _) rfl) rfl ?_
  refine TL_pass rfl rfl rfl rfl ?_
  refine TL_pass rfl rfl rfl rfl ?_
  refine TL_pass rfl rfl rfl rfl ?_
  refine TL_q (Qt_pick_f (.bool _) rfl rfl rfl) rfl ?_
  refine TL_q (Qt_move (.bool _) rfl) rfl ?_
  refine TL_pass rfl rfl rfl rfl ?_
  refine TL_pass rfl rfl rfl rfl ?_
  refine TL_pass rfl rfl rfl rfl ?_
  refine TL_q (Qt_pick_f (.bool _) rfl rfl rfl) rfl ?_
  refine TL_q (Qt_move (.bool _) rfl) rfl ?_
  refine TL_pass rfl rfl rfl rfl ?_
  refine TL_pass rfl rfl rfl rfl ?_
  refine TL_pass rfl rfl rfl rfl ?_
  refine TL_q (Qt_pick_f (.bool _) rfl rfl rfl) rfl ?_
  refine TL_q (Qt_move (.bool _) rfl) rfl ?_
  refine TL_pass rfl rfl rfl rfl ?_
  refine TL_pass rfl rfl rfl rfl ?_
  refine TL_pass rfl rfl rfl rfl ?_
  refine TL_q (Qt_pick_f (.bool _) rfl rfl rfl) rfl ?_
  refine TL_q (Qt_move (.bool _) rfl) rfl ?_
  refine TL_pass rfl rfl rfl rfl ?_
  refine TL_pass rfl rfl rfl rfl ?_
  refine TL_pass rfl rfl rfl rfl ?_
  refine TL_q (Qt_pick_f (.bool _) rfl rfl rfl) rfl ?_
  refine TL_q (Qt_move (.bool _) rfl) rfl ?_
  refine TL_pass rfl rfl rfl rfl ?_
  refine TL_pass rfl rfl rfl rfl ?_
  refine TL_pass rfl rfl rfl rfl ?_
  refine TL_q (Qt_pick_f (.bool _) rfl rfl rfl) rfl ?_
  refine TL_q (Qt_assign (.bool _) rfl) rfl ?_
  refine TL_nil ?_
  refine X_then ?_
  refine T_ret ?_
  refine X_ret () [.bool (formedM m.abs)] Try.results160 ⟨?_, trivial⟩ rfl (Subs.st inferInstance)
  refine congrArg Value.bool ?_
  rw [Bool.eq_iff_iff, formedM_iff]
  simp only [within_iff, within_not, MsgV.abs, decide_eq_true_eq, decide_eq_false_iff_not, Bool.not_eq_false, Bool.not_eq_true, Bool.false_eq_true, false_iff, not_and] at *
  first | omega | (constructor <;> (intros; omega))
end Go.Proofs.Ytpdpapcmfnhgpaa
