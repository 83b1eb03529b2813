/- Walks: Concat of byte slices; the reference on messages: bytes, numbers, Put, Long, Copied, Same. -/
import Derived.Test.YtnijomppbgdmnaaWg
namespace Go.Proofs.Ytnijomppbgdmnaa
section
open Go.RowKit Go.Sx
set_option maxRecDepth 100000
set_option linter.unusedSimpArgs false
set_option linter.unusedVariables false
set_option maxHeartbeats 1000000 in
theorem grow_c {w0 : World} {H : List SA} {n : Nat} (hn : n ≤ 4294967296) :
    CT Try.prog w0 (H) 60 [.slice none 0 0, .int .i64 (n : Int)] (α := AC) (fun y => .slice y.a ([] : List UInt8).length y.c) (fun y => row (.slice y.a ([] : List UInt8).length y.c) 5 1 (bytesV []) :: H) := by
  refine CT_intro Try.func60 rfl Try.ntmps60 rfl ?_
  refine T_seq ?_
  refine T_region ?_
  refine TL_q (Qt_assign (.slice _ _ _) rfl) rfl ?_
  refine TL_nil ?_
  refine X_then ?_
  refine T_seq ?_
  refine T_seq ?_
  refine T_region ?_
  refine TL_q (Qt_move (.int .i64 _) rfl) rfl ?_
  refine TL_q (Qt_lss rfl rfl) rfl ?_
  refine TL_nil ?_
  refine X_then ?_
  refine T_cond rfl (fun h6 => ?_) (fun h6 => ?_)
  ·
    have p6 := h6
    try simp only [decide_eq_true_eq, decide_eq_false_iff_not, Bool.not_eq_true', Bool.not_eq_false', Option.isNone_iff_eq_none, ne_eq, Decidable.not_not, Int.not_lt, Int.not_le] at p6
    exact absurd p6 (by omega)
  ·
    have p6 := h6
    try simp only [decide_eq_true_eq, decide_eq_false_iff_not, Bool.not_eq_true', Bool.not_eq_false', Option.isNone_iff_eq_none, ne_eq, Decidable.not_not, Int.not_lt, Int.not_le] at p6
    refine T_skip ?_
    refine X_then ?_
    refine T_seq ?_
    refine T_seq ?_
    refine T_region ?_
    refine TL_q (Qt_move (.int .i64 _) rfl) rfl ?_
    refine TL_q (Qt_move (.slice _ _ _) rfl) rfl ?_
    refine TL_q (Qt_cap_slice rfl Try.underlying36) rfl ?_
    refine TL_q (Qt_move (.slice _ _ _) rfl) rfl ?_
    refine TL_q (Qt_len_slice rfl Try.underlying36) rfl ?_
    first
      | refine TL_q (Qt_sub rfl rfl (by omega) (by omega)) rfl ?_
      | refine TL_q (Qt_subw rfl rfl) rfl ?_
    refine TL_q (Qt_val (Qt_sub rfl rfl (by omega) (by omega)) (congrArg (Value.int .i64) (show _ = (n : Int) from by omega))) rfl ?_
    refine TL_q (Qt_assign (.int .i64 _) rfl) rfl ?_
    refine TL_nil ?_
    refine X_then ?_
    refine T_seq ?_
    refine T_region ?_
    refine TL_q (Qt_move (.int .i64 _) rfl) rfl ?_
    refine TL_q (Qt_gtr rfl rfl) rfl ?_
    refine TL_nil ?_
    refine X_then ?_
    refine T_cond rfl (fun h16 => ?_) (fun h16 => ?_)
    ·
      have p16 := h16
      try simp only [decide_eq_true_eq, decide_eq_false_iff_not, Bool.not_eq_true', Bool.not_eq_false', Option.isNone_iff_eq_none, ne_eq, Decidable.not_not, Int.not_lt, Int.not_le] at p16
      refine T_region ?_
      refine TL_q (Qt_move (.slice _ _ _) rfl) rfl ?_
      refine TL_q (Qt_move (.slice _ _ _) rfl) rfl ?_
      refine TL_q (Qt_cap_slice rfl Try.underlying36) rfl ?_
      refine TL_q (Qt_slice_h 0 rfl rfl (fun _ _ => Nat.le_refl _)) rfl ?_
      refine TL_q (Qt_move (.int .i64 _) rfl) rfl ?_
      refine TL_e rfl (Ef_appendMake rfl rfl Try.underlying3 (by omega) hn rfl (fun a22 c22 => ?_))
      refine TL_q (Qt_move (.slice _ _ _) rfl) rfl ?_
      refine TL_q (Qt_len_slice rfl Try.underlying36) rfl ?_
      refine TL_q (Qt_slice_h 0 rfl rfl (fun _ _ => Nat.zero_le _)) rfl ?_
      refine TL_q (Qt_assign (.slice _ _ _) rfl) rfl ?_
      refine TL_nil ?_
      refine X_then ?_
      refine T_seq ?_
      refine T_region ?_
      refine TL_q (Qt_move (.slice _ _ _) rfl) rfl ?_
      refine TL_q (Qt_assign (.slice _ _ _) rfl) rfl ?_
      refine TL_nil ?_
      refine X_then ?_
      refine T_ret ?_
      exact X_ret ⟨a22, c22⟩ [_] Try.results60 ⟨rfl, trivial⟩ rfl (fun _ hw => hw)
    ·
      have p16 := h16
      try simp only [decide_eq_true_eq, decide_eq_false_iff_not, Bool.not_eq_true', Bool.not_eq_false', Option.isNone_iff_eq_none, ne_eq, Decidable.not_not, Int.not_lt, Int.not_le] at p16
      obtain rfl : n = 0 := by omega
      refine T_skip ?_
      refine X_then ?_
      refine T_seq ?_
      refine T_region ?_
      refine TL_q (Qt_move (.slice _ _ _) rfl) rfl ?_
      refine TL_q (Qt_assign (.slice _ _ _) rfl) rfl ?_
      refine TL_nil ?_
      refine X_then ?_
      refine T_ret ?_
      exact X_ret ⟨none, 0⟩ [_] Try.results60 ⟨rfl, trivial⟩ rfl (fun w hw => (Subs.st inferInstance w hw : St w0 H w).addNilB 5)
def joined (ls : List BS) (k : Nat) : List UInt8 := ((ls.map BS.l).take k).flatten
theorem joined_zero (ls : List BS) : joined ls 0 = [] := rfl
theorem joined_succ (ls : List BS) (k : Nat) (hk : k < ls.length) : joined ls (k + 1) = joined ls k ++ ls[k].l := by
  unfold joined; rw [take_get _ _ (by simpa using hk)]; simp
theorem joined_all (ls : List BS) {k : Nat} (hk : ls.length ≤ k) : joined ls k = (ls.map BS.l).flatten := by
  unfold joined; rw [List.take_of_length_le (by simpa using hk)]
theorem joined_le (ls : List BS) (k : Nat) : (joined ls k).length ≤ ((ls.map BS.l).flatten).length := by
  have h : (ls.map BS.l).flatten = joined ls k ++ ((ls.map BS.l).drop k).flatten := by unfold joined; rw [← List.flatten_append, List.take_append_drop]
  rw [h]; simp

set_option maxHeartbeats 1000000 in
theorem concat_c {w0 : World} {H : List SA} {a : Option Addr} {ls : List BS} {c : Nat} [hr : RdC w0 H (.slice a ls.length c) 1 (ls.map BS.val)] [re : RdE w0 H ls] (hs : (ls.map BS.l).flatten.length ≤ 4294967296) (hn : ls.length ≤ 4294967296) :
    CT Try.prog w0 (H) 27 [.slice a ls.length c] (α := AC) (fun y => .slice y.a (ls.map BS.l).flatten.length y.c) (fun y => row (.slice y.a (ls.map BS.l).flatten.length y.c) 5 1 (bytesV (ls.map BS.l).flatten) :: H) := by
  refine CT_intro Try.func27 rfl Try.ntmps27 rfl ?_
  refine T_seq ?_
  refine T_region ?_
  refine TL_q (Qt_assign (.slice _ _ _) rfl) rfl ?_
  refine TL_nil ?_
  refine X_then ?_
  refine T_seq ?_
  refine T_region ?_
  refine TL_q (Qt_assign (.int .i64 _) rfl) rfl ?_
  refine TL_nil ?_
  refine X_then ?_
  refine T_seq ?_
  refine T_seq ?_
  refine T_region ?_
  refine TL_q (Qt_move (.slice _ _ _) rfl) rfl ?_
  refine TL_q (Qt_len_slice rfl Try.underlying28) rfl ?_
  refine TL_q (Qt_move (.int .i64 _) rfl) rfl ?_
  refine TL_nil ?_
  refine X_then ?_
  refine T_block ?_
  refine T_loop [3, 5, 11, 12, 13, 14, 15, 16, 17, 18, 19, 20, 21, 22] [11, 3] (fun us H' => ∃ (k : Nat), us = [.int .i64 (k : Int), .int .i64 ((joined ls k).length : Int)] ∧ H = H' ∧ k ≤ ls.length) (fun us => match us with | .int _ i :: _ => ls.length - i.toNat | _ => 0) ⟨0, rfl, rfl, by omega⟩ (Subs.st inferInstance) ?_
  rintro τ0 _ _  ⟨k, rfl, rfl, hk0⟩ _
  refine T_seq ?_
  refine T_region ?_
  refine TL_q (Qt_lss rfl rfl) rfl ?_
  refine TL_nil ?_
  refine X_then ?_
  refine T_seq ?_
  refine T_cond rfl (fun h12 => ?_) (fun h12 => ?_)
  ·
    have p12 := h12
    try simp only [decide_eq_true_eq, decide_eq_false_iff_not, Bool.not_eq_true', Bool.not_eq_false', Option.isNone_iff_eq_none, ne_eq, Decidable.not_not, Int.not_lt, Int.not_le] at p12
    have hk : k < ls.length := by omega
    have hj := joined_le ls (k + 1)
    rw [joined_succ ls k hk, List.length_append] at hj
    refine T_skip ?_
    refine X_then ?_
    refine T_seq ?_
    refine T_block ?_
    refine T_seq ?_
    refine T_region ?_
    refine TL_q (Qt_indexR rfl rfl (by omega) (by simp; omega)) rfl ?_
    refine TL_q (Qt_loadR (.slice _ _ _) rfl (vals_get _ _ hk)) rfl ?_
    refine TL_q (Qt_assign (.slice _ _ _) rfl) rfl ?_
    refine TL_nil ?_
    refine X_then ?_
    refine T_seq ?_
    refine T_region ?_
    refine TL_q (Qt_move (.int .i64 _) rfl) rfl ?_
    refine TL_q (Qt_move (.slice _ _ _) rfl) rfl ?_
    refine TL_q (Qt_len_slice rfl Try.underlying36) rfl ?_
    refine TL_q (Qt_val (Qt_add rfl rfl (by omega) (by omega)) (congrArg (Value.int .i64) (show ((joined ls k).length : Int) + (ls[k].l.length : Int) = ((joined ls (k + 1)).length : Int) from by rw [joined_succ ls k hk, List.length_append]; omega))) rfl ?_
    refine TL_q (Qt_assign (.int .i64 _) rfl) rfl ?_
    refine TL_nil ?_
    refine X_then ?_
    refine T_seq ?_
    refine T_region ?_
    refine TL_q (Qt_move (.int .i64 _) rfl) rfl ?_
    refine TL_q (Qt_lss rfl rfl) rfl ?_
    refine TL_nil ?_
    refine X_then ?_
    refine T_cond rfl (fun h20 => ?_) (fun h20 => ?_)
    ·
      have p20 := h20
      try simp only [decide_eq_true_eq, decide_eq_false_iff_not, Bool.not_eq_true', Bool.not_eq_false', Option.isNone_iff_eq_none, ne_eq, Decidable.not_not, Int.not_lt, Int.not_le] at p20
      exact absurd p20 (by omega)
    ·
      have p20 := h20
      try simp only [decide_eq_true_eq, decide_eq_false_iff_not, Bool.not_eq_true', Bool.not_eq_false', Option.isNone_iff_eq_none, ne_eq, Decidable.not_not, Int.not_lt, Int.not_le] at p20
      refine T_skip ?_
      refine X_block ?_
      refine X_then ?_
      refine T_region ?_
      first
        | refine TL_q (Qt_add rfl rfl (by omega) (by omega)) rfl ?_
        | refine TL_q (Qt_addw rfl rfl) rfl ?_
      refine TL_q (Qt_move (.int .i64 _) rfl) rfl ?_
      refine TL_nil ?_
      apply X_loop
      case ha => exact (by repeat (first | with_reducible exact agree_refl | refine agree_upd rfl ?_ | refine agree_mix rfl ?_ | refine agree_setAll rfl ?_))
      case hI => exact ⟨k + 1, rfl, rfl, by omega⟩
      case hm => exact by show ls.length - (k + 1 : Int).toNat < ls.length - (k : Int).toNat; omega
      case hH => exact (Subs.st inferInstance)
  ·
    have p12 := h12
    try simp only [decide_eq_true_eq, decide_eq_false_iff_not, Bool.not_eq_true', Bool.not_eq_false', Option.isNone_iff_eq_none, ne_eq, Decidable.not_not, Int.not_lt, Int.not_le] at p12
    have ej := joined_all ls (k := k) (by omega)
    rw [ej]
    refine T_exit ?_
    refine X_then_exit ?_
    refine X_loop_exit ?_
    refine X_block_exit ?_
    refine X_then ?_
    refine T_seq ?_
    refine T_region ?_
    refine TL_q (Qt_move (.int .i64 _) rfl) rfl ?_
    refine TL_e rfl (Ef_call (grow_c hs) rfl (fun x24 => ?_))
    refine TL_q (Qt_assign (.slice _ _ _) rfl) rfl ?_
    refine TL_nil ?_
    refine X_then ?_
    refine T_seq ?_
    refine T_seq ?_
    refine T_region ?_
    refine TL_q (Qt_move (.slice _ _ _) rfl) rfl ?_
    refine TL_q (Qt_len_slice rfl Try.underlying28) rfl ?_
    refine TL_q (Qt_move (.int .i64 _) rfl) rfl ?_
    refine TL_nil ?_
    refine X_then ?_
    refine T_block ?_
    refine T_loop [6, 8, 27, 28, 29, 30, 31, 32, 33, 34] [27, 6] (fun us H' => ∃ (k : Nat) (a1 : Option Addr) (c1 : Nat), us = [.int .i64 (k : Int), .slice a1 (joined ls k).length c1] ∧ row (.slice a1 (joined ls k).length c1) 5 1 (bytesV (joined ls k)) :: H = H' ∧ k ≤ ls.length) (fun us => match us with | .int _ i :: _ => ls.length - i.toNat | _ => 0) ⟨0, _, _, rfl, rfl, by omega⟩ (fun _ hw => hw) ?_
    rintro τ1 _ _  ⟨k, a1, c1, rfl, rfl, hk0⟩ _
    refine T_seq ?_
    refine T_region ?_
    refine TL_q (Qt_lss rfl rfl) rfl ?_
    refine TL_nil ?_
    refine X_then ?_
    refine T_seq ?_
    refine T_cond rfl (fun h28 => ?_) (fun h28 => ?_)
    ·
      have p28 := h28
      try simp only [decide_eq_true_eq, decide_eq_false_iff_not, Bool.not_eq_true', Bool.not_eq_false', Option.isNone_iff_eq_none, ne_eq, Decidable.not_not, Int.not_lt, Int.not_le] at p28
      have hk : k < ls.length := by omega
      have hj := joined_le ls (k + 1)
      rw [joined_succ ls k hk, List.length_append] at hj
      refine T_skip ?_
      refine X_then ?_
      refine T_seq ?_
      refine T_block ?_
      refine T_seq ?_
      refine T_region ?_
      refine TL_q (Qt_indexR rfl rfl (by omega) (by simp; omega)) rfl ?_
      refine TL_q (Qt_loadR (.slice _ _ _) rfl (vals_get _ _ hk)) rfl ?_
      refine TL_q (Qt_assign (.slice _ _ _) rfl) rfl ?_
      refine TL_nil ?_
      refine X_then ?_
      refine T_region ?_
      refine TL_q (Qt_move (.slice _ _ _) rfl) rfl ?_
      refine TL_q (Qt_move (.slice _ _ _) rfl) rfl ?_
      refine TL_e rfl (Ef_appendB (sv := .slice _ _ _) (xv := .slice _ _ _) rfl rfl (by omega) rfl (fun a33 c33 => ?_))
      rw [← joined_succ ls k hk]
      refine TL_q (Qt_assign (.slice _ _ _) rfl) rfl ?_
      refine TL_nil ?_
      refine X_block ?_
      refine X_then ?_
      refine T_region ?_
      first
        | refine TL_q (Qt_add rfl rfl (by omega) (by omega)) rfl ?_
        | refine TL_q (Qt_addw rfl rfl) rfl ?_
      refine TL_q (Qt_move (.int .i64 _) rfl) rfl ?_
      refine TL_nil ?_
      apply X_loop
      case ha => exact (by repeat (first | with_reducible exact agree_refl | refine agree_upd rfl ?_ | refine agree_mix rfl ?_ | refine agree_setAll rfl ?_))
      case hI => exact ⟨k + 1, _, _, rfl, rfl, by omega⟩
      case hm => exact by show ls.length - (k + 1 : Int).toNat < ls.length - (k : Int).toNat; omega
      case hH => exact (Subs.st inferInstance)
    ·
      have p28 := h28
      try simp only [decide_eq_true_eq, decide_eq_false_iff_not, Bool.not_eq_true', Bool.not_eq_false', Option.isNone_iff_eq_none, ne_eq, Decidable.not_not, Int.not_lt, Int.not_le] at p28
      have ej := joined_all ls (k := k) (by omega)
      rw [ej]
      refine T_exit ?_
      refine X_then_exit ?_
      refine X_loop_exit ?_
      refine X_block_exit ?_
      refine X_then ?_
      refine T_seq ?_
      refine T_region ?_
      refine TL_q (Qt_move (.slice _ _ _) rfl) rfl ?_
      refine TL_q (Qt_assign (.slice _ _ _) rfl) rfl ?_
      refine TL_nil ?_
      refine X_then ?_
      refine T_ret ?_
      exact X_ret ⟨a1, c1⟩ [_] Try.results27 ⟨rfl, trivial⟩ rfl (Subs.st inferInstance)
end
section
open Go.RowKit Go.Sx
set_option maxRecDepth 100000
set_option linter.unusedSimpArgs false
set_option linter.unusedVariables false
def longM (m : MsgD) : Bool := decide (3000 < m.body.length) || decide (20 < m.parts.length) || m.parts.any fun c => decide (3000 < c.length)
theorem small_of_longM {m : MsgD} (h : longM m = false) : SmallM m := by
  simp only [longM, Bool.or_eq_false_iff, decide_eq_false_iff_not, List.any_eq_false, decide_eq_true_eq] at h
  exact ⟨by omega, by omega, fun x hx => by have := h.2 x hx; omega⟩
theorem MsgD.ext_iff' (x y : MsgD) : x = y ↔ x.kind = y.kind ∧ x.frm = y.frm ∧ x.view = y.view ∧ x.reg = y.reg ∧ x.slot = y.slot ∧ x.hash = y.hash ∧ x.body = y.body ∧ x.parts = y.parts := by cases x; cases y; simp
instance : DecidableEq MsgD := fun x y => decidable_of_iff _ (MsgD.ext_iff' x y).symm
theorem longM_1 {m : MsgV} (h : 3000 < m.body.l.length) : longM m.abs = true := by simp [longM, MsgV.abs, h]
theorem longM_2 {m : MsgV} (h : 20 < m.parts.ls.length) : longM m.abs = true := by simp [longM, MsgV.abs, h]
theorem longM_3 {m : MsgV} (k : Nat) (hk : k < m.parts.ls.length) (h : 3000 < m.parts.ls[k].l.length) : longM m.abs = true := by
  have : (m.abs.parts.any fun c => decide (3000 < c.length)) = true := any_of_get _ m.abs.parts k (by rw [parts_len]; exact hk) (by simpa [MsgV.abs] using h)
  simp [longM, this]
theorem longM_no {m : MsgV} (h1 : ¬ 3000 < m.body.l.length) (h2 : ¬ 20 < m.parts.ls.length) (h3 : (m.parts.ls.map BS.l).any (fun c => decide (3000 < c.length)) = false) : longM m.abs = false := by
  have e1 : decide (3000 < m.abs.body.length) = false := decide_eq_false h1
  have e2 : decide (20 < m.abs.parts.length) = false := decide_eq_false (by rw [parts_len]; exact h2)
  have e3 : (m.abs.parts.any fun c => decide (3000 < c.length)) = false := h3
  simp only [longM, e1, e2, e3, Bool.or_self]
end
end Go.Proofs.Ytnijomppbgdmnaa
