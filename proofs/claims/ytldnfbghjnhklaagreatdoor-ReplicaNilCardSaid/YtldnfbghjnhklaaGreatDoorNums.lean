/- Walks: what the functions of package nums that put numbers and texts compute. -/
import Derived.Test.YtldnfbghjnhklaaGreatDoorTy
namespace Go.Proofs.YtldnfbghjnhklaaGreatDoor
open Go.RowKit Go.Sx
set_option maxRecDepth 100000
set_option linter.unusedSimpArgs false
set_option linter.unusedVariables false

def wideB (n : Int) : Bool := decide (n = 1) || decide (n = 2) || decide (n = 4) || decide (n = 8)
def fixed (x n : Nat) : List UInt8 := (List.range n).map fun i => UInt8.ofNat (x / 256 ^ (n - 1 - i) % 256)
theorem fixed_length (x n : Nat) : (fixed x n).length = n := by simp [fixed]
theorem fixed_take (x n i : Nat) (hi : i < n) : (fixed x n).take (i + 1) = (fixed x n).take i ++ [UInt8.ofNat (x / 256 ^ (n - 1 - i) % 256)] := by
  rw [List.take_succ_eq_append_getElem (by simpa [fixed] using hi)]
  simp [fixed]
def putFixed (l : List UInt8) (x : Int) (n : Int) : List UInt8 := if wideB n then l ++ fixed x.toNat n.toNat else l
def packed (x : Nat) : List UInt8 := if h : x < 128 then [UInt8.ofNat x] else UInt8.ofNat (x % 128 + 128) :: packed (x / 128)
  termination_by x
  decreasing_by omega
theorem packed_small {x : Nat} (h : x < 128) : packed x = [UInt8.ofNat x] := by rw [packed, dif_pos h]
theorem packed_big {x : Nat} (h : ¬ x < 128) : packed x = UInt8.ofNat (x % 128 + 128) :: packed (x / 128) := by rw [packed, dif_neg h]
theorem u8Of_wrap (x : Nat) : u8Of (IntKind.u8.wrap (x : Int)) = UInt8.ofNat x := by
  have : IntKind.u8.wrap (x : Int) = ((x % 256 : Nat) : Int) := by simp [IntKind.wrap, IntKind.bits, IntKind.signed]
  rw [this, u8Of, Int.toNat_natCast]
  apply UInt8.toNat_inj.1
  simp
theorem u8Of_or (x : Nat) : u8Of (IntKind.u8.wrap ((BitVec.ofInt IntKind.u8.bits (IntKind.u8.wrap (x : Int)) ||| BitVec.ofInt IntKind.u8.bits 128).toNat : Int)) = UInt8.ofNat (x % 128 + 128) := by
  rw [u8Of_wrap]
  have h1 : IntKind.u8.wrap (x : Int) = ((x % 256 : Nat) : Int) := by simp [IntKind.wrap, IntKind.bits, IntKind.signed]
  rw [h1]
  have key : ∀ z : Fin 256, UInt8.ofNat ((BitVec.ofInt 8 ((z.val : Nat) : Int) ||| BitVec.ofInt 8 128).toNat) = UInt8.ofNat (z.val % 128 + 128) := by decide +kernel
  have := key ⟨x % 256, by omega⟩
  refine this.trans ?_
  congr 2
  show x % 256 % 128 = x % 128
  omega
theorem u8Of_fixed {x n i : Nat} (hi : i < n) (hn : n ≤ 8) : u8Of (IntKind.u8.wrap ((x : Int).fdiv (2 ^ (min ((8 : Int) * ((n : Int) - 1 - (i : Int))).toNat IntKind.u64.bits)))) = UInt8.ofNat (x / 256 ^ (n - 1 - i) % 256) := by
  have e1 : ((8 : Int) * ((n : Int) - 1 - (i : Int))).toNat = 8 * (n - 1 - i) := by omega
  have e2 : min (8 * (n - 1 - i)) IntKind.u64.bits = 8 * (n - 1 - i) := by simp only [IntKind.bits]; omega
  rw [e1, e2, Int.fdiv_eq_ediv_of_nonneg _ (by exact Int.pow_nonneg (by decide))]
  have e3 : ((x : Int) / 2 ^ (8 * (n - 1 - i))) = ((x / 256 ^ (n - 1 - i) : Nat) : Int) := by
    rw [show (256 : Nat) = 2 ^ 8 from rfl, ← Nat.pow_mul]
    push_cast
    rfl
  rw [e3, u8Of_wrap]
  apply UInt8.toNat_inj.1
  simp
theorem wideB_le {n : Int} (h : wideB n = true) : n = 1 ∨ n = 2 ∨ n = 4 ∨ n = 8 := by simpa [wideB, or_assoc] using h

set_option maxHeartbeats 1000000 in
theorem wide_c {w0 : World} {H : List SA} {n : Int} :
    CT Tryz.prog w0 (H) 210 [.int .i64 n] (α := Unit) (fun _ => .bool (wideB n)) (fun _ => H) := by
  refine CT_intro Tryz.func210 rfl Tryz.ntmps210 rfl ?_
  refine T_seq ?_
  refine T_region ?_
  refine TL_q (Qt_assign (.bool _) rfl) rfl ?_
  refine TL_nil ?_
  refine X_then ?_
  refine T_seq ?_
  refine T_region ?_
  refine TL_q (Qt_move (.int .i64 _) rfl) rfl ?_
  refine TL_q (Qt_eql rfl rfl) rfl ?_
  refine TL_q (Qt_move (.bool _) rfl) rfl ?_
  refine TL_split 5 rfl (fun h5 => ?_) (fun h5 => ?_)
  ·
    have p5 := h5
    try simp only [decide_eq_true_eq, decide_eq_false_iff_not, Bool.not_eq_true', Bool.not_eq_false', Option.isNone_iff_eq_none, ne_eq, Decidable.not_not, Int.not_lt, Int.not_le] at p5
    refine TL_pass rfl rfl h5 rfl ?_
    refine TL_pass rfl rfl h5 rfl ?_
    refine TL_q (Qt_pick_t (.bool _) rfl h5 rfl) rfl ?_
    refine TL_q (Qt_move (.bool _) rfl) rfl ?_
    refine TL_pass rfl rfl rfl rfl ?_
    refine TL_pass rfl rfl rfl rfl ?_
    refine TL_q (Qt_pick_t (.bool _) rfl rfl rfl) rfl ?_
    refine TL_q (Qt_move (.bool _) rfl) rfl ?_
    refine TL_pass rfl rfl rfl rfl ?_
    refine TL_pass rfl rfl rfl rfl ?_
    refine TL_q (Qt_pick_t (.bool _) rfl rfl rfl) rfl ?_
    refine TL_q (Qt_assign (.bool _) rfl) rfl ?_
    refine TL_nil ?_
    refine X_then ?_
    refine T_ret ?_
    exact X_ret () [.bool (wideB n)] Tryz.results210 ⟨by refine congrArg Value.bool ?_; simp_all [wideB], trivial⟩ rfl (Subs.st inferInstance)
  ·
    have p5 := h5
    try simp only [decide_eq_true_eq, decide_eq_false_iff_not, Bool.not_eq_true', Bool.not_eq_false', Option.isNone_iff_eq_none, ne_eq, Decidable.not_not, Int.not_lt, Int.not_le] at p5
    refine TL_take rfl rfl h5 ?_
    refine TL_q (Qt_move (.int .i64 _) rfl) rfl ?_
    refine TL_take rfl rfl h5 ?_
    refine TL_q (Qt_eql rfl rfl) rfl ?_
    refine TL_q (Qt_pick_f (.bool _) rfl h5 rfl) rfl ?_
    refine TL_q (Qt_move (.bool _) rfl) rfl ?_
    refine TL_split 9 rfl (fun h9 => ?_) (fun h9 => ?_)
    ·
      have p9 := h9
      try simp only [decide_eq_true_eq, decide_eq_false_iff_not, Bool.not_eq_true', Bool.not_eq_false', Option.isNone_iff_eq_none, ne_eq, Decidable.not_not, Int.not_lt, Int.not_le] at p9
      refine TL_pass rfl rfl h9 rfl ?_
      refine TL_pass rfl rfl h9 rfl ?_
      refine TL_q (Qt_pick_t (.bool _) rfl h9 rfl) rfl ?_
      refine TL_q (Qt_move (.bool _) rfl) rfl ?_
      refine TL_pass rfl rfl rfl rfl ?_
      refine TL_pass rfl rfl rfl rfl ?_
      refine TL_q (Qt_pick_t (.bool _) rfl rfl rfl) rfl ?_
      refine TL_q (Qt_assign (.bool _) rfl) rfl ?_
      refine TL_nil ?_
      refine X_then ?_
      refine T_ret ?_
      exact X_ret () [.bool (wideB n)] Tryz.results210 ⟨by refine congrArg Value.bool ?_; simp_all [wideB], trivial⟩ rfl (Subs.st inferInstance)
    ·
      have p9 := h9
      try simp only [decide_eq_true_eq, decide_eq_false_iff_not, Bool.not_eq_true', Bool.not_eq_false', Option.isNone_iff_eq_none, ne_eq, Decidable.not_not, Int.not_lt, Int.not_le] at p9
      refine TL_take rfl rfl h9 ?_
      refine TL_q (Qt_move (.int .i64 _) rfl) rfl ?_
      refine TL_take rfl rfl h9 ?_
      refine TL_q (Qt_eql rfl rfl) rfl ?_
      refine TL_q (Qt_pick_f (.bool _) rfl h9 rfl) rfl ?_
      refine TL_q (Qt_move (.bool _) rfl) rfl ?_
      refine TL_split 13 rfl (fun h13 => ?_) (fun h13 => ?_)
      ·
        have p13 := h13
        try simp only [decide_eq_true_eq, decide_eq_false_iff_not, Bool.not_eq_true', Bool.not_eq_false', Option.isNone_iff_eq_none, ne_eq, Decidable.not_not, Int.not_lt, Int.not_le] at p13
        refine TL_pass rfl rfl h13 rfl ?_
        refine TL_pass rfl rfl h13 rfl ?_
        refine TL_q (Qt_pick_t (.bool _) rfl h13 rfl) rfl ?_
        refine TL_q (Qt_assign (.bool _) rfl) rfl ?_
        refine TL_nil ?_
        refine X_then ?_
        refine T_ret ?_
        exact X_ret () [.bool (wideB n)] Tryz.results210 ⟨by refine congrArg Value.bool ?_; simp_all [wideB], trivial⟩ rfl (Subs.st inferInstance)
      ·
        have p13 := h13
        try simp only [decide_eq_true_eq, decide_eq_false_iff_not, Bool.not_eq_true', Bool.not_eq_false', Option.isNone_iff_eq_none, ne_eq, Decidable.not_not, Int.not_lt, Int.not_le] at p13
        refine TL_take rfl rfl h13 ?_
        refine TL_q (Qt_move (.int .i64 _) rfl) rfl ?_
        refine TL_take rfl rfl h13 ?_
        refine TL_q (Qt_eql rfl rfl) rfl ?_
        refine TL_q (Qt_pick_f (.bool _) rfl h13 rfl) rfl ?_
        refine TL_q (Qt_assign (.bool _) rfl) rfl ?_
        refine TL_nil ?_
        refine X_then ?_
        refine T_ret ?_
        exact X_ret () [.bool (wideB n)] Tryz.results210 ⟨by refine congrArg Value.bool ?_; simp_all [wideB], trivial⟩ rfl (Subs.st inferInstance)
set_option maxHeartbeats 1000000 in
theorem clone_c {w0 : World} {H : List SA} {a : Option Addr} {l : List UInt8} {c : Nat} [hr : RdB w0 H (.slice a l.length c) l] (hl : l.length ≤ 4294967296) :
    CT Tryz.prog w0 (H) 74 [.slice a l.length c] (α := AC) (fun x => .slice x.a l.length x.c) (fun x => row (.slice x.a l.length x.c) 5 1 (bytesV l) :: H) := by
  refine CT_intro Tryz.func74 rfl Tryz.ntmps74 rfl ?_
  refine T_seq ?_
  refine T_region ?_
  refine TL_q (Qt_assign (.slice _ _ _) rfl) rfl ?_
  refine TL_nil ?_
  refine X_then ?_
  refine T_seq ?_
  refine T_seq ?_
  refine T_region ?_
  refine TL_q (Qt_move (.slice _ _ _) rfl) rfl ?_
  refine TL_q (Qt_slice_nil rfl rfl Tryz.underlying22) rfl ?_
  refine TL_nil ?_
  refine X_then ?_
  refine T_cond rfl (fun h4 => ?_) (fun h4 => ?_)
  ·
    have p4 := h4
    try simp only [decide_eq_true_eq, decide_eq_false_iff_not, Bool.not_eq_true', Bool.not_eq_false', Option.isNone_iff_eq_none, ne_eq, Decidable.not_not, Int.not_lt, Int.not_le] at p4
    refine T_seq ?_
    refine T_region ?_
    refine TL_q (Qt_assign (.slice _ _ _) rfl) rfl ?_
    refine TL_nil ?_
    refine X_then ?_
    refine T_ret ?_
    refine X_then_ret ?_
    subst p4
    refine X_know (fun w hw => BytesAt.none (hr.rd w hw)) (fun hnil => ?_)
    subst hnil
    exact X_ret ⟨none, 0⟩ [.slice none 0 0] Tryz.results74 ⟨rfl, trivial⟩ rfl (fun w hw => hw.addNilB 5)
  ·
    have p4 := h4
    try simp only [decide_eq_true_eq, decide_eq_false_iff_not, Bool.not_eq_true', Bool.not_eq_false', Option.isNone_iff_eq_none, ne_eq, Decidable.not_not, Int.not_lt, Int.not_le] at p4
    refine T_skip ?_
    refine X_then ?_
    refine T_seq ?_
    refine T_region ?_
    refine TL_e rfl (Ef_slice0 (fun a5 c5 => ?_))
    refine TL_q (Qt_move (.slice _ _ _) rfl) rfl ?_
    refine TL_e rfl (Ef_appendB (sv := .slice _ _ _) (xv := .slice _ _ _) rfl rfl (by simp; omega) rfl (fun a7 c7 => ?_))
    simp only [List.nil_append]
    refine TL_q (Qt_assign (.slice _ _ _) rfl) rfl ?_
    refine TL_nil ?_
    refine X_then ?_
    refine T_ret ?_
    exact X_ret ⟨a7, c7⟩ [_] Tryz.results74 ⟨rfl, trivial⟩ rfl (Subs.st inferInstance)
set_option maxHeartbeats 1000000 in
theorem putFixed_c {w0 : World} {H : List SA} {a : Option Addr} {l : List UInt8} {c : Nat} {x n : Int} [hr : RdB w0 H (.slice a l.length c) l] (hl : l.length ≤ 4294967200) (hx : 0 ≤ x) :
    CT Tryz.prog w0 (H) 140 [.slice a l.length c, .int .u64 x, .int .i64 n] (α := AC) (fun y => .slice y.a (putFixed l x n).length y.c) (fun y => row (.slice y.a (putFixed l x n).length y.c) 5 1 (bytesV (putFixed l x n)) :: H) := by
  refine CT_intro Tryz.func140 rfl Tryz.ntmps140 rfl ?_
  refine T_seq ?_
  refine T_region ?_
  refine TL_q (Qt_assign (.slice _ _ _) rfl) rfl ?_
  refine TL_nil ?_
  refine X_then ?_
  refine T_seq ?_
  refine T_region ?_
  refine TL_q (Qt_move (.slice _ _ _) rfl) rfl ?_
  refine TL_e rfl (Ef_call (clone_c (by omega)) rfl (fun x10 => ?_))
  refine TL_q (Qt_assign (.slice _ _ _) rfl) rfl ?_
  refine TL_nil ?_
  refine X_then ?_
  refine T_seq ?_
  refine T_seq ?_
  refine T_region ?_
  refine TL_q (Qt_move (.int .i64 _) rfl) rfl ?_
  refine TL_e rfl (Ef_call (wide_c) rfl (fun x12 => ?_))
  refine TL_q (Qt_not rfl) rfl ?_
  refine TL_nil ?_
  refine X_then ?_
  refine T_cond rfl (fun h13 => ?_) (fun h13 => ?_)
  ·
    have p13 := h13
    try simp only [decide_eq_true_eq, decide_eq_false_iff_not, Bool.not_eq_true', Bool.not_eq_false', Option.isNone_iff_eq_none, ne_eq, Decidable.not_not, Int.not_lt, Int.not_le] at p13
    refine T_seq ?_
    refine T_region ?_
    refine TL_q (Qt_move (.slice _ _ _) rfl) rfl ?_
    refine TL_q (Qt_assign (.slice _ _ _) rfl) rfl ?_
    refine TL_nil ?_
    refine X_then ?_
    refine T_ret ?_
    refine X_then_ret ?_
    have e : putFixed l x n = l := by simp [putFixed, show wideB n = false by simpa using p13]
    simp only [e]
    exact X_ret ⟨x10.a, x10.c⟩ [_] Tryz.results140 ⟨rfl, trivial⟩ rfl (Subs.st inferInstance)
  ·
    have p13 := h13
    try simp only [decide_eq_true_eq, decide_eq_false_iff_not, Bool.not_eq_true', Bool.not_eq_false', Option.isNone_iff_eq_none, ne_eq, Decidable.not_not, Int.not_lt, Int.not_le] at p13
    refine T_skip ?_
    refine X_then ?_
    refine T_seq ?_
    refine T_seq ?_
    refine T_region ?_
    refine TL_q (Qt_move (.int .i64 _) rfl) rfl ?_
    refine TL_q (Qt_move (.int .i64 _) rfl) rfl ?_
    refine TL_nil ?_
    refine X_then ?_
    refine T_block ?_
    have hw4 := wideB_le (n := n) (by simpa using p13)
    have hw5 : wideB n = true := by simpa using p13
    obtain ⟨x, rfl⟩ := Int.eq_ofNat_of_zero_le hx
    obtain ⟨n, rfl⟩ := Int.eq_ofNat_of_zero_le (show 0 ≤ n by omega)
    refine T_loop [7, 8, 16, 17, 18, 19, 20, 21, 22, 23, 24, 25, 26, 27, 28, 29, 30] [16, 7] (fun vs H' => ∃ (i : Nat) (a : Option Addr) (c : Nat), vs = [.int .i64 (i : Int), .slice a (l ++ (fixed x n).take i).length c] ∧ H' = row (.slice a (l ++ (fixed x n).take i).length c) 5 1 (bytesV (l ++ (fixed x n).take i)) :: H ∧ i ≤ n) (fun vs => match vs with | .int _ i :: _ => n - i.toNat | _ => 0) ⟨0, x10.a, x10.c, by rw [List.take_zero, List.append_nil]; rfl, by rw [List.take_zero, List.append_nil], Nat.zero_le _⟩ (Subs.st inferInstance) ?_
    rintro τ0 _ _  ⟨i, a1, c1, rfl, rfl, hi0⟩ _
    refine T_seq ?_
    refine T_region ?_
    refine TL_q (Qt_lss rfl rfl) rfl ?_
    refine TL_nil ?_
    refine X_then ?_
    refine T_seq ?_
    refine T_cond rfl (fun h17 => ?_) (fun h17 => ?_)
    ·
      have p17 := h17
      try simp only [decide_eq_true_eq, decide_eq_false_iff_not, Bool.not_eq_true', Bool.not_eq_false', Option.isNone_iff_eq_none, ne_eq, Decidable.not_not, Int.not_lt, Int.not_le] at p17
      have hi : i < n := by omega
      refine T_skip ?_
      refine X_then ?_
      refine T_seq ?_
      refine T_block ?_
      refine T_seq ?_
      refine T_region ?_
      refine TL_q (Qt_move (.int .i64 _) rfl) rfl ?_
      refine TL_q (Qt_assign (.int .i64 _) rfl) rfl ?_
      refine TL_nil ?_
      refine X_then ?_
      refine T_region ?_
      refine TL_q (Qt_move (.slice _ _ _) rfl) rfl ?_
      refine TL_q (Qt_move (.int .u64 _) rfl) rfl ?_
      refine TL_q (Qt_move (.int .i64 _) rfl) rfl ?_
      first
        | refine TL_q (Qt_sub rfl rfl (by omega) (by omega)) rfl ?_
        | refine TL_q (Qt_subw rfl rfl) rfl ?_
      refine TL_q (Qt_move (.int .i64 _) rfl) rfl ?_
      first
        | refine TL_q (Qt_sub rfl rfl (by omega) (by omega)) rfl ?_
        | refine TL_q (Qt_subw rfl rfl) rfl ?_
      first
        | refine TL_q (Qt_mul rfl rfl (by omega) (by omega)) rfl ?_
        | refine TL_q (Qt_mulw rfl rfl) rfl ?_
      refine TL_q (Qt_shr rfl rfl (by omega)) rfl ?_
      refine TL_q (Qt_conv rfl rfl Tryz.underlying5) rfl ?_
      refine TL_e rfl (Ef_slice1 (v := .int .u8 (IntKind.u8.wrap _)) rfl (fun a28 c28 => ?_))
      refine TL_e rfl (Ef_appendb (n := IntKind.u8.wrap _) (sv := .slice _ _ _) (xv := .slice _ _ _) rfl rfl (wrap_u8_range _) (by simp; omega) rfl (fun a29 c29 => ?_))
      rw [u8Of_fixed hi (by omega), List.append_assoc, ← fixed_take _ _ _ hi]
      refine TL_q (Qt_assign (.slice _ _ _) rfl) rfl ?_
      refine TL_nil ?_
      refine X_block ?_
      refine X_then ?_
      refine T_region ?_
      first
        | refine TL_q (Qt_add rfl rfl (by omega) (by omega)) rfl ?_
        | refine TL_q (Qt_addw rfl rfl) rfl ?_
      refine TL_q (Qt_move (.int .i64 _) rfl) rfl ?_
      refine TL_nil ?_
      refine X_loop _ (by repeat (first | with_reducible exact agree_refl | refine agree_upd rfl ?_ | refine agree_mix rfl ?_ | refine agree_setAll rfl ?_)) (⟨i + 1, a29, c29, rfl, rfl, by omega⟩) (by show n - (i + 1 : Int).toNat < n - (i : Int).toNat; omega) ((Subs.st inferInstance))
    ·
      have p17 := h17
      try simp only [decide_eq_true_eq, decide_eq_false_iff_not, Bool.not_eq_true', Bool.not_eq_false', Option.isNone_iff_eq_none, ne_eq, Decidable.not_not, Int.not_lt, Int.not_le] at p17
      have et : (fixed x n).take i = fixed x n := List.take_of_length_le (by rw [fixed_length]; omega)
      simp only [et]
      refine T_exit ?_
      refine X_then_exit ?_
      refine X_loop_exit ?_
      refine X_block_exit ?_
      refine X_then ?_
      refine T_seq ?_
      refine T_region ?_
      refine TL_q (Qt_move (.slice _ _ _) rfl) rfl ?_
      refine TL_q (Qt_assign (.slice _ _ _) rfl) rfl ?_
      refine TL_nil ?_
      refine X_then ?_
      refine T_ret ?_
      have e : putFixed l (x : Int) (n : Int) = l ++ fixed x n := by simp [putFixed, hw5]
      simp only [e]
      exact X_ret ⟨a1, c1⟩ [_] Tryz.results140 ⟨rfl, trivial⟩ rfl (Subs.st inferInstance)
set_option maxHeartbeats 1000000 in
theorem putPacked_c {w0 : World} {H : List SA} {a : Option Addr} {l : List UInt8} {c : Nat} {x : Int} [hr : RdB w0 H (.slice a l.length c) l] (hl : l.length ≤ 4294967200) (hx : 0 ≤ x) (hx2 : x < 18446744073709551616) :
    CT Tryz.prog w0 (H) 208 [.slice a l.length c, .int .u64 x] (α := AC) (fun y => .slice y.a (l ++ packed x.toNat).length y.c) (fun y => row (.slice y.a (l ++ packed x.toNat).length y.c) 5 1 (bytesV (l ++ packed x.toNat)) :: H) := by
  refine CT_intro Tryz.func208 rfl Tryz.ntmps208 rfl ?_
  refine T_seq ?_
  refine T_region ?_
  refine TL_q (Qt_assign (.slice _ _ _) rfl) rfl ?_
  refine TL_nil ?_
  refine X_then ?_
  refine T_seq ?_
  refine T_region ?_
  refine TL_q (Qt_move (.slice _ _ _) rfl) rfl ?_
  refine TL_e rfl (Ef_call (clone_c (by omega)) rfl (fun x7 => ?_))
  refine TL_q (Qt_assign (.slice _ _ _) rfl) rfl ?_
  refine TL_nil ?_
  refine X_then ?_
  refine T_seq ?_
  refine T_block ?_
  obtain ⟨x, rfl⟩ := Int.eq_ofNat_of_zero_le hx
  refine T_loop [1, 5, 8, 9, 10, 11, 12, 13, 14, 15, 16, 17] [1, 5] (fun vs H' => ∃ (y : Nat) (dn : List UInt8) (a : Option Addr) (c : Nat), vs = [.int .u64 (y : Int), .slice a (l ++ dn).length c] ∧ H' = row (.slice a (l ++ dn).length c) 5 1 (bytesV (l ++ dn)) :: H ∧ dn ++ packed y = packed x ∧ dn.length ≤ 10 ∧ (128 ^ dn.length * y ≤ x)) (fun vs => match vs with | .int _ i :: _ => i.toNat | _ => 0) ⟨x, [], x7.a, x7.c, by rw [List.append_nil]; rfl, by rw [List.append_nil], rfl, by simp, by simp⟩ (Subs.st inferInstance) ?_
  rintro τ0 _ _  ⟨y, dn, a1, c1, rfl, rfl, hd, hl2, hy⟩ _
  refine T_seq ?_
  refine T_seq ?_
  refine T_region ?_
  refine TL_q (Qt_move (.int .u64 _) rfl) rfl ?_
  refine TL_q (Qt_geq rfl rfl) rfl ?_
  refine TL_nil ?_
  refine X_then ?_
  refine T_cond rfl (fun h9 => ?_) (fun h9 => ?_)
  ·
    have p9 := h9
    try simp only [decide_eq_true_eq, decide_eq_false_iff_not, Bool.not_eq_true', Bool.not_eq_false', Option.isNone_iff_eq_none, ne_eq, Decidable.not_not, Int.not_lt, Int.not_le] at p9
    have hyb : ¬ y < 128 := by omega
    have hdy : 128 ^ (dn ++ [UInt8.ofNat (y % 128 + 128)]).length * (y / 2 ^ 7) ≤ x := by
      rw [List.length_append, List.length_singleton, Nat.pow_succ, Nat.mul_assoc]
      exact Nat.le_trans (Nat.mul_le_mul_left _ (by omega)) hy
    have hdl : (dn ++ [UInt8.ofNat (y % 128 + 128)]).length ≤ 10 := by
      rw [List.length_append, List.length_singleton]
      rcases Nat.lt_or_ge dn.length 10 with h | h
      · omega
      · have h10 : dn.length = 10 := by omega
        rw [h10] at hy
        omega
    refine T_skip ?_
    refine X_then ?_
    refine T_block ?_
    refine T_seq ?_
    refine T_region ?_
    refine TL_q (Qt_move (.slice _ _ _) rfl) rfl ?_
    refine TL_q (Qt_move (.int .u64 _) rfl) rfl ?_
    refine TL_q (Qt_conv rfl rfl Tryz.underlying5) rfl ?_
    refine TL_q (Qt_or rfl rfl) rfl ?_
    refine TL_e rfl (Ef_slice1 (v := .int .u8 (IntKind.u8.wrap _)) rfl (fun a14 c14 => ?_))
    refine TL_e rfl (Ef_appendb (n := IntKind.u8.wrap _) (sv := .slice _ _ _) (xv := .slice _ _ _) rfl rfl (wrap_u8_range _) (by simp; omega) rfl (fun a15 c15 => ?_))
    rw [u8Of_or, List.append_assoc]
    refine TL_q (Qt_assign (.slice _ _ _) rfl) rfl ?_
    refine TL_nil ?_
    refine X_then ?_
    refine T_region ?_
    refine TL_q (Qt_move (.int .u64 _) rfl) rfl ?_
    refine TL_q (Qt_shrN 7 rfl rfl (by decide)) rfl ?_
    refine TL_q (Qt_assign (.int .u64 _) rfl) rfl ?_
    refine TL_nil ?_
    refine X_block ?_
    refine X_loop _ (by repeat (first | with_reducible exact agree_refl | refine agree_upd rfl ?_ | refine agree_mix rfl ?_ | refine agree_setAll rfl ?_)) (⟨y / 2 ^ 7, dn ++ [UInt8.ofNat (y % 128 + 128)], a15, c15, rfl, rfl, by rw [List.append_assoc, List.singleton_append, ← packed_big hyb]; exact hd, hdl, hdy⟩) (by show ((y / 2 ^ 7 : Nat) : Int).toNat < (y : Int).toNat; omega) ((Subs.st inferInstance))
  ·
    have p9 := h9
    try simp only [decide_eq_true_eq, decide_eq_false_iff_not, Bool.not_eq_true', Bool.not_eq_false', Option.isNone_iff_eq_none, ne_eq, Decidable.not_not, Int.not_lt, Int.not_le] at p9
    have hyb : y < 128 := by omega
    rw [packed_small hyb] at hd
    refine T_exit ?_
    refine X_then_exit ?_
    refine X_loop_exit ?_
    refine X_block_exit ?_
    refine X_then ?_
    refine T_seq ?_
    refine T_region ?_
    refine TL_q (Qt_move (.slice _ _ _) rfl) rfl ?_
    refine TL_q (Qt_move (.int .u64 _) rfl) rfl ?_
    refine TL_q (Qt_conv rfl rfl Tryz.underlying5) rfl ?_
    refine TL_e rfl (Ef_slice1 (v := .int .u8 (IntKind.u8.wrap _)) rfl (fun a21 c21 => ?_))
    refine TL_e rfl (Ef_appendb (n := IntKind.u8.wrap _) (sv := .slice _ _ _) (xv := .slice _ _ _) rfl rfl (wrap_u8_range _) (by simp; omega) rfl (fun a22 c22 => ?_))
    rw [u8Of_wrap, List.append_assoc]
    refine TL_q (Qt_assign (.slice _ _ _) rfl) rfl ?_
    refine TL_nil ?_
    refine X_then ?_
    refine T_ret ?_
    have e : packed (x : Int).toNat = dn ++ [UInt8.ofNat y] := hd.symm
    simp only [e]
    exact X_ret ⟨a22, c22⟩ [_] Tryz.results208 ⟨rfl, trivial⟩ rfl (Subs.st inferInstance)
theorem packed_length_le (x : Nat) (h : x < 18446744073709551616) : (packed x).length ≤ 10 := by
  have key : ∀ (k : Nat) (x : Nat), x < 128 ^ (k + 1) → (packed x).length ≤ k + 1 := by
    intro k
    induction k with
    | zero => intro x hx; rw [packed_small (by simpa using hx)]; simp
    | succ k ih =>
      intro x hx
      by_cases h : x < 128
      · rw [packed_small h]; simp
      · rw [packed_big h, List.length_cons]
        have : x / 128 < 128 ^ (k + 1) := by rw [Nat.pow_succ] at hx; exact Nat.div_lt_of_lt_mul (by rw [Nat.mul_comm]; exact hx)
        have := ih _ this
        omega
  exact key 9 x (by omega)
set_option maxHeartbeats 1000000 in
theorem putText_c {w0 : World} {H : List SA} {a a2 : Option Addr} {l l2 : List UInt8} {c c2 : Nat} [hr : RdB w0 H (.slice a l.length c) l] [hr2 : RdB w0 H (.slice a2 l2.length c2) l2] (hl : l.length ≤ 2147483648) (hl2 : l2.length ≤ 2147483000) :
    CT Tryz.prog w0 (H) 143 [.slice a l.length c, .slice a2 l2.length c2] (α := AC) (fun y => .slice y.a (l ++ packed l2.length ++ l2).length y.c) (fun y => row (.slice y.a (l ++ packed l2.length ++ l2).length y.c) 5 1 (bytesV (l ++ packed l2.length ++ l2)) :: H) := by
  refine CT_intro Tryz.func143 rfl Tryz.ntmps143 rfl ?_
  refine T_seq ?_
  refine T_region ?_
  refine TL_q (Qt_assign (.slice _ _ _) rfl) rfl ?_
  refine TL_nil ?_
  refine X_then ?_
  refine T_seq ?_
  refine T_region ?_
  refine TL_q (Qt_move (.slice _ _ _) rfl) rfl ?_
  refine TL_q (Qt_move (.slice _ _ _) rfl) rfl ?_
  refine TL_q (Qt_len_slice rfl Tryz.underlying22) rfl ?_
  refine TL_q (Qt_conv_u64 rfl rfl Tryz.underlying230 (by omega) (by omega)) rfl ?_
  refine TL_e rfl (Ef_call (putPacked_c (x := (l2.length : Int)) (by omega) (by omega) (by omega)) rfl (fun x9 => ?_))
  rw [show (l2.length : Int).toNat = l2.length from rfl]
  refine TL_q (Qt_move (.slice _ _ _) rfl) rfl ?_
  refine TL_e rfl (Ef_appendB (sv := .slice _ _ _) (xv := .slice _ _ _) rfl rfl (by have := packed_length_le l2.length (by omega); simp; omega) rfl (fun a11 c11 => ?_))
  refine TL_q (Qt_assign (.slice _ _ _) rfl) rfl ?_
  refine TL_nil ?_
  refine X_then ?_
  refine T_ret ?_
  exact X_ret ⟨a11, c11⟩ [_] Tryz.results143 ⟨rfl, trivial⟩ rfl (Subs.st inferInstance)
end Go.Proofs.YtldnfbghjnhklaaGreatDoor
