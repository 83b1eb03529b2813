/- Walks: the references on fixed numbers, packed numbers, texts, digests. -/
import Derived.Test.YtdjbhpdfkopdgaaVy
namespace Go.Proofs.Ytdjbhpdfkopdgaa
open Go.RowKit Go.Sx
set_option maxRecDepth 100000
set_option linter.unusedSimpArgs false
set_option linter.unusedVariables false
theorem quo_nat (x k : Nat) (hk : k ≠ 0) (h : x < 18446744073709551616) : IntKind.u64.wrap ((x : Int).tdiv (k : Int)) = ((x / k : Nat) : Int) := by
  have e : (x : Int).tdiv (k : Int) = ((x / k : Nat) : Int) := by rw [Int.ofNat_tdiv]
  have := Nat.div_le_self x k
  rw [e]
  generalize x / k = q at *
  exact wrap_u64 (by omega) (by omega)
theorem rem_nat (x k : Nat) : (x : Int).tmod (k : Int) = ((x % k : Nat) : Int) := by rw [Int.ofNat_tmod]
theorem u8Of_rem (x : Nat) : u8Of (IntKind.u8.wrap ((x : Int).tmod 256)) = UInt8.ofNat (x % 256) := by
  rw [show (256 : Int) = ((256 : Nat) : Int) from rfl, rem_nat, u8Of_wrap]
theorem u8Of_rem128 (x : Nat) : u8Of (IntKind.u8.wrap (IntKind.u64.wrap ((x : Int).tmod 128 + 128))) = UInt8.ofNat (x % 128 + 128) := by
  rw [show (128 : Int) = ((128 : Nat) : Int) from rfl, rem_nat, wrap_u64 (by omega) (by omega), ← Int.natCast_add, u8Of_wrap]
def fixedR (x n : Int) : List UInt8 := if wideB n then fixed x.toNat n.toNat else []
theorem fixedR_1 (x : Int) : fixedR x 1 = fixed x.toNat 1 := rfl
theorem fixedR_2 (x : Int) : fixedR x 2 = fixed x.toNat 2 := rfl

set_option maxHeartbeats 1000000 in
theorem rWide_c {w0 : World} {H : List SA} {n : Int} :
    CT Try.prog w0 (H) 62 [.int .i64 n] (α := Unit) (fun _ => .bool (wideB n)) (fun _ => H) := by
  refine CT_intro Try.func62 rfl Try.ntmps62 rfl ?_
  refine T_seq ?_
  refine T_region ?_
  refine TL_q (Qt_assign (.bool _) rfl) rfl ?_
  refine TL_nil ?_
  refine X_then ?_
  refine T_seq ?_
  refine T_region ?_
  refine TL_q (Qt_move (.int .i64 _) rfl) rfl ?_
  refine TL_q (Qt_eql rfl rfl) rfl ?_
  refine TL_q (Qt_move (.bool _) rfl) rfl ?_
  refine TL_split 5 rfl (fun h5 => ?_) (fun h5 => ?_)
  ·
    have p5 := h5
    try simp only [decide_eq_true_eq, decide_eq_false_iff_not, Bool.not_eq_true', Bool.not_eq_false', Option.isNone_iff_eq_none, ne_eq, Decidable.not_not, Int.not_lt, Int.not_le] at p5
    refine TL_pass rfl rfl h5 rfl ?_
    refine TL_pass rfl rfl h5 rfl ?_
    refine TL_q (Qt_pick_t (.bool _) rfl h5 rfl) rfl ?_
    refine TL_q (Qt_move (.bool _) rfl) rfl ?_
    refine TL_pass rfl rfl rfl rfl ?_
    refine TL_pass rfl rfl rfl rfl ?_
    refine TL_q (Qt_pick_t (.bool _) rfl rfl rfl) rfl ?_
    refine TL_q (Qt_move (.bool _) rfl) rfl ?_
    refine TL_pass rfl rfl rfl rfl ?_
    refine TL_pass rfl rfl rfl rfl ?_
    refine TL_q (Qt_pick_t (.bool _) rfl rfl rfl) rfl ?_
    refine TL_q (Qt_assign (.bool _) rfl) rfl ?_
    refine TL_nil ?_
    refine X_then ?_
    refine T_ret ?_
    exact X_ret () [.bool (wideB n)] Try.results62 ⟨by refine congrArg Value.bool ?_; simp_all [wideB], trivial⟩ rfl (Subs.st inferInstance)
  ·
    have p5 := h5
    try simp only [decide_eq_true_eq, decide_eq_false_iff_not, Bool.not_eq_true', Bool.not_eq_false', Option.isNone_iff_eq_none, ne_eq, Decidable.not_not, Int.not_lt, Int.not_le] at p5
    refine TL_take rfl rfl h5 ?_
    refine TL_q (Qt_move (.int .i64 _) rfl) rfl ?_
    refine TL_take rfl rfl h5 ?_
    refine TL_q (Qt_eql rfl rfl) rfl ?_
    refine TL_q (Qt_pick_f (.bool _) rfl h5 rfl) rfl ?_
    refine TL_q (Qt_move (.bool _) rfl) rfl ?_
    refine TL_split 9 rfl (fun h9 => ?_) (fun h9 => ?_)
    ·
      have p9 := h9
      try simp only [decide_eq_true_eq, decide_eq_false_iff_not, Bool.not_eq_true', Bool.not_eq_false', Option.isNone_iff_eq_none, ne_eq, Decidable.not_not, Int.not_lt, Int.not_le] at p9
      refine TL_pass rfl rfl h9 rfl ?_
      refine TL_pass rfl rfl h9 rfl ?_
      refine TL_q (Qt_pick_t (.bool _) rfl h9 rfl) rfl ?_
      refine TL_q (Qt_move (.bool _) rfl) rfl ?_
      refine TL_pass rfl rfl rfl rfl ?_
      refine TL_pass rfl rfl rfl rfl ?_
      refine TL_q (Qt_pick_t (.bool _) rfl rfl rfl) rfl ?_
      refine TL_q (Qt_assign (.bool _) rfl) rfl ?_
      refine TL_nil ?_
      refine X_then ?_
      refine T_ret ?_
      exact X_ret () [.bool (wideB n)] Try.results62 ⟨by refine congrArg Value.bool ?_; simp_all [wideB], trivial⟩ rfl (Subs.st inferInstance)
    ·
      have p9 := h9
      try simp only [decide_eq_true_eq, decide_eq_false_iff_not, Bool.not_eq_true', Bool.not_eq_false', Option.isNone_iff_eq_none, ne_eq, Decidable.not_not, Int.not_lt, Int.not_le] at p9
      refine TL_take rfl rfl h9 ?_
      refine TL_q (Qt_move (.int .i64 _) rfl) rfl ?_
      refine TL_take rfl rfl h9 ?_
      refine TL_q (Qt_eql rfl rfl) rfl ?_
      refine TL_q (Qt_pick_f (.bool _) rfl h9 rfl) rfl ?_
      refine TL_q (Qt_move (.bool _) rfl) rfl ?_
      refine TL_split 13 rfl (fun h13 => ?_) (fun h13 => ?_)
      ·
        have p13 := h13
        try simp only [decide_eq_true_eq, decide_eq_false_iff_not, Bool.not_eq_true', Bool.not_eq_false', Option.isNone_iff_eq_none, ne_eq, Decidable.not_not, Int.not_lt, Int.not_le] at p13
        refine TL_pass rfl rfl h13 rfl ?_
        refine TL_pass rfl rfl h13 rfl ?_
        refine TL_q (Qt_pick_t (.bool _) rfl h13 rfl) rfl ?_
        refine TL_q (Qt_assign (.bool _) rfl) rfl ?_
        refine TL_nil ?_
        refine X_then ?_
        refine T_ret ?_
        exact X_ret () [.bool (wideB n)] Try.results62 ⟨by refine congrArg Value.bool ?_; simp_all [wideB], trivial⟩ rfl (Subs.st inferInstance)
      ·
        have p13 := h13
        try simp only [decide_eq_true_eq, decide_eq_false_iff_not, Bool.not_eq_true', Bool.not_eq_false', Option.isNone_iff_eq_none, ne_eq, Decidable.not_not, Int.not_lt, Int.not_le] at p13
        refine TL_take rfl rfl h13 ?_
        refine TL_q (Qt_move (.int .i64 _) rfl) rfl ?_
        refine TL_take rfl rfl h13 ?_
        refine TL_q (Qt_eql rfl rfl) rfl ?_
        refine TL_q (Qt_pick_f (.bool _) rfl h13 rfl) rfl ?_
        refine TL_q (Qt_assign (.bool _) rfl) rfl ?_
        refine TL_nil ?_
        refine X_then ?_
        refine T_ret ?_
        exact X_ret () [.bool (wideB n)] Try.results62 ⟨by refine congrArg Value.bool ?_; simp_all [wideB], trivial⟩ rfl (Subs.st inferInstance)
set_option maxHeartbeats 1000000 in
theorem rFixed_c {w0 : World} {H : List SA} {x n : Int} (hx : 0 ≤ x) (hx2 : x < 18446744073709551616) :
    CT Try.prog w0 (H) 52 [.int .u64 x, .int .i64 n] (α := AC) (fun y => .slice y.a (fixedR x n).length y.c) (fun y => row (.slice y.a (fixedR x n).length y.c) 5 1 (bytesV (fixedR x n)) :: H) := by
  refine CT_intro Try.func52 rfl Try.ntmps52 rfl ?_
  refine T_seq ?_
  refine T_region ?_
  refine TL_q (Qt_assign (.slice _ _ _) rfl) rfl ?_
  refine TL_nil ?_
  refine X_then ?_
  refine T_seq ?_
  refine T_region ?_
  refine TL_q (Qt_assign (.slice _ _ _) rfl) rfl ?_
  refine TL_nil ?_
  refine X_then ?_
  refine T_seq ?_
  refine T_seq ?_
  refine T_region ?_
  refine TL_q (Qt_move (.int .i64 _) rfl) rfl ?_
  refine TL_e rfl (Ef_call (rWide_c) rfl (fun x10 => ?_))
  refine TL_q (Qt_not rfl) rfl ?_
  refine TL_nil ?_
  refine X_then ?_
  refine T_cond rfl (fun h11 => ?_) (fun h11 => ?_)
  ·
    have p11 := h11
    try simp only [decide_eq_true_eq, decide_eq_false_iff_not, Bool.not_eq_true', Bool.not_eq_false', Option.isNone_iff_eq_none, ne_eq, Decidable.not_not, Int.not_lt, Int.not_le] at p11
    refine T_seq ?_
    refine T_region ?_
    refine TL_q (Qt_move (.slice _ _ _) rfl) rfl ?_
    refine TL_q (Qt_assign (.slice _ _ _) rfl) rfl ?_
    refine TL_nil ?_
    refine X_then ?_
    refine T_ret ?_
    refine X_then_ret ?_
    have e : fixedR x n = [] := by simp [fixedR, show wideB n = false by simpa using p11]
    simp only [e]
    exact X_ret ⟨none, 0⟩ [_] Try.results52 ⟨rfl, trivial⟩ rfl (fun w hw => (Subs.st inferInstance w hw : St w0 H w).addNilB 5)
  ·
    have p11 := h11
    try simp only [decide_eq_true_eq, decide_eq_false_iff_not, Bool.not_eq_true', Bool.not_eq_false', Option.isNone_iff_eq_none, ne_eq, Decidable.not_not, Int.not_lt, Int.not_le] at p11
    refine T_skip ?_
    refine X_then ?_
    refine T_seq ?_
    refine T_seq ?_
    refine T_region ?_
    refine TL_q (Qt_assign (.int .i64 _) rfl) rfl ?_
    refine TL_nil ?_
    refine X_then ?_
    refine T_block ?_
    have hw5 : wideB n = true := by simpa using p11
    have hw4 := wideB_le hw5
    obtain ⟨x, rfl⟩ := Int.eq_ofNat_of_zero_le hx
    obtain ⟨n, rfl⟩ := Int.eq_ofNat_of_zero_le (show 0 ≤ n by omega)
    refine T_loop [5, 6, 7, 8, 13, 14, 15, 16, 17, 18, 19, 20, 21, 22, 23, 24, 25, 26, 27, 28, 29, 30, 31, 32, 33] [6, 5] (fun vs H' => ∃ (i : Nat) (a : Option Addr) (c : Nat), vs = [.int .i64 (i : Int), .slice a ((fixed x n).take i).length c] ∧ H' = row (.slice a ((fixed x n).take i).length c) 5 1 (bytesV ((fixed x n).take i)) :: H ∧ i ≤ n) (fun vs => match vs with | .int _ i :: _ => n - i.toNat | _ => 0) ⟨0, none, 0, by rw [List.take_zero]; rfl, by rw [List.take_zero], Nat.zero_le _⟩ (fun w hw => hw.addNilB 5) ?_
    rintro τ0 _ _  ⟨i, a1, c1, rfl, rfl, hi0⟩ _
    refine T_seq ?_
    refine T_seq ?_
    refine T_region ?_
    refine TL_q (Qt_move (.int .i64 _) rfl) rfl ?_
    refine TL_q (Qt_move (.int .i64 _) rfl) rfl ?_
    refine TL_q (Qt_lss rfl rfl) rfl ?_
    refine TL_nil ?_
    refine X_then ?_
    refine T_cond rfl (fun h15 => ?_) (fun h15 => ?_)
    ·
      have p15 := h15
      try simp only [decide_eq_true_eq, decide_eq_false_iff_not, Bool.not_eq_true', Bool.not_eq_false', Option.isNone_iff_eq_none, ne_eq, Decidable.not_not, Int.not_lt, Int.not_le] at p15
      have hi : i < n := by omega
      refine T_skip ?_
      refine X_then ?_
      refine T_seq ?_
      refine T_block ?_
      refine T_seq ?_
      refine T_region ?_
      refine TL_q (Qt_move (.int .u64 _) rfl) rfl ?_
      refine TL_q (Qt_assign (.int .u64 _) rfl) rfl ?_
      refine TL_nil ?_
      refine X_then ?_
      refine T_seq ?_
      refine T_seq ?_
      refine T_region ?_
      refine TL_q (Qt_move (.int .i64 _) rfl) rfl ?_
      refine TL_q (Qt_assign (.int .i64 _) rfl) rfl ?_
      refine TL_nil ?_
      refine X_then ?_
      refine T_block ?_
      refine T_loop [7, 8, 20, 21, 22, 23, 24, 25, 26, 27] [8, 7] (fun vs H' => ∃ (k : Nat), vs = [.int .i64 (k : Int), .int .u64 ((x / 256 ^ (k - i) : Nat) : Int)] ∧ H' = row (.slice a1 ((fixed x n).take i).length c1) 5 1 (bytesV ((fixed x n).take i)) :: H ∧ i ≤ k ∧ k ≤ n - 1) (fun vs => match vs with | .int _ k :: _ => n - k.toNat | _ => 0) ⟨i, by rw [Nat.sub_self, Nat.pow_zero, Nat.div_one]; rfl, rfl, Nat.le_refl _, by omega⟩ (Subs.st inferInstance) ?_
      rintro τ1 _ _  ⟨k, rfl, rfl, hik, hkn⟩ _
      refine T_seq ?_
      refine T_seq ?_
      refine T_region ?_
      refine TL_q (Qt_move (.int .i64 _) rfl) rfl ?_
      refine TL_q (Qt_move (.int .i64 _) rfl) rfl ?_
      first
        | refine TL_q (Qt_sub rfl rfl (by omega) (by omega)) rfl ?_
        | refine TL_q (Qt_subw rfl rfl) rfl ?_
      refine TL_q (Qt_lss rfl rfl) rfl ?_
      refine TL_nil ?_
      refine X_then ?_
      refine T_cond rfl (fun h23 => ?_) (fun h23 => ?_)
      ·
        have p23 := h23
        try simp only [decide_eq_true_eq, decide_eq_false_iff_not, Bool.not_eq_true', Bool.not_eq_false', Option.isNone_iff_eq_none, ne_eq, Decidable.not_not, Int.not_lt, Int.not_le] at p23
        refine T_skip ?_
        refine X_then ?_
        refine T_seq ?_
        refine T_block ?_
        refine T_region ?_
        refine TL_q (Qt_move (.int .u64 _) rfl) rfl ?_
        refine TL_q (Qt_quo rfl rfl (by omega)) rfl ?_
        refine TL_q (Qt_assign (.int .u64 _) rfl) rfl ?_
        refine TL_nil ?_
        refine X_block ?_
        refine X_then ?_
        refine T_region ?_
        refine TL_q (Qt_move (.int .i64 _) rfl) rfl ?_
        first
          | refine TL_q (Qt_add rfl rfl (by omega) (by omega)) rfl ?_
          | refine TL_q (Qt_addw rfl rfl) rfl ?_
        refine TL_q (Qt_assign (.int .i64 _) rfl) rfl ?_
        refine TL_nil ?_
        refine X_loop _ (by repeat (first | with_reducible exact agree_refl | refine agree_upd rfl ?_ | refine agree_mix rfl ?_ | refine agree_setAll rfl ?_)) (⟨k + 1, by rw [show (x / 256 ^ (k + 1 - i) : Nat) = x / 256 ^ (k - i) / 256 from by rw [Nat.div_div_eq_div_mul, ← Nat.pow_succ]; congr 2; omega, ← quo_nat _ _ (by omega) (Nat.lt_of_le_of_lt (Nat.div_le_self _ _) (by omega))]; rfl, rfl, by omega, by omega⟩) (by show n - (k + 1 : Int).toNat < n - (k : Int).toNat; omega) ((Subs.st inferInstance))
      ·
        have p23 := h23
        try simp only [decide_eq_true_eq, decide_eq_false_iff_not, Bool.not_eq_true', Bool.not_eq_false', Option.isNone_iff_eq_none, ne_eq, Decidable.not_not, Int.not_lt, Int.not_le] at p23
        have hkk : k - i = n - 1 - i := by omega
        refine T_exit ?_
        refine X_then_exit ?_
        refine X_loop_exit ?_
        refine X_block_exit ?_
        refine X_then ?_
        refine T_region ?_
        refine TL_q (Qt_move (.slice _ _ _) rfl) rfl ?_
        refine TL_q (Qt_move (.int .u64 _) rfl) rfl ?_
        refine TL_q (Qt_rem rfl rfl (by omega)) rfl ?_
        refine TL_q (Qt_conv rfl rfl Try.underlying5) rfl ?_
        refine TL_e rfl (Ef_slice1 (v := .int .u8 (IntKind.u8.wrap _)) rfl (fun a32 c32 => ?_))
        refine TL_e rfl (Ef_appendb (n := IntKind.u8.wrap _) (sv := .slice _ _ _) (xv := .slice _ _ _) rfl rfl (wrap_u8_range _) (by simp; omega) rfl (fun a33 c33 => ?_))
        rw [u8Of_rem, hkk, ← fixed_take _ _ _ hi]
        refine TL_q (Qt_assign (.slice _ _ _) rfl) rfl ?_
        refine TL_nil ?_
        refine X_block ?_
        refine X_then ?_
        refine T_region ?_
        refine TL_q (Qt_move (.int .i64 _) rfl) rfl ?_
        first
          | refine TL_q (Qt_add rfl rfl (by omega) (by omega)) rfl ?_
          | refine TL_q (Qt_addw rfl rfl) rfl ?_
        refine TL_q (Qt_assign (.int .i64 _) rfl) rfl ?_
        refine TL_nil ?_
        refine X_loop _ (by repeat (first | with_reducible exact agree_refl | refine agree_upd rfl ?_ | refine agree_mix rfl ?_ | refine agree_setAll rfl ?_)) (⟨i + 1, a33, c33, rfl, rfl, by omega⟩) (by show n - (i + 1 : Int).toNat < n - (i : Int).toNat; omega) ((Subs.st inferInstance))
    ·
      have p15 := h15
      try simp only [decide_eq_true_eq, decide_eq_false_iff_not, Bool.not_eq_true', Bool.not_eq_false', Option.isNone_iff_eq_none, ne_eq, Decidable.not_not, Int.not_lt, Int.not_le] at p15
      have et : (fixed x n).take i = fixed x n := List.take_of_length_le (by rw [fixed_length]; omega)
      simp only [et]
      refine T_exit ?_
      refine X_then_exit ?_
      refine X_loop_exit ?_
      refine X_block_exit ?_
      refine X_then ?_
      refine T_seq ?_
      refine T_region ?_
      refine TL_q (Qt_move (.slice _ _ _) rfl) rfl ?_
      refine TL_q (Qt_assign (.slice _ _ _) rfl) rfl ?_
      refine TL_nil ?_
      refine X_then ?_
      refine T_ret ?_
      have e : fixedR (x : Int) (n : Int) = fixed x n := by simp [fixedR, hw5]
      simp only [e]
      exact X_ret ⟨a1, c1⟩ [_] Try.results52 ⟨rfl, trivial⟩ rfl (Subs.st inferInstance)
set_option maxHeartbeats 1000000 in
theorem rPacked_c {w0 : World} {H : List SA} {x : Int} (hx : 0 ≤ x) (hx2 : x < 18446744073709551616) :
    CT Try.prog w0 (H) 55 [.int .u64 x] (α := AC) (fun y => .slice y.a (packed x.toNat).length y.c) (fun y => row (.slice y.a (packed x.toNat).length y.c) 5 1 (bytesV (packed x.toNat)) :: H) := by
  refine CT_intro Try.func55 rfl Try.ntmps55 rfl ?_
  refine T_seq ?_
  refine T_region ?_
  refine TL_q (Qt_assign (.slice _ _ _) rfl) rfl ?_
  refine TL_nil ?_
  refine X_then ?_
  refine T_seq ?_
  refine T_region ?_
  refine TL_q (Qt_assign (.slice _ _ _) rfl) rfl ?_
  refine TL_nil ?_
  refine X_then ?_
  refine T_seq ?_
  refine T_block ?_
  obtain ⟨x, rfl⟩ := Int.eq_ofNat_of_zero_le hx
  refine T_loop [0, 3, 4, 5, 6, 7, 8, 9, 10, 11, 12, 13, 14] [0, 3] (fun vs H' => ∃ (y : Nat) (dn : List UInt8) (a : Option Addr) (c : Nat), vs = [.int .u64 (y : Int), .slice a dn.length c] ∧ H' = row (.slice a (dn).length c) 5 1 (bytesV (dn)) :: H ∧ dn ++ packed y = packed x ∧ dn.length ≤ 10 ∧ (128 ^ dn.length * y ≤ x)) (fun vs => match vs with | .int _ i :: _ => i.toNat | _ => 0) ⟨x, [], none, 0, rfl, rfl, rfl, by simp, by simp⟩ (fun w hw => hw.addNilB 5) ?_
  rintro τ0 _ _  ⟨y, dn, a1, c1, rfl, rfl, hd, hl2, hy⟩ _
  refine T_seq ?_
  refine T_seq ?_
  refine T_region ?_
  refine TL_q (Qt_move (.int .u64 _) rfl) rfl ?_
  refine TL_q (Qt_gtr rfl rfl) rfl ?_
  refine TL_nil ?_
  refine X_then ?_
  refine T_cond rfl (fun h5 => ?_) (fun h5 => ?_)
  ·
    have p5 := h5
    try simp only [decide_eq_true_eq, decide_eq_false_iff_not, Bool.not_eq_true', Bool.not_eq_false', Option.isNone_iff_eq_none, ne_eq, Decidable.not_not, Int.not_lt, Int.not_le] at p5
    have hyb : ¬ y < 128 := by omega
    have hy64 : y < 18446744073709551616 := by have h1 : 1 * y ≤ 128 ^ dn.length * y := Nat.mul_le_mul_right _ (Nat.pow_pos (by omega)); omega
    have hdy : 128 ^ (dn ++ [UInt8.ofNat (y % 128 + 128)]).length * (y / 128) ≤ x := by
      rw [List.length_append, List.length_singleton, Nat.pow_succ, Nat.mul_assoc]
      exact Nat.le_trans (Nat.mul_le_mul_left _ (by omega)) hy
    have hdl : (dn ++ [UInt8.ofNat (y % 128 + 128)]).length ≤ 10 := by
      rw [List.length_append, List.length_singleton]
      rcases Nat.lt_or_ge dn.length 10 with h | h
      · omega
      · have h10 : dn.length = 10 := by omega
        rw [h10] at hy
        omega
    refine T_skip ?_
    refine X_then ?_
    refine T_block ?_
    refine T_seq ?_
    refine T_region ?_
    refine TL_q (Qt_move (.slice _ _ _) rfl) rfl ?_
    refine TL_q (Qt_move (.int .u64 _) rfl) rfl ?_
    refine TL_q (Qt_rem rfl rfl (by omega)) rfl ?_
    refine TL_q (Qt_addw rfl rfl) rfl ?_
    refine TL_q (Qt_conv rfl rfl Try.underlying5) rfl ?_
    refine TL_e rfl (Ef_slice1 (v := .int .u8 (IntKind.u8.wrap _)) rfl (fun a11 c11 => ?_))
    refine TL_e rfl (Ef_appendb (n := IntKind.u8.wrap _) (sv := .slice _ _ _) (xv := .slice _ _ _) rfl rfl (wrap_u8_range _) (by first | omega | (simp; omega)) rfl (fun a12 c12 => ?_))
    rw [u8Of_rem128]
    refine TL_q (Qt_assign (.slice _ _ _) rfl) rfl ?_
    refine TL_nil ?_
    refine X_then ?_
    refine T_region ?_
    refine TL_q (Qt_move (.int .u64 _) rfl) rfl ?_
    refine TL_q (Qt_quo rfl rfl (by omega)) rfl ?_
    refine TL_q (Qt_assign (.int .u64 _) rfl) rfl ?_
    refine TL_nil ?_
    refine X_block ?_
    refine X_loop _ (by repeat (first | with_reducible exact agree_refl | refine agree_upd rfl ?_ | refine agree_mix rfl ?_ | refine agree_setAll rfl ?_)) (⟨y / 128, dn ++ [UInt8.ofNat (y % 128 + 128)], a12, c12, by rw [← quo_nat y 128 (by omega) hy64]; rfl, rfl, by rw [List.append_assoc, List.singleton_append, ← packed_big hyb]; exact hd, hdl, hdy⟩) (by show (IntKind.u64.wrap ((y : Int).tdiv ((128 : Nat) : Int))).toNat < (y : Int).toNat; rw [quo_nat y 128 (by omega) hy64]; omega) ((Subs.st inferInstance))
  ·
    have p5 := h5
    try simp only [decide_eq_true_eq, decide_eq_false_iff_not, Bool.not_eq_true', Bool.not_eq_false', Option.isNone_iff_eq_none, ne_eq, Decidable.not_not, Int.not_lt, Int.not_le] at p5
    have hyb : y < 128 := by omega
    rw [packed_small hyb] at hd
    refine T_exit ?_
    refine X_then_exit ?_
    refine X_loop_exit ?_
    refine X_block_exit ?_
    refine X_then ?_
    refine T_seq ?_
    refine T_region ?_
    refine TL_q (Qt_move (.slice _ _ _) rfl) rfl ?_
    refine TL_q (Qt_move (.int .u64 _) rfl) rfl ?_
    refine TL_q (Qt_conv rfl rfl Try.underlying5) rfl ?_
    refine TL_e rfl (Ef_slice1 (v := .int .u8 (IntKind.u8.wrap _)) rfl (fun a18 c18 => ?_))
    refine TL_e rfl (Ef_appendb (n := IntKind.u8.wrap _) (sv := .slice _ _ _) (xv := .slice _ _ _) rfl rfl (wrap_u8_range _) (by first | omega | (simp; omega)) rfl (fun a19 c19 => ?_))
    rw [u8Of_wrap]
    refine TL_q (Qt_assign (.slice _ _ _) rfl) rfl ?_
    refine TL_nil ?_
    refine X_then ?_
    refine T_seq ?_
    refine T_region ?_
    refine TL_q (Qt_move (.slice _ _ _) rfl) rfl ?_
    refine TL_q (Qt_assign (.slice _ _ _) rfl) rfl ?_
    refine TL_nil ?_
    refine X_then ?_
    refine T_ret ?_
    have e : packed (x : Int).toNat = dn ++ [UInt8.ofNat y] := hd.symm
    simp only [e]
    exact X_ret ⟨a19, c19⟩ [_] Try.results55 ⟨rfl, trivial⟩ rfl (Subs.st inferInstance)
set_option maxHeartbeats 1000000 in
theorem rText_c {w0 : World} {H : List SA} {a2 : Option Addr} {l2 : List UInt8} {c2 : Nat} [hr2 : RdB w0 H (.slice a2 l2.length c2) l2] (hl2 : l2.length ≤ 2147483000) :
    CT Try.prog w0 (H) 54 [.slice a2 l2.length c2] (α := AC) (fun y => .slice y.a (textB l2).length y.c) (fun y => row (.slice y.a (textB l2).length y.c) 5 1 (bytesV (textB l2)) :: H) := by
  refine CT_intro Try.func54 rfl Try.ntmps54 rfl ?_
  refine T_seq ?_
  refine T_region ?_
  refine TL_q (Qt_assign (.slice _ _ _) rfl) rfl ?_
  refine TL_nil ?_
  refine X_then ?_
  refine T_seq ?_
  refine T_region ?_
  refine TL_q (Qt_move (.slice _ _ _) rfl) rfl ?_
  refine TL_q (Qt_len_slice rfl Try.underlying24) rfl ?_
  refine TL_q (Qt_conv_u64 rfl rfl Try.underlying75 (by omega) (by omega)) rfl ?_
  refine TL_e rfl (Ef_call (rPacked_c (x := (l2.length : Int)) (by omega) (by omega)) rfl (fun x7 => ?_))
  rw [show (l2.length : Int).toNat = l2.length from rfl]
  refine TL_q (Qt_assign (.slice _ _ _) rfl) rfl ?_
  refine TL_nil ?_
  refine X_then ?_
  refine T_seq ?_
  refine T_region ?_
  refine TL_q (Qt_move (.slice _ _ _) rfl) rfl ?_
  refine TL_q (Qt_move (.slice _ _ _) rfl) rfl ?_
  refine TL_e rfl (Ef_appendB (sv := .slice _ _ _) (xv := .slice _ _ _) rfl rfl (by have := packed_length_le l2.length (by omega); simp; omega) rfl (fun a10 c10 => ?_))
  rw [show packed l2.length ++ l2 = textB l2 from rfl]
  refine TL_q (Qt_assign (.slice _ _ _) rfl) rfl ?_
  refine TL_nil ?_
  refine X_then ?_
  refine T_seq ?_
  refine T_region ?_
  refine TL_q (Qt_move (.slice _ _ _) rfl) rfl ?_
  refine TL_q (Qt_assign (.slice _ _ _) rfl) rfl ?_
  refine TL_nil ?_
  refine X_then ?_
  refine T_ret ?_
  exact X_ret ⟨a10, c10⟩ [_] Try.results54 ⟨rfl, trivial⟩ rfl (Subs.st inferInstance)
theorem toList_take {n : Nat} (h : Vector UInt8 n) (i : Nat) (hi : i < n) : h.toList.take i ++ [h[i]] = h.toList.take (i + 1) := by
  rw [List.take_succ_eq_append_getElem (by simpa using hi)]; simp
theorem u8Of_nat (b : UInt8) : u8Of (b.toNat : Int) = b := by simp [u8Of]

set_option maxHeartbeats 1000000 in
theorem rHash_c {w0 : World} {H : List SA} {h : Vector UInt8 32} :
    CT Try.prog w0 (H) 53 [.agg (hlist h).toArray] (α := AC) (fun y => .slice y.a h.toList.length y.c) (fun y => row (.slice y.a h.toList.length y.c) 5 1 (bytesV h.toList) :: H) := by
  refine CT_intro Try.func53 rfl Try.ntmps53 rfl ?_
  refine T_seq ?_
  refine T_region ?_
  refine TL_e rfl (Ef_boxN rfl (fun b1 => ?_))
  refine TL_q (Qt_assign (.slice _ _ _) rfl) rfl ?_
  refine TL_nil ?_
  refine X_then ?_
  refine T_seq ?_
  refine T_region ?_
  refine TL_q (Qt_assign (.slice _ _ _) rfl) rfl ?_
  refine TL_nil ?_
  refine X_then ?_
  refine T_seq ?_
  refine T_seq ?_
  refine T_region ?_
  refine TL_q (Qt_assign (.int .i64 _) rfl) rfl ?_
  refine TL_nil ?_
  refine X_then ?_
  refine T_block ?_
  refine T_loop [3, 4, 5, 6, 7, 8, 9, 10, 11, 12, 13, 14] [4, 3] (fun vs H' => ∃ (i : Nat) (a : Option Addr) (c : Nat), vs = [.int .i64 (i : Int), .slice a (h.toList.take i).length c] ∧ H' = row (.slice a (h.toList.take i).length c) 5 1 (bytesV (h.toList.take i)) :: blk b1 (.cells (hlist h).toArray 23 (0, 0)) :: H ∧ i ≤ 32) (fun vs => match vs with | .int _ i :: _ => 32 - i.toNat | _ => 0) ⟨0, none, 0, by rw [List.take_zero]; rfl, by rw [List.take_zero], by omega⟩ (fun w hw => hw.addNilB 5) ?_
  rintro τ0 _ _  ⟨i, a1, c1, rfl, rfl, hi0⟩ _
  refine T_seq ?_
  refine T_seq ?_
  refine T_region ?_
  refine TL_q (Qt_move (.int .i64 _) rfl) rfl ?_
  refine TL_q (Qt_lss rfl rfl) rfl ?_
  refine TL_nil ?_
  refine X_then ?_
  refine T_cond rfl (fun h6 => ?_) (fun h6 => ?_)
  ·
    have p6 := h6
    try simp only [decide_eq_true_eq, decide_eq_false_iff_not, Bool.not_eq_true', Bool.not_eq_false', Option.isNone_iff_eq_none, ne_eq, Decidable.not_not, Int.not_lt, Int.not_le] at p6
    have hi : i < 32 := by omega
    refine T_skip ?_
    refine X_then ?_
    refine T_seq ?_
    refine T_block ?_
    refine T_region ?_
    refine TL_q (Qt_move (.slice _ _ _) rfl) rfl ?_
    refine TL_q (Qt_move (.int .i64 _) rfl) rfl ?_
    refine TL_q (Qt_indexAddr_arr (sz := 1) rfl rfl Try.underlying23 rfl rfl (by omega) (by omega)) rfl ?_
    have hcell : CellAt (hlist h).toArray (0 + ((i : Int)).toNat * 1) (.int .u8 (h[i].toNat : Int)) := ⟨by simp [hlist, bytesV, byteV, hi]⟩
    refine TL_q (Qt_load1 rfl) rfl ?_
    refine TL_e rfl (Ef_slice1 (v := .int .u8 (h[i].toNat : Int)) rfl (fun a13 c13 => ?_))
    refine TL_e rfl (Ef_appendb (n := (h[i].toNat : Int)) (sv := .slice _ _ _) (xv := .slice _ _ _) rfl rfl ⟨by omega, by have := h[i].toNat_lt; omega⟩ (by simp; omega) rfl (fun a14 c14 => ?_))
    rw [u8Of_nat, toList_take h i hi]
    refine TL_q (Qt_assign (.slice _ _ _) rfl) rfl ?_
    refine TL_nil ?_
    refine X_block ?_
    refine X_then ?_
    refine T_region ?_
    refine TL_q (Qt_move (.int .i64 _) rfl) rfl ?_
    first
      | refine TL_q (Qt_add rfl rfl (by omega) (by omega)) rfl ?_
      | refine TL_q (Qt_addw rfl rfl) rfl ?_
    refine TL_q (Qt_assign (.int .i64 _) rfl) rfl ?_
    refine TL_nil ?_
    refine X_loop _ (by repeat (first | with_reducible exact agree_refl | refine agree_upd rfl ?_ | refine agree_mix rfl ?_ | refine agree_setAll rfl ?_)) (⟨i + 1, a14, c14, rfl, rfl, by omega⟩) (by show 32 - (i + 1 : Int).toNat < 32 - (i : Int).toNat; omega) ((Subs.st inferInstance))
  ·
    have p6 := h6
    try simp only [decide_eq_true_eq, decide_eq_false_iff_not, Bool.not_eq_true', Bool.not_eq_false', Option.isNone_iff_eq_none, ne_eq, Decidable.not_not, Int.not_lt, Int.not_le] at p6
    have et : h.toList.take i = h.toList := List.take_of_length_le (by simp; omega)
    simp only [et]
    refine T_exit ?_
    refine X_then_exit ?_
    refine X_loop_exit ?_
    refine X_block_exit ?_
    refine X_then ?_
    refine T_seq ?_
    refine T_region ?_
    refine TL_q (Qt_move (.slice _ _ _) rfl) rfl ?_
    refine TL_q (Qt_assign (.slice _ _ _) rfl) rfl ?_
    refine TL_nil ?_
    refine X_then ?_
    refine T_ret ?_
    exact X_ret ⟨a1, c1⟩ [_] Try.results53 ⟨rfl, trivial⟩ rfl (Subs.st inferInstance)
end Go.Proofs.Ytdjbhpdfkopdgaa
