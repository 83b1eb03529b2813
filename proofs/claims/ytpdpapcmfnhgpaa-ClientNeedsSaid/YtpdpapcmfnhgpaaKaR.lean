/- Worlds: their bytes; walks of folded numbers, views, cells. -/
import Derived.Test.YtpdpapcmfnhgpaaTk
import Derived.Test.YtpdpapcmfnhgpaaMbR
import Derived.Test.YtpdpapcmfnhgpaaCmR
namespace Go.Proofs.Ytpdpapcmfnhgpaa
open Go.RowKit Go.Sx
set_option maxRecDepth 100000
set_option linter.unusedSimpArgs false
set_option linter.unusedVariables false
/-- A number with a sign, folded. -/
def foldN (x : Int) : Nat := if x < 0 then (2 * (-(x + 1)) + 1).toNat else (2 * x).toNat
theorem foldN_lt {x : Int} (h : -9223372036854775808 ≤ x ∧ x ≤ 9223372036854775807) : foldN x < 18446744073709551616 := by
  unfold foldN; split <;> omega
theorem wrap_i64_u64 {x : Int} (h : 0 ≤ x) (h2 : x < 18446744073709551616) : IntKind.u64.wrap x = x := by
  simp [IntKind.wrap, IntKind.bits, IntKind.signed]; omega
theorem fold_neg {x : Int} (h : -9223372036854775808 ≤ x) (hx : x < 0) : IntKind.u64.wrap (IntKind.u64.wrap (2 * IntKind.u64.wrap (IntKind.i64.wrap (0 - IntKind.i64.wrap (x + 1)))) + 1) = (foldN x : Int) := by
  have e : foldN x = (2 * (-(x + 1)) + 1).toNat := if_pos hx
  have e1 : IntKind.i64.wrap (x + 1) = x + 1 := by simp [IntKind.wrap, IntKind.bits, IntKind.signed]; omega
  have e2 : IntKind.i64.wrap (0 - (x + 1)) = -(x + 1) := by simp [IntKind.wrap, IntKind.bits, IntKind.signed]; omega
  rw [e1, e2, wrap_i64_u64 (x := -(x + 1)) (by omega) (by omega), wrap_i64_u64 (x := 2 * -(x + 1)) (by omega) (by omega), wrap_i64_u64 (by omega) (by omega), e]
  omega
theorem fold_pos {x : Int} (h : x ≤ 9223372036854775807) (hx : ¬ x < 0) : IntKind.u64.wrap (2 * IntKind.u64.wrap x) = (foldN x : Int) := by
  have e : foldN x = (2 * x).toNat := if_neg hx
  rw [wrap_i64_u64 (x := x) (by omega) (by omega), wrap_i64_u64 (by omega) (by omega), e]
  omega
theorem xor_ones (a : Nat) (h : a < 18446744073709551616) : a ^^^ 18446744073709551615 = 18446744073709551615 - a := by
  have := BitVec.toNat_not (x := BitVec.ofNat 64 a)
  have h2 : (BitVec.ofNat 64 a) ^^^ BitVec.allOnes 64 = ~~~ BitVec.ofNat 64 a := BitVec.xor_allOnes
  have h3 := congrArg BitVec.toNat h2
  rw [BitVec.toNat_xor, this] at h3
  simp at h3
  rw [Nat.mod_eq_of_lt h] at h3
  exact h3
/-- The same by bits. -/
theorem fold_bits {x : Int} (h : -9223372036854775808 ≤ x ∧ x ≤ 9223372036854775807) (y z : Int) (hy : y = if x < 0 then 2 * x + 18446744073709551616 else 2 * x) (hz : z = if x < 0 then 18446744073709551615 else 0) :
    IntKind.u64.wrap ((BitVec.ofInt IntKind.u64.bits y ^^^ BitVec.ofInt IntKind.u64.bits z).toNat : Int) = (foldN x : Int) := by
  have key : ∀ a b : Nat, a < 18446744073709551616 → b < 18446744073709551616 → ((BitVec.ofInt IntKind.u64.bits (a : Int) ^^^ BitVec.ofInt IntKind.u64.bits (b : Int)).toNat) = a ^^^ b := fun a b ha hb => by
    show (BitVec.ofInt 64 (a : Int) ^^^ BitVec.ofInt 64 (b : Int)).toNat = a ^^^ b
    rw [BitVec.ofInt_natCast, BitVec.ofInt_natCast, BitVec.toNat_xor, BitVec.toNat_ofNat, BitVec.toNat_ofNat, Nat.mod_eq_of_lt (by simpa using ha), Nat.mod_eq_of_lt (by simpa using hb)]
  by_cases hx : x < 0
  · rw [if_pos hx] at hy hz
    obtain ⟨a, ha⟩ := Int.eq_ofNat_of_zero_le (show 0 ≤ y by omega)
    subst hz
    rw [ha, show (18446744073709551615 : Int) = ((18446744073709551615 : Nat) : Int) from rfl, key a _ (by omega) (by omega), xor_ones a (by omega), wrap_i64_u64 (by omega) (by omega)]
    have e : foldN x = (2 * (-(x + 1)) + 1).toNat := if_pos hx
    rw [e]; omega
  · rw [if_neg hx] at hy hz
    obtain ⟨a, ha⟩ := Int.eq_ofNat_of_zero_le (show 0 ≤ y by omega)
    subst hz
    rw [ha, show (0 : Int) = ((0 : Nat) : Int) from rfl, key a _ (by omega) (by omega), Nat.xor_zero, wrap_i64_u64 (by omega) (by omega)]
    have e : foldN x = (2 * x).toNat := if_neg hx
    rw [e]; omega
theorem fixed_one (x : Nat) : fixed x 1 = [UInt8.ofNat (x % 256)] := by simp [fixed]
theorem fixed_u8 (x : Int) : fixed (IntKind.u64.wrap x).toNat 1 = [u8Of (IntKind.u8.wrap x)] := by
  rw [fixed_one]
  congr 1
  simp only [u8Of, IntKind.wrap, IntKind.bits, IntKind.signed]
  apply UInt8.toNat_inj.1
  simp
  omega
theorem u64_nonneg (x : Int) : 0 ≤ IntKind.u64.wrap x := by simp [IntKind.wrap, IntKind.bits, IntKind.signed]; omega
theorem fold_a {x : Int} (h : -9223372036854775808 ≤ x ∧ x ≤ 9223372036854775807) : IntKind.u64.wrap (IntKind.u64.wrap x * 2 ^ min (1 : Int).toNat IntKind.u64.bits) = if x < 0 then 2 * x + 18446744073709551616 else 2 * x := by
  simp [IntKind.wrap, IntKind.bits, IntKind.signed]; split <;> omega
theorem fold_b {x : Int} (h : -9223372036854775808 ≤ x ∧ x ≤ 9223372036854775807) : IntKind.u64.wrap (x.fdiv (2 ^ min (63 : Int).toNat IntKind.i64.bits)) = if x < 0 then 18446744073709551615 else 0 := by
  have e : (2 : Int) ^ min (63 : Int).toNat IntKind.i64.bits = 9223372036854775808 := by decide
  rw [e, Int.fdiv_eq_ediv_of_nonneg _ (by decide)]
  split
  · have : x / 9223372036854775808 = -1 := by omega
    rw [this]; decide
  · have : x / 9223372036854775808 = 0 := by omega
    rw [this]; decide
set_option maxHeartbeats 1000000 in
theorem fold_c {w0 : World} {H : List SA} {x : Int} (hx : -9223372036854775808 ≤ x ∧ x ≤ 9223372036854775807) :
    CT Try.prog w0 (H) 154 [.int .i64 x] (α := Unit) (fun _ => .int .u64 (foldN x : Int)) (fun _ => H) := by
  refine CT_intro Try.func154 rfl Try.ntmps154 rfl ?_
  refine T_seq ?_
  refine T_region ?_
  refine TL_q (Qt_assign (.int .u64 _) rfl) rfl ?_
  refine TL_nil ?_
  refine X_then ?_
  refine T_seq ?_
  refine T_region ?_
  refine TL_q (Qt_move (.int .i64 _) rfl) rfl ?_
  refine TL_q (Qt_conv rfl rfl Try.underlying167) rfl ?_
  refine TL_q (Qt_shl rfl rfl (by omega)) rfl ?_
  refine TL_q (Qt_move (.int .i64 _) rfl) rfl ?_
  refine TL_q (Qt_shr rfl rfl (by omega)) rfl ?_
  refine TL_q (Qt_conv rfl rfl Try.underlying167) rfl ?_
  refine TL_q (Qt_xor rfl rfl) rfl ?_
  refine TL_q (Qt_assign (.int .u64 _) rfl) rfl ?_
  refine TL_nil ?_
  refine X_then ?_
  refine T_ret ?_
  exact X_ret () [.int .u64 (foldN x : Int)] Try.results154 ⟨congrArg (Value.int .u64) (fold_bits hx _ _ (fold_a hx) (fold_b hx)), trivial⟩ rfl (Subs.st inferInstance)
set_option maxHeartbeats 1000000 in
theorem rFold_c {w0 : World} {H : List SA} {x : Int} (hx : -9223372036854775808 ≤ x ∧ x ≤ 9223372036854775807) :
    CT Try.prog w0 (H) 118 [.int .i64 x] (α := Unit) (fun _ => .int .u64 (foldN x : Int)) (fun _ => H) := by
  refine CT_intro Try.func118 rfl Try.ntmps118 rfl ?_
  refine T_seq ?_
  refine T_region ?_
  refine TL_q (Qt_assign (.int .u64 _) rfl) rfl ?_
  refine TL_nil ?_
  refine X_then ?_
  refine T_seq ?_
  refine T_seq ?_
  refine T_region ?_
  refine TL_q (Qt_move (.int .i64 _) rfl) rfl ?_
  refine TL_q (Qt_lss rfl rfl) rfl ?_
  refine TL_nil ?_
  refine X_then ?_
  refine T_cond rfl (fun h4 => ?_) (fun h4 => ?_)
  ·
    have p4 := h4
    try simp only [decide_eq_true_eq, decide_eq_false_iff_not, Bool.not_eq_true', Bool.not_eq_false', Option.isNone_iff_eq_none, ne_eq, Decidable.not_not, Int.not_lt, Int.not_le] at p4
    refine T_seq ?_
    refine T_region ?_
    refine TL_q (Qt_move (.int .i64 _) rfl) rfl ?_
    refine TL_q (Qt_addw rfl rfl) rfl ?_
    refine TL_q (Qt_neg rfl) rfl ?_
    refine TL_q (Qt_conv rfl rfl Try.underlying167) rfl ?_
    refine TL_q (Qt_mulw rfl rfl) rfl ?_
    refine TL_q (Qt_addw rfl rfl) rfl ?_
    refine TL_q (Qt_assign (.int .u64 _) rfl) rfl ?_
    refine TL_nil ?_
    refine X_then ?_
    refine T_ret ?_
    refine X_then_ret ?_
    exact X_ret () [.int .u64 (foldN x : Int)] Try.results118 ⟨congrArg (Value.int .u64) (fold_neg hx.1 (by omega)), trivial⟩ rfl (Subs.st inferInstance)
  ·
    have p4 := h4
    try simp only [decide_eq_true_eq, decide_eq_false_iff_not, Bool.not_eq_true', Bool.not_eq_false', Option.isNone_iff_eq_none, ne_eq, Decidable.not_not, Int.not_lt, Int.not_le] at p4
    refine T_skip ?_
    refine X_then ?_
    refine T_seq ?_
    refine T_region ?_
    refine TL_q (Qt_move (.int .i64 _) rfl) rfl ?_
    refine TL_q (Qt_conv rfl rfl Try.underlying167) rfl ?_
    refine TL_q (Qt_mulw rfl rfl) rfl ?_
    refine TL_q (Qt_assign (.int .u64 _) rfl) rfl ?_
    refine TL_nil ?_
    refine X_then ?_
    refine T_ret ?_
    exact X_ret () [.int .u64 (foldN x : Int)] Try.results118 ⟨congrArg (Value.int .u64) (fold_pos hx.2 (by omega)), trivial⟩ rfl (Subs.st inferInstance)
set_option maxHeartbeats 1000000 in
theorem putFolded_c {w0 : World} {H : List SA} {a : Option Addr} {l : List UInt8} {c : Nat} [hr : RdB w0 H (.slice a l.length c) l] (hl : l.length ≤ 4294967200) {x : Int} (hx : -9223372036854775808 ≤ x ∧ x ≤ 9223372036854775807) :
    CT Try.prog w0 (H) 108 [.slice a l.length c, .int .i64 x] (α := AC) (fun y => .slice y.a (l ++ packed (foldN x)).length y.c) (fun y => row (.slice y.a (l ++ packed (foldN x)).length y.c) 5 1 (bytesV (l ++ packed (foldN x))) :: H) := by
  refine CT_intro Try.func108 rfl Try.ntmps108 rfl ?_
  refine T_seq ?_
  refine T_region ?_
  refine TL_q (Qt_assign (.slice _ _ _) rfl) rfl ?_
  refine TL_nil ?_
  refine X_then ?_
  refine T_seq ?_
  refine T_region ?_
  refine TL_q (Qt_move (.slice _ _ _) rfl) rfl ?_
  refine TL_q (Qt_move (.int .i64 _) rfl) rfl ?_
  refine TL_e rfl (Ef_call (fold_c hx) rfl (fun x7 => ?_))
  refine TL_e rfl (Ef_call (putPacked_c (x := (foldN x : Int)) hl (by omega) (by have := foldN_lt hx; omega)) rfl (fun x8 => ?_))
  rw [Int.toNat_natCast]
  refine TL_q (Qt_assign (.slice _ _ _) rfl) rfl ?_
  refine TL_nil ?_
  refine X_then ?_
  refine T_ret ?_
  exact X_ret ⟨x8.a, x8.c⟩ [_] Try.results108 ⟨rfl, trivial⟩ rfl (Subs.st inferInstance)
end Go.Proofs.Ytpdpapcmfnhgpaa
