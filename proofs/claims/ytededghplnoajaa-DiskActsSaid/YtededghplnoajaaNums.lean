/- Walks: what the functions of package nums that put numbers and texts compute. -/
import Derived.Test.YtededghplnoajaaTy
namespace Go.Proofs.Ytededghplnoajaa
open Go.RowKit Go.Sx
set_option maxRecDepth 100000
set_option linter.unusedSimpArgs false
set_option linter.unusedVariables false

def wideB (n : Int) : Bool := decide (n = 1) || decide (n = 2) || decide (n = 4) || decide (n = 8)
def fixed (x n : Nat) : List UInt8 := (List.range n).map fun i => UInt8.ofNat (x / 256 ^ (n - 1 - i) % 256)
theorem fixed_length (x n : Nat) : (fixed x n).length = n := by simp [fixed]
theorem fixed_take (x n i : Nat) (hi : i < n) : (fixed x n).take (i + 1) = (fixed x n).take i ++ [UInt8.ofNat (x / 256 ^ (n - 1 - i) % 256)] := by
  rw [List.take_succ_eq_append_getElem (by simpa [fixed] using hi)]
  simp [fixed]
def putFixed (l : List UInt8) (x : Int) (n : Int) : List UInt8 := if wideB n then l ++ fixed x.toNat n.toNat else l
def packed (x : Nat) : List UInt8 := if h : x < 128 then [UInt8.ofNat x] else UInt8.ofNat (x % 128 + 128) :: packed (x / 128)
termination_by x
decreasing_by omega
theorem packed_small {x : Nat} (h : x < 128) : packed x = [UInt8.ofNat x] := by rw [packed, dif_pos h]
theorem packed_big {x : Nat} (h : ¬ x < 128) : packed x = UInt8.ofNat (x % 128 + 128) :: packed (x / 128) := by rw [packed, dif_neg h]
theorem u8Of_wrap (x : Nat) : u8Of (IntKind.u8.wrap (x : Int)) = UInt8.ofNat x := by
  have : IntKind.u8.wrap (x : Int) = ((x % 256 : Nat) : Int) := by simp [IntKind.wrap, IntKind.bits, IntKind.signed]
  rw [this, u8Of, Int.toNat_natCast]
  apply UInt8.toNat_inj.1
  simp
theorem u8Of_or (x : Nat) : u8Of (IntKind.u8.wrap ((BitVec.ofInt IntKind.u8.bits (IntKind.u8.wrap (x : Int)) ||| BitVec.ofInt IntKind.u8.bits 128).toNat : Int)) = UInt8.ofNat (x % 128 + 128) := by
  rw [u8Of_wrap]
  have h1 : IntKind.u8.wrap (x : Int) = ((x % 256 : Nat) : Int) := by simp [IntKind.wrap, IntKind.bits, IntKind.signed]
  rw [h1]
  have key : ∀ z : Fin 256, UInt8.ofNat ((BitVec.ofInt 8 ((z.val : Nat) : Int) ||| BitVec.ofInt 8 128).toNat) = UInt8.ofNat (z.val % 128 + 128) := by decide +kernel
  have := key ⟨x % 256, by omega⟩
  refine this.trans ?_
  congr 2
  show x % 256 % 128 = x % 128
  omega
theorem u8Of_fixed {x n i : Nat} (hi : i < n) (hn : n ≤ 8) : u8Of (IntKind.u8.wrap ((x : Int).fdiv (2 ^ (min ((8 : Int) * ((n : Int) - 1 - (i : Int))).toNat IntKind.u64.bits)))) = UInt8.ofNat (x / 256 ^ (n - 1 - i) % 256) := by
  have e1 : ((8 : Int) * ((n : Int) - 1 - (i : Int))).toNat = 8 * (n - 1 - i) := by omega
  have e2 : min (8 * (n - 1 - i)) IntKind.u64.bits = 8 * (n - 1 - i) := by simp only [IntKind.bits]; omega
  rw [e1, e2, Int.fdiv_eq_ediv_of_nonneg _ (by exact Int.pow_nonneg (by decide))]
  have e3 : ((x : Int) / 2 ^ (8 * (n - 1 - i))) = ((x / 256 ^ (n - 1 - i) : Nat) : Int) := by
    rw [show (256 : Nat) = 2 ^ 8 from rfl, ← Nat.pow_mul]
    push_cast
    rfl
  rw [e3, u8Of_wrap]
  apply UInt8.toNat_inj.1
  simp
theorem wideB_le {n : Int} (h : wideB n = true) : n = 1 ∨ n = 2 ∨ n = 4 ∨ n = 8 := by simpa [wideB, or_assoc] using h

set_option maxHeartbeats 1000000 in
theorem clone_c {w0 : World} {H : List SA} {a : Option Addr} {l : List UInt8} {c : Nat} [hr : RdB w0 H (.slice a l.length c) l] (hl : l.length ≤ 4294967296) :
    CT Try.prog w0 (H) 32 [.slice a l.length c] (α := AC) (fun x => .slice x.a l.length x.c) (fun x => row (.slice x.a l.length x.c) 5 1 (bytesV l) :: H) := by
  refine CT_intro Try.func32 rfl Try.ntmps32 rfl ?_
  refine T_seq ?_
  refine T_region ?_
  refine TL_q (Qt_assign (.slice _ _ _) rfl) rfl ?_
  refine TL_nil ?_
  refine X_then ?_
  refine T_seq ?_
  refine T_seq ?_
  refine T_region ?_
  refine TL_q (Qt_move (.slice _ _ _) rfl) rfl ?_
  refine TL_q (Qt_slice_nil rfl rfl Try.underlying32) rfl ?_
  refine TL_nil ?_
  refine X_then ?_
  refine T_cond rfl (fun h4 => ?_) (fun h4 => ?_)
  ·
    have p4 := h4
    try simp only [decide_eq_true_eq, decide_eq_false_iff_not, Bool.not_eq_true', Bool.not_eq_false', Option.isNone_iff_eq_none, ne_eq, Decidable.not_not, Int.not_lt, Int.not_le] at p4
    refine T_seq ?_
    refine T_region ?_
    refine TL_q (Qt_assign (.slice _ _ _) rfl) rfl ?_
    refine TL_nil ?_
    refine X_then ?_
    refine T_ret ?_
    refine X_then_ret ?_
    subst p4
    refine X_know (fun w hw => BytesAt.none (hr.rd w hw)) (fun hnil => ?_)
    subst hnil
    exact X_ret ⟨none, 0⟩ [.slice none 0 0] Try.results32 ⟨rfl, trivial⟩ rfl (fun w hw => hw.addNilB 5)
  ·
    have p4 := h4
    try simp only [decide_eq_true_eq, decide_eq_false_iff_not, Bool.not_eq_true', Bool.not_eq_false', Option.isNone_iff_eq_none, ne_eq, Decidable.not_not, Int.not_lt, Int.not_le] at p4
    refine T_skip ?_
    refine X_then ?_
    refine T_seq ?_
    refine T_region ?_
    refine TL_e rfl (Ef_slice0 (fun a5 c5 => ?_))
    refine TL_q (Qt_move (.slice _ _ _) rfl) rfl ?_
    refine TL_e rfl (Ef_appendB (sv := .slice _ _ _) (xv := .slice _ _ _) rfl rfl (by simp; omega) rfl (fun a7 c7 => ?_))
    simp only [List.nil_append]
    refine TL_q (Qt_assign (.slice _ _ _) rfl) rfl ?_
    refine TL_nil ?_
    refine X_then ?_
    refine T_ret ?_
    exact X_ret ⟨a7, c7⟩ [_] Try.results32 ⟨rfl, trivial⟩ rfl (Subs.st inferInstance)
theorem packed_length_le (x : Nat) (h : x < 18446744073709551616) : (packed x).length ≤ 10 := by
  have key : ∀ (k : Nat) (x : Nat), x < 128 ^ (k + 1) → (packed x).length ≤ k + 1 := by
    intro k
    induction k with
    | zero => intro x hx; rw [packed_small (by simpa using hx)]; simp
    | succ k ih =>
      intro x hx
      by_cases h : x < 128
      · rw [packed_small h]; simp
      · rw [packed_big h, List.length_cons]
        have : x / 128 < 128 ^ (k + 1) := by rw [Nat.pow_succ] at hx; exact Nat.div_lt_of_lt_mul (by rw [Nat.mul_comm]; exact hx)
        have := ih _ this
        omega
  exact key 9 x (by omega)
end Go.Proofs.Ytededghplnoajaa
