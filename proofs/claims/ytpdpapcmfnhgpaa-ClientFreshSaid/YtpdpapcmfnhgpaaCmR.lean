/- Lists of bytes; walks: the references on numbers, texts, digests, and on what is alike. -/
import Derived.Test.YtpdpapcmfnhgpaaRdR
namespace Go.Proofs.Ytpdpapcmfnhgpaa
open Go.RowKit Go.Sx
set_option maxRecDepth 100000
set_option linter.unusedSimpArgs false
set_option linter.unusedVariables false
def textB (l : List UInt8) : List UInt8 := packed l.length ++ l
def u64 (k : Int) : Int := IntKind.u64.wrap k
theorem u64_range (k : Int) : 0 ≤ u64 k ∧ u64 k < 18446744073709551616 := by
  simp [u64, IntKind.wrap, IntKind.bits, IntKind.signed]; omega
def texts (l : List (List UInt8)) : List UInt8 := (l.map textB).flatten
theorem texts_snoc (l : List (List UInt8)) (x : List UInt8) : texts (l ++ [x]) = texts l ++ textB x := by simp [texts]
theorem textB_length (l : List UInt8) (h : l.length < 18446744073709551616) : (textB l).length ≤ 10 + l.length := by
  have := packed_length_le l.length h
  simp [textB]; omega
theorem texts_length (n : Nat) : ∀ l : List (List UInt8), (∀ x ∈ l, x.length ≤ n) → n ≤ 2147483647 → (texts l).length ≤ l.length * (10 + n)
  | [], _, _ => by simp [texts]
  | x :: l, h, hn => by
    have h1 := texts_length n l (fun y hy => h y (by simp [hy])) hn
    have h2 := h x (by simp)
    have h3 := textB_length x (by omega)
    simp only [texts, List.map_cons, List.flatten_cons, List.length_append, List.length_cons] at h1 ⊢
    rw [Nat.add_mul, Nat.one_mul]
    omega
theorem texts_cons (x : List UInt8) (l : List (List UInt8)) : texts (x :: l) = textB x ++ texts l := by simp [texts]
theorem take_get {α : Type} (l : List α) (k : Nat) (h : k < l.length) : l.take (k + 1) = l.take k ++ [l[k]] := List.take_succ_eq_append_getElem h
theorem quo_nat (x k : Nat) (hk : k ≠ 0) (h : x < 18446744073709551616) : IntKind.u64.wrap ((x : Int).tdiv (k : Int)) = ((x / k : Nat) : Int) := by
  have e : (x : Int).tdiv (k : Int) = ((x / k : Nat) : Int) := by rw [Int.ofNat_tdiv]
  have := Nat.div_le_self x k
  rw [e]
  generalize x / k = q at *
  exact wrap_u64 (by omega) (by omega)
theorem rem_nat (x k : Nat) : (x : Int).tmod (k : Int) = ((x % k : Nat) : Int) := by rw [Int.ofNat_tmod]
theorem u8Of_rem128 (x : Nat) : u8Of (IntKind.u8.wrap (IntKind.u64.wrap ((x : Int).tmod 128 + 128))) = UInt8.ofNat (x % 128 + 128) := by
  rw [show (128 : Int) = ((128 : Nat) : Int) from rfl, rem_nat, wrap_u64 (by omega) (by omega), ← Int.natCast_add, u8Of_wrap]
set_option maxHeartbeats 1000000 in
theorem rPacked_c {w0 : World} {H : List SA} {x : Int} (hx : 0 ≤ x) (hx2 : x < 18446744073709551616) :
    CT Try.prog w0 (H) 92 [.int .u64 x] (α := AC) (fun y => .slice y.a (packed x.toNat).length y.c) (fun y => row (.slice y.a (packed x.toNat).length y.c) 5 1 (bytesV (packed x.toNat)) :: H) := by
  refine CT_intro Try.func92 rfl Try.ntmps92 rfl ?_
  refine T_seq ?_
  refine T_region ?_
  refine TL_q (Qt_assign (.slice _ _ _) rfl) rfl ?_
  refine TL_nil ?_
  refine X_then ?_
  refine T_seq ?_
  refine T_region ?_
  refine TL_q (Qt_assign (.slice _ _ _) rfl) rfl ?_
  refine TL_nil ?_
  refine X_then ?_
  refine T_seq ?_
  refine T_block ?_
  obtain ⟨x, rfl⟩ := Int.eq_ofNat_of_zero_le hx
  refine T_loop [0, 3, 4, 5, 6, 7, 8, 9, 10, 11, 12, 13, 14] [0, 3] (fun vs H' => ∃ (y : Nat) (dn : List UInt8) (a : Option Addr) (c : Nat), vs = [.int .u64 (y : Int), .slice a dn.length c] ∧ H' = row (.slice a (dn).length c) 5 1 (bytesV (dn)) :: H ∧ dn ++ packed y = packed x ∧ dn.length ≤ 10 ∧ (128 ^ dn.length * y ≤ x)) (fun vs => match vs with | .int _ i :: _ => i.toNat | _ => 0) ⟨x, [], none, 0, rfl, rfl, rfl, by simp, by simp⟩ (fun w hw => hw.addNilB 5) ?_
  rintro τ0 _ _  ⟨y, dn, a1, c1, rfl, rfl, hd, hl2, hy⟩ _
  refine T_seq ?_
  refine T_seq ?_
  refine T_region ?_
  refine TL_q (Qt_move (.int .u64 _) rfl) rfl ?_
  refine TL_q (Qt_gtr rfl rfl) rfl ?_
  refine TL_nil ?_
  refine X_then ?_
  refine T_cond rfl (fun h5 => ?_) (fun h5 => ?_)
  ·
    have p5 := h5
    try simp only [decide_eq_true_eq, decide_eq_false_iff_not, Bool.not_eq_true', Bool.not_eq_false', Option.isNone_iff_eq_none, ne_eq, Decidable.not_not, Int.not_lt, Int.not_le] at p5
    have hyb : ¬ y < 128 := by omega
    have hy64 : y < 18446744073709551616 := by have h1 : 1 * y ≤ 128 ^ dn.length * y := Nat.mul_le_mul_right _ (Nat.pow_pos (by omega)); omega
    have hdy : 128 ^ (dn ++ [UInt8.ofNat (y % 128 + 128)]).length * (y / 128) ≤ x := by
      rw [List.length_append, List.length_singleton, Nat.pow_succ, Nat.mul_assoc]
      exact Nat.le_trans (Nat.mul_le_mul_left _ (by omega)) hy
    have hdl : (dn ++ [UInt8.ofNat (y % 128 + 128)]).length ≤ 10 := by
      rw [List.length_append, List.length_singleton]
      rcases Nat.lt_or_ge dn.length 10 with h | h
      · omega
      · have h10 : dn.length = 10 := by omega
        rw [h10] at hy
        omega
    refine T_skip ?_
    refine X_then ?_
    refine T_block ?_
    refine T_seq ?_
    refine T_region ?_
    refine TL_q (Qt_move (.slice _ _ _) rfl) rfl ?_
    refine TL_q (Qt_move (.int .u64 _) rfl) rfl ?_
    refine TL_q (Qt_rem rfl rfl (by omega)) rfl ?_
    refine TL_q (Qt_addw rfl rfl) rfl ?_
    refine TL_q (Qt_conv rfl rfl Try.underlying5) rfl ?_
    refine TL_e rfl (Ef_slice1 (v := .int .u8 (IntKind.u8.wrap _)) rfl (fun a11 c11 => ?_))
    refine TL_e rfl (Ef_appendb (n := IntKind.u8.wrap _) (sv := .slice _ _ _) (xv := .slice _ _ _) rfl rfl (wrap_u8_range _) (by first | omega | (simp; omega)) rfl (fun a12 c12 => ?_))
    rw [u8Of_rem128]
    refine TL_q (Qt_assign (.slice _ _ _) rfl) rfl ?_
    refine TL_nil ?_
    refine X_then ?_
    refine T_region ?_
    refine TL_q (Qt_move (.int .u64 _) rfl) rfl ?_
    refine TL_q (Qt_quo rfl rfl (by omega)) rfl ?_
    refine TL_q (Qt_assign (.int .u64 _) rfl) rfl ?_
    refine TL_nil ?_
    refine X_block ?_
    refine X_loop _ (by repeat (first | with_reducible exact agree_refl | refine agree_upd rfl ?_ | refine agree_mix rfl ?_ | refine agree_setAll rfl ?_)) (⟨y / 128, dn ++ [UInt8.ofNat (y % 128 + 128)], a12, c12, by rw [← quo_nat y 128 (by omega) hy64]; rfl, rfl, by rw [List.append_assoc, List.singleton_append, ← packed_big hyb]; exact hd, hdl, hdy⟩) (by show (IntKind.u64.wrap ((y : Int).tdiv ((128 : Nat) : Int))).toNat < (y : Int).toNat; rw [quo_nat y 128 (by omega) hy64]; omega) ((Subs.st inferInstance))
  ·
    have p5 := h5
    try simp only [decide_eq_true_eq, decide_eq_false_iff_not, Bool.not_eq_true', Bool.not_eq_false', Option.isNone_iff_eq_none, ne_eq, Decidable.not_not, Int.not_lt, Int.not_le] at p5
    have hyb : y < 128 := by omega
    rw [packed_small hyb] at hd
    refine T_exit ?_
    refine X_then_exit ?_
    refine X_loop_exit ?_
    refine X_block_exit ?_
    refine X_then ?_
    refine T_seq ?_
    refine T_region ?_
    refine TL_q (Qt_move (.slice _ _ _) rfl) rfl ?_
    refine TL_q (Qt_move (.int .u64 _) rfl) rfl ?_
    refine TL_q (Qt_conv rfl rfl Try.underlying5) rfl ?_
    refine TL_e rfl (Ef_slice1 (v := .int .u8 (IntKind.u8.wrap _)) rfl (fun a18 c18 => ?_))
    refine TL_e rfl (Ef_appendb (n := IntKind.u8.wrap _) (sv := .slice _ _ _) (xv := .slice _ _ _) rfl rfl (wrap_u8_range _) (by first | omega | (simp; omega)) rfl (fun a19 c19 => ?_))
    rw [u8Of_wrap]
    refine TL_q (Qt_assign (.slice _ _ _) rfl) rfl ?_
    refine TL_nil ?_
    refine X_then ?_
    refine T_seq ?_
    refine T_region ?_
    refine TL_q (Qt_move (.slice _ _ _) rfl) rfl ?_
    refine TL_q (Qt_assign (.slice _ _ _) rfl) rfl ?_
    refine TL_nil ?_
    refine X_then ?_
    refine T_ret ?_
    have e : packed (x : Int).toNat = dn ++ [UInt8.ofNat y] := hd.symm
    simp only [e]
    exact X_ret ⟨a19, c19⟩ [_] Try.results92 ⟨rfl, trivial⟩ rfl (Subs.st inferInstance)
end Go.Proofs.Ytpdpapcmfnhgpaa
