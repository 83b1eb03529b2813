/- Worlds: their bytes; walks of folded numbers, views, cells. -/
import Derived.Test.YtldnfbghjnhklaaGreatDoorTk
import Derived.Test.YtldnfbghjnhklaaGreatDoorVi
import Derived.Test.YtldnfbghjnhklaaGreatDoorCm
namespace Go.Proofs.YtldnfbghjnhklaaGreatDoor
open Go.RowKit Go.Sx
set_option maxRecDepth 100000
set_option linter.unusedSimpArgs false
set_option linter.unusedVariables false
/-- A number with a sign, folded. -/
def foldN (x : Int) : Nat := if x < 0 then (2 * (-(x + 1)) + 1).toNat else (2 * x).toNat
theorem foldN_lt {x : Int} (h : -9223372036854775808 ≤ x ∧ x ≤ 9223372036854775807) : foldN x < 18446744073709551616 := by
  unfold foldN; split <;> omega
theorem wrap_i64_u64 {x : Int} (h : 0 ≤ x) (h2 : x < 18446744073709551616) : IntKind.u64.wrap x = x := by
  simp [IntKind.wrap, IntKind.bits, IntKind.signed]; omega
theorem fold_neg {x : Int} (h : -9223372036854775808 ≤ x) (hx : x < 0) : IntKind.u64.wrap (IntKind.u64.wrap (2 * IntKind.u64.wrap (IntKind.i64.wrap (0 - IntKind.i64.wrap (x + 1)))) + 1) = (foldN x : Int) := by
  have e : foldN x = (2 * (-(x + 1)) + 1).toNat := if_pos hx
  have e1 : IntKind.i64.wrap (x + 1) = x + 1 := by simp [IntKind.wrap, IntKind.bits, IntKind.signed]; omega
  have e2 : IntKind.i64.wrap (0 - (x + 1)) = -(x + 1) := by simp [IntKind.wrap, IntKind.bits, IntKind.signed]; omega
  rw [e1, e2, wrap_i64_u64 (x := -(x + 1)) (by omega) (by omega), wrap_i64_u64 (x := 2 * -(x + 1)) (by omega) (by omega), wrap_i64_u64 (by omega) (by omega), e]
  omega
theorem fold_pos {x : Int} (h : x ≤ 9223372036854775807) (hx : ¬ x < 0) : IntKind.u64.wrap (2 * IntKind.u64.wrap x) = (foldN x : Int) := by
  have e : foldN x = (2 * x).toNat := if_neg hx
  rw [wrap_i64_u64 (x := x) (by omega) (by omega), wrap_i64_u64 (by omega) (by omega), e]
  omega
theorem xor_ones (a : Nat) (h : a < 18446744073709551616) : a ^^^ 18446744073709551615 = 18446744073709551615 - a := by
  have := BitVec.toNat_not (x := BitVec.ofNat 64 a)
  have h2 : (BitVec.ofNat 64 a) ^^^ BitVec.allOnes 64 = ~~~ BitVec.ofNat 64 a := BitVec.xor_allOnes
  have h3 := congrArg BitVec.toNat h2
  rw [BitVec.toNat_xor, this] at h3
  simp at h3
  rw [Nat.mod_eq_of_lt h] at h3
  exact h3
/-- The same by bits. -/
theorem fold_bits {x : Int} (h : -9223372036854775808 ≤ x ∧ x ≤ 9223372036854775807) (y z : Int) (hy : y = if x < 0 then 2 * x + 18446744073709551616 else 2 * x) (hz : z = if x < 0 then 18446744073709551615 else 0) :
    IntKind.u64.wrap ((BitVec.ofInt IntKind.u64.bits y ^^^ BitVec.ofInt IntKind.u64.bits z).toNat : Int) = (foldN x : Int) := by
  have key : ∀ a b : Nat, a < 18446744073709551616 → b < 18446744073709551616 → ((BitVec.ofInt IntKind.u64.bits (a : Int) ^^^ BitVec.ofInt IntKind.u64.bits (b : Int)).toNat) = a ^^^ b := fun a b ha hb => by
    show (BitVec.ofInt 64 (a : Int) ^^^ BitVec.ofInt 64 (b : Int)).toNat = a ^^^ b
    rw [BitVec.ofInt_natCast, BitVec.ofInt_natCast, BitVec.toNat_xor, BitVec.toNat_ofNat, BitVec.toNat_ofNat, Nat.mod_eq_of_lt (by simpa using ha), Nat.mod_eq_of_lt (by simpa using hb)]
  by_cases hx : x < 0
  · rw [if_pos hx] at hy hz
    obtain ⟨a, ha⟩ := Int.eq_ofNat_of_zero_le (show 0 ≤ y by omega)
    subst hz
    rw [ha, show (18446744073709551615 : Int) = ((18446744073709551615 : Nat) : Int) from rfl, key a _ (by omega) (by omega), xor_ones a (by omega), wrap_i64_u64 (by omega) (by omega)]
    have e : foldN x = (2 * (-(x + 1)) + 1).toNat := if_pos hx
    rw [e]; omega
  · rw [if_neg hx] at hy hz
    obtain ⟨a, ha⟩ := Int.eq_ofNat_of_zero_le (show 0 ≤ y by omega)
    subst hz
    rw [ha, show (0 : Int) = ((0 : Nat) : Int) from rfl, key a _ (by omega) (by omega), Nat.xor_zero, wrap_i64_u64 (by omega) (by omega)]
    have e : foldN x = (2 * x).toNat := if_neg hx
    rw [e]; omega
theorem fixed_one (x : Nat) : fixed x 1 = [UInt8.ofNat (x % 256)] := by simp [fixed]
theorem fixed_u8 (x : Int) : fixed (IntKind.u64.wrap x).toNat 1 = [u8Of (IntKind.u8.wrap x)] := by
  rw [fixed_one]
  congr 1
  simp only [u8Of, IntKind.wrap, IntKind.bits, IntKind.signed]
  apply UInt8.toNat_inj.1
  simp
  omega
theorem u64_nonneg (x : Int) : 0 ≤ IntKind.u64.wrap x := by simp [IntKind.wrap, IntKind.bits, IntKind.signed]; omega
theorem u64_lt (x : Int) : IntKind.u64.wrap x < 18446744073709551616 := by simp [IntKind.wrap, IntKind.bits, IntKind.signed]; omega
theorem putFixed_2k (l : List UInt8) (x : Int) : putFixed l x 2 = l ++ fixed x.toNat 2 := rfl
theorem putFixed_1k (l : List UInt8) (x : Int) : putFixed l x 1 = l ++ fixed x.toNat 1 := rfl
theorem fold_a {x : Int} (h : -9223372036854775808 ≤ x ∧ x ≤ 9223372036854775807) : IntKind.u64.wrap (IntKind.u64.wrap x * 2 ^ min (1 : Int).toNat IntKind.u64.bits) = if x < 0 then 2 * x + 18446744073709551616 else 2 * x := by
  simp [IntKind.wrap, IntKind.bits, IntKind.signed]; split <;> omega
theorem fold_b {x : Int} (h : -9223372036854775808 ≤ x ∧ x ≤ 9223372036854775807) : IntKind.u64.wrap (x.fdiv (2 ^ min (63 : Int).toNat IntKind.i64.bits)) = if x < 0 then 18446744073709551615 else 0 := by
  have e : (2 : Int) ^ min (63 : Int).toNat IntKind.i64.bits = 9223372036854775808 := by decide
  rw [e, Int.fdiv_eq_ediv_of_nonneg _ (by decide)]
  split
  · have : x / 9223372036854775808 = -1 := by omega
    rw [this]; decide
  · have : x / 9223372036854775808 = 0 := by omega
    rw [this]; decide
def viewB (num : Int) (mk : Nat) : List UInt8 := if rightV num mk = true then fixed (IntKind.u64.wrap num).toNat 2 ++ fixed mk 2 else []
theorem viewB_len (num : Int) (mk : Nat) : (viewB num mk).length ≤ 4 := by
  unfold viewB; split
  · rw [List.length_append, fixed_length, fixed_length]; exact Nat.le_refl _
  · simp
def cellB (cs : Vector CellV 16) (i : Nat) : List UInt8 := if (cs.toList.getD i CellV.zero).there = true then fixed i 1 ++ packed (foldN (cs.toList.getD i CellV.zero).n) else []
def cellsB (cs : Vector CellV 16) (k : Nat) : List UInt8 := (List.range k).flatMap (cellB cs)
def cellsN (cs : Vector CellV 16) (k : Nat) : Nat := ((List.range k).filter fun i => (cs.toList.getD i CellV.zero).there).length
def kvB (cs : Vector CellV 16) : List UInt8 := packed (cellsN cs 16) ++ cellsB cs 16
theorem getD_cs {cs : Vector CellV 16} {k : Nat} (hk : k < 16) : cs.toList.getD k CellV.zero = cs[k] := by
  rw [List.getD_eq_getElem?_getD, List.getElem?_eq_getElem (by simpa using hk)]; simp
theorem cellsB_t2 {cs : Vector CellV 16} {k : Nat} (hk : k < 16) (h : cs[k].there = true) : cellsB cs k ++ fixed k 1 ++ packed (foldN cs[k].n) = cellsB cs (k + 1) := by
  unfold cellsB
  rw [List.range_succ, List.flatMap_append, List.flatMap_singleton, cellB, getD_cs hk, if_pos h, List.append_assoc]
theorem cellsB_f {cs : Vector CellV 16} {k : Nat} (hk : k < 16) (h : cs[k].there = false) : cellsB cs (k + 1) = cellsB cs k := by
  unfold cellsB
  rw [List.range_succ, List.flatMap_append, List.flatMap_singleton, cellB, getD_cs hk, if_neg (by simp [h]), List.append_nil]
theorem cellsN_t {cs : Vector CellV 16} {k : Nat} (hk : k < 16) (h : cs[k].there = true) : cellsN cs k + 1 = cellsN cs (k + 1) := by
  unfold cellsN
  rw [List.range_succ, List.filter_append, List.length_append, List.filter_cons, if_pos (show (cs.toList.getD k CellV.zero).there = true by rw [getD_cs hk]; exact h)]
  rfl
theorem cellsN_f {cs : Vector CellV 16} {k : Nat} (hk : k < 16) (h : cs[k].there = false) : cellsN cs (k + 1) = cellsN cs k := by
  unfold cellsN
  rw [List.range_succ, List.filter_append, List.length_append, List.filter_cons, if_neg (show ¬ (cs.toList.getD k CellV.zero).there = true by rw [getD_cs hk, h]; simp)]
  rfl
theorem cellsN_le (cs : Vector CellV 16) (k : Nat) : cellsN cs k ≤ k := by
  unfold cellsN
  exact Nat.le_trans (List.length_filter_le _ _) (by simp)
theorem cellsB_len {cs : Vector CellV 16} (hcs : ∀ (i : Nat) (hi : i < 16), -9223372036854775808 ≤ cs[i].n ∧ cs[i].n ≤ 9223372036854775807) : ∀ k, k ≤ 16 → (cellsB cs k).length ≤ 11 * k
  | 0, _ => by simp [cellsB]
  | k + 1, hk => by
    have ih := cellsB_len hcs k (by omega)
    cases h : cs[k].there with
    | true =>
      have := packed_length_le _ (foldN_lt (hcs k (by omega)))
      rw [← cellsB_t2 (by omega) h, List.length_append, List.length_append, fixed_length]; omega
    | false => rw [cellsB_f (by omega) h]; omega
theorem sub_elem {α : Type} {n : Nat} (f : α → List Value) (m : Nat) (hf : ∀ x, (f x).length = m) (v : Vector α n) (i : Nat) (hi : i < n) : SubAt (flatV f v).toArray (i * m) m (f v[i]).toArray := ⟨by
  have := flatV_slice f m hf v i hi
  rw [List.extract_toArray, List.extract_eq_take_drop]
  simpa using congrArg List.toArray this⟩
theorem fixed_k {k : Nat} (hk : k < 16) : fixed k 1 = [UInt8.ofNat k] := by rw [fixed_one, Nat.mod_eq_of_lt (by omega)]


set_option maxHeartbeats 1000000 in
theorem fold_c {w0 : World} {H : List SA} {x : Int} (hx : -9223372036854775808 ≤ x ∧ x ≤ 9223372036854775807) :
    CT Tryz.prog w0 (H) 215 [.int .i64 x] (α := Unit) (fun _ => .int .u64 (foldN x : Int)) (fun _ => H) := by
  refine CT_intro Tryz.func215 rfl Tryz.ntmps215 rfl ?_
  refine T_seq ?_
  refine T_region ?_
  refine TL_q (Qt_assign (.int .u64 _) rfl) rfl ?_
  refine TL_nil ?_
  refine X_then ?_
  refine T_seq ?_
  refine T_region ?_
  refine TL_q (Qt_move (.int .i64 _) rfl) rfl ?_
  refine TL_q (Qt_conv rfl rfl Tryz.underlying230) rfl ?_
  refine TL_q (Qt_shl rfl rfl (by omega)) rfl ?_
  refine TL_q (Qt_move (.int .i64 _) rfl) rfl ?_
  refine TL_q (Qt_shr rfl rfl (by omega)) rfl ?_
  refine TL_q (Qt_conv rfl rfl Tryz.underlying230) rfl ?_
  refine TL_q (Qt_xor rfl rfl) rfl ?_
  refine TL_q (Qt_assign (.int .u64 _) rfl) rfl ?_
  refine TL_nil ?_
  refine X_then ?_
  refine T_ret ?_
  exact X_ret () [.int .u64 (foldN x : Int)] Tryz.results215 ⟨congrArg (Value.int .u64) (fold_bits hx _ _ (fold_a hx) (fold_b hx)), trivial⟩ rfl (Subs.st inferInstance)
set_option maxHeartbeats 1000000 in
theorem putFolded_c {w0 : World} {H : List SA} {a : Option Addr} {l : List UInt8} {c : Nat} [hr : RdB w0 H (.slice a l.length c) l] (hl : l.length ≤ 4294967200) {x : Int} (hx : -9223372036854775808 ≤ x ∧ x ≤ 9223372036854775807) :
    CT Tryz.prog w0 (H) 141 [.slice a l.length c, .int .i64 x] (α := AC) (fun y => .slice y.a (l ++ packed (foldN x)).length y.c) (fun y => row (.slice y.a (l ++ packed (foldN x)).length y.c) 5 1 (bytesV (l ++ packed (foldN x))) :: H) := by
  refine CT_intro Tryz.func141 rfl Tryz.ntmps141 rfl ?_
  refine T_seq ?_
  refine T_region ?_
  refine TL_q (Qt_assign (.slice _ _ _) rfl) rfl ?_
  refine TL_nil ?_
  refine X_then ?_
  refine T_seq ?_
  refine T_region ?_
  refine TL_q (Qt_move (.slice _ _ _) rfl) rfl ?_
  refine TL_q (Qt_move (.int .i64 _) rfl) rfl ?_
  refine TL_e rfl (Ef_call (fold_c hx) rfl (fun x7 => ?_))
  refine TL_e rfl (Ef_call (putPacked_c (x := (foldN x : Int)) hl (by omega) (by have := foldN_lt hx; omega)) rfl (fun x8 => ?_))
  rw [Int.toNat_natCast]
  refine TL_q (Qt_assign (.slice _ _ _) rfl) rfl ?_
  refine TL_nil ?_
  refine X_then ?_
  refine T_ret ?_
  exact X_ret ⟨x8.a, x8.c⟩ [_] Tryz.results141 ⟨rfl, trivial⟩ rfl (Subs.st inferInstance)
set_option maxHeartbeats 1000000 in
theorem viewPut_c {w0 : World} {H : List SA} {num : Int} {mk : Nat} (hmk : mk < 65536) :
    CT Tryz.prog w0 (H) 263 [.agg (ViewV.mk num (mk : Int)).cells] (α := AC) (fun y => .slice y.a (viewB num mk).length y.c) (fun y => row (.slice y.a (viewB num mk).length y.c) 5 1 (bytesV (viewB num mk)) :: H) := by
  refine CT_intro Tryz.func263 rfl Tryz.ntmps263 rfl ?_
  refine T_seq ?_
  refine T_region ?_
  refine TL_e rfl (Ef_boxN rfl (fun b1 => ?_))
  refine TL_q (Qt_assign (.slice _ _ _) rfl) rfl ?_
  refine TL_nil ?_
  refine X_then ?_
  refine T_seq ?_
  refine T_seq ?_
  refine T_region ?_
  refine TL_q (Qt_loadN rfl rfl) rfl ?_
  refine TL_e rfl (Ef_call (right_v hmk) rfl (fun x4 => ?_))
  refine TL_q (Qt_not rfl) rfl ?_
  refine TL_nil ?_
  refine X_then ?_
  refine T_cond rfl (fun h5 => ?_) (fun h5 => ?_)
  ·
    have p5 := h5
    try simp only [decide_eq_true_eq, decide_eq_false_iff_not, Bool.not_eq_true', Bool.not_eq_false', Option.isNone_iff_eq_none, ne_eq, Decidable.not_not, Int.not_lt, Int.not_le] at p5
    refine T_seq ?_
    refine T_region ?_
    refine TL_q (Qt_assign (.slice _ _ _) rfl) rfl ?_
    refine TL_nil ?_
    refine X_then ?_
    refine T_ret ?_
    refine X_then_ret ?_
    have e : viewB num mk = [] := if_neg (by simp_all)
    simp only [e]
    exact X_ret ⟨none, 0⟩ [.slice none 0 0] Tryz.results263 ⟨rfl, trivial⟩ rfl (fun w hw => (Subs.st inferInstance w hw : St w0 H w).addNilB 5)
  ·
    have p5 := h5
    try simp only [decide_eq_true_eq, decide_eq_false_iff_not, Bool.not_eq_true', Bool.not_eq_false', Option.isNone_iff_eq_none, ne_eq, Decidable.not_not, Int.not_lt, Int.not_le] at p5
    refine T_skip ?_
    refine X_then ?_
    refine T_seq ?_
    refine T_draw (blk b1 (.cells (ViewV.mk num (mk : Int)).cells 32 (0, 0)) :: H) [(0, true), (1, true), (2, true), (4, true), (5, true), (6, true), (3, false), (7, false), (8, true)] (by kernel_rfl) (by kernel_rfl) rfl (by kernel_rfl) (Subs.st inferInstance) (fun hns0 => ?_)
    refine DL_q hns0 rfl (Qt_fieldAddr 0 rfl rfl) rfl ?_
    refine DL_q hns0 rfl (Qt_load1 rfl) rfl ?_
    refine DL_q hns0 rfl (Qt_conv rfl rfl Tryz.underlying230) rfl ?_
    refine DL_q hns0 rfl (Qt_fieldAddr 1 rfl rfl) rfl ?_
    refine DL_q hns0 rfl (Qt_load1 rfl) rfl ?_
    refine DL_q hns0 rfl (Qt_conv_u64 rfl rfl Tryz.underlying230 (by omega) (by omega)) rfl ?_
    refine DL_e rfl rfl (Ef_call (putFixed_c (a := none) (l := []) (c := 0) (x := IntKind.u64.wrap num) (n := 2) (hr := RdB.nil') (by simp) (u64_nonneg _)) rfl (fun x9 => ⟨(Subs.st inferInstance), ?_⟩))
    rw [putFixed_2k, List.nil_append]
    refine DL_e rfl rfl (Ef_call (putFixed_c (x := (mk : Int)) (n := 2) (by rw [fixed_length]; omega) (by omega)) rfl (fun x13 => ⟨(Subs.st inferInstance), ?_⟩))
    rw [putFixed_2k, Int.toNat_natCast]
    refine DL_q hns0 rfl (Qt_assign (.slice _ _ _) rfl) rfl ?_
    refine DL_nil ?_
    refine X_then ?_
    refine T_ret ?_
    have e : viewB num mk = fixed (IntKind.u64.wrap num).toNat 2 ++ fixed mk 2 := if_pos (by simp_all)
    simp only [e]
    exact X_ret ⟨x13.a, x13.c⟩ [_] Tryz.results263 ⟨rfl, trivial⟩ rfl (Subs.st inferInstance)
set_option maxHeartbeats 1000000 in
theorem kvPut_c {w0 : World} {H : List SA} {cs : Vector CellV 16} (hcs : ∀ (i : Nat) (hi : i < 16), -9223372036854775808 ≤ cs[i].n ∧ cs[i].n ≤ 9223372036854775807) :
    CT Tryz.prog w0 (H) 264 [.agg (flatV CellV.list cs).toArray] (α := AC) (fun y => .slice y.a (kvB cs).length y.c) (fun y => row (.slice y.a (kvB cs).length y.c) 5 1 (bytesV (kvB cs)) :: H) := by
  refine CT_intro Tryz.func264 rfl Tryz.ntmps264 rfl ?_
  refine T_seq ?_
  refine T_region ?_
  refine TL_e rfl (Ef_boxN rfl (fun b1 => ?_))
  refine TL_q (Qt_assign (.slice _ _ _) rfl) rfl ?_
  refine TL_nil ?_
  refine X_then ?_
  refine T_seq ?_
  refine T_region ?_
  refine TL_q (Qt_assign (.slice _ _ _) rfl) rfl ?_
  refine TL_nil ?_
  refine X_then ?_
  refine T_seq ?_
  refine T_region ?_
  refine TL_q (Qt_assign (.int .u64 _) rfl) rfl ?_
  refine TL_nil ?_
  refine X_then ?_
  refine T_seq ?_
  refine T_seq ?_
  refine T_region ?_
  refine TL_q (Qt_loadN rfl rfl) rfl ?_
  refine TL_q (Qt_move (.int .i64 _) rfl) rfl ?_
  refine TL_nil ?_
  refine X_then ?_
  refine T_block ?_
  refine T_loop [3, 4, 5, 6, 8, 9, 10, 11, 12, 13, 14, 15, 16, 17, 18, 19, 20, 21, 22, 23] [8, 3, 4] (fun us H' => ∃ (k : Nat) (a : Option Addr) (c : Nat), us = [.int .i64 (k : Int), .slice a (cellsB cs k).length c, .int .u64 (cellsN cs k : Int)] ∧ row (.slice a (cellsB cs k).length c) 5 1 (bytesV (cellsB cs k)) :: blk b1 (.cells (flatV CellV.list cs).toArray 35 (0, 0)) :: H = H' ∧ k ≤ 16) (fun us => match us with | .int _ i :: _ => 16 - i.toNat | _ => 0) ⟨0, none, 0, rfl, rfl, by omega⟩ (fun w hw => (Subs.st inferInstance w hw : St w0 (blk b1 (.cells (flatV CellV.list cs).toArray 35 (0, 0)) :: H) w).addNilB 5) ?_
  rintro τ0 _ _  ⟨k, a, c, rfl, rfl, hk0⟩ _
  refine T_seq ?_
  refine T_region ?_
  refine TL_q (Qt_lss rfl rfl) rfl ?_
  refine TL_nil ?_
  refine X_then ?_
  refine T_seq ?_
  refine T_cond rfl (fun h9 => ?_) (fun h9 => ?_)
  ·
    have p9 := h9
    try simp only [decide_eq_true_eq, decide_eq_false_iff_not, Bool.not_eq_true', Bool.not_eq_false', Option.isNone_iff_eq_none, ne_eq, Decidable.not_not, Int.not_lt, Int.not_le] at p9
    have hk : k < 16 := by omega
    have hsk : SubAt (flatV CellV.list cs).toArray (k * 2) 2 cs[k].cells := sub_elem _ 2 CellV.list_len cs k hk
    have hck := hcs k hk
    have hlk := cellsB_len hcs k (by omega)
    refine T_skip ?_
    refine X_then ?_
    refine T_seq ?_
    refine T_block ?_
    refine T_seq ?_
    refine T_region ?_
    refine TL_q (Qt_move (.int .i64 _) rfl) rfl ?_
    refine TL_q (Qt_indexS rfl rfl Tryz.underlying35 hk) rfl ?_
    refine TL_e rfl (Ef_allocN (fun b6 => ?_))
    refine TL_q (Qt_assign (.int .i64 _) rfl) rfl ?_
    refine TL_n (Ef_storeN rfl rfl (?_))
    refine TL_nil ?_
    refine X_then ?_
    refine T_seq ?_
    refine T_region ?_
    refine TL_q (Qt_fieldAddr 0 rfl rfl) rfl ?_
    refine TL_q (Qt_load1 rfl) rfl ?_
    refine TL_nil ?_
    refine X_then ?_
    refine T_cond rfl (fun h13 => ?_) (fun h13 => ?_)
    ·
      have p13 := h13
      try simp only [decide_eq_true_eq, decide_eq_false_iff_not, Bool.not_eq_true', Bool.not_eq_false', Option.isNone_iff_eq_none, ne_eq, Decidable.not_not, Int.not_lt, Int.not_le] at p13
      have hth : cs[k].there = true := h13
      refine T_seq ?_
      refine T_draw (blk b6 (.cells cs[k].cells 34 (0, 0)) :: H) [(0, true), (1, true), (2, true), (4, true), (5, true), (3, false), (6, false), (7, true)] (by kernel_rfl) (by kernel_rfl) rfl (by kernel_rfl) (Subs.st inferInstance) (fun hns0 => ?_)
      refine DL_q hns0 rfl (Qt_move (.slice _ _ _) rfl) rfl ?_
      refine DL_q hns0 rfl (Qt_move (.int .i64 _) rfl) rfl ?_
      refine DL_q hns0 rfl (Qt_conv_u64 rfl rfl Tryz.underlying230 (by omega) (by omega)) rfl ?_
      refine DL_q hns0 rfl (Qt_fieldAddr 1 rfl rfl) rfl ?_
      refine DL_q hns0 rfl (Qt_load1 rfl) rfl ?_
      refine DL_e rfl rfl (Ef_call (putFixed_c (x := (k : Int)) (n := 1) (by omega) (by omega)) rfl (fun x17 => ⟨(Subs.st inferInstance), ?_⟩))
      rw [putFixed_1k, Int.toNat_natCast]
      refine DL_e rfl rfl (Ef_call (putFolded_c (l := cellsB cs k ++ fixed k 1) (by rw [List.length_append, fixed_length]; omega) hck) rfl (fun x20 => ⟨(Subs.st inferInstance), ?_⟩))
      rw [cellsB_t2 hk hth]
      refine DL_q hns0 rfl (Qt_assign (.slice _ _ _) rfl) rfl ?_
      refine DL_nil ?_
      refine X_then ?_
      refine T_region ?_
      refine TL_q (Qt_move (.int .u64 _) rfl) rfl ?_
      refine TL_q (Qt_val (Qt_addw rfl rfl) (congrArg (Value.int .u64) (show IntKind.u64.wrap ((cellsN cs k : Int) + 1) = ((cellsN cs k + 1 : Nat) : Int) from by rw [← Int.natCast_succ]; exact wrap_nat .u64 rfl (by have := cellsN_le cs k; show _ < 2 ^ 64; omega)))) rfl ?_
      refine TL_q (Qt_assign (.int .u64 _) rfl) rfl ?_
      refine TL_nil ?_
      refine X_block ?_
      refine X_then ?_
      refine T_region ?_
      first
        | refine TL_q (Qt_add rfl rfl (by omega) (by omega)) rfl ?_
        | refine TL_q (Qt_addw rfl rfl) rfl ?_
      refine TL_q (Qt_move (.int .i64 _) rfl) rfl ?_
      refine TL_nil ?_
      apply X_loop
      case ha => exact (by repeat (first | with_reducible exact agree_refl | refine agree_upd rfl ?_ | refine agree_mix rfl ?_ | refine agree_setAll rfl ?_))
      case hI => exact by first | exact ⟨k + 1, x20.a, x20.c, by rw [← cellsN_t hk hth]; rfl, rfl, by omega⟩ | exact ⟨k + 1, a, c, by rw [cellsB_f hk hth, cellsN_f hk hth]; rfl, by rw [cellsB_f hk hth], by omega⟩
      case hm => exact by show 16 - (k + 1 : Int).toNat < 16 - (k : Int).toNat; omega
      case hH => exact (Subs.st inferInstance)
    ·
      have p13 := h13
      try simp only [decide_eq_true_eq, decide_eq_false_iff_not, Bool.not_eq_true', Bool.not_eq_false', Option.isNone_iff_eq_none, ne_eq, Decidable.not_not, Int.not_lt, Int.not_le] at p13
      have hth : cs[k].there = false := h13
      refine T_skip ?_
      refine X_block ?_
      refine X_then ?_
      refine T_region ?_
      first
        | refine TL_q (Qt_add rfl rfl (by omega) (by omega)) rfl ?_
        | refine TL_q (Qt_addw rfl rfl) rfl ?_
      refine TL_q (Qt_move (.int .i64 _) rfl) rfl ?_
      refine TL_nil ?_
      apply X_loop
      case ha => exact (by repeat (first | with_reducible exact agree_refl | refine agree_upd rfl ?_ | refine agree_mix rfl ?_ | refine agree_setAll rfl ?_))
      case hI => exact by first | exact ⟨k + 1, x20.a, x20.c, by rw [← cellsN_t hk hth]; rfl, rfl, by omega⟩ | exact ⟨k + 1, a, c, by rw [cellsB_f hk hth, cellsN_f hk hth]; rfl, by rw [cellsB_f hk hth], by omega⟩
      case hm => exact by show 16 - (k + 1 : Int).toNat < 16 - (k : Int).toNat; omega
      case hH => exact (Subs.st inferInstance)
  ·
    have p9 := h9
    try simp only [decide_eq_true_eq, decide_eq_false_iff_not, Bool.not_eq_true', Bool.not_eq_false', Option.isNone_iff_eq_none, ne_eq, Decidable.not_not, Int.not_lt, Int.not_le] at p9
    obtain rfl : k = 16 := by omega
    refine T_exit ?_
    refine X_then_exit ?_
    refine X_loop_exit ?_
    refine X_block_exit ?_
    refine X_then ?_
    refine T_seq ?_
    refine T_region ?_
    refine TL_q (Qt_move (.int .u64 _) rfl) rfl ?_
    refine TL_e rfl (Ef_call (putPacked_c (a := none) (l := []) (c := 0) (x := (cellsN cs 16 : Int)) (hr := RdB.nil') (by simp) (by omega) (by have := cellsN_le cs 16; omega)) rfl (fun x25 => ?_))
    rw [List.nil_append, Int.toNat_natCast]
    refine TL_q (Qt_move (.slice _ _ _) rfl) rfl ?_
    refine TL_e rfl (Ef_appendB (sv := .slice _ _ _) (xv := .slice _ _ _) rfl rfl (by have := packed_length_le (cellsN cs 16) (by have := cellsN_le cs 16; omega); have := cellsB_len hcs 16 (by omega); omega) rfl (fun a27 c27 => ?_))
    rw [show packed (cellsN cs 16) ++ cellsB cs 16 = kvB cs from rfl]
    refine TL_q (Qt_assign (.slice _ _ _) rfl) rfl ?_
    refine TL_nil ?_
    refine X_then ?_
    refine T_ret ?_
    exact X_ret ⟨a27, c27⟩ [_] Tryz.results264 ⟨rfl, trivial⟩ rfl (Subs.st inferInstance)
end Go.Proofs.YtldnfbghjnhklaaGreatDoor
