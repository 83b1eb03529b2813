/- Worlds: their bytes; walks of folded numbers, views, cells. -/
import Derived.Test.YtgeknnclmhfjlaaGreatDoorSgP
import Derived.Test.YtgeknnclmhfjlaaGreatDoorTkP
import Derived.Test.YtgeknnclmhfjlaaGreatDoorViP
import Derived.Test.YtgeknnclmhfjlaaGreatDoorCmP
import Derived.Test.YtgeknnclmhfjlaaGreatDoorShaP
namespace Go.Proofs.YtgeknnclmhfjlaaGreatDoor
section
open Go.RowKit Go.Sx
set_option maxRecDepth 100000
set_option linter.unusedSimpArgs false
set_option linter.unusedVariables false
/-- A number with a sign, folded. -/
def foldN (x : Int) : Nat := if x < 0 then (2 * (-(x + 1)) + 1).toNat else (2 * x).toNat
theorem foldN_lt {x : Int} (h : -9223372036854775808 ≤ x ∧ x ≤ 9223372036854775807) : foldN x < 18446744073709551616 := by
 unfold foldN; split <;> omega
theorem wrap_i64_u64 {x : Int} (h : 0 ≤ x) (h2 : x < 18446744073709551616) : IntKind.u64.wrap x = x := by
 simp [IntKind.wrap, IntKind.bits, IntKind.signed]; omega
theorem xor_ones (a : Nat) (h : a < 18446744073709551616) : a ^^^ 18446744073709551615 = 18446744073709551615 - a := by
 have := BitVec.toNat_not (x := BitVec.ofNat 64 a)
 have h2 : (BitVec.ofNat 64 a) ^^^ BitVec.allOnes 64 = ~~~ BitVec.ofNat 64 a := BitVec.xor_allOnes
 have h3 := congrArg BitVec.toNat h2
 rw [BitVec.toNat_xor, this] at h3
 simp at h3
 rw [Nat.mod_eq_of_lt h] at h3
 exact h3
/-- The same by bits. -/
theorem fold_bits {x : Int} (h : -9223372036854775808 ≤ x ∧ x ≤ 9223372036854775807) (y z : Int) (hy : y = if x < 0 then 2 * x + 18446744073709551616 else 2 * x) (hz : z = if x < 0 then 18446744073709551615 else 0) :
 IntKind.u64.wrap ((BitVec.ofInt IntKind.u64.bits y ^^^ BitVec.ofInt IntKind.u64.bits z).toNat : Int) = (foldN x : Int) := by
 have key : ∀ a b : Nat, a < 18446744073709551616 → b < 18446744073709551616 → ((BitVec.ofInt IntKind.u64.bits (a : Int) ^^^ BitVec.ofInt IntKind.u64.bits (b : Int)).toNat) = a ^^^ b := fun a b ha hb => by
  show (BitVec.ofInt 64 (a : Int) ^^^ BitVec.ofInt 64 (b : Int)).toNat = a ^^^ b
  rw [BitVec.ofInt_natCast, BitVec.ofInt_natCast, BitVec.toNat_xor, BitVec.toNat_ofNat, BitVec.toNat_ofNat, Nat.mod_eq_of_lt (by simpa using ha), Nat.mod_eq_of_lt (by simpa using hb)]
 by_cases hx : x < 0
 · rw [if_pos hx] at hy hz
   obtain ⟨a, ha⟩ := Int.eq_ofNat_of_zero_le (show 0 ≤ y by omega)
   subst hz
   rw [ha, show (18446744073709551615 : Int) = ((18446744073709551615 : Nat) : Int) from rfl, key a _ (by omega) (by omega), xor_ones a (by omega), wrap_i64_u64 (by omega) (by omega)]
   have e : foldN x = (2 * (-(x + 1)) + 1).toNat := if_pos hx
   rw [e]; omega
 · rw [if_neg hx] at hy hz
   obtain ⟨a, ha⟩ := Int.eq_ofNat_of_zero_le (show 0 ≤ y by omega)
   subst hz
   rw [ha, show (0 : Int) = ((0 : Nat) : Int) from rfl, key a _ (by omega) (by omega), Nat.xor_zero, wrap_i64_u64 (by omega) (by omega)]
   have e : foldN x = (2 * x).toNat := if_neg hx
   rw [e]; omega
theorem u64_nonneg (x : Int) : 0 ≤ IntKind.u64.wrap x := by simp [IntKind.wrap, IntKind.bits, IntKind.signed]; omega
theorem putFixed_2k (l : List UInt8) (x : Int) : putFixed l x 2 = l ++ fixed x.toNat 2 := rfl
theorem putFixed_1k (l : List UInt8) (x : Int) : putFixed l x 1 = l ++ fixed x.toNat 1 := rfl
theorem fold_a {x : Int} (h : -9223372036854775808 ≤ x ∧ x ≤ 9223372036854775807) : IntKind.u64.wrap (IntKind.u64.wrap x * 2 ^ min (1 : Int).toNat IntKind.u64.bits) = if x < 0 then 2 * x + 18446744073709551616 else 2 * x := by
 simp [IntKind.wrap, IntKind.bits, IntKind.signed]; split <;> omega
theorem fold_b {x : Int} (h : -9223372036854775808 ≤ x ∧ x ≤ 9223372036854775807) : IntKind.u64.wrap (x.fdiv (2 ^ min (63 : Int).toNat IntKind.i64.bits)) = if x < 0 then 18446744073709551615 else 0 := by
 have e : (2 : Int) ^ min (63 : Int).toNat IntKind.i64.bits = 9223372036854775808 := by decide
 rw [e, Int.fdiv_eq_ediv_of_nonneg _ (by decide)]
 split
 · have : x / 9223372036854775808 = -1 := by omega
   rw [this]; decide
 · have : x / 9223372036854775808 = 0 := by omega
   rw [this]; decide
def viewB (num : Int) (mk : Nat) : List UInt8 := if rightV num mk = true then fixed (IntKind.u64.wrap num).toNat 2 ++ fixed mk 2 else []
theorem viewB_len (num : Int) (mk : Nat) : (viewB num mk).length ≤ 4 := by
 unfold viewB; split
 · rw [List.length_append, fixed_length, fixed_length]; exact Nat.le_refl _
 · simp
def cellB (cs : Vector CellV 16) (i : Nat) : List UInt8 := if (cs.toList.getD i CellV.zero).there = true then fixed i 1 ++ packed (foldN (cs.toList.getD i CellV.zero).n) else []
def cellsB (cs : Vector CellV 16) (k : Nat) : List UInt8 := (List.range k).flatMap (cellB cs)
def cellsN (cs : Vector CellV 16) (k : Nat) : Nat := ((List.range k).filter fun i => (cs.toList.getD i CellV.zero).there).length
def kvB (cs : Vector CellV 16) : List UInt8 := packed (cellsN cs 16) ++ cellsB cs 16
theorem getD_cs {cs : Vector CellV 16} {k : Nat} (hk : k < 16) : cs.toList.getD k CellV.zero = cs[k] := by
 rw [List.getD_eq_getElem?_getD, List.getElem?_eq_getElem (by simpa using hk)]; simp
theorem cellsB_t2 {cs : Vector CellV 16} {k : Nat} (hk : k < 16) (h : cs[k].there = true) : cellsB cs k ++ fixed k 1 ++ packed (foldN cs[k].n) = cellsB cs (k + 1) := by
 unfold cellsB
 rw [List.range_succ, List.flatMap_append, List.flatMap_singleton, cellB, getD_cs hk, if_pos h, List.append_assoc]
theorem cellsB_f {cs : Vector CellV 16} {k : Nat} (hk : k < 16) (h : cs[k].there = false) : cellsB cs (k + 1) = cellsB cs k := by
 unfold cellsB
 rw [List.range_succ, List.flatMap_append, List.flatMap_singleton, cellB, getD_cs hk, if_neg (by simp [h]), List.append_nil]
theorem cellsN_t {cs : Vector CellV 16} {k : Nat} (hk : k < 16) (h : cs[k].there = true) : cellsN cs k + 1 = cellsN cs (k + 1) := by
 unfold cellsN
 rw [List.range_succ, List.filter_append, List.length_append, List.filter_cons, if_pos (show (cs.toList.getD k CellV.zero).there = true by rw [getD_cs hk]; exact h)]
 rfl
theorem cellsN_f {cs : Vector CellV 16} {k : Nat} (hk : k < 16) (h : cs[k].there = false) : cellsN cs (k + 1) = cellsN cs k := by
 unfold cellsN
 rw [List.range_succ, List.filter_append, List.length_append, List.filter_cons, if_neg (show ¬ (cs.toList.getD k CellV.zero).there = true by rw [getD_cs hk, h]; simp)]
 rfl
theorem cellsN_le (cs : Vector CellV 16) (k : Nat) : cellsN cs k ≤ k := by
 unfold cellsN
 exact Nat.le_trans (List.length_filter_le _ _) (by simp)
theorem cellsB_len {cs : Vector CellV 16} (hcs : ∀ (i : Nat) (hi : i < 16), -9223372036854775808 ≤ cs[i].n ∧ cs[i].n ≤ 9223372036854775807) : ∀ k, k ≤ 16 → (cellsB cs k).length ≤ 11 * k
 | 0, _ => by simp [cellsB]
 | k + 1, hk => by
  have ih := cellsB_len hcs k (by omega)
  cases h : cs[k].there with
  | true =>
   have := packed_length_le _ (foldN_lt (hcs k (by omega)))
   rw [← cellsB_t2 (by omega) h, List.length_append, List.length_append, fixed_length]; omega
  | false => rw [cellsB_f (by omega) h]; omega
theorem sub_elem {α : Type} {n : Nat} (f : α → List Value) (m : Nat) (hf : ∀ x, (f x).length = m) (v : Vector α n) (i : Nat) (hi : i < n) : SubAt (flatV f v).toArray (i * m) m (f v[i]).toArray := ⟨by
 have := flatV_slice f m hf v i hi
 rw [List.extract_toArray, List.extract_eq_take_drop]
 simpa using congrArg List.toArray this⟩
set_option maxHeartbeats 1000000 in
theorem fold_c {w0 : World} {H : List SA} {x : Int} (hx : -9223372036854775808 ≤ x ∧ x ≤ 9223372036854775807) :
 CT Tryz.prog w0 (H) 206 [.int .i64 x] (α := Unit) (fun _ => .int .u64 (foldN x : Int)) (fun _ => H) := by
 refine CT_intro Tryz.func206 rfl Tryz.ntmps206 rfl ?_
 refine T2 (zq (za (.int .u64 _) rfl) rfl (T4 (Qmi rfl rfl (zq (Qt_conv rfl rfl Tryz.underlying23) rfl (zq (Qt_shl rfl rfl (by omega)) rfl ?_)))))
 refine Qmi rfl rfl (zq (Qt_shr rfl rfl (by omega)) rfl (zq (Qt_conv rfl rfl Tryz.underlying23) rfl (zq (Qt_xor rfl rfl) rfl (zq (za (.int .u64 _) rfl) rfl (TX (zQ ?_))))))
 exact zX () [.int .u64 (foldN x : Int)] Tryz.results206 ⟨congrArg (Value.int .u64) (fold_bits hx _ _ (fold_a hx) (fold_b hx)), trivial⟩ rfl SB
set_option maxHeartbeats 1000000 in
theorem putFolded_c {w0 : World} {H : List SA} {a : Option Addr} {l : List UInt8} {c : Nat} [hr : RdB w0 H (.slice a l.length c) l] (hl : l.length ≤ 4294967200) {x : Int} (hx : -9223372036854775808 ≤ x ∧ x ≤ 9223372036854775807) :
 CT Tryz.prog w0 (H) 176 [.slice a l.length c, .int .i64 x] (α := AC) (fun y => .slice y.a (l ++ packed (foldN x)).length y.c) (fun y => row (.slice y.a (l ++ packed (foldN x)).length y.c) 5 1 (bytesV (l ++ packed (foldN x))) :: H) := by
 refine CT_intro Tryz.func176 rfl Tryz.ntmps176 rfl ?_
 refine T2 (Qas rfl rfl (T4 (Qms rfl rfl (Qmi rfl rfl ?_))))
 refine ze rfl (zc (fold_c hx) rfl (fun x7 => ?_))
 refine ze rfl (zc (putPacked_c (x := (foldN x : Int)) hl (by omega) (by have := foldN_lt hx; omega)) rfl (fun x8 => ?_))
 rw [Int.toNat_natCast]
 refine Qas rfl rfl (TX (zQ ?_))
 exact zX ⟨x8.a, x8.c⟩ [_] Tryz.results176 ⟨rfl, trivial⟩ rfl SB
set_option maxHeartbeats 1000000 in
theorem viewPut_c {w0 : World} {H : List SA} {num : Int} {mk : Nat} (hmk : mk < 65536) :
 CT Tryz.prog w0 (H) 135 [.agg (ViewV.mk num (mk : Int)).cells] (α := AC) (fun y => .slice y.a (viewB num mk).length y.c) (fun y => row (.slice y.a (viewB num mk).length y.c) 5 1 (bytesV (viewB num mk)) :: H) := by
 refine CT_intro Tryz.func135 rfl Tryz.ntmps135 rfl ?_
 refine T2 ?_
 refine ze rfl (Ef_boxN rfl (fun b1 => ?_))
 refine Qas rfl rfl (TX (zS (T2 ?_)))
 refine zq (zn rfl rfl) rfl ?_
 refine ze rfl (zc (right_v hmk) rfl (fun x4 => ?_))
 refine zq (Qt_not rfl) rfl (TX (zC rfl (fun h5 => ?_) (fun h5 => ?_)))
 ·
  have p5 := h5
  try simp only [dp] at p5
  refine T2 (Qas rfl rfl (TX (zQ (zr ?_))))
  have e : viewB num mk = [] := if_neg (by simp_all)
  simp only [e]
  exact zX ⟨none, 0⟩ [.slice none 0 0] Tryz.results135 ⟨rfl, trivial⟩ rfl (fun w hw => (SB w hw : St w0 H w).addNilB 5)
 have p5 := h5
 try simp only [dp] at p5
 refine zk (zx (zS ?_))
 refine T_draw (blk b1 (.cells (ViewV.mk num (mk : Int)).cells 36 (0, 0)) :: H) [(0, true), (1, true), (2, true), (4, true), (5, true), (6, true), (3, false), (7, false), (8, true)] (by kernel_rfl) (by kernel_rfl) rfl (by kernel_rfl) SB (fun hns0 => ?_)
 refine zd hns0 rfl (zf 0 rfl rfl) rfl (zd hns0 rfl (zl rfl) rfl (zd hns0 rfl (Qt_conv rfl rfl Tryz.underlying23) rfl (zd hns0 rfl (zf 1 rfl rfl) rfl (zd hns0 rfl (zl rfl) rfl (zd hns0 rfl (Qt_conv_u64 rfl rfl Tryz.underlying23 (by omega) (by omega)) rfl ?_)))))
 refine DL_e rfl rfl (zc (putFixed_c (a := none) (l := []) (c := 0) (x := IntKind.u64.wrap num) (n := 2) (hr := RdB.nil') (by simp) (u64_nonneg _)) rfl (fun x9 => ⟨SB, ?_⟩))
 rw [putFixed_2k, List.nil_append]
 refine DL_e rfl rfl (zc (putFixed_c (x := (mk : Int)) (n := 2) (by rw [fixed_length]; omega) (by omega)) rfl (fun x13 => ⟨SB, ?_⟩))
 rw [putFixed_2k, Int.toNat_natCast]
 refine zd hns0 rfl (za (.slice _ _ _) rfl) rfl (DL_nil (zx (zQ ?_)))
 have e : viewB num mk = fixed (IntKind.u64.wrap num).toNat 2 ++ fixed mk 2 := if_pos (by simp_all)
 simp only [e]
 exact zX ⟨x13.a, x13.c⟩ [_] Tryz.results135 ⟨rfl, trivial⟩ rfl SB
set_option maxHeartbeats 1000000 in
theorem kvPut_c {w0 : World} {H : List SA} {cs : Vector CellV 16} (hcs : ∀ (i : Nat) (hi : i < 16), -9223372036854775808 ≤ cs[i].n ∧ cs[i].n ≤ 9223372036854775807) :
 CT Tryz.prog w0 (H) 136 [.agg (flatV CellV.list cs).toArray] (α := AC) (fun y => .slice y.a (kvB cs).length y.c) (fun y => row (.slice y.a (kvB cs).length y.c) 5 1 (bytesV (kvB cs)) :: H) := by
 refine CT_intro Tryz.func136 rfl Tryz.ntmps136 rfl ?_
 refine T2 ?_
 refine ze rfl (Ef_boxN rfl (fun b1 => ?_))
 refine Qas rfl rfl (T4 (Qas rfl rfl (T4 (zq (za (.int .u64 _) rfl) rfl (TX (zS (T2 ?_)))))))
 refine zq (zn rfl rfl) rfl (Qmi rfl rfl (TX (zB ?_)))
 refine T_loop [3, 4, 5, 6, 8, 9, 10, 11, 12, 13, 14, 15, 16, 17, 18, 19, 20, 21, 22, 23] [8, 3, 4] (fun us H' => ∃ (k : Nat) (a : Option Addr) (c : Nat), us = [.int .i64 (k : Int), .slice a (cellsB cs k).length c, .int .u64 (cellsN cs k : Int)] ∧ row (.slice a (cellsB cs k).length c) 5 1 (bytesV (cellsB cs k)) :: blk b1 (.cells (flatV CellV.list cs).toArray 59 (0, 0)) :: H = H' ∧ k ≤ 16) (fun us => match us with | .int _ i :: _ => 16 - i.toNat | _ => 0) ⟨0, none, 0, rfl, rfl, by omega⟩ (fun w hw => (SB w hw : St w0 (blk b1 (.cells (flatV CellV.list cs).toArray 59 (0, 0)) :: H) w).addNilB 5) ?_
 rintro τ0 _ _  ⟨k, a, c, rfl, rfl, hk0⟩ _
 refine T2 (zq (Qt_lss rfl rfl) rfl (TX (zS ?_)))
 refine zC rfl (fun h9 => ?_) (fun h9 => ?_)
 ·
  have p9 := h9
  try simp only [dp] at p9
  have hk : k < 16 := by omega
  have hsk : SubAt (flatV CellV.list cs).toArray (k * 2) 2 cs[k].cells := sub_elem _ 2 CellV.list_len cs k hk
  have hck := hcs k hk
  have hlk := cellsB_len hcs k (by omega)
  refine zk (zx (zS (zB (T2 ?_))))
  refine Qmi rfl rfl (zq (Qt_indexS rfl rfl Tryz.underlying59 hk) rfl ?_)
  refine ze rfl (Ef_allocN (fun b6 => ?_))
  refine Qai rfl rfl ?_
  refine zN (zs rfl rfl (?_))
  refine T4 (zq (zf 0 rfl rfl) rfl (zq (zl rfl) rfl (TX (zC rfl (fun h13 => ?_) (fun h13 => ?_)))))
  ·
   have p13 := h13
   try simp only [dp] at p13
   have hth : cs[k].there = true := h13
   refine zS (T_draw (blk b6 (.cells cs[k].cells 58 (0, 0)) :: H) [(0, true), (1, true), (2, true), (4, true), (5, true), (3, false), (6, false), (7, true)] (by kernel_rfl) (by kernel_rfl) rfl (by kernel_rfl) SB (fun hns0 => ?_))
   refine zd hns0 rfl (zm (.slice _ _ _) rfl) rfl (zd hns0 rfl (zm (.int .i64 _) rfl) rfl (zd hns0 rfl (Qt_conv_u64 rfl rfl Tryz.underlying23 (by omega) (by omega)) rfl (zd hns0 rfl (zf 1 rfl rfl) rfl (zd hns0 rfl (zl rfl) rfl ?_))))
   refine DL_e rfl rfl (zc (putFixed_c (x := (k : Int)) (n := 1) (by omega) (by omega)) rfl (fun x17 => ⟨SB, ?_⟩))
   rw [putFixed_1k, Int.toNat_natCast]
   refine DL_e rfl rfl (zc (putFolded_c (l := cellsB cs k ++ fixed k 1) (by rw [List.length_append, fixed_length]; omega) hck) rfl (fun x20 => ⟨SB, ?_⟩))
   rw [cellsB_t2 hk hth]
   refine zd hns0 rfl (za (.slice _ _ _) rfl) rfl (DL_nil (zx (zR ?_)))
   refine zq (zm (.int .u64 _) rfl) rfl (zq (Qt_val (Qt_addw rfl rfl) (congrArg (Value.int .u64) (show IntKind.u64.wrap ((cellsN cs k : Int) + 1) = ((cellsN cs k + 1 : Nat) : Int) from by rw [← Int.natCast_succ]; exact wrap_nat .u64 rfl (by have := cellsN_le cs k; show _ < 2 ^ 64; omega)))) rfl (zq (za (.int .u64 _) rfl) rfl (zz (X_block (zx (zR ?_))))))
   refine zq (Qt_add rfl rfl (by omega) (by omega)) rfl (Qmi rfl rfl (zz ?_))
   apply X_loop
   case ha => exact (by repeat (first | with_reducible exact agree_refl | refine agree_upd rfl ?_ | refine agree_mix rfl ?_ | refine agree_setAll rfl ?_))
   case hI => exact by first | exact ⟨k + 1, x20.a, x20.c, by rw [← cellsN_t hk hth]; rfl, rfl, by omega⟩ | exact ⟨k + 1, a, c, by rw [cellsB_f hk hth, cellsN_f hk hth]; rfl, by rw [cellsB_f hk hth], by omega⟩
   case hm => exact by show 16 - (k + 1 : Int).toNat < 16 - (k : Int).toNat; omega
   case hH => exact SB
  have p13 := h13
  try simp only [dp] at p13
  have hth : cs[k].there = false := h13
  refine zk (X_block (zx (zR ?_)))
  refine zq (Qt_add rfl rfl (by omega) (by omega)) rfl (Qmi rfl rfl (zz ?_))
  apply X_loop
  case ha => exact (by repeat (first | with_reducible exact agree_refl | refine agree_upd rfl ?_ | refine agree_mix rfl ?_ | refine agree_setAll rfl ?_))
  case hI => exact by first | exact ⟨k + 1, x20.a, x20.c, by rw [← cellsN_t hk hth]; rfl, rfl, by omega⟩ | exact ⟨k + 1, a, c, by rw [cellsB_f hk hth, cellsN_f hk hth]; rfl, by rw [cellsB_f hk hth], by omega⟩
  case hm => exact by show 16 - (k + 1 : Int).toNat < 16 - (k : Int).toNat; omega
  case hH => exact SB
 have p9 := h9
 try simp only [dp] at p9
 obtain rfl : k = 16 := by omega
 refine zY (zG (zW (zE (zx (T2 ?_)))))
 refine zq (zm (.int .u64 _) rfl) rfl ?_
 refine ze rfl (zc (putPacked_c (a := none) (l := []) (c := 0) (x := (cellsN cs 16 : Int)) (hr := RdB.nil') (by simp) (by omega) (by have := cellsN_le cs 16; omega)) rfl (fun x25 => ?_))
 rw [List.nil_append, Int.toNat_natCast]
 refine Qms rfl rfl ?_
 refine ze rfl (Ef_appendB (sv := .slice _ _ _) (xv := .slice _ _ _) rfl rfl (by have := packed_length_le (cellsN cs 16) (by have := cellsN_le cs 16; omega); have := cellsB_len hcs 16 (by omega); omega) rfl (fun a27 c27 => ?_))
 rw [show packed (cellsN cs 16) ++ cellsB cs 16 = kvB cs from rfl]
 refine Qas rfl rfl (TX (zQ ?_))
 exact zX ⟨a27, c27⟩ [_] Tryz.results136 ⟨rfl, trivial⟩ rfl SB
end
section
open Go.RowKit Go.Sx
set_option maxRecDepth 100000
set_option linter.unusedSimpArgs false
set_option linter.unusedVariables false
instance three : TyZ Tryz.prog 231 (.agg #[.slice none 0 0, .slice none 0 0, .slice none 0 0]) := ⟨by kernel_rfl⟩
def okI (b : Bool) : Int := if b = true then 1 else 0
def replyB (r : ReplyV) : List UInt8 := fixed (IntKind.u64.wrap r.client).toNat 1 ++ fixed (IntKind.u64.wrap r.seq).toNat 1 ++ fixed (IntKind.u64.wrap r.slot).toNat 1 ++ fixed (IntKind.u64.wrap (okI r.res.oK)).toNat 1 ++ packed (foldN r.res.n)
def repliesB (rs : Vector ReplyV 6) (k : Nat) : List UInt8 := (rs.toList.take k).flatMap fun r => textB (replyB r)
theorem repliesB_succ (rs : Vector ReplyV 6) {k : Nat} (hk : k < 6) : repliesB rs k ++ textB (replyB rs[k]) = repliesB rs (k + 1) := by
 unfold repliesB
 rw [List.take_succ_eq_append_getElem (by simpa using hk), List.flatMap_append, List.flatMap_singleton]; simp
theorem replyB_len {r : ReplyV} (h : -9223372036854775808 ≤ r.res.n ∧ r.res.n ≤ 9223372036854775807) : (replyB r).length ≤ 14 := by
 have := packed_length_le _ (foldN_lt h)
 simp only [replyB, List.length_append, fixed_length]; omega
theorem repliesB_len {rs : Vector ReplyV 6} (h : ∀ (i : Nat) (hi : i < 6), -9223372036854775808 ≤ rs[i].res.n ∧ rs[i].res.n ≤ 9223372036854775807) : ∀ k, k ≤ 6 → (repliesB rs k).length ≤ 24 * k
 | 0, _ => by simp [repliesB]
 | k + 1, hk => by
  have ih := repliesB_len h k (by omega)
  have h1 := replyB_len (h k (by omega))
  have h2 := textB_length (replyB rs[k]) (by omega)
  rw [← repliesB_succ rs (by omega), List.length_append]; omega
def worldB (s f n1 : Int) (m1 : Nat) (n2 : Int) (m2 : Nat) (cs : Vector CellV 16) (rs : Vector ReplyV 6) : List UInt8 :=
 fixed (IntKind.u64.wrap s).toNat 2 ++ fixed (IntKind.u64.wrap f).toNat 2 ++ textB (viewB n1 m1) ++ textB (viewB n2 m2) ++ textB (kvB cs) ++ repliesB rs 6
theorem kvB_len {cs : Vector CellV 16} (hcs : ∀ (i : Nat) (hi : i < 16), -9223372036854775808 ≤ cs[i].n ∧ cs[i].n ≤ 9223372036854775807) : (kvB cs).length ≤ 200 := by
 have h1 := cellsB_len hcs 16 (Nat.le_refl _)
 have h2 := packed_length_le (cellsN cs 16) (by have := cellsN_le cs 16; omega)
 unfold kvB
 rw [List.length_append]; omega
theorem headB_len {s f n1 n2 : Int} {m1 m2 : Nat} {cs : Vector CellV 16} (hcs : ∀ (i : Nat) (hi : i < 16), -9223372036854775808 ≤ cs[i].n ∧ cs[i].n ≤ 9223372036854775807) : (fixed (IntKind.u64.wrap s).toNat 2 ++ fixed (IntKind.u64.wrap f).toNat 2 ++ textB (viewB n1 m1) ++ textB (viewB n2 m2) ++ textB (kvB cs)).length ≤ 300 := by
 have h1 := viewB_len n1 m1
 have h2 := viewB_len n2 m2
 have h3 := kvB_len hcs
 have h4 := textB_length (viewB n1 m1) (by omega)
 have h5 := textB_length (viewB n2 m2) (by omega)
 have h6 := textB_length (kvB cs) (by omega)
 simp only [List.length_append, fixed_length]; omega
theorem worldB_len {s f n1 n2 : Int} {m1 m2 : Nat} {cs : Vector CellV 16} {rs : Vector ReplyV 6} (hcs : ∀ (i : Nat) (hi : i < 16), -9223372036854775808 ≤ cs[i].n ∧ cs[i].n ≤ 9223372036854775807)
 (hrs : ∀ (i : Nat) (hi : i < 6), -9223372036854775808 ≤ rs[i].res.n ∧ rs[i].res.n ≤ 9223372036854775807) : (worldB s f n1 m1 n2 m2 cs rs).length ≤ 1000 := by
 have h1 := headB_len (s := s) (f := f) (n1 := n1) (n2 := n2) (m1 := m1) (m2 := m2) hcs
 have h2 := repliesB_len hrs 6 (Nat.le_refl _)
 unfold worldB
 rw [List.length_append]; omega
set_option maxHeartbeats 1000000 in
theorem putReply_c {w0 : World} {H : List SA} {r : ReplyV} (hn : -9223372036854775808 ≤ r.res.n ∧ r.res.n ≤ 9223372036854775807) :
 CT Tryz.prog w0 (H) 137 [.agg r.cells] (α := AC) (fun y => .slice y.a (replyB r).length y.c) (fun y => row (.slice y.a (replyB r).length y.c) 5 1 (bytesV (replyB r)) :: H) := by
 refine CT_intro Tryz.func137 rfl Tryz.ntmps137 rfl ?_
 refine T2 ?_
 refine ze rfl (Ef_boxN rfl (fun b1 => ?_))
 refine Qas rfl rfl (T4 (Qai rfl rfl (TX (zS (T2 ?_)))))
 refine zq (zf 3 rfl rfl) rfl (zq (zf 3 rfl rfl) rfl (zq (zl rfl) rfl (TX (zC rfl (fun h9 => ?_) (fun h9 => ?_)))))
 ·
  have p9 := h9
  try simp only [dp] at p9
  have hok : r.res.oK = true := h9
  refine zR (Qai rfl rfl (T4 (Qas rfl rfl (TX (zS (T2 ?_))))))
  refine zq (zf 0 rfl rfl) rfl (zq (zl rfl) rfl (zq (zf 1 rfl rfl) rfl (zq (zl rfl) rfl (zq (zf 2 rfl rfl) rfl (zq (zl rfl) rfl ?_)))))
  refine Qmi rfl rfl (zq (Qt_build_arr #[(.int .i64 _), (.int .i64 _), (.int .i64 _), (.int .i64 _)] Tryz.underlying269 rfl rfl rfl) rfl (Qmi rfl rfl (TX (zB ?_))))
  refine T_unroll (TU_round ?_)
  refine T2 (zq (Qt_lss rfl rfl) rfl (TX (zS ?_)))
  refine T_cond_true rfl (by first | rfl | decide) (zk (zx (zS (zB (T2 ?_)))))
  refine zq (Qt_index (_) rfl rfl Tryz.underlying269 (by omega) (by omega) (rfl)) rfl (Qai rfl rfl (TX (zR ?_)))
  refine Qms rfl rfl (Qmi rfl rfl (zq (Qt_conv rfl rfl Tryz.underlying23) rfl ?_))
  refine ze rfl (zc (putFixed_c (a := none) (l := []) (c := 0) (x := IntKind.u64.wrap r.client) (n := 1) (hr := RdB.nil') (by simp [fixed_length]) (u64_nonneg _)) rfl (fun x24 => ?_))
  rw [putFixed_1k, List.nil_append]
  refine Qas rfl rfl (zz (X_block (zx (zR ?_))))
  refine zq (Qt_add rfl rfl (by omega) (by omega)) rfl (Qmi rfl rfl (zz (X_again (TU_round ?_))))
  refine T2 (zq (Qt_lss rfl rfl) rfl (TX (zS ?_)))
  refine T_cond_true rfl (by first | rfl | decide) (zk (zx (zS (zB (T2 ?_)))))
  refine zq (Qt_index (_) rfl rfl Tryz.underlying269 (by omega) (by omega) (rfl)) rfl (Qai rfl rfl (TX (zR ?_)))
  refine Qms rfl rfl (Qmi rfl rfl (zq (Qt_conv rfl rfl Tryz.underlying23) rfl ?_))
  refine ze rfl (zc (putFixed_c (l := fixed (IntKind.u64.wrap r.client).toNat 1) (x := IntKind.u64.wrap r.seq) (n := 1) (by simp [fixed_length]) (u64_nonneg _)) rfl (fun x24 => ?_))
  rw [putFixed_1k]
  refine Qas rfl rfl (zz (X_block (zx (zR ?_))))
  refine zq (Qt_add rfl rfl (by omega) (by omega)) rfl (Qmi rfl rfl (zz (X_again (TU_round ?_))))
  refine T2 (zq (Qt_lss rfl rfl) rfl (TX (zS ?_)))
  refine T_cond_true rfl (by first | rfl | decide) (zk (zx (zS (zB (T2 ?_)))))
  refine zq (Qt_index (_) rfl rfl Tryz.underlying269 (by omega) (by omega) (rfl)) rfl (Qai rfl rfl (TX (zR ?_)))
  refine Qms rfl rfl (Qmi rfl rfl (zq (Qt_conv rfl rfl Tryz.underlying23) rfl ?_))
  refine ze rfl (zc (putFixed_c (l := fixed (IntKind.u64.wrap r.client).toNat 1 ++ fixed (IntKind.u64.wrap r.seq).toNat 1) (x := IntKind.u64.wrap r.slot) (n := 1) (by simp [fixed_length]) (u64_nonneg _)) rfl (fun x24 => ?_))
  rw [putFixed_1k]
  refine Qas rfl rfl (zz (X_block (zx (zR ?_))))
  refine zq (Qt_add rfl rfl (by omega) (by omega)) rfl (Qmi rfl rfl (zz (X_again (TU_round ?_))))
  refine T2 (zq (Qt_lss rfl rfl) rfl (TX (zS ?_)))
  refine T_cond_true rfl (by first | rfl | decide) (zk (zx (zS (zB (T2 ?_)))))
  refine zq (Qt_index (_) rfl rfl Tryz.underlying269 (by omega) (by omega) (rfl)) rfl (Qai rfl rfl (TX (zR ?_)))
  refine Qms rfl rfl (Qmi rfl rfl (zq (Qt_conv rfl rfl Tryz.underlying23) rfl ?_))
  refine ze rfl (zc (putFixed_c (l := fixed (IntKind.u64.wrap r.client).toNat 1 ++ fixed (IntKind.u64.wrap r.seq).toNat 1 ++ fixed (IntKind.u64.wrap r.slot).toNat 1) (x := IntKind.u64.wrap 1) (n := 1) (by simp [fixed_length]) (u64_nonneg _)) rfl (fun x24 => ?_))
  rw [putFixed_1k]
  refine Qas rfl rfl (zz (X_block (zx (zR ?_))))
  refine zq (Qt_add rfl rfl (by omega) (by omega)) rfl (Qmi rfl rfl (zz (X_again (TU_round ?_))))
  refine T2 (zq (Qt_lss rfl rfl) rfl (TX (zS ?_)))
  refine T_cond_false rfl (by first | rfl | decide) (zY (zG ?_))
  refine X_again_exit (zE (zx (T2 ?_)))
  refine Qms rfl rfl (zq (zf 3 rfl rfl) rfl (zq (zf 4 rfl rfl) rfl (zq (zl rfl) rfl ?_)))
  refine ze rfl (zc (putFolded_c (by simp [fixed_length]) hn) rfl (fun x30 => ?_))
  refine Qas rfl rfl (TX (zQ ?_))
  have e : replyB r = fixed (IntKind.u64.wrap r.client).toNat 1 ++ fixed (IntKind.u64.wrap r.seq).toNat 1 ++ fixed (IntKind.u64.wrap r.slot).toNat 1 ++ fixed (IntKind.u64.wrap 1).toNat 1 ++ packed (foldN r.res.n) := by unfold replyB okI; rw [if_pos hok]
  simp only [e]
  exact zX ⟨x30.a, x30.c⟩ [_] Tryz.results137 ⟨rfl, trivial⟩ rfl SB
 have p9 := h9
 try simp only [dp] at p9
 have hok : r.res.oK = false := h9
 refine S4 (Qas rfl rfl (TX (zS (T2 ?_))))
 refine zq (zf 0 rfl rfl) rfl (zq (zl rfl) rfl (zq (zf 1 rfl rfl) rfl (zq (zl rfl) rfl (zq (zf 2 rfl rfl) rfl (zq (zl rfl) rfl ?_)))))
 refine Qmi rfl rfl (zq (Qt_build_arr #[(.int .i64 _), (.int .i64 _), (.int .i64 _), (.int .i64 _)] Tryz.underlying269 rfl rfl rfl) rfl (Qmi rfl rfl (TX (zB ?_))))
 refine T_unroll (TU_round ?_)
 refine T2 (zq (Qt_lss rfl rfl) rfl (TX (zS ?_)))
 refine T_cond_true rfl (by first | rfl | decide) (zk (zx (zS (zB (T2 ?_)))))
 refine zq (Qt_index (_) rfl rfl Tryz.underlying269 (by omega) (by omega) (rfl)) rfl (Qai rfl rfl (TX (zR ?_)))
 refine Qms rfl rfl (Qmi rfl rfl (zq (Qt_conv rfl rfl Tryz.underlying23) rfl ?_))
 refine ze rfl (zc (putFixed_c (a := none) (l := []) (c := 0) (x := IntKind.u64.wrap r.client) (n := 1) (hr := RdB.nil') (by simp [fixed_length]) (u64_nonneg _)) rfl (fun x24 => ?_))
 rw [putFixed_1k, List.nil_append]
 refine Qas rfl rfl (zz (X_block (zx (zR ?_))))
 refine zq (Qt_add rfl rfl (by omega) (by omega)) rfl (Qmi rfl rfl (zz (X_again (TU_round ?_))))
 refine T2 (zq (Qt_lss rfl rfl) rfl (TX (zS ?_)))
 refine T_cond_true rfl (by first | rfl | decide) (zk (zx (zS (zB (T2 ?_)))))
 refine zq (Qt_index (_) rfl rfl Tryz.underlying269 (by omega) (by omega) (rfl)) rfl (Qai rfl rfl (TX (zR ?_)))
 refine Qms rfl rfl (Qmi rfl rfl (zq (Qt_conv rfl rfl Tryz.underlying23) rfl ?_))
 refine ze rfl (zc (putFixed_c (l := fixed (IntKind.u64.wrap r.client).toNat 1) (x := IntKind.u64.wrap r.seq) (n := 1) (by simp [fixed_length]) (u64_nonneg _)) rfl (fun x24 => ?_))
 rw [putFixed_1k]
 refine Qas rfl rfl (zz (X_block (zx (zR ?_))))
 refine zq (Qt_add rfl rfl (by omega) (by omega)) rfl (Qmi rfl rfl (zz (X_again (TU_round ?_))))
 refine T2 (zq (Qt_lss rfl rfl) rfl (TX (zS ?_)))
 refine T_cond_true rfl (by first | rfl | decide) (zk (zx (zS (zB (T2 ?_)))))
 refine zq (Qt_index (_) rfl rfl Tryz.underlying269 (by omega) (by omega) (rfl)) rfl (Qai rfl rfl (TX (zR ?_)))
 refine Qms rfl rfl (Qmi rfl rfl (zq (Qt_conv rfl rfl Tryz.underlying23) rfl ?_))
 refine ze rfl (zc (putFixed_c (l := fixed (IntKind.u64.wrap r.client).toNat 1 ++ fixed (IntKind.u64.wrap r.seq).toNat 1) (x := IntKind.u64.wrap r.slot) (n := 1) (by simp [fixed_length]) (u64_nonneg _)) rfl (fun x24 => ?_))
 rw [putFixed_1k]
 refine Qas rfl rfl (zz (X_block (zx (zR ?_))))
 refine zq (Qt_add rfl rfl (by omega) (by omega)) rfl (Qmi rfl rfl (zz (X_again (TU_round ?_))))
 refine T2 (zq (Qt_lss rfl rfl) rfl (TX (zS ?_)))
 refine T_cond_true rfl (by first | rfl | decide) (zk (zx (zS (zB (T2 ?_)))))
 refine zq (Qt_index (_) rfl rfl Tryz.underlying269 (by omega) (by omega) (rfl)) rfl (Qai rfl rfl (TX (zR ?_)))
 refine Qms rfl rfl (Qmi rfl rfl (zq (Qt_conv rfl rfl Tryz.underlying23) rfl ?_))
 refine ze rfl (zc (putFixed_c (l := fixed (IntKind.u64.wrap r.client).toNat 1 ++ fixed (IntKind.u64.wrap r.seq).toNat 1 ++ fixed (IntKind.u64.wrap r.slot).toNat 1) (x := IntKind.u64.wrap 0) (n := 1) (by simp [fixed_length]) (u64_nonneg _)) rfl (fun x24 => ?_))
 rw [putFixed_1k]
 refine Qas rfl rfl (zz (X_block (zx (zR ?_))))
 refine zq (Qt_add rfl rfl (by omega) (by omega)) rfl (Qmi rfl rfl (zz (X_again (TU_round ?_))))
 refine T2 (zq (Qt_lss rfl rfl) rfl (TX (zS ?_)))
 refine T_cond_false rfl (by first | rfl | decide) (zY (zG ?_))
 refine X_again_exit (zE (zx (T2 ?_)))
 refine Qms rfl rfl (zq (zf 3 rfl rfl) rfl (zq (zf 4 rfl rfl) rfl (zq (zl rfl) rfl ?_)))
 refine ze rfl (zc (putFolded_c (by simp [fixed_length]) hn) rfl (fun x30 => ?_))
 refine Qas rfl rfl (TX (zQ ?_))
 have e : replyB r = fixed (IntKind.u64.wrap r.client).toNat 1 ++ fixed (IntKind.u64.wrap r.seq).toNat 1 ++ fixed (IntKind.u64.wrap r.slot).toNat 1 ++ fixed (IntKind.u64.wrap 0).toNat 1 ++ packed (foldN r.res.n) := by unfold replyB okI; rw [if_neg (by simp [hok])]
 simp only [e]
 exact zX ⟨x30.a, x30.c⟩ [_] Tryz.results137 ⟨rfl, trivial⟩ rfl SB
set_option maxHeartbeats 1000000 in
theorem putWorld_c {w0 : World} {H : List SA} {s f n1 n2 : Int} {m1 m2 : Nat} (hm1 : m1 < 65536) (hm2 : m2 < 65536) {cs : Vector CellV 16} (hcs : ∀ (i : Nat) (hi : i < 16), -9223372036854775808 ≤ cs[i].n ∧ cs[i].n ≤ 9223372036854775807) {rs : Vector ReplyV 6} (hrs : ∀ (i : Nat) (hi : i < 6), -9223372036854775808 ≤ rs[i].res.n ∧ rs[i].res.n ≤ 9223372036854775807) :
 CT Tryz.prog w0 (H) 90 [.agg (WorldV.mk s f ⟨n1, (m1 : Int)⟩ ⟨n2, (m2 : Int)⟩ cs rs).cells] (α := AC) (fun y => .slice y.a (worldB s f n1 m1 n2 m2 cs rs).length y.c) (fun y => row (.slice y.a (worldB s f n1 m1 n2 m2 cs rs).length y.c) 5 1 (bytesV (worldB s f n1 m1 n2 m2 cs rs)) :: H) := by
 refine CT_intro Tryz.func90 rfl Tryz.ntmps90 rfl ?_
 refine T2 ?_
 refine ze rfl (Ef_boxN rfl (fun b1 => ?_))
 refine Qas rfl rfl (TX (zS ?_))
 refine T_draw (blk b1 (.cells (WorldV.mk s f ⟨n1, (m1 : Int)⟩ ⟨n2, (m2 : Int)⟩ cs rs).cells 66 (0, 0)) :: H) [(0, true), (1, true), (2, true), (4, true), (5, true), (6, true), (3, false), (7, false), (8, true)] (by kernel_rfl) (by kernel_rfl) rfl (by kernel_rfl) SB (fun hns0 => ?_)
 refine zd hns0 rfl (zf 0 rfl rfl) rfl (zd hns0 rfl (zl rfl) rfl (zd hns0 rfl (Qt_conv rfl rfl Tryz.underlying23) rfl (zd hns0 rfl (zf 1 rfl rfl) rfl (zd hns0 rfl (zl rfl) rfl (zd hns0 rfl (Qt_conv rfl rfl Tryz.underlying23) rfl ?_)))))
 refine DL_e rfl rfl (zc (putFixed_c (a := none) (l := []) (c := 0) (x := IntKind.u64.wrap s) (n := 2) (hr := RdB.nil') (by simp) (u64_nonneg _)) rfl (fun x11 => ⟨SB, ?_⟩))
 rw [putFixed_2k, List.nil_append]
 refine DL_e rfl rfl (zc (putFixed_c (x := IntKind.u64.wrap f) (n := 2) (by rw [fixed_length]; omega) (u64_nonneg _)) rfl (fun x15 => ⟨SB, ?_⟩))
 rw [putFixed_2k]
 refine zd hns0 rfl (za (.slice _ _ _) rfl) rfl (DL_nil (zx (zS (zS ?_))))
 refine T_draw (blk b1 (.cells (WorldV.mk s f ⟨n1, (m1 : Int)⟩ ⟨n2, (m2 : Int)⟩ cs rs).cells 66 (0, 0)) :: H) [(0, true), (1, true), (3, true), (4, true), (6, true), (7, true), (10, true), (2, false), (5, false), (8, false), (9, true)] (by kernel_rfl) (by kernel_rfl) rfl (by kernel_rfl) SB (fun hns1 => ?_)
 refine zd hns1 rfl (zf 2 rfl rfl) rfl (zd hns1 rfl (zn rfl rfl) rfl (zd hns1 rfl (zf 4 rfl rfl) rfl (zd hns1 rfl (zn rfl rfl) rfl (zd hns1 rfl (zf 6 rfl rfl) rfl (zd hns1 rfl (zn rfl rfl) rfl ?_)))))
 refine zd hns1 rfl (zm (.int .i64 _) rfl) rfl ?_
 refine DL_e rfl rfl (zc (viewPut_c hm1) rfl (fun x18 => ⟨SB, ?_⟩))
 refine DL_e rfl rfl (zc (viewPut_c hm2) rfl (fun x21 => ⟨SB, ?_⟩))
 refine DL_e rfl rfl (zc (kvPut_c hcs) rfl (fun x24 => ⟨SB, ?_⟩))
 refine zd hns1 rfl (Qt_build_arr #[(.slice _ _ _), (.slice _ _ _), (.slice _ _ _)] Tryz.underlying231 rfl rfl rfl) rfl (DL_nil (zx (zB ?_)))
 refine T_unroll (TU_round ?_)
 refine T2 (zq (Qt_lss rfl rfl) rfl (TX (zS ?_)))
 refine T_cond_true rfl (by first | rfl | decide) (zk (zx (zS (zB (T2 ?_)))))
 refine zq (Qt_index (_) rfl rfl Tryz.underlying231 (by omega) (by omega) (rfl)) rfl (Qas rfl rfl (TX (zR ?_)))
 refine Qms rfl rfl (Qms rfl rfl ?_)
 refine ze rfl (zc (putText_c (l := fixed (IntKind.u64.wrap s).toNat 2 ++ fixed (IntKind.u64.wrap f).toNat 2) (l2 := viewB n1 m1) (by have hv1 := viewB_len n1 m1; have hv2 := viewB_len n2 m2; have hv3 := kvB_len hcs; have hv4 := textB_length (viewB n1 m1) (by omega); have hv5 := textB_length (viewB n2 m2) (by omega); simp only [List.length_append, fixed_length]; omega) (by have hv1 := viewB_len n1 m1; have hv2 := viewB_len n2 m2; have hv3 := kvB_len hcs; have hv4 := textB_length (viewB n1 m1) (by omega); have hv5 := textB_length (viewB n2 m2) (by omega); omega)) rfl (fun x31 => ?_))
 rw [List.append_assoc (fixed (IntKind.u64.wrap s).toNat 2 ++ fixed (IntKind.u64.wrap f).toNat 2) (packed (viewB n1 m1).length) (viewB n1 m1), show packed (viewB n1 m1).length ++ viewB n1 m1 = textB (viewB n1 m1) from rfl]
 refine Qas rfl rfl (zz (X_block (zx (zR ?_))))
 refine zq (Qt_add rfl rfl (by omega) (by omega)) rfl (Qmi rfl rfl (zz (X_again (TU_round ?_))))
 refine T2 (zq (Qt_lss rfl rfl) rfl (TX (zS ?_)))
 refine T_cond_true rfl (by first | rfl | decide) (zk (zx (zS (zB (T2 ?_)))))
 refine zq (Qt_index (_) rfl rfl Tryz.underlying231 (by omega) (by omega) (rfl)) rfl (Qas rfl rfl (TX (zR ?_)))
 refine Qms rfl rfl (Qms rfl rfl ?_)
 refine ze rfl (zc (putText_c (l := fixed (IntKind.u64.wrap s).toNat 2 ++ fixed (IntKind.u64.wrap f).toNat 2 ++ textB (viewB n1 m1)) (l2 := viewB n2 m2) (by have hv1 := viewB_len n1 m1; have hv2 := viewB_len n2 m2; have hv3 := kvB_len hcs; have hv4 := textB_length (viewB n1 m1) (by omega); have hv5 := textB_length (viewB n2 m2) (by omega); simp only [List.length_append, fixed_length]; omega) (by have hv1 := viewB_len n1 m1; have hv2 := viewB_len n2 m2; have hv3 := kvB_len hcs; have hv4 := textB_length (viewB n1 m1) (by omega); have hv5 := textB_length (viewB n2 m2) (by omega); omega)) rfl (fun x31 => ?_))
 rw [List.append_assoc (fixed (IntKind.u64.wrap s).toNat 2 ++ fixed (IntKind.u64.wrap f).toNat 2 ++ textB (viewB n1 m1)) (packed (viewB n2 m2).length) (viewB n2 m2), show packed (viewB n2 m2).length ++ viewB n2 m2 = textB (viewB n2 m2) from rfl]
 refine Qas rfl rfl (zz (X_block (zx (zR ?_))))
 refine zq (Qt_add rfl rfl (by omega) (by omega)) rfl (Qmi rfl rfl (zz (X_again (TU_round ?_))))
 refine T2 (zq (Qt_lss rfl rfl) rfl (TX (zS ?_)))
 refine T_cond_true rfl (by first | rfl | decide) (zk (zx (zS (zB (T2 ?_)))))
 refine zq (Qt_index (_) rfl rfl Tryz.underlying231 (by omega) (by omega) (rfl)) rfl (Qas rfl rfl (TX (zR ?_)))
 refine Qms rfl rfl (Qms rfl rfl ?_)
 refine ze rfl (zc (putText_c (l := fixed (IntKind.u64.wrap s).toNat 2 ++ fixed (IntKind.u64.wrap f).toNat 2 ++ textB (viewB n1 m1) ++ textB (viewB n2 m2)) (l2 := kvB cs) (by have hv1 := viewB_len n1 m1; have hv2 := viewB_len n2 m2; have hv3 := kvB_len hcs; have hv4 := textB_length (viewB n1 m1) (by omega); have hv5 := textB_length (viewB n2 m2) (by omega); simp only [List.length_append, fixed_length]; omega) (by have hv1 := viewB_len n1 m1; have hv2 := viewB_len n2 m2; have hv3 := kvB_len hcs; have hv4 := textB_length (viewB n1 m1) (by omega); have hv5 := textB_length (viewB n2 m2) (by omega); omega)) rfl (fun x31 => ?_))
 rw [List.append_assoc (fixed (IntKind.u64.wrap s).toNat 2 ++ fixed (IntKind.u64.wrap f).toNat 2 ++ textB (viewB n1 m1) ++ textB (viewB n2 m2)) (packed (kvB cs).length) (kvB cs), show packed (kvB cs).length ++ kvB cs = textB (kvB cs) from rfl]
 refine Qas rfl rfl (zz (X_block (zx (zR ?_))))
 refine zq (Qt_add rfl rfl (by omega) (by omega)) rfl (Qmi rfl rfl (zz (X_again (TU_round ?_))))
 refine T2 (zq (Qt_lss rfl rfl) rfl (TX (zS ?_)))
 refine T_cond_false rfl (by first | rfl | decide) (zY (zG ?_))
 refine X_again_exit (zE (zx (zS (T2 ?_))))
 refine zq (zf 38 rfl rfl) rfl (zq (zn rfl rfl) rfl (Qmi rfl rfl (TX (zB ?_))))
 have hhd := headB_len (s := s) (f := f) (n1 := n1) (n2 := n2) (m1 := m1) (m2 := m2) hcs
 refine T_loop [3, 7, 35, 36, 37, 38, 39, 40, 41, 42] [35, 3] (fun us H' => ∃ (k : Nat) (a : Option Addr) (c : Nat), us = [.int .i64 (k : Int), .slice a (fixed (IntKind.u64.wrap s).toNat 2 ++ fixed (IntKind.u64.wrap f).toNat 2 ++ textB (viewB n1 m1) ++ textB (viewB n2 m2) ++ textB (kvB cs) ++ repliesB rs k).length c] ∧ row (.slice a (fixed (IntKind.u64.wrap s).toNat 2 ++ fixed (IntKind.u64.wrap f).toNat 2 ++ textB (viewB n1 m1) ++ textB (viewB n2 m2) ++ textB (kvB cs) ++ repliesB rs k).length c) 5 1 (bytesV (fixed (IntKind.u64.wrap s).toNat 2 ++ fixed (IntKind.u64.wrap f).toNat 2 ++ textB (viewB n1 m1) ++ textB (viewB n2 m2) ++ textB (kvB cs) ++ repliesB rs k)) :: blk b1 (.cells (WorldV.mk s f ⟨n1, (m1 : Int)⟩ ⟨n2, (m2 : Int)⟩ cs rs).cells 66 (0, 0)) :: H = H' ∧ k ≤ 6) (fun us => match us with | .int _ i :: _ => 6 - i.toNat | _ => 0) ⟨0, x31.a, x31.c, by rw [show repliesB rs 0 = [] from rfl, List.append_nil]; rfl, by rw [show repliesB rs 0 = [] from rfl, List.append_nil], by omega⟩ SB ?_
 rintro τ1 _ _  ⟨k, a, c, rfl, rfl, hk0⟩ _
 refine T2 (zq (Qt_lss rfl rfl) rfl (TX (zS ?_)))
 refine zC rfl (fun h36 => ?_) (fun h36 => ?_)
 ·
  have p36 := h36
  try simp only [dp] at p36
  have hk : k < 6 := by omega
  have hrk := hrs k hk
  have hlk := replyB_len hrk
  have hhk := repliesB_len hrs k (by omega)
  have hsk : SubAt (flatV ReplyV.list rs).toArray (k * 5) 5 rs[k].cells := sub_elem _ 5 ReplyV.list_len rs k hk
  refine zk (zx (zS (zB (T2 ?_))))
  refine zq (Qt_indexS rfl rfl Tryz.underlying64 hk) rfl ?_
  refine ze rfl (Ef_allocN (fun b7 => ?_))
  refine zN (zs rfl rfl (?_))
  refine TX (zR ?_)
  refine Qms rfl rfl (zq (zn rfl rfl) rfl ?_)
  refine ze rfl (zc (putReply_c (r := rs[k]) hrk) rfl (fun x40 => ?_))
  refine ze rfl (zc (putText_c (l := fixed (IntKind.u64.wrap s).toNat 2 ++ fixed (IntKind.u64.wrap f).toNat 2 ++ textB (viewB n1 m1) ++ textB (viewB n2 m2) ++ textB (kvB cs) ++ repliesB rs k) (l2 := replyB rs[k]) (by rw [List.length_append]; omega) (by omega)) rfl (fun x41 => ?_))
  rw [List.append_assoc (fixed (IntKind.u64.wrap s).toNat 2 ++ fixed (IntKind.u64.wrap f).toNat 2 ++ textB (viewB n1 m1) ++ textB (viewB n2 m2) ++ textB (kvB cs) ++ repliesB rs k) (packed (replyB rs[k]).length) (replyB rs[k]), show packed (replyB rs[k]).length ++ replyB rs[k] = textB (replyB rs[k]) from rfl, List.append_assoc (fixed (IntKind.u64.wrap s).toNat 2 ++ fixed (IntKind.u64.wrap f).toNat 2 ++ textB (viewB n1 m1) ++ textB (viewB n2 m2) ++ textB (kvB cs)) (repliesB rs k) (textB (replyB rs[k])), repliesB_succ rs hk]
  refine Qas rfl rfl (zz (X_block (zx (zR ?_))))
  refine zq (Qt_add rfl rfl (by omega) (by omega)) rfl (Qmi rfl rfl (zz ?_))
  apply X_loop
  case ha => exact (by repeat (first | with_reducible exact agree_refl | refine agree_upd rfl ?_ | refine agree_mix rfl ?_ | refine agree_setAll rfl ?_))
  case hI => exact ⟨k + 1, x41.a, x41.c, rfl, rfl, by omega⟩
  case hm => exact by show 6 - (k + 1 : Int).toNat < 6 - (k : Int).toNat; omega
  case hH => exact SB
 have p36 := h36
 try simp only [dp] at p36
 obtain rfl : k = 6 := by omega
 have e6 : fixed (IntKind.u64.wrap s).toNat 2 ++ fixed (IntKind.u64.wrap f).toNat 2 ++ textB (viewB n1 m1) ++ textB (viewB n2 m2) ++ textB (kvB cs) ++ repliesB rs 6 = worldB s f n1 m1 n2 m2 cs rs := rfl
 rw [e6]
 refine zY (zG (zW (zE (zx (T2 ?_)))))
 refine Qms rfl rfl (Qas rfl rfl (TX (zQ ?_)))
 exact zX ⟨a, c⟩ [_] Tryz.results90 ⟨rfl, trivial⟩ rfl SB
attribute [local irreducible] sha worldB
set_option maxHeartbeats 1000000 in
theorem digest_c {w0 : World} {H : List SA} {s f n1 n2 : Int} {m1 m2 : Nat} (hm1 : m1 < 65536) (hm2 : m2 < 65536) {cs : Vector CellV 16} (hcs : ∀ (i : Nat) (hi : i < 16), -9223372036854775808 ≤ cs[i].n ∧ cs[i].n ≤ 9223372036854775807) {rs : Vector ReplyV 6} (hrs : ∀ (i : Nat) (hi : i < 6), -9223372036854775808 ≤ rs[i].res.n ∧ rs[i].res.n ≤ 9223372036854775807) :
 CT Tryz.prog w0 (H) 49 [.agg (WorldV.mk s f ⟨n1, (m1 : Int)⟩ ⟨n2, (m2 : Int)⟩ cs rs).cells] (α := Unit) (fun _ => .agg (hlist (sha (worldB s f n1 m1 n2 m2 cs rs))).toArray) (fun _ => H) := by
 refine CT_intro Tryz.func49 rfl Tryz.ntmps49 rfl ?_
 refine T2 ?_
 refine ze rfl (Ef_boxN rfl (fun b1 => ?_))
 refine ze rfl (Ef_allocN (fun b2 => ?_))
 refine T4 (zq (zn rfl rfl) rfl ?_)
 refine ze rfl (zc (putWorld_c hm1 hm2 hcs hrs) rfl (fun x4 => ?_))
 refine ze rfl (zc (sum_c (l := worldB s f n1 m1 n2 m2 cs rs) (by have := worldB_len (s := s) (f := f) (n1 := n1) (n2 := n2) (m1 := m1) (m2 := m2) hcs hrs; omega)) rfl (fun x5 => ?_))
 refine zN (zs rfl rfl (?_))
 refine TX (zQ ?_)
 exact zX () [_] Tryz.results49 ⟨⟨_, rfl, res_cellN rfl⟩, trivial⟩ rfl SB
end
end Go.Proofs.YtgeknnclmhfjlaaGreatDoor
