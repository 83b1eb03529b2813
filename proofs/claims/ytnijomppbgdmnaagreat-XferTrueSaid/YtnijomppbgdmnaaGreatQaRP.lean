/- Walks: digits of a digest, the key by which a signature is right, the leaf of a signature. -/
import Derived.Test.YtnijomppbgdmnaaGreatSgP
import Derived.Test.YtnijomppbgdmnaaGreatJaRP
set_option linter.unusedSimpArgs false
set_option linter.unusedVariables false
namespace Go.Proofs.YtnijomppbgdmnaaGreat
section
open Go.RowKit Go.Sx
set_option maxRecDepth 100000
set_option maxHeartbeats 1000000
def nibH (h : Vector UInt8 32) (i : Nat) : Nat := (h.toList.getD i 0).toNat / 2 ^ 4
def nibL (h : Vector UInt8 32) (i : Nat) : Nat := (h.toList.getD i 0).toNat &&& 15
theorem nibH_le (h : Vector UInt8 32) (i : Nat) : nibH h i ≤ 15 := by have := (h.toList.getD i 0).toNat_lt; unfold nibH; omega
theorem nibL_le (h : Vector UInt8 32) (i : Nat) : nibL h i ≤ 15 := Nat.and_le_right
/-- What is left of the greatest digits. -/
def sumD (h : Vector UInt8 32) : Nat → Nat
 | 0 => 0
 | k + 1 => sumD h k + (30 - nibH h k - nibL h k)
theorem sumD_succ (h : Vector UInt8 32) (k : Nat) : sumD h (k + 1) = sumD h k + (30 - nibH h k - nibL h k) := rfl
theorem sumD_le (h : Vector UInt8 32) : ∀ k, sumD h k ≤ 30 * k
 | 0 => Nat.le_refl _
 | k + 1 => by have := sumD_le h k; rw [sumD]; omega
/-- A digest's digit. -/
def digN (h : Vector UInt8 32) (j : Nat) : Nat := if j < 32 then (if j % 2 = 0 then nibH h (j / 2) else nibL h (j / 2)) else sumD h 16 / 2 ^ (8 - 4 * (j - 32)) &&& 15
def digV (h : Vector UInt8 32) : Vector Int 35 := Vector.ofFn fun j => ((digN h j.val : Nat) : Int)
def digP (h : Vector UInt8 32) (k : Nat) : Vector Int 35 := Vector.ofFn fun j => if j.val < 2 * k then ((digN h j.val : Nat) : Int) else 0
theorem digV_get (h : Vector UInt8 32) (j : Nat) (hj : j < 35) : (digV h)[j] = ((digN h j : Nat) : Int) := by simp [digV]
theorem digP_get (h : Vector UInt8 32) (k j : Nat) (hj : j < 35) : (digP h k)[j] = if j < 2 * k then ((digN h j : Nat) : Int) else 0 := by simp [digP]
theorem digP_zero (h : Vector UInt8 32) : digP h 0 = Vector.replicate 35 0 := by
 apply Vector.ext
 intro i hi
 rw [digP_get]; simp
theorem digP_step (h : Vector UInt8 32) (k : Nat) (hk : k < 16) : ((digP h k).set (2 * k) ((nibH h k : Nat) : Int)).set (2 * k + 1) ((nibL h k : Nat) : Int) = digP h (k + 1) := by
 apply Vector.ext
 intro i hi
 rw [digP_get, Vector.getElem_set, Vector.getElem_set, digP_get]
 by_cases e1 : 2 * k + 1 = i
 · rw [if_pos e1, if_pos (by omega)]; subst e1
   unfold digN
   rw [if_pos (by omega), if_neg (by omega), show (2 * k + 1) / 2 = k from by omega]
 · rw [if_neg e1]
   by_cases e2 : 2 * k = i
   · rw [if_pos e2, if_pos (by omega)]; subst e2
     unfold digN
     rw [if_pos (by omega), if_pos (by omega), show 2 * k / 2 = k from by omega]
   · rw [if_neg e2]
     by_cases e3 : i < 2 * k
     · rw [if_pos e3, if_pos (by omega)]
     · rw [if_neg e3, if_neg (by omega)]
theorem digP_fin (h : Vector UInt8 32) : (((digP h 16).set 32 ((sumD h 16 / 2 ^ 8 &&& 15 : Nat) : Int)).set 33 ((sumD h 16 / 2 ^ 4 &&& 15 : Nat) : Int)).set 34 ((sumD h 16 / 2 ^ 0 &&& 15 : Nat) : Int) = digV h := by
 apply Vector.ext
 intro i hi
 rw [digV_get, Vector.getElem_set, Vector.getElem_set, Vector.getElem_set, digP_get]
 by_cases e : i < 32
 · rw [if_neg (by omega), if_neg (by omega), if_neg (by omega), if_pos (by omega)]
 · have : i = 32 ∨ i = 33 ∨ i = 34 := by omega
   rcases this with rfl | rfl | rfl <;> simp [digN]
theorem hget (h : Vector UInt8 32) (k : Nat) (hk : k < 32) : h.toList.getD k 0 = h[k] := by
 rw [List.getD_eq_getElem?_getD, List.getElem?_eq_getElem (by simpa using hk)]; simp
theorem and15 {a : Nat} (h : a < 1000) : IntKind.i64.wrap ((BitVec.ofInt IntKind.i64.bits (a : Int) &&& BitVec.ofInt IntKind.i64.bits 15).toNat : Int) = ((a &&& 15 : Nat) : Int) := by
 show IntKind.i64.wrap ((BitVec.ofInt 64 (a : Int) &&& BitVec.ofInt 64 ((15 : Nat) : Int)).toNat : Int) = _
 have hx : a &&& 15 ≤ 15 := Nat.and_le_right
 rw [BitVec.ofInt_natCast, BitVec.ofInt_natCast, BitVec.toNat_and, BitVec.toNat_ofNat, BitVec.toNat_ofNat, Nat.mod_eq_of_lt (by omega), Nat.mod_eq_of_lt (by decide)]
 simp [IntKind.wrap, IntKind.bits, IntKind.signed]; omega
theorem and1 {a : Nat} (h : a < 1000) : IntKind.i64.wrap ((BitVec.ofInt IntKind.i64.bits (a : Int) &&& BitVec.ofInt IntKind.i64.bits 1).toNat : Int) = ((a % 2 : Nat) : Int) := by
 show IntKind.i64.wrap ((BitVec.ofInt 64 (a : Int) &&& BitVec.ofInt 64 ((1 : Nat) : Int)).toNat : Int) = _
 rw [BitVec.ofInt_natCast, BitVec.ofInt_natCast, BitVec.toNat_and, BitVec.toNat_ofNat, BitVec.toNat_ofNat, Nat.mod_eq_of_lt (by omega), Nat.mod_eq_of_lt (by decide), Nat.and_one_is_mod]
 simp [IntKind.wrap, IntKind.bits, IntKind.signed]; omega
/-- A signature's piece. -/
def pieceV (l : List UInt8) (k : Nat) : Vector UInt8 16 := Vector.ofFn fun i => l.getD (16 * k + i.val) 0
def hashV (l : List UInt8) (k : Nat) : Vector UInt8 32 := Vector.ofFn fun i => l.getD (k + i.val) 0
theorem ofFn_sub {n : Nat} (l : List UInt8) (k : Nat) (hk : k + n ≤ l.length) : (Vector.ofFn fun i : Fin n => l.getD (k + i.val) 0).toList = (l.drop k).take n := by
 apply List.ext_getElem
 · simp; omega
 · intro i h1 h2
   have hi : i < n := by simpa using h1
   simp only [Vector.getElem_toList, Vector.getElem_ofFn, List.getElem_take, List.getElem_drop, List.getD_eq_getElem?_getD]
   rw [List.getElem?_eq_getElem (by omega)]; rfl
/-- The key by which a signature is right: the first chains' ends. -/
def recL (text sig : List UInt8) : Nat → List UInt8
 | 0 => []
 | k + 1 => recL text sig k ++ (walkV (pieceV sig k) (k : Int) (digN (sha text) k) (15 - digN (sha text) k)).toList
theorem recL_len (text sig : List UInt8) : ∀ k, (recL text sig k).length = 16 * k
 | 0 => rfl
 | k + 1 => by rw [recL, List.length_append, recL_len text sig k]; simp; omega
theorem recL_zero (text sig : List UInt8) : recL text sig 0 = [] := rfl
theorem recL_succ (text sig : List UInt8) (k : Nat) : recL text sig (k + 1) = recL text sig k ++ (walkV (pieceV sig k) (k : Int) (digN (sha text) k) (15 - digN (sha text) k)).toList := rfl
def recV (text sig : List UInt8) : Vector UInt8 32 := sha (recL text sig 35)
def pairV (x y : Vector UInt8 32) : Vector UInt8 32 := sha (x.toList ++ y.toList)
/-- The way up from a leaf. -/
def upV (sig : List UInt8) (n : Nat) (h : Vector UInt8 32) : Nat → Vector UInt8 32
 | 0 => h
 | i + 1 => if n / 2 ^ i % 2 = 0 then pairV (upV sig n h i) (hashV sig (561 + 32 * i)) else pairV (hashV sig (561 + 32 * i)) (upV sig n h i)
theorem upV_zero (sig : List UInt8) (n : Nat) (h : Vector UInt8 32) : upV sig n h 0 = h := rfl
theorem upV_even (sig : List UInt8) (n : Nat) (h : Vector UInt8 32) (i : Nat) (he : n / 2 ^ i % 2 = 0) : upV sig n h (i + 1) = pairV (upV sig n h i) (hashV sig (561 + 32 * i)) := if_pos he
theorem upV_odd (sig : List UInt8) (n : Nat) (h : Vector UInt8 32) (i : Nat) (he : ¬ n / 2 ^ i % 2 = 0) : upV sig n h (i + 1) = pairV (hashV sig (561 + 32 * i)) (upV sig n h i) := if_neg he
/-- The leaf of a signature, the error. -/
def verV (root : Vector UInt8 32) (text sig : List UInt8) : Int × Int :=
 if sig.length ≠ 657 ∨ 8 ≤ (sig.getD 0 0).toNat then (0, 2)
 else if upV sig (sig.getD 0 0).toNat (recV text ((sig.drop 1).take 560)) 3 ≠ root then (0, 5) else (((sig.getD 0 0).toNat : Int), 0)
attribute [local irreducible] sha cutV stepV walkV putFixed digP digV sumD nibH nibL digN pieceV hashV recL recV pairV upV
theorem digits_c {w0 : World} {H : List SA} {h : Vector UInt8 32} :
 CT Tryz.prog w0 (H) 187 [.agg (hlist h).toArray] (α := Unit) (fun _ => .agg (flatV intL (digV h)).toArray) (fun _ => H) := by
 refine CT_intro Tryz.func187 rfl Tryz.ntmps187 rfl (T2 (ze rfl (Ef_boxN rfl (fun b1 => ?_))))
 refine ze rfl (Ef_allocN (fun b2 => ?_))
 rw [zero35]
 refine T4 (ze rfl (Ef_allocN (fun b3 => ?_)))
 rw [zero35]
 refine T4 (Qai rfl rfl (TX (zS (T2 (Qmi rfl rfl (TX (zB ?_)))))))
 refine T_loop [4, 5, 7, 8, 9, 10, 11, 12, 13, 14, 15, 16, 17, 18, 19, 20, 21, 22, 23, 24, 25, 26, 27, 28, 29, 30, 31, 32, 33, 34, 35, 36, 37, 38, 39, 40] [7, 4] (fun us H' => ∃ (k : Nat) (lf : Int) (v : Vector Int 35), us = [.int .i64 (k : Int), .int .i64 lf] ∧ blk b3 (.cells (flatV intL v).toArray 288 (0, 0)) :: blk b1 (.cells (hlist h).toArray 32 (0, 0)) :: blk b2 (.cells (flatV intL (Vector.replicate 35 (0 : Int))).toArray 288 (0, 0)) :: H = H' ∧ k ≤ 16 ∧ (lf = ((sumD h k : Nat) : Int)) ∧ (v = digP h k)) (fun us => match us with | .int _ i :: _ => 16 - i.toNat | _ => 0) ⟨0, 0, (Vector.replicate 35 (0 : Int)), rfl, rfl, by omega, by simp [sumD], (digP_zero h).symm⟩ SB ?_
 rintro τ0 _ _  ⟨k, lf, v, rfl, rfl, hk0, hlf, hv⟩ _
 refine T2 (zy (Qt_lss rfl rfl) (TX (zS (zC rfl (fun h8 => ?_) (fun h8 => ?_)))))
 ·
  have p8 := cL h8
  have hk : k < 16 := by omega
  have hc8 := h[k].toNat_lt
  have hand : h[k].toNat &&& 15 ≤ 15 := Nat.and_le_right
  have hch : CellAt (hlist h).toArray k (.int .u8 (h[k].toNat : Int)) := cellAtH rfl (by omega)
  have hnh : h[k].toNat / 2 ^ 4 = nibH h k := by unfold nibH; rw [hget h k (by omega)]
  have hnl : h[k].toNat &&& 15 = nibL h k := by unfold nibL; rw [hget h k (by omega)]
  have hp1 := intV_put v (2 * k) (by omega) ((h[k].toNat / 2 ^ 4 : Nat) : Int)
  have hp2 := intV_put (v.set (2 * k) ((h[k].toNat / 2 ^ 4 : Nat) : Int)) (2 * k + 1) (by omega) ((h[k].toNat &&& 15 : Nat) : Int)
  obtain ⟨v2, hv2⟩ : ∃ v2 : Vector Int 35, v2 = (v.set (2 * k) ((h[k].toNat / 2 ^ 4 : Nat) : Int)).set (2 * k + 1) ((h[k].toNat &&& 15 : Nat) : Int) := ⟨_, rfl⟩
  rw [← hv2] at hp2
  have hv2e : v2 = digP h (k + 1) := by rw [hv2, hnh, hnl, hv, digP_step h k hk]
  have hlb := sumD_le h k
  have hsd := sumD_succ h k
  have hh1 := nibH_le h k
  have hh2 := nibL_le h k
  have hq1 : v2[2 * k] = ((nibH h k : Nat) : Int) := by rw [hv2, ← hnh]; simp
  have hq2 : v2[2 * k + 1] = ((nibL h k : Nat) : Int) := by rw [hv2, ← hnl]; simp
  have hg1 : CellAt (flatV intL v2).toArray (2 * k) (.int .i64 v2[2 * k]) := ⟨intV_get v2 _ (by omega)⟩
  have hg2 : CellAt (flatV intL v2).toArray (2 * k + 1) (.int .i64 v2[2 * k + 1]) := ⟨intV_get v2 _ (by omega)⟩
  refine zk (zx (zS (zB (T2 (Qmi rfl rfl (Qai rfl rfl (TX (zS (zD (blk b1 (.cells (hlist h).toArray 32 (0, 0)) :: H) [(0, true), (1, true), (2, true), (3, true), (4, true), (5, true), (6, true), (7, true), (8, true), (9, true), (10, true), (11, true), (12, true), (13, true), (14, true), (15, true), (16, false), (17, true), (18, false)] SB (fun hns0 => ?_))))))))))
  refine zd hns0 rfl (zm (.int .i64 _) rfl) rfl (zd hns0 rfl (Qt_mul rfl rfl (by omega) (by omega)) rfl ?_)
  rw [show (2 : Int) * (k : Int) = ((2 * k : Nat) : Int) from by omega]
  refine zd hns0 rfl (zm (.int .i64 _) rfl) rfl (zd hns0 rfl (Qt_mul rfl rfl (by omega) (by omega)) rfl (zd hns0 rfl (zj rfl rfl) rfl ?_))
  rw [show (2 : Int) * (k : Int) + 1 = ((2 * k + 1 : Nat) : Int) from by omega]
  refine zd hns0 rfl (zm (.int .i64 _) rfl) rfl (zd hns0 rfl (Qt_indexAddr_arrC (sz := 1) k k rfl rfl Tryz.underlying32 rfl rfl (by rw [Nat.blt_eq]; omega) (by omega)) rfl (zd hns0 rfl (zl rfl) rfl (zd hns0 rfl (Qt_shrN 4 rfl rfl (by decide)) rfl (zd hns0 rfl (Qt_conv_i64 rfl rfl Tryz.underlying3 (by omega) (by omega)) rfl (zd hns0 rfl (zm (.int .i64 _) rfl) rfl (zd hns0 rfl (Qt_indexAddr_arrC (sz := 1) k k rfl rfl Tryz.underlying32 rfl rfl (by rw [Nat.blt_eq]; omega) (by omega)) rfl (zd hns0 rfl (zl rfl) rfl (zd hns0 rfl (Qt_andN (b := 15) rfl rfl rfl (by show _ < 2 ^ 8; omega) (by decide)) rfl (zd hns0 rfl (Qt_conv_i64 rfl rfl Tryz.underlying3 (by omega) (by omega)) rfl (zd hns0 rfl (Qt_indexAddr_arrC (sz := 1) (2 * k) (2 * k) rfl rfl Tryz.underlying288 rfl rfl (by rw [Nat.blt_eq]; omega) (by omega)) rfl ?_))))))))))
  refine DL_n rfl (Ef_store1 (.int .i64 _) rfl rfl (⟨SB, (zd hns0 rfl (Qt_indexAddr_arrC (sz := 1) (2 * k + 1) (2 * k + 1) rfl rfl Tryz.underlying288 rfl rfl (by rw [Nat.blt_eq]; omega) (by omega)) rfl (DL_n rfl (Ef_store1 (.int .i64 _) rfl rfl (⟨SB, (DL_nil (zx (zD (blk b3 (.cells (flatV intL v2).toArray 288 (0, 0)) :: H) [(0, true), (1, true), (2, true), (3, true), (4, true), (5, true), (6, true), (7, true), (8, true), (9, true), (10, true), (11, true), (12, true), (13, true)] SB (fun hns1 => ?_))))⟩))))⟩))
  refine zd hns1 rfl (zm (.int .i64 _) rfl) rfl (zd hns1 rfl (zm (.int .i64 _) rfl) rfl (zd hns1 rfl (Qt_mul rfl rfl (by omega) (by omega)) rfl ?_))
  rw [show (2 : Int) * (k : Int) = ((2 * k : Nat) : Int) from by omega]
  refine zd hns1 rfl (Qt_indexAddr_arrC (sz := 1) (2 * k) (2 * k) rfl rfl Tryz.underlying288 rfl rfl (by rw [Nat.blt_eq]; omega) (by omega)) rfl (zd hns1 rfl (zl rfl) rfl (zd hns1 rfl (zh rfl rfl) rfl (zd hns1 rfl (zm (.int .i64 _) rfl) rfl (zd hns1 rfl (Qt_mul rfl rfl (by omega) (by omega)) rfl (zd hns1 rfl (zj rfl rfl) rfl ?_)))))
  rw [show (2 : Int) * (k : Int) + 1 = ((2 * k + 1 : Nat) : Int) from by omega]
  refine zd hns1 rfl (Qt_indexAddr_arrC (sz := 1) (2 * k + 1) (2 * k + 1) rfl rfl Tryz.underlying288 rfl rfl (by rw [Nat.blt_eq]; omega) (by omega)) rfl (zd hns1 rfl (zl rfl) rfl (zd hns1 rfl (zh rfl rfl) rfl (zd hns1 rfl (zj rfl rfl) rfl (zd hns1 rfl (za (.int .i64 _) rfl) rfl (DL_nil (X_block (zx (zR (zy (zj rfl rfl) (Qmi rfl rfl (zz ?_)))))))))))
  apply X_loop
  case ha => exact zA
  case hI => exact ⟨k + 1, _, v2, rfl, rfl, by omega, by omega, hv2e⟩
  case hm => exact by show 16 - (k + 1 : Int).toNat < 16 - (k : Int).toNat; omega
  case hH => exact SB
 have p8 := cL h8
 have hk16 : k = 16 := by omega
 subst hk16
 obtain ⟨ln, hln⟩ : ∃ ln : Nat, ln = sumD h 16 := ⟨_, rfl⟩
 have hlb := sumD_le h 16
 rw [← hln] at hlf hlb
 subst hlf
 refine zY (zG (zW (zE (zx (zS (T2 (Qmi rfl rfl (TX (zB (T_unroll (TU_round (T2 (zy (Qt_lss rfl rfl) (TX (zS ?_)))))))))))))))
 refine T_cond_true rfl (by first | rfl | decide) (zk (zx (zS (zB (T2 (Qmi rfl rfl (Qai rfl rfl (TX (zR (Qmi rfl rfl (zy (zj rfl rfl) (Qmi rfl rfl (Qmi rfl rfl (zy (Qt_mul rfl rfl (by omega) (by omega)) (zy (zh rfl rfl) (zy (Qt_shrN 8 rfl rfl (by decide)) (zy (Qt_val (Qt_and rfl rfl) (congrArg (Value.int .i64) (and15 (by first | omega | (apply Nat.lt_of_le_of_lt (Nat.div_le_self _ _); omega))))) ?_)))))))))))))))))
 have hp32 := intV_put v 32 (by decide) ((ln / 2 ^ 8 &&& 15 : Nat) : Int)
 obtain ⟨v3, hv3⟩ : ∃ u : Vector Int 35, u = v.set 32 ((ln / 2 ^ 8 &&& 15 : Nat) : Int) := ⟨_, rfl⟩
 rw [← hv3] at hp32
 refine zy (Qt_indexAddr_arrC (sz := 1) 32 32 rfl rfl Tryz.underlying288 rfl rfl rfl rfl) (zN (Ef_store1 (.int .i64 _) rfl rfl (zz (X_block (zx (zR (zy (zj rfl rfl) (Qmi rfl rfl (zz (X_again (TU_round (T2 (zy (Qt_lss rfl rfl) (TX (zS (T_cond_true rfl (by first | rfl | decide) (zk (zx (zS (zB (T2 ?_)))))))))))))))))))))
 refine Qmi rfl rfl (Qai rfl rfl (TX (zR (Qmi rfl rfl (zy (zj rfl rfl) (Qmi rfl rfl (Qmi rfl rfl (zy (Qt_mul rfl rfl (by omega) (by omega)) (zy (zh rfl rfl) (zy (Qt_shrN 4 rfl rfl (by decide)) (zy (Qt_val (Qt_and rfl rfl) (congrArg (Value.int .i64) (and15 (by first | omega | (apply Nat.lt_of_le_of_lt (Nat.div_le_self _ _); omega))))) ?_)))))))))))
 have hp33 := intV_put v3 33 (by decide) ((ln / 2 ^ 4 &&& 15 : Nat) : Int)
 obtain ⟨v4, hv4⟩ : ∃ u : Vector Int 35, u = v3.set 33 ((ln / 2 ^ 4 &&& 15 : Nat) : Int) := ⟨_, rfl⟩
 rw [← hv4] at hp33
 refine zy (Qt_indexAddr_arrC (sz := 1) 33 33 rfl rfl Tryz.underlying288 rfl rfl rfl rfl) (zN (Ef_store1 (.int .i64 _) rfl rfl (zz (X_block (zx (zR (zy (zj rfl rfl) (Qmi rfl rfl (zz (X_again (TU_round (T2 (zy (Qt_lss rfl rfl) (TX (zS (T_cond_true rfl (by first | rfl | decide) (zk (zx (zS (zB (T2 ?_)))))))))))))))))))))
 refine Qmi rfl rfl (Qai rfl rfl (TX (zR (Qmi rfl rfl (zy (zj rfl rfl) (Qmi rfl rfl (Qmi rfl rfl (zy (Qt_mul rfl rfl (by omega) (by omega)) (zy (zh rfl rfl) (zy (Qt_shrN 0 rfl rfl (by decide)) (zy (Qt_val (Qt_and rfl rfl) (congrArg (Value.int .i64) (and15 (by first | omega | (apply Nat.lt_of_le_of_lt (Nat.div_le_self _ _); omega))))) ?_)))))))))))
 have hp34 := intV_put v4 34 (by decide) ((ln / 2 ^ 0 &&& 15 : Nat) : Int)
 obtain ⟨v5, hv5⟩ : ∃ u : Vector Int 35, u = v4.set 34 ((ln / 2 ^ 0 &&& 15 : Nat) : Int) := ⟨_, rfl⟩
 rw [← hv5] at hp34
 refine zy (Qt_indexAddr_arrC (sz := 1) 34 34 rfl rfl Tryz.underlying288 rfl rfl rfl rfl) (zN (Ef_store1 (.int .i64 _) rfl rfl (zz (X_block (zx (zR (zy (zj rfl rfl) (Qmi rfl rfl (zz (X_again (TU_round (T2 (zy (Qt_lss rfl rfl) (TX (zS (T_cond_false rfl (by first | rfl | decide) (zY (zG ?_))))))))))))))))))
 refine X_again_exit (zE (zx (T2 (zy (zn rfl rfl) (zN (zs rfl rfl (TX (zQ ?_))))))))
 have hv5e : v5 = digV h := by rw [hv5, hv4, hv3, hv, hln]; exact digP_fin h
 rw [← hv5e]
 exact zX () [_] Tryz.results187 ⟨⟨_, rfl, res_cellN rfl⟩, trivial⟩ rfl SB
end
section
open Go.RowKit Go.Sx
set_option maxRecDepth 100000
set_option maxHeartbeats 1000000
attribute [local irreducible] sha cutV stepV walkV putFixed digP digV sumD nibH nibL digN pieceV hashV recL recV pairV upV
theorem recover_c {w0 : World} {H : List SA} {ta : Option Addr} {tl : List UInt8} {tc : Nat} [hr : RdB w0 H (.slice ta tl.length tc) tl] (htl : tl.length ≤ 4294967000) {sa : Option Addr} {sl : List UInt8} {sc : Nat} [hs : RdB w0 H (.slice sa sl.length sc) sl] (hsl : sl.length = 560) :
 CT Tryz.prog w0 (H) 178 [.slice ta tl.length tc, .slice sa sl.length sc] (α := Unit) (fun _ => .tuple #[.agg (hlist (recV tl sl)).toArray, .int .i64 0]) (fun _ => H) := by
 refine CT_intro Tryz.func178 rfl Tryz.ntmps178 rfl (T2 (ze rfl (Ef_allocN (fun b4 => ?_))))
 refine Qai rfl rfl (TX (zS (T2 (Qms rfl rfl (zy (zL rfl Tryz.underlying33) (zy (Qt_neq rfl rfl) (TX (zC rfl (fun h12 => ?_) (fun h12 => ?_)))))))))
 ·
  have p12 := cL h12
  exact absurd h12 (by simp [hsl])
 have p12 := cL h12
 refine S4 (Qas rfl rfl (TX (zS (T2 (Qms rfl rfl (ze rfl (zc (sum_c htl) rfl (fun x15 => ?_))))))))
 refine ze rfl (zc (digits_c (h := sha tl)) rfl (fun x16 => ?_))
 refine Qmi rfl rfl (TX (zB ?_))
 refine T_loop [6, 7, 8, 9, 17, 18, 19, 20, 21, 22, 23, 24, 25, 26, 27, 28, 29, 30, 31, 32, 33, 34, 35, 36] [17, 6] (fun us H' => ∃ (k : Nat) (a : Option Addr) (c : Nat), us = [.int .i64 (k : Int), .slice a (recL tl sl k).length c] ∧ row (.slice a (recL tl sl k).length c) 5 1 (bytesV (recL tl sl k)) :: blk b4 (.cells (hlist (zeroV 32)).toArray 32 (0, 0)) :: H = H' ∧ k ≤ 35) (fun us => match us with | .int _ i :: _ => 35 - i.toNat | _ => 0) ⟨0, none, 0, by rw [recL_zero]; rfl, rfl, by omega⟩ (fun w hw => by
  rw [recL_zero]
  exact (SB w hw : St w0 (blk b4 (.cells (hlist (zeroV 32)).toArray 32 (0, 0)) :: H) w).addNilB 5) ?_
 rintro τ0 _ _  ⟨k, a, c, rfl, rfl, hk0⟩ _
 refine T2 (zy (Qt_lss rfl rfl) (TX (zS (zC rfl (fun h18 => ?_) (fun h18 => ?_)))))
 ·
  have p18 := cL h18
  have hk : k < 35 := by omega
  refine zk (zx (zS (zB (T2 (Qmi rfl rfl (zy (Qt_index (.int .i64 (digV (sha tl))[k]) rfl rfl Tryz.underlying288 (by omega) (by omega) (intV_get _ k hk)) ?_))))))
  rw [digV_get _ k hk]
  refine Qai rfl rfl (Qai rfl rfl (T4 (Qms rfl rfl (Qmi rfl rfl (zy (Qt_mul rfl rfl (by omega) (by omega)) ?_)))))
  rw [show (16 : Int) * (k : Int) = ((16 * k : Nat) : Int) from by omega]
  refine Qmi rfl rfl (zy (Qt_mul rfl rfl (by omega) (by omega)) ?_)
  rw [show (16 : Int) * (k : Int) = ((16 * k : Nat) : Int) from by omega]
  refine zy (zj rfl rfl) ?_
  rw [show ((16 * k : Nat) : Int) + 16 = ((16 * k + 16 : Nat) : Int) from by omega]
  refine zy (Qt_sliceB_lh (16 * k) 16 rfl rfl rfl (by omega)) (zy (Qt_arrayAt rfl Tryz.underlying291 (by simp; omega) (by decide)) (zy (Qt_loadRN 1 (hlist (pieceV sl k)) rfl (by rw [List.drop_zero]; unfold hlist pieceV; rw [ofFn_sub sl (16 * k) (by omega)]; exact List.take_of_length_le (by simp; try omega)) (by simp) (by decide)) (Qmi rfl rfl (Qmi rfl rfl (ze rfl (zc (walk_c (p := pieceV sl k) (j := (k : Int)) (fr := (digN (sha tl) k)) (to := 15) (by decide)) rfl (fun x32 => ?_)))))))
  refine ze rfl (Ef_allocN (fun b9 => ?_))
  refine zN (zs rfl rfl (TX (zR (Qms rfl rfl (zy (Qt_slice_arr rfl Tryz.underlying291 rfl rfl) (ze rfl (Ef_appendB (sv := .slice _ _ _) (xv := .slice _ _ _) (hn := RdB.hash ((walkV (pieceV sl k) (k : Int) (digN (sha tl) k) (15 - (digN (sha tl) k)))) inferInstance inferInstance (by decide)) (l := recL tl sl k) rfl rfl (by have := recL_len tl sl k; simp; omega) rfl (fun a35 c35 => ?_))))))))
  rw [← recL_succ tl sl k]
  refine Qas rfl rfl (zz (X_block (zx (zR (zy (zj rfl rfl) (Qmi rfl rfl (zz ?_)))))))
  apply X_loop
  case ha => exact zA
  case hI => exact ⟨k + 1, a35, c35, rfl, rfl, by omega⟩
  case hm => exact by show 35 - (k + 1 : Int).toNat < 35 - (k : Int).toNat; omega
  case hH => exact SB
 have p18 := cL h18
 have hk35 : k = 35 := by omega
 subst hk35
 refine zY (zG (zW (zE (zx (T2 (Qms rfl rfl (ze rfl (zc (sum_c (l := recL tl sl 35) (by rw [recL_len]; decide)) rfl (fun x38 => ?_)))))))))
 refine zN (zs rfl rfl (Qai rfl rfl (TX (zQ ?_))))
 rw [show recV tl sl = sha (recL tl sl 35) from by unfold recV; rfl]
 exact zX () [_, _] Tryz.results178 ⟨⟨_, rfl, res_cellN rfl⟩, rfl, trivial⟩ rfl SB
def jnL (ps : List BS) (k : Nat) : List UInt8 := ((ps.map BS.l).take k).flatten
theorem jnL_succ (ps : List BS) (k : Nat) (hk : k < ps.length) : jnL ps (k + 1) = jnL ps k ++ ps[k].l := by
 unfold jnL
 rw [List.take_succ_eq_append_getElem (by simpa using hk), List.flatten_append]; simp
theorem jnL_len (ps : List BS) (hpe : ∀ x ∈ ps, x.l.length ≤ 1000) : ∀ k, k ≤ ps.length → (jnL ps k).length ≤ 1000 * k
 | 0, _ => by simp [jnL]
 | k + 1, hk => by
  rw [jnL_succ ps k (by omega), List.length_append]
  have h1 := jnL_len ps hpe k (by omega)
  have h2 := hpe _ (List.getElem_mem (show k < ps.length by omega))
  omega
theorem joinedE_c {w0 : World} {H : List SA} {pa : Option Addr} {pc : Nat} {ps : List BS} [pk : RdC w0 H (.slice pa ps.length pc) 1 (ps.map BS.val)] [pke : RdE w0 H ps] (hn : ps.length ≤ 100) (hpe : ∀ x ∈ ps, x.l.length ≤ 1000) :
 CT Tryz.prog w0 (H) 189 [.slice pa ps.length pc] (α := AC) (fun y => .slice y.a (jnL ps ps.length).length y.c) (fun y => row (.slice y.a ((jnL ps ps.length)).length y.c) 5 1 (bytesV ((jnL ps ps.length))) :: H) := by
 refine CT_intro Tryz.func189 rfl Tryz.ntmps189 rfl (T2 (Qas rfl rfl (T4 (Qas rfl rfl (TX (zS (T2 (Qms rfl rfl (zy (zL rfl Tryz.underlying28) (Qmi rfl rfl (TX (zB ?_))))))))))))
 refine T_loop [3, 5, 8, 9, 10, 11, 12, 13, 14, 15] [8, 3] (fun us H' => ∃ (k : Nat) (a : Option Addr) (c : Nat), us = [.int .i64 (k : Int), .slice a (jnL ps k).length c] ∧ row (.slice a ((jnL ps k)).length c) 5 1 (bytesV ((jnL ps k))) :: H = H' ∧ k ≤ ps.length) (fun us => match us with | .int _ i :: _ => ps.length - i.toNat | _ => 0) ⟨0, none, 0, rfl, rfl, by omega⟩ (fun w hw => (SB w hw : St w0 H w).addNilB 5) ?_
 rintro τ0 _ _  ⟨k, a, c, rfl, rfl, hk0⟩ _
 refine T2 (zy (Qt_lss rfl rfl) (TX (zS (zC rfl (fun h9 => ?_) (fun h9 => ?_)))))
 ·
  have p9 := cL h9
  have hk : k < ps.length := by omega
  have hpk := hpe _ (List.getElem_mem hk)
  have hjl := jnL_len ps hpe k (by omega)
  have hjs := jnL_succ ps k hk
  have : RdB w0 H (.slice ps[k].a ps[k].l.length ps[k].c) ps[k].l := pke.get (List.getElem_mem hk)
  refine zk (zx (zS (zB (T2 (zy (Qt_indexR rfl rfl (by omega) (by simp; omega)) (zy (Qt_loadR (.slice _ _ _) rfl (vals_get _ _ hk)) (Qas rfl rfl (TX (zR (Qms rfl rfl (Qms rfl rfl (ze rfl (Ef_appendB (sv := .slice _ _ _) (xv := .slice _ _ _) (l := jnL ps k) (l' := ps[k].l) rfl rfl (by omega) rfl (fun a14 c14 => ?_))))))))))))))
  rw [← hjs]
  refine Qas rfl rfl (zz (X_block (zx (zR (zy (zj rfl rfl) (Qmi rfl rfl (zz ?_)))))))
  apply X_loop
  case ha => exact zA
  case hI => exact ⟨k + 1, a14, c14, rfl, rfl, by omega⟩
  case hm => exact by show ps.length - (k + 1 : Int).toNat < ps.length - (k : Int).toNat; omega
  case hH => exact SB
 have p9 := cL h9
 have hkn : k = ps.length := by omega
 subst hkn
 refine zY (zG (zW (zE (zx (T2 (Qms rfl rfl (Qas rfl rfl (TX (zQ ?_)))))))))
 exact zX ⟨a, c⟩ [_] Tryz.results189 ⟨rfl, trivial⟩ rfl SB
theorem pairE_c {w0 : World} {H : List SA} {x y : Vector UInt8 32} :
 CT Tryz.prog w0 (H) 179 [.agg (hlist x).toArray, .agg (hlist y).toArray] (α := Unit) (fun _ => .agg (hlist (pairV x y)).toArray) (fun _ => H) := by
 refine CT_intro Tryz.func179 rfl Tryz.ntmps179 rfl (T2 (ze rfl (Ef_boxN rfl (fun b2 => ?_))))
 refine ze rfl (Ef_boxN rfl (fun b3 => ?_))
 refine ze rfl (Ef_allocN (fun b4 => ?_))
 refine TX (zS (zD (blk b2 (.cells (hlist x).toArray 32 (0, 0)) :: blk b3 (.cells (hlist y).toArray 32 (0, 0)) :: H) [(0, true), (1, true), (2, false), (3, false), (4, false), (5, false)] SB (fun hns0 => ?_)))
 refine zd hns0 rfl (Qt_val (Qt_slice_arr rfl Tryz.underlying32 rfl rfl) (show Value.slice (some ⟨b2, 0, none⟩) 32 32 = .slice (some ⟨b2, 0, none⟩) x.toList.length 32 from by simp)) rfl (zd hns0 rfl (Qt_val (Qt_slice_arr rfl Tryz.underlying32 rfl rfl) (show Value.slice (some ⟨b3, 0, none⟩) 32 32 = .slice (some ⟨b3, 0, none⟩) y.toList.length 32 from by simp)) rfl (DL_e rfl rfl (Ef_sliceN (m := ([(⟨some ⟨b2, 0, none⟩, 32, x.toList⟩ : BS), ⟨some ⟨b3, 0, none⟩, 32, y.toList⟩] : List BS).length) [.slice (some ⟨b2, 0, none⟩) x.toList.length 32, .slice (some ⟨b3, 0, none⟩) y.toList.length 32] (([(⟨some ⟨b2, 0, none⟩, 32, x.toList⟩ : BS), ⟨some ⟨b3, 0, none⟩, 32, y.toList⟩] : List BS).map BS.val) rfl rfl rfl rfl (by simp [Value.cells]) rfl rfl (fun a7 c7 => ⟨SB, ?_⟩))))
 refine DL_e rfl rfl (zc (joinedE_c (ps := [(⟨some ⟨b2, 0, none⟩, 32, x.toList⟩ : BS), ⟨some ⟨b3, 0, none⟩, 32, y.toList⟩]) (pke := ⟨fun z hz => by rcases List.mem_cons.1 hz with rfl | hz; exact (RdB.hashL (x := x)).rd; rw [List.mem_singleton.1 hz]; exact (RdB.hashL (x := y)).rd⟩) (by simp) (fun z hz => by rcases List.mem_cons.1 hz with rfl | hz; simp; rw [List.mem_singleton.1 hz]; simp)) rfl (fun x8 => ⟨SB, ?_⟩))
 rw [show jnL [(⟨some ⟨b2, 0, none⟩, 32, x.toList⟩ : BS), ⟨some ⟨b3, 0, none⟩, 32, y.toList⟩] ([(⟨some ⟨b2, 0, none⟩, 32, x.toList⟩ : BS), ⟨some ⟨b3, 0, none⟩, 32, y.toList⟩] : List BS).length = x.toList ++ y.toList from by simp [jnL]]
 refine DL_e rfl rfl (zc (sum_c (l := x.toList ++ y.toList) (by simp)) rfl (fun x9 => ⟨SB, ?_⟩))
 refine DL_n rfl (zs rfl rfl (⟨SB, (DL_nil (zx (zQ ?_)))⟩))
 rw [show pairV x y = sha (x.toList ++ y.toList) from by unfold pairV; rfl]
 exact zX () [_] Tryz.results179 ⟨⟨_, rfl, res_cellN rfl⟩, trivial⟩ rfl SB
theorem verify_c {w0 : World} {H : List SA} {root : Vector UInt8 32} {ta : Option Addr} {tl : List UInt8} {tc : Nat} [hr : RdB w0 H (.slice ta tl.length tc) tl] (htl : tl.length ≤ 4294967000) {sa : Option Addr} {sl : List UInt8} {sc : Nat} [hs : RdB w0 H (.slice sa sl.length sc) sl] :
 CT Tryz.prog w0 (H) 151 [.agg (hlist root).toArray, .slice ta tl.length tc, .slice sa sl.length sc] (α := Unit) (fun _ => .tuple #[.int .i64 (verV root tl sl).1, .int .i64 (verV root tl sl).2]) (fun _ => H) := by
 refine CT_intro Tryz.func151 rfl Tryz.ntmps151 rfl (T2 (ze rfl (Ef_boxN rfl (fun b3 => ?_))))
 refine Qai rfl rfl (Qai rfl rfl (TX (zS (T2 (Qms rfl rfl (zy (zL rfl Tryz.underlying33) (zy (Qt_neq rfl rfl) (Qmb rfl rfl (TL_split 17 rfl (fun h17 => ?_) (fun h17 => ?_))))))))))
 ·
  have p17 := cL h17
  have hve : verV root tl sl = (0, 2) := if_pos (.inl (by have h := h17; simp at h; omega))
  refine zp rfl rfl h17 rfl (zp rfl rfl h17 rfl (zp rfl rfl h17 rfl (zp rfl rfl h17 rfl (zy (zT (.bool _) rfl h17 rfl) (TX (T_cond_true rfl rfl (T2 (Qai rfl rfl (Qai rfl rfl (TX (zQ (zr ?_))))))))))))
  rw [hve]
  exact zX () [_, _] Tryz.results151 ⟨rfl, rfl, trivial⟩ rfl SB
 have p17 := cL h17
 have hl : sl.length = 657 := by have h := h17; simp at h; omega
 have hb0 : (bytesV sl)[0]? = some (.int .u8 ((sl.getD 0 0).toNat : Int)) := by rw [List.getD_eq_getElem?_getD, List.getElem?_eq_getElem (show 0 < sl.length by omega)]; exact bytes_get _ _ (by omega)
 have hn8 := (sl.getD 0 0).toNat_lt
 refine zt rfl rfl h17 (Qms rfl rfl (zt rfl rfl h17 (zy (Qt_indexR rfl rfl (by omega) (by simp; omega)) (zt rfl rfl h17 (zy (Qt_loadR (.int .u8 ((sl.getD 0 0).toNat : Int)) rfl (hb0)) (zt rfl rfl h17 (zy (Qt_geq rfl rfl) (zy (zF (.bool _) rfl h17 rfl) (TX (zC rfl (fun h22 => ?_) (fun h22 => ?_)))))))))))
 ·
  have p22 := cL h22
  have hve : verV root tl sl = (0, 2) := if_pos (.inr (by omega))
  refine T2 (Qai rfl rfl (Qai rfl rfl (TX (zQ (zr ?_)))))
  rw [hve]
  exact zX () [_, _] Tryz.results151 ⟨rfl, rfl, trivial⟩ rfl SB
 have p22 := cL h22
 have hn7 : (sl.getD 0 0).toNat < 8 := by omega
 refine S4 (Qms rfl rfl (zy (Qt_indexR rfl rfl (by omega) (by simp; omega)) (zy (Qt_loadR (.int .u8 ((sl.getD 0 0).toNat : Int)) rfl (hb0)) (zy (Qt_conv_i64 rfl rfl Tryz.underlying3 (by omega) (by omega)) (Qai rfl rfl (T4 (Qms rfl rfl (Qms rfl rfl (zy (Qt_sliceB_lh 1 560 rfl rfl rfl (by omega)) (ze rfl (zc (recover_c htl (sl := (sl.drop 1).take 560) (by simp; omega)) rfl (fun x31 => ?_))))))))))))
 refine zy (zm (.tuple _) rfl) (zy (Qt_extract rfl) (zy (Qt_extract rfl) (ze rfl (Ef_allocN (fun b9 => ?_)))))
 refine zN (zs rfl rfl (Qai rfl rfl (TX (zS (T2 (Qmi rfl rfl (TX (zB ?_))))))))
 refine T_loop [11, 12, 13, 34, 35, 36, 37, 38, 39, 40, 41, 42, 43, 44, 45, 46, 47, 48, 49, 50, 51, 52, 53, 54, 55, 56, 57, 58] [34] (fun us H' => ∃ (k : Nat), us = [.int .i64 (k : Int)] ∧ blk b9 (.cells (hlist (upV sl (sl.getD 0 0).toNat (recV tl ((sl.drop 1).take 560)) k)).toArray 32 (0, 0)) :: blk b3 (.cells (hlist root).toArray 32 (0, 0)) :: H = H' ∧ k ≤ 3) (fun us => match us with | .int _ i :: _ => 3 - i.toNat | _ => 0) ⟨0, rfl, rfl, by omega⟩ (fun w hw => by
  rw [upV_zero]
  exact SB w hw) ?_
 rintro τ0 _ _  ⟨k, rfl, rfl, hk0⟩ _
 refine T2 (zy (Qt_lss rfl rfl) (TX (zS (zC rfl (fun h35 => ?_) (fun h35 => ?_)))))
 ·
  have p35 := cL h35
  have hk : k < 3 := by omega
  refine zk (zx (zS (zB (T2 (Qmi rfl rfl (Qai rfl rfl (T4 (Qmi rfl rfl (zy (Qt_mul rfl rfl (by omega) (by omega)) ?_)))))))))
  rw [show (32 : Int) * (k : Int) = ((32 * k : Nat) : Int) from by omega]
  refine zy (zj rfl rfl) ?_
  rw [show (561 : Int) + ((32 * k : Nat) : Int) = ((561 + 32 * k : Nat) : Int) from by omega]
  refine Qai rfl rfl (T4 (Qms rfl rfl (Qmi rfl rfl (Qmi rfl rfl (zy (zj rfl rfl) ?_)))))
  rw [show ((561 + 32 * k : Nat) : Int) + 32 = ((561 + 32 * k + 32 : Nat) : Int) from by omega]
  refine zy (Qt_sliceB_lh (561 + 32 * k) 32 rfl rfl rfl (by omega)) (zy (Qt_arrayAt rfl Tryz.underlying32 (by simp; omega) (by decide)) (zy (Qt_loadRN 1 (hlist (hashV sl (561 + 32 * k))) rfl (by rw [List.drop_zero]; unfold hlist hashV; rw [ofFn_sub sl (561 + 32 * k) (by omega)]; exact List.take_of_length_le (by simp; try omega)) (by simp) (by decide)) (ze rfl (Ef_allocN (fun b13 => ?_)))))
  refine zN (zs rfl rfl (T4 (Qmi rfl rfl (Qmi rfl rfl (zy (Qt_shrN k rfl rfl (by show k ≤ 64; omega)) (zy (Qt_val (Qt_and rfl rfl) (congrArg (Value.int .i64) (and1 (by apply Nat.lt_of_le_of_lt (Nat.div_le_self _ _); omega)))) (zy (Qt_eql rfl rfl) (TX (zC rfl (fun h51 => ?_) (fun h51 => ?_))))))))))
  ·
   have p51 := cL h51
   have hev : (sl.getD 0 0).toNat / 2 ^ k % 2 = 0 := by omega
   refine zR (zy (zn rfl rfl) (zy (zn rfl rfl) (ze rfl (zc (pairE_c (x := (upV sl (sl.getD 0 0).toNat (recV tl ((sl.drop 1).take 560)) k)) (y := (hashV sl (561 + 32 * k)))) rfl (fun x54 => ?_)))))
   rw [← upV_even sl (sl.getD 0 0).toNat (recV tl ((sl.drop 1).take 560)) k hev]
   refine zN (zs rfl rfl (zz (X_block (zx (zR (zy (zj rfl rfl) (Qmi rfl rfl (zz ?_))))))))
   apply X_loop
   case ha => exact zA
   case hI => exact ⟨k + 1, rfl, rfl, by omega⟩
   case hm => exact by show 3 - (k + 1 : Int).toNat < 3 - (k : Int).toNat; omega
   case hH => exact SB
  have p51 := cL h51
  have hev : ¬ (sl.getD 0 0).toNat / 2 ^ k % 2 = 0 := by omega
  refine zR (zy (zn rfl rfl) (zy (zn rfl rfl) (ze rfl (zc (pairE_c (x := (hashV sl (561 + 32 * k))) (y := (upV sl (sl.getD 0 0).toNat (recV tl ((sl.drop 1).take 560)) k))) rfl (fun x57 => ?_)))))
  rw [← upV_odd sl (sl.getD 0 0).toNat (recV tl ((sl.drop 1).take 560)) k hev]
  refine zN (zs rfl rfl (zz (X_block (zx (zR (zy (zj rfl rfl) (Qmi rfl rfl (zz ?_))))))))
  apply X_loop
  case ha => exact zA
  case hI => exact ⟨k + 1, rfl, rfl, by omega⟩
  case hm => exact by show 3 - (k + 1 : Int).toNat < 3 - (k : Int).toNat; omega
  case hH => exact SB
 have p35 := cL h35
 have hk3 : k = 3 := by omega
 subst hk3
 refine zY (zG (zW (zE (zx (zS (T2 (zy (zn rfl rfl) (zy (zn rfl rfl) (zy (Qt_agg_neq rfl rfl (by kernel_rfl)) (TX (zC rfl (fun h61 => ?_) (fun h61 => ?_))))))))))))
 ·
  have p61 := cL h61
  have hve : verV root tl sl = (0, 5) := by unfold verV; rw [if_neg (by omega), if_pos (by simpa using h61)]
  refine T2 (Qai rfl rfl (Qai rfl rfl (TX (zQ (zr ?_)))))
  rw [hve]
  exact zX () [_, _] Tryz.results151 ⟨rfl, rfl, trivial⟩ rfl SB
 have p61 := cL h61
 have hve : verV root tl sl = (((sl.getD 0 0).toNat : Int), 0) := by unfold verV; rw [if_neg (by omega), if_neg (by simpa using h61)]
 refine S4 (Qmi rfl rfl (Qai rfl rfl (Qai rfl rfl (TX (zQ ?_)))))
 rw [hve]
 exact zX () [_, _] Tryz.results151 ⟨rfl, rfl, trivial⟩ rfl SB
end
end Go.Proofs.YtnijomppbgdmnaaGreat
