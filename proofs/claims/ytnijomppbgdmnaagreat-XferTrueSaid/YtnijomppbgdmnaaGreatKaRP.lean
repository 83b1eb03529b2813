/- Worlds: their bytes; walks of views, cells. -/
import Derived.Test.YtnijomppbgdmnaaGreatSgP
import Derived.Test.YtnijomppbgdmnaaGreatTxP
import Derived.Test.YtnijomppbgdmnaaGreatXsRP
import Derived.Test.YtnijomppbgdmnaaGreatShaRP
import Derived.Test.YtnijomppbgdmnaaGreatRshRP
set_option linter.unusedSimpArgs false
set_option linter.unusedVariables false
namespace Go.Proofs.YtnijomppbgdmnaaGreat
section
open Go.RowKit Go.Sx
set_option maxRecDepth 100000
set_option maxHeartbeats 1000000
def viewB (num : Int) (mk : Nat) : List UInt8 := if rightV num mk = true then fixed (IntKind.u64.wrap num).toNat 2 ++ fixed mk 2 else []
theorem viewB_len (num : Int) (mk : Nat) : (viewB num mk).length ≤ 4 := by
 unfold viewB; split
 · rw [List.length_append, fixed_length, fixed_length]; exact Nat.le_refl _
 · simp
def cellB (cs : Vector CellV 16) (i : Nat) : List UInt8 := if (cs.toList.getD i CellV.zero).there = true then fixed i 1 ++ packed (foldN (cs.toList.getD i CellV.zero).n) else []
def cellsB (cs : Vector CellV 16) (k : Nat) : List UInt8 := (List.range k).flatMap (cellB cs)
def cellsN (cs : Vector CellV 16) (k : Nat) : Nat := ((List.range k).filter fun i => (cs.toList.getD i CellV.zero).there).length
def kvB (cs : Vector CellV 16) : List UInt8 := packed (cellsN cs 16) ++ cellsB cs 16
theorem getD_cs {cs : Vector CellV 16} {k : Nat} (hk : k < 16) : cs.toList.getD k CellV.zero = cs[k] := by
 rw [List.getD_eq_getElem?_getD, List.getElem?_eq_getElem (by simpa using hk)]; simp
theorem cellsB_t2 {cs : Vector CellV 16} {k : Nat} (hk : k < 16) (h : cs[k].there = true) : cellsB cs k ++ fixed k 1 ++ packed (foldN cs[k].n) = cellsB cs (k + 1) := by
 unfold cellsB
 rw [List.range_succ, List.flatMap_append, List.flatMap_singleton, cellB, getD_cs hk, if_pos h, List.append_assoc]
theorem cellsB_f {cs : Vector CellV 16} {k : Nat} (hk : k < 16) (h : cs[k].there = false) : cellsB cs (k + 1) = cellsB cs k := by
 unfold cellsB
 rw [List.range_succ, List.flatMap_append, List.flatMap_singleton, cellB, getD_cs hk, if_neg (by simp [h]), List.append_nil]
theorem cellsN_t {cs : Vector CellV 16} {k : Nat} (hk : k < 16) (h : cs[k].there = true) : cellsN cs k + 1 = cellsN cs (k + 1) := by
 unfold cellsN
 rw [List.range_succ, List.filter_append, List.length_append, List.filter_cons, if_pos (show (cs.toList.getD k CellV.zero).there = true by rw [getD_cs hk]; exact h)]
 rfl
theorem cellsN_f {cs : Vector CellV 16} {k : Nat} (hk : k < 16) (h : cs[k].there = false) : cellsN cs (k + 1) = cellsN cs k := by
 unfold cellsN
 rw [List.range_succ, List.filter_append, List.length_append, List.filter_cons, if_neg (show ¬ (cs.toList.getD k CellV.zero).there = true by rw [getD_cs hk, h]; simp)]
 rfl
theorem cellsN_le (cs : Vector CellV 16) (k : Nat) : cellsN cs k ≤ k := by
 unfold cellsN
 exact Nat.le_trans (List.length_filter_le _ _) (by simp)
theorem cellsB_len {cs : Vector CellV 16} (hcs : ∀ (i : Nat) (hi : i < 16), -9223372036854775808 ≤ cs[i].n ∧ cs[i].n ≤ 9223372036854775807) : ∀ k, k ≤ 16 → (cellsB cs k).length ≤ 11 * k
 | 0, _ => by simp [cellsB]
 | k + 1, hk => by
  have ih := cellsB_len hcs k (by omega)
  cases h : cs[k].there with
  | true =>
   have := packed_length_le _ (foldN_lt (hcs k (by omega)))
   rw [← cellsB_t2 (by omega) h, List.length_append, List.length_append, fixed_length]; omega
  | false => rw [cellsB_f (by omega) h]; omega
theorem sub_elem {α : Type} {n : Nat} (f : α → List Value) (m : Nat) (hf : ∀ x, (f x).length = m) (v : Vector α n) (i : Nat) (hi : i < n) : SubAt (flatV f v).toArray (i * m) m (f v[i]).toArray := ⟨by
 have := flatV_slice f m hf v i hi
 rw [List.extract_toArray, List.extract_eq_take_drop]
 simpa using congrArg List.toArray this⟩
theorem fixed_k {k : Nat} (hk : k < 16) : fixed k 1 = [UInt8.ofNat k] := by rw [fixed_one, Nat.mod_eq_of_lt (by omega)]


theorem viewPut_c {w0 : World} {H : List SA} {num : Int} {mk : Nat} (hmk : mk < 65536) :
 CT Tryz.prog w0 (H) 129 [.agg (ViewV.mk num (mk : Int)).cells] (α := AC) (fun y => .slice y.a (viewB num mk).length y.c) (fun y => row (.slice y.a (viewB num mk).length y.c) 5 1 (bytesV (viewB num mk)) :: H) := by
 refine CT_intro Tryz.func129 rfl Tryz.ntmps129 rfl (T2 (ze rfl (Ef_boxN rfl (fun b1 => ?_))))
 refine Qas rfl rfl (TX (zS (T2 (zy (zn rfl rfl) (ze rfl (zc (right_v hmk) rfl (fun x4 => ?_)))))))
 refine zy (Qt_not rfl) (TX (zC rfl (fun h5 => ?_) (fun h5 => ?_)))
 ·
  have p5 := cL h5
  refine T2 (Qas rfl rfl (TX (zQ (zr ?_))))
  have e : viewB num mk = [] := if_neg (by simp_all)
  simp only [e]
  exact zX ⟨none, 0⟩ [.slice none 0 0] Tryz.results129 ⟨rfl, trivial⟩ rfl (fun w hw => (SB w hw : St w0 H w).addNilB 5)
 have p5 := cL h5
 refine zk (zx (zS (zD (blk b1 (.cells (ViewV.mk num (mk : Int)).cells 24 (0, 0)) :: H) [(0, true), (1, true), (2, true), (4, true), (5, true), (6, true), (3, false), (7, false), (8, true)] SB (fun hns0 => ?_))))
 refine zd hns0 rfl (zf 0 rfl rfl) rfl (zd hns0 rfl (zl rfl) rfl (zd hns0 rfl (Qt_conv rfl rfl Tryz.underlying121) rfl (zd hns0 rfl (zf 1 rfl rfl) rfl (zd hns0 rfl (zl rfl) rfl (zd hns0 rfl (Qt_conv_u64 rfl rfl Tryz.underlying121 (by omega) (by omega)) rfl (DL_e rfl rfl (zc (putFixed_c (a := none) (l := []) (c := 0) (x := IntKind.u64.wrap num) (n := 2) (hr := RdB.nil') (by simp) (u64_nonneg _)) rfl (fun x9 => ⟨SB, ?_⟩))))))))
 rw [putFixed_2k, List.nil_append]
 refine DL_e rfl rfl (zc (putFixed_c (x := (mk : Int)) (n := 2) (by rw [fixed_length]; omega) (by omega)) rfl (fun x13 => ⟨SB, ?_⟩))
 rw [putFixed_2k, Int.toNat_natCast]
 refine zd hns0 rfl (za (.slice _ _ _) rfl) rfl (DL_nil (zx (zQ ?_)))
 have e : viewB num mk = fixed (IntKind.u64.wrap num).toNat 2 ++ fixed mk 2 := if_pos (by simp_all)
 simp only [e]
 exact zX ⟨x13.a, x13.c⟩ [_] Tryz.results129 ⟨rfl, trivial⟩ rfl SB
theorem rViewPut_c {w0 : World} {H : List SA} {num : Int} {mk : Nat} (hmk : mk < 65536) :
 CT Tryz.prog w0 (H) 137 [.agg (ViewV.mk num (mk : Int)).cells] (α := AC) (fun y => .slice y.a (viewB num mk).length y.c) (fun y => row (.slice y.a (viewB num mk).length y.c) 5 1 (bytesV (viewB num mk)) :: H) := by
 refine CT_intro Tryz.func137 rfl Tryz.ntmps137 rfl (T2 (ze rfl (Ef_boxN rfl (fun b1 => ?_))))
 refine Qas rfl rfl (TX (zS (T2 (zy (zn rfl rfl) (ze rfl (zc (rRight_c hmk) rfl (fun x4 => ?_)))))))
 refine zy (Qt_not rfl) (TX (zC rfl (fun h5 => ?_) (fun h5 => ?_)))
 ·
  have p5 := cL h5
  refine T2 (Qas rfl rfl (TX (zQ (zr ?_))))
  have e : viewB num mk = [] := if_neg (by simp_all)
  simp only [e]
  exact zX ⟨none, 0⟩ [.slice none 0 0] Tryz.results137 ⟨rfl, trivial⟩ rfl (fun w hw => (SB w hw : St w0 H w).addNilB 5)
 have p5 := cL h5
 refine zk (zx (zS (zD (blk b1 (.cells (ViewV.mk num (mk : Int)).cells 24 (0, 0)) :: H) [(0, true), (1, true), (2, true), (4, true), (5, true), (6, true), (3, false), (7, false), (8, false), (9, true)] SB (fun hns0 => ?_))))
 refine zd hns0 rfl (zf 0 rfl rfl) rfl (zd hns0 rfl (zl rfl) rfl (zd hns0 rfl (Qt_conv rfl rfl Tryz.underlying121) rfl (zd hns0 rfl (zf 1 rfl rfl) rfl (zd hns0 rfl (zl rfl) rfl (zd hns0 rfl (Qt_conv_u64 rfl rfl Tryz.underlying121 (by omega) (by omega)) rfl (DL_e rfl rfl (zc (rFixed_c (x := IntKind.u64.wrap num) (n := 2) (u64_nonneg _) (u64_lt _)) rfl (fun x9 => ⟨SB, ?_⟩))))))))
 rw [show fixedR (IntKind.u64.wrap num) 2 = fixed (IntKind.u64.wrap num).toNat 2 from rfl]
 refine DL_e rfl rfl (zc (rFixed_c (x := (mk : Int)) (n := 2) (by omega) (by omega)) rfl (fun x13 => ⟨SB, ?_⟩))
 rw [show fixedR (mk : Int) 2 = fixed mk 2 from rfl]
 refine DL_e rfl rfl (zc (rJoin_c (l := fixed (IntKind.u64.wrap num).toNat 2) (l2 := fixed mk 2) (by rw [fixed_length, fixed_length]; omega)) rfl (fun x14 => ⟨SB, ?_⟩))
 refine zd hns0 rfl (za (.slice _ _ _) rfl) rfl (DL_nil (zx (zQ ?_)))
 have e : viewB num mk = fixed (IntKind.u64.wrap num).toNat 2 ++ fixed mk 2 := if_pos (by simp_all)
 simp only [e]
 exact zX ⟨x14.a, x14.c⟩ [_] Tryz.results137 ⟨rfl, trivial⟩ rfl SB
theorem kvPut_c {w0 : World} {H : List SA} {cs : Vector CellV 16} (hcs : ∀ (i : Nat) (hi : i < 16), -9223372036854775808 ≤ cs[i].n ∧ cs[i].n ≤ 9223372036854775807) :
 CT Tryz.prog w0 (H) 130 [.agg (flatV CellV.list cs).toArray] (α := AC) (fun y => .slice y.a (kvB cs).length y.c) (fun y => row (.slice y.a (kvB cs).length y.c) 5 1 (bytesV (kvB cs)) :: H) := by
 refine CT_intro Tryz.func130 rfl Tryz.ntmps130 rfl (T2 (ze rfl (Ef_boxN rfl (fun b1 => ?_))))
 refine Qas rfl rfl (T4 (Qas rfl rfl (T4 (zy (za (.int .u64 _) rfl) (TX (zS (T2 (zy (zn rfl rfl) (Qmi rfl rfl (TX (zB ?_)))))))))))
 refine T_loop [3, 4, 5, 6, 8, 9, 10, 11, 12, 13, 14, 15, 16, 17, 18, 19, 20, 21, 22, 23] [8, 3, 4] (fun us H' => ∃ (k : Nat) (a : Option Addr) (c : Nat), us = [.int .i64 (k : Int), .slice a (cellsB cs k).length c, .int .u64 (cellsN cs k : Int)] ∧ row (.slice a (cellsB cs k).length c) 5 1 (bytesV (cellsB cs k)) :: blk b1 (.cells (flatV CellV.list cs).toArray 60 (0, 0)) :: H = H' ∧ k ≤ 16) (fun us => match us with | .int _ i :: _ => 16 - i.toNat | _ => 0) ⟨0, none, 0, rfl, rfl, by omega⟩ (fun w hw => (SB w hw : St w0 (blk b1 (.cells (flatV CellV.list cs).toArray 60 (0, 0)) :: H) w).addNilB 5) ?_
 rintro τ0 _ _  ⟨k, a, c, rfl, rfl, hk0⟩ _
 refine T2 (zy (Qt_lss rfl rfl) (TX (zS (zC rfl (fun h9 => ?_) (fun h9 => ?_)))))
 ·
  have p9 := cL h9
  have hk : k < 16 := by omega
  have hsk : SubAt (flatV CellV.list cs).toArray (k * 2) 2 cs[k].cells := sub_elem _ 2 CellV.list_len cs k hk
  have hck := hcs k hk
  have hlk := cellsB_len hcs k (by omega)
  refine zk (zx (zS (zB (T2 (Qmi rfl rfl (zy (Qt_indexS rfl rfl Tryz.underlying60 hk) (ze rfl (Ef_allocN (fun b6 => ?_)))))))))
  refine Qai rfl rfl (zN (zs rfl rfl (T4 (zy (zf 0 rfl rfl) (zy (zl rfl) (TX (zC rfl (fun h13 => ?_) (fun h13 => ?_))))))))
  ·
   have p13 := cL h13
   have hth : cs[k].there = true := h13
   refine zS (zD (blk b6 (.cells cs[k].cells 59 (0, 0)) :: H) [(0, true), (1, true), (2, true), (4, true), (5, true), (3, false), (6, false), (7, true)] SB (fun hns0 => ?_))
   refine zd hns0 rfl (zm (.slice _ _ _) rfl) rfl (zd hns0 rfl (zm (.int .i64 _) rfl) rfl (zd hns0 rfl (Qt_conv_u64 rfl rfl Tryz.underlying121 (by omega) (by omega)) rfl (zd hns0 rfl (zf 1 rfl rfl) rfl (zd hns0 rfl (zl rfl) rfl (DL_e rfl rfl (zc (putFixed_c (x := (k : Int)) (n := 1) (by omega) (by omega)) rfl (fun x17 => ⟨SB, ?_⟩)))))))
   rw [putFixed_1k, Int.toNat_natCast]
   refine DL_e rfl rfl (zc (putFolded_c (l := cellsB cs k ++ fixed k 1) (by rw [List.length_append, fixed_length]; omega) hck) rfl (fun x20 => ⟨SB, ?_⟩))
   rw [cellsB_t2 hk hth]
   refine zd hns0 rfl (za (.slice _ _ _) rfl) rfl (DL_nil (zx (zR (zy (zm (.int .u64 _) rfl) (zy (Qt_val (Qt_addw rfl rfl) (congrArg (Value.int .u64) (show IntKind.u64.wrap ((cellsN cs k : Int) + 1) = ((cellsN cs k + 1 : Nat) : Int) from by rw [← Int.natCast_succ]; exact wrap_nat .u64 rfl (by have := cellsN_le cs k; show _ < 2 ^ 64; omega)))) (zy (za (.int .u64 _) rfl) (zz (X_block (zx (zR (zy (zj rfl rfl) (Qmi rfl rfl (zz ?_)))))))))))))
   apply X_loop
   case ha => exact zA
   case hI => exact by first | exact ⟨k + 1, x20.a, x20.c, by rw [← cellsN_t hk hth]; rfl, rfl, by omega⟩ | exact ⟨k + 1, a, c, by rw [cellsB_f hk hth, cellsN_f hk hth]; rfl, by rw [cellsB_f hk hth], by omega⟩
   case hm => exact by show 16 - (k + 1 : Int).toNat < 16 - (k : Int).toNat; omega
   case hH => exact SB
  have p13 := cL h13
  have hth : cs[k].there = false := h13
  refine zk (X_block (zx (zR (zy (zj rfl rfl) (Qmi rfl rfl (zz ?_))))))
  apply X_loop
  case ha => exact zA
  case hI => exact by first | exact ⟨k + 1, x20.a, x20.c, by rw [← cellsN_t hk hth]; rfl, rfl, by omega⟩ | exact ⟨k + 1, a, c, by rw [cellsB_f hk hth, cellsN_f hk hth]; rfl, by rw [cellsB_f hk hth], by omega⟩
  case hm => exact by show 16 - (k + 1 : Int).toNat < 16 - (k : Int).toNat; omega
  case hH => exact SB
 have p9 := cL h9
 obtain rfl : k = 16 := by omega
 refine zY (zG (zW (zE (zx (T2 (zy (zm (.int .u64 _) rfl) (ze rfl (zc (putPacked_c (a := none) (l := []) (c := 0) (x := (cellsN cs 16 : Int)) (hr := RdB.nil') (by simp) (by omega) (by have := cellsN_le cs 16; omega)) rfl (fun x25 => ?_)))))))))
 rw [List.nil_append, Int.toNat_natCast]
 refine Qms rfl rfl (ze rfl (Ef_appendB (sv := .slice _ _ _) (xv := .slice _ _ _) rfl rfl (by have := packed_length_le (cellsN cs 16) (by have := cellsN_le cs 16; omega); have := cellsB_len hcs 16 (by omega); omega) rfl (fun a27 c27 => ?_)))
 rw [show packed (cellsN cs 16) ++ cellsB cs 16 = kvB cs from rfl]
 refine Qas rfl rfl (TX (zQ ?_))
 exact zX ⟨a27, c27⟩ [_] Tryz.results130 ⟨rfl, trivial⟩ rfl SB
end
section
open Go.RowKit Go.Sx
set_option maxRecDepth 100000
set_option maxHeartbeats 1000000
instance three : TyZ Tryz.prog 238 (.agg #[.slice none 0 0, .slice none 0 0, .slice none 0 0]) := ⟨by kernel_rfl⟩
theorem cell_elem {α : Type} {n : Nat} (f : α → List Value) (m : Nat) (hf : ∀ x, (f x).length = m) (v : Vector α n) (i j : Nat) (hi : i < n) (hj : j < m) {u : Value} (hu : (f v[i])[j]? = some u) : CellAt (flatV f v).toArray (i * m + j) u := ⟨by
 have := flat_get f m hf v.toList i j (by simpa using hi) hj
 simpa [flatV, hu] using this⟩
theorem byte_ex (x : Int) : ∃ b : UInt8, fixed (IntKind.u64.wrap x).toNat 1 = [b] ∧ IntKind.u8.wrap x = (b.toNat : Int) := by
 refine ⟨u8Of (IntKind.u8.wrap x), fixed_u8 x, ?_⟩
 have : 0 ≤ IntKind.u8.wrap x ∧ IntKind.u8.wrap x < 256 := by simp [IntKind.wrap, IntKind.bits, IntKind.signed]; omega
 simp only [u8Of]
 rw [UInt8.toNat_ofNat']
 omega
def okI (b : Bool) : Int := if b = true then 1 else 0
def replyB (r : ReplyV) : List UInt8 := fixed (IntKind.u64.wrap r.client).toNat 1 ++ fixed (IntKind.u64.wrap r.seq).toNat 1 ++ fixed (IntKind.u64.wrap r.slot).toNat 1 ++ fixed (IntKind.u64.wrap (okI r.res.oK)).toNat 1 ++ packed (foldN r.res.n)
def repliesB (rs : Vector ReplyV 6) (k : Nat) : List UInt8 := (rs.toList.take k).flatMap fun r => textB (replyB r)
theorem repliesB_succ (rs : Vector ReplyV 6) {k : Nat} (hk : k < 6) : repliesB rs k ++ textB (replyB rs[k]) = repliesB rs (k + 1) := by
 unfold repliesB
 rw [List.take_succ_eq_append_getElem (by simpa using hk), List.flatMap_append, List.flatMap_singleton]; simp
theorem replyB_len {r : ReplyV} (h : -9223372036854775808 ≤ r.res.n ∧ r.res.n ≤ 9223372036854775807) : (replyB r).length ≤ 14 := by
 have := packed_length_le _ (foldN_lt h)
 simp only [replyB, List.length_append, fixed_length]; omega
theorem repliesB_len {rs : Vector ReplyV 6} (h : ∀ (i : Nat) (hi : i < 6), -9223372036854775808 ≤ rs[i].res.n ∧ rs[i].res.n ≤ 9223372036854775807) : ∀ k, k ≤ 6 → (repliesB rs k).length ≤ 24 * k
 | 0, _ => by simp [repliesB]
 | k + 1, hk => by
  have ih := repliesB_len h k (by omega)
  have h1 := replyB_len (h k (by omega))
  have h2 := textB_length (replyB rs[k]) (by omega)
  rw [← repliesB_succ rs (by omega), List.length_append]; omega
def worldB (s f n1 : Int) (m1 : Nat) (n2 : Int) (m2 : Nat) (cs : Vector CellV 16) (rs : Vector ReplyV 6) : List UInt8 :=
 fixed (IntKind.u64.wrap s).toNat 2 ++ fixed (IntKind.u64.wrap f).toNat 2 ++ textB (viewB n1 m1) ++ textB (viewB n2 m2) ++ textB (kvB cs) ++ repliesB rs 6
theorem kvB_len {cs : Vector CellV 16} (hcs : ∀ (i : Nat) (hi : i < 16), -9223372036854775808 ≤ cs[i].n ∧ cs[i].n ≤ 9223372036854775807) : (kvB cs).length ≤ 200 := by
 have h1 := cellsB_len hcs 16 (Nat.le_refl _)
 have h2 := packed_length_le (cellsN cs 16) (by have := cellsN_le cs 16; omega)
 unfold kvB
 rw [List.length_append]; omega
theorem headB_len {s f n1 n2 : Int} {m1 m2 : Nat} {cs : Vector CellV 16} (hcs : ∀ (i : Nat) (hi : i < 16), -9223372036854775808 ≤ cs[i].n ∧ cs[i].n ≤ 9223372036854775807) : (fixed (IntKind.u64.wrap s).toNat 2 ++ fixed (IntKind.u64.wrap f).toNat 2 ++ textB (viewB n1 m1) ++ textB (viewB n2 m2) ++ textB (kvB cs)).length ≤ 300 := by
 have h1 := viewB_len n1 m1
 have h2 := viewB_len n2 m2
 have h3 := kvB_len hcs
 have h4 := textB_length (viewB n1 m1) (by omega)
 have h5 := textB_length (viewB n2 m2) (by omega)
 have h6 := textB_length (kvB cs) (by omega)
 simp only [List.length_append, fixed_length]; omega
theorem worldB_len {s f n1 n2 : Int} {m1 m2 : Nat} {cs : Vector CellV 16} {rs : Vector ReplyV 6} (hcs : ∀ (i : Nat) (hi : i < 16), -9223372036854775808 ≤ cs[i].n ∧ cs[i].n ≤ 9223372036854775807)
 (hrs : ∀ (i : Nat) (hi : i < 6), -9223372036854775808 ≤ rs[i].res.n ∧ rs[i].res.n ≤ 9223372036854775807) : (worldB s f n1 m1 n2 m2 cs rs).length ≤ 1000 := by
 have h1 := headB_len (s := s) (f := f) (n1 := n1) (n2 := n2) (m1 := m1) (m2 := m2) hcs
 have h2 := repliesB_len hrs 6 (Nat.le_refl _)
 unfold worldB
 rw [List.length_append]; omega
theorem WorldV.sub_last (v : WorldV) (k : Nat) (hk : k < 6) : SubAt v.cells (38 + k * 5) 5 v.last[k].cells := ⟨by
 have h1 := flatV_slice ReplyV.list 5 ReplyV.list_len v.last k hk
 have h2 : (v.p0 ++ (v.p1 ++ (v.view.list ++ (v.was.list ++ v.p4)))).length = 38 := by simp only [List.length_append, ViewV.list_len, v.l4, List.length_singleton]
 have h3 : v.list = (v.p0 ++ (v.p1 ++ (v.view.list ++ (v.was.list ++ v.p4)))) ++ v.p5 := by simp only [WorldV.list, List.append_assoc]
 rw [WorldV.cells, List.extract_toArray, List.extract_eq_take_drop, h3, List.drop_append, h2, List.drop_of_length_le (by rw [h2]; omega), List.nil_append, show 38 + k * 5 - 38 = k * 5 by omega, show 38 + k * 5 + 5 - (38 + k * 5) = 5 by omega, h1]
 rfl⟩

theorem rKvPut_c {w0 : World} {H : List SA} {cs : Vector CellV 16} (hcs : ∀ (i : Nat) (hi : i < 16), -9223372036854775808 ≤ cs[i].n ∧ cs[i].n ≤ 9223372036854775807) :
 CT Tryz.prog w0 (H) 138 [.agg (flatV CellV.list cs).toArray] (α := AC) (fun y => .slice y.a (kvB cs).length y.c) (fun y => row (.slice y.a (kvB cs).length y.c) 5 1 (bytesV (kvB cs)) :: H) := by
 refine CT_intro Tryz.func138 rfl Tryz.ntmps138 rfl (T2 (ze rfl (Ef_boxN rfl (fun b1 => ?_))))
 refine Qas rfl rfl (T4 (Qai rfl rfl (T4 (Qas rfl rfl (TX (zS (T2 (Qai rfl rfl (TX (zB ?_))))))))))
 refine T_loop [3, 4, 5, 6, 7, 8, 9, 10, 11, 12, 13, 14, 15, 16, 17, 18, 19, 20, 21, 22, 23, 24, 25, 26, 27, 28] [5, 4, 3] (fun us H' => ∃ (k : Nat) (a : Option Addr) (c : Nat), us = [.int .i64 (k : Int), .slice a (cellsB cs k).length c, .int .i64 (cellsN cs k : Int)] ∧ row (.slice a (cellsB cs k).length c) 5 1 (bytesV (cellsB cs k)) :: blk b1 (.cells (flatV CellV.list cs).toArray 60 (0, 0)) :: H = H' ∧ k ≤ 16) (fun us => match us with | .int _ i :: _ => 16 - i.toNat | _ => 0) ⟨0, none, 0, rfl, rfl, by omega⟩ (fun w hw => (SB w hw : St w0 (blk b1 (.cells (flatV CellV.list cs).toArray 60 (0, 0)) :: H) w).addNilB 5) ?_
 rintro τ0 _ _  ⟨k, a, c, rfl, rfl, hk0⟩ _
 refine zS (T2 (Qmi rfl rfl (zy (Qt_lss rfl rfl) (TX (zC rfl (fun h7 => ?_) (fun h7 => ?_))))))
 ·
  have p7 := cL h7
  have hk : k < 16 := by omega
  have hck := hcs k hk
  have hlk := cellsB_len hcs k (by omega)
  have hc0 : CellAt (flatV CellV.list cs).toArray (k * 2) (.bool cs[k].there) := cell_elem _ 2 CellV.list_len cs k 0 hk (by decide) rfl
  have hc1 : CellAt (flatV CellV.list cs).toArray (k * 2 + 1) (.int .i64 cs[k].n) := cell_elem _ 2 CellV.list_len cs k 1 hk (by decide) rfl
  refine zk (zx (zS (zB (T2 (Qmi rfl rfl (zy (Qt_indexAddr_arrC (sz := 2) (k * 2) k rfl rfl Tryz.underlying60 rfl rfl (by rw [Nat.blt_eq]; exact hk) (by omega)) (zy (zf (k * 2) rfl rfl) (zy (zl rfl) (TX (zC rfl (fun h13 => ?_) (fun h13 => ?_)))))))))))
  ·
   have p13 := cL h13
   have hth : cs[k].there = true := h13
   refine T2 (Qmi rfl rfl (zy (Qt_add rfl rfl (by omega) (by have := cellsN_le cs k; omega)) (Qai rfl rfl (T4 (Qms rfl rfl (Qmi rfl rfl (zy (Qt_conv rfl rfl Tryz.underlying5) (ze rfl (Ef_slice1 (v := .int .u8 (IntKind.u8.wrap _)) rfl (fun a19 c19 => ?_))))))))))
   refine ze rfl (Ef_appendb (n := IntKind.u8.wrap _) (sv := .slice _ _ _) (xv := .slice _ _ _) rfl rfl (wrap_u8_range _) (by omega) rfl (fun a20 c20 => ?_))
   rw [u8Of_wrap, ← fixed_k hk]
   refine Qas rfl rfl (TX (zR (Qms rfl rfl (Qmi rfl rfl (zy (Qt_indexAddr_arrC (sz := 2) (k * 2) k rfl rfl Tryz.underlying60 rfl rfl (by rw [Nat.blt_eq]; exact hk) (by omega)) (zy (zf (k * 2 + 1) rfl rfl) (zy (zl rfl) (ze rfl (zc (rFold_c hck) rfl (fun x26 => ?_))))))))))
   refine ze rfl (zc (rPacked_c (x := (foldN cs[k].n : Int)) (by omega) (by have := foldN_lt hck; omega)) rfl (fun x27 => ?_))
   rw [Int.toNat_natCast]
   refine ze rfl (Ef_appendB (sv := .slice _ _ _) (xv := .slice _ _ _) rfl rfl (by have := packed_length_le _ (foldN_lt hck); rw [List.length_append, fixed_length]; omega) rfl (fun a28 c28 => ?_))
   rw [cellsB_t2 hk hth]
   refine Qas rfl rfl (zz (X_block (zx (zR (Qmi rfl rfl (zy (zj rfl rfl) (Qai rfl rfl (zz ?_))))))))
   apply X_loop
   case ha => exact zA
   case hI => exact by first | exact ⟨k + 1, a28, c28, by rw [← cellsN_t hk hth]; rfl, rfl, by omega⟩ | exact ⟨k + 1, a, c, by rw [cellsB_f hk hth, cellsN_f hk hth]; rfl, by rw [cellsB_f hk hth], by omega⟩
   case hm => exact by show 16 - (k + 1 : Int).toNat < 16 - (k : Int).toNat; omega
   case hH => exact SB
  have p13 := cL h13
  have hth : cs[k].there = false := h13
  refine zk (X_block (zx (zR (Qmi rfl rfl (zy (zj rfl rfl) (Qai rfl rfl (zz ?_)))))))
  apply X_loop
  case ha => exact zA
  case hI => exact by first | exact ⟨k + 1, a28, c28, by rw [← cellsN_t hk hth]; rfl, rfl, by omega⟩ | exact ⟨k + 1, a, c, by rw [cellsB_f hk hth, cellsN_f hk hth]; rfl, by rw [cellsB_f hk hth], by omega⟩
  case hm => exact by show 16 - (k + 1 : Int).toNat < 16 - (k : Int).toNat; omega
  case hH => exact SB
 have p7 := cL h7
 obtain rfl : k = 16 := by omega
 refine zY (zG (zW (zE (zx (T2 (Qmi rfl rfl (zy (Qt_conv_u64 rfl rfl Tryz.underlying121 (by omega) (by have := cellsN_le cs 16; omega)) (ze rfl (zc (rPacked_c (x := (cellsN cs 16 : Int)) (by omega) (by have := cellsN_le cs 16; omega)) rfl (fun x31 => ?_))))))))))
 rw [Int.toNat_natCast]
 refine Qms rfl rfl (ze rfl (zc (rJoin_c (l := packed (cellsN cs 16)) (l2 := cellsB cs 16) (by have := packed_length_le (cellsN cs 16) (by have := cellsN_le cs 16; omega); have := cellsB_len hcs 16 (by omega); omega)) rfl (fun x33 => ?_)))
 rw [show packed (cellsN cs 16) ++ cellsB cs 16 = kvB cs from rfl]
 refine Qas rfl rfl (TX (zQ ?_))
 exact zX ⟨x33.a, x33.c⟩ [_] Tryz.results138 ⟨rfl, trivial⟩ rfl SB
theorem putReply_c {w0 : World} {H : List SA} {r : ReplyV} (hn : -9223372036854775808 ≤ r.res.n ∧ r.res.n ≤ 9223372036854775807) :
 CT Tryz.prog w0 (H) 131 [.agg r.cells] (α := AC) (fun y => .slice y.a (replyB r).length y.c) (fun y => row (.slice y.a (replyB r).length y.c) 5 1 (bytesV (replyB r)) :: H) := by
 refine CT_intro Tryz.func131 rfl Tryz.ntmps131 rfl (T2 (ze rfl (Ef_boxN rfl (fun b1 => ?_))))
 refine Qas rfl rfl (T4 (Qai rfl rfl (TX (zS (T2 (zy (zf 3 rfl rfl) (zy (zf 3 rfl rfl) (zy (zl rfl) (TX (zC rfl (fun h9 => ?_) (fun h9 => ?_)))))))))))
 ·
  have p9 := cL h9
  have hok : r.res.oK = true := h9
  refine zR (Qai rfl rfl (T4 (Qas rfl rfl (TX (zS (T2 (zy (zf 0 rfl rfl) (zy (zl rfl) (zy (zf 1 rfl rfl) (zy (zl rfl) (zy (zf 2 rfl rfl) (zy (zl rfl) ?_))))))))))))
  refine Qmi rfl rfl (zy (Qt_build_arr #[(.int .i64 _), (.int .i64 _), (.int .i64 _), (.int .i64 _)] Tryz.underlying272 rfl rfl rfl) (Qmi rfl rfl (TX (zB (T_unroll (TU_round (T2 (zy (Qt_lss rfl rfl) (TX (zS (T_cond_true rfl (by first | rfl | decide) (zk (zx (zS (zB (T2 ?_))))))))))))))))
  refine zy (Qt_index (_) rfl rfl Tryz.underlying272 (by omega) (by omega) (rfl)) (Qai rfl rfl (TX (zR (Qms rfl rfl (Qmi rfl rfl (zy (Qt_conv rfl rfl Tryz.underlying121) (ze rfl (zc (putFixed_c (a := none) (l := []) (c := 0) (x := IntKind.u64.wrap r.client) (n := 1) (hr := RdB.nil') (by simp [fixed_length]) (u64_nonneg _)) rfl (fun x24 => ?_)))))))))
  rw [putFixed_1k, List.nil_append]
  refine Qas rfl rfl (zz (X_block (zx (zR (zy (zj rfl rfl) (Qmi rfl rfl (zz (X_again (TU_round (T2 (zy (Qt_lss rfl rfl) (TX (zS (T_cond_true rfl (by first | rfl | decide) (zk (zx (zS (zB (T2 ?_)))))))))))))))))))
  refine zy (Qt_index (_) rfl rfl Tryz.underlying272 (by omega) (by omega) (rfl)) (Qai rfl rfl (TX (zR (Qms rfl rfl (Qmi rfl rfl (zy (Qt_conv rfl rfl Tryz.underlying121) (ze rfl (zc (putFixed_c (l := fixed (IntKind.u64.wrap r.client).toNat 1) (x := IntKind.u64.wrap r.seq) (n := 1) (by simp [fixed_length]) (u64_nonneg _)) rfl (fun x24 => ?_)))))))))
  rw [putFixed_1k]
  refine Qas rfl rfl (zz (X_block (zx (zR (zy (zj rfl rfl) (Qmi rfl rfl (zz (X_again (TU_round (T2 (zy (Qt_lss rfl rfl) (TX (zS (T_cond_true rfl (by first | rfl | decide) (zk (zx (zS (zB (T2 ?_)))))))))))))))))))
  refine zy (Qt_index (_) rfl rfl Tryz.underlying272 (by omega) (by omega) (rfl)) (Qai rfl rfl (TX (zR (Qms rfl rfl (Qmi rfl rfl (zy (Qt_conv rfl rfl Tryz.underlying121) (ze rfl (zc (putFixed_c (l := fixed (IntKind.u64.wrap r.client).toNat 1 ++ fixed (IntKind.u64.wrap r.seq).toNat 1) (x := IntKind.u64.wrap r.slot) (n := 1) (by simp [fixed_length]) (u64_nonneg _)) rfl (fun x24 => ?_)))))))))
  rw [putFixed_1k]
  refine Qas rfl rfl (zz (X_block (zx (zR (zy (zj rfl rfl) (Qmi rfl rfl (zz (X_again (TU_round (T2 (zy (Qt_lss rfl rfl) (TX (zS (T_cond_true rfl (by first | rfl | decide) (zk (zx (zS (zB (T2 ?_)))))))))))))))))))
  refine zy (Qt_index (_) rfl rfl Tryz.underlying272 (by omega) (by omega) (rfl)) (Qai rfl rfl (TX (zR (Qms rfl rfl (Qmi rfl rfl (zy (Qt_conv rfl rfl Tryz.underlying121) (ze rfl (zc (putFixed_c (l := fixed (IntKind.u64.wrap r.client).toNat 1 ++ fixed (IntKind.u64.wrap r.seq).toNat 1 ++ fixed (IntKind.u64.wrap r.slot).toNat 1) (x := IntKind.u64.wrap 1) (n := 1) (by simp [fixed_length]) (u64_nonneg _)) rfl (fun x24 => ?_)))))))))
  rw [putFixed_1k]
  refine Qas rfl rfl (zz (X_block (zx (zR (zy (zj rfl rfl) (Qmi rfl rfl (zz (X_again (TU_round (T2 (zy (Qt_lss rfl rfl) (TX (zS (T_cond_false rfl (by first | rfl | decide) (zY (zG (X_again_exit (zE (zx (T2 ?_))))))))))))))))))))
  refine Qms rfl rfl (zy (zf 3 rfl rfl) (zy (zf 4 rfl rfl) (zy (zl rfl) (ze rfl (zc (putFolded_c (by simp [fixed_length]) hn) rfl (fun x30 => ?_))))))
  refine Qas rfl rfl (TX (zQ ?_))
  have e : replyB r = fixed (IntKind.u64.wrap r.client).toNat 1 ++ fixed (IntKind.u64.wrap r.seq).toNat 1 ++ fixed (IntKind.u64.wrap r.slot).toNat 1 ++ fixed (IntKind.u64.wrap 1).toNat 1 ++ packed (foldN r.res.n) := by unfold replyB okI; rw [if_pos hok]
  simp only [e]
  exact zX ⟨x30.a, x30.c⟩ [_] Tryz.results131 ⟨rfl, trivial⟩ rfl SB
 have p9 := cL h9
 have hok : r.res.oK = false := h9
 refine S4 (Qas rfl rfl (TX (zS (T2 (zy (zf 0 rfl rfl) (zy (zl rfl) (zy (zf 1 rfl rfl) (zy (zl rfl) (zy (zf 2 rfl rfl) (zy (zl rfl) ?_))))))))))
 refine Qmi rfl rfl (zy (Qt_build_arr #[(.int .i64 _), (.int .i64 _), (.int .i64 _), (.int .i64 _)] Tryz.underlying272 rfl rfl rfl) (Qmi rfl rfl (TX (zB (T_unroll (TU_round (T2 (zy (Qt_lss rfl rfl) (TX (zS (T_cond_true rfl (by first | rfl | decide) (zk (zx (zS (zB (T2 ?_))))))))))))))))
 refine zy (Qt_index (_) rfl rfl Tryz.underlying272 (by omega) (by omega) (rfl)) (Qai rfl rfl (TX (zR (Qms rfl rfl (Qmi rfl rfl (zy (Qt_conv rfl rfl Tryz.underlying121) (ze rfl (zc (putFixed_c (a := none) (l := []) (c := 0) (x := IntKind.u64.wrap r.client) (n := 1) (hr := RdB.nil') (by simp [fixed_length]) (u64_nonneg _)) rfl (fun x24 => ?_)))))))))
 rw [putFixed_1k, List.nil_append]
 refine Qas rfl rfl (zz (X_block (zx (zR (zy (zj rfl rfl) (Qmi rfl rfl (zz (X_again (TU_round (T2 (zy (Qt_lss rfl rfl) (TX (zS (T_cond_true rfl (by first | rfl | decide) (zk (zx (zS (zB (T2 ?_)))))))))))))))))))
 refine zy (Qt_index (_) rfl rfl Tryz.underlying272 (by omega) (by omega) (rfl)) (Qai rfl rfl (TX (zR (Qms rfl rfl (Qmi rfl rfl (zy (Qt_conv rfl rfl Tryz.underlying121) (ze rfl (zc (putFixed_c (l := fixed (IntKind.u64.wrap r.client).toNat 1) (x := IntKind.u64.wrap r.seq) (n := 1) (by simp [fixed_length]) (u64_nonneg _)) rfl (fun x24 => ?_)))))))))
 rw [putFixed_1k]
 refine Qas rfl rfl (zz (X_block (zx (zR (zy (zj rfl rfl) (Qmi rfl rfl (zz (X_again (TU_round (T2 (zy (Qt_lss rfl rfl) (TX (zS (T_cond_true rfl (by first | rfl | decide) (zk (zx (zS (zB (T2 ?_)))))))))))))))))))
 refine zy (Qt_index (_) rfl rfl Tryz.underlying272 (by omega) (by omega) (rfl)) (Qai rfl rfl (TX (zR (Qms rfl rfl (Qmi rfl rfl (zy (Qt_conv rfl rfl Tryz.underlying121) (ze rfl (zc (putFixed_c (l := fixed (IntKind.u64.wrap r.client).toNat 1 ++ fixed (IntKind.u64.wrap r.seq).toNat 1) (x := IntKind.u64.wrap r.slot) (n := 1) (by simp [fixed_length]) (u64_nonneg _)) rfl (fun x24 => ?_)))))))))
 rw [putFixed_1k]
 refine Qas rfl rfl (zz (X_block (zx (zR (zy (zj rfl rfl) (Qmi rfl rfl (zz (X_again (TU_round (T2 (zy (Qt_lss rfl rfl) (TX (zS (T_cond_true rfl (by first | rfl | decide) (zk (zx (zS (zB (T2 ?_)))))))))))))))))))
 refine zy (Qt_index (_) rfl rfl Tryz.underlying272 (by omega) (by omega) (rfl)) (Qai rfl rfl (TX (zR (Qms rfl rfl (Qmi rfl rfl (zy (Qt_conv rfl rfl Tryz.underlying121) (ze rfl (zc (putFixed_c (l := fixed (IntKind.u64.wrap r.client).toNat 1 ++ fixed (IntKind.u64.wrap r.seq).toNat 1 ++ fixed (IntKind.u64.wrap r.slot).toNat 1) (x := IntKind.u64.wrap 0) (n := 1) (by simp [fixed_length]) (u64_nonneg _)) rfl (fun x24 => ?_)))))))))
 rw [putFixed_1k]
 refine Qas rfl rfl (zz (X_block (zx (zR (zy (zj rfl rfl) (Qmi rfl rfl (zz (X_again (TU_round (T2 (zy (Qt_lss rfl rfl) (TX (zS (T_cond_false rfl (by first | rfl | decide) (zY (zG (X_again_exit (zE (zx (T2 ?_))))))))))))))))))))
 refine Qms rfl rfl (zy (zf 3 rfl rfl) (zy (zf 4 rfl rfl) (zy (zl rfl) (ze rfl (zc (putFolded_c (by simp [fixed_length]) hn) rfl (fun x30 => ?_))))))
 refine Qas rfl rfl (TX (zQ ?_))
 have e : replyB r = fixed (IntKind.u64.wrap r.client).toNat 1 ++ fixed (IntKind.u64.wrap r.seq).toNat 1 ++ fixed (IntKind.u64.wrap r.slot).toNat 1 ++ fixed (IntKind.u64.wrap 0).toNat 1 ++ packed (foldN r.res.n) := by unfold replyB okI; rw [if_neg (by simp [hok])]
 simp only [e]
 exact zX ⟨x30.a, x30.c⟩ [_] Tryz.results131 ⟨rfl, trivial⟩ rfl SB
theorem rPutReply_c {w0 : World} {H : List SA} {r : ReplyV} (hn : -9223372036854775808 ≤ r.res.n ∧ r.res.n ≤ 9223372036854775807) :
 CT Tryz.prog w0 (H) 139 [.agg r.cells] (α := AC) (fun y => .slice y.a (replyB r).length y.c) (fun y => row (.slice y.a (replyB r).length y.c) 5 1 (bytesV (replyB r)) :: H) := by
 refine CT_intro Tryz.func139 rfl Tryz.ntmps139 rfl (T2 (ze rfl (Ef_boxN rfl (fun b1 => ?_))))
 refine Qas rfl rfl (T4 (zy (za (.int .u8 _) rfl) (TX (zS (T2 (zy (zf 3 rfl rfl) (zy (zf 3 rfl rfl) (zy (zl rfl) (TX (zC rfl (fun h7 => ?_) (fun h7 => ?_)))))))))))
 ·
  have p7 := cL h7
  have hok : r.res.oK = true := h7
  refine zR (zy (za (.int .u8 _) rfl) (T4 (Qas rfl rfl (T4 (Qms rfl rfl (zy (zf 0 rfl rfl) (zy (zl rfl) (zy (Qt_conv rfl rfl Tryz.underlying5) ?_))))))))
  obtain ⟨d0, hb0, hw0⟩ := byte_ex r.client
  rw [hw0]
  refine zy (zf 1 rfl rfl) (zy (zl rfl) (zy (Qt_conv rfl rfl Tryz.underlying5) ?_))
  obtain ⟨d1, hb1, hw1⟩ := byte_ex r.seq
  rw [hw1]
  refine zy (zf 2 rfl rfl) (zy (zl rfl) (zy (Qt_conv rfl rfl Tryz.underlying5) ?_))
  obtain ⟨d2, hb2, hw2⟩ := byte_ex r.slot
  rw [hw2]
  refine zy (zm (.int .u8 _) rfl) (ze rfl (Ef_sliceN (m := ([d0, d1, d2, 1] : List UInt8).length) [.int .u8 (d0.toNat : Int), .int .u8 (d1.toNat : Int), .int .u8 (d2.toNat : Int), .int .u8 1] (bytesV [d0, d1, d2, 1]) rfl rfl rfl rfl (by simp [Value.cells]) rfl rfl (fun a19 c19 => ?_)))
  refine TL_conv (fun w hw => hw.addNilB 5) ?_
  refine ze rfl (Ef_appendB (sv := .slice none ([] : List UInt8).length 0) (xv := .slice _ _ _) (l := []) rfl rfl (by simp) rfl (fun a20 c20 => ?_))
  rw [List.nil_append]
  refine Qas rfl rfl (T4 (Qms rfl rfl (zy (zf 3 rfl rfl) (zy (zf 4 rfl rfl) (zy (zl rfl) (ze rfl (zc (rFold_c hn) rfl (fun x25 => ?_))))))))
  refine ze rfl (zc (rPacked_c (x := (foldN r.res.n : Int)) (by omega) (by have := foldN_lt hn; omega)) rfl (fun x26 => ?_))
  rw [Int.toNat_natCast]
  refine ze rfl (Ef_appendB (sv := .slice _ _ _) (xv := .slice _ _ _) rfl rfl (by have := packed_length_le _ (foldN_lt hn); simp; omega) rfl (fun a27 c27 => ?_))
  refine Qas rfl rfl (T4 (Qms rfl rfl (Qas rfl rfl (TX (zQ ?_)))))
  have e : replyB r = [d0, d1, d2, 1] ++ packed (foldN r.res.n) := by unfold replyB okI; rw [if_pos hok, hb0, hb1, hb2]; rfl
  simp only [e]
  exact zX ⟨a27, c27⟩ [_] Tryz.results139 ⟨rfl, trivial⟩ rfl SB
 have p7 := cL h7
 have hok : r.res.oK = false := h7
 refine S4 (Qas rfl rfl (T4 (Qms rfl rfl (zy (zf 0 rfl rfl) (zy (zl rfl) (zy (Qt_conv rfl rfl Tryz.underlying5) ?_))))))
 obtain ⟨d0, hb0, hw0⟩ := byte_ex r.client
 rw [hw0]
 refine zy (zf 1 rfl rfl) (zy (zl rfl) (zy (Qt_conv rfl rfl Tryz.underlying5) ?_))
 obtain ⟨d1, hb1, hw1⟩ := byte_ex r.seq
 rw [hw1]
 refine zy (zf 2 rfl rfl) (zy (zl rfl) (zy (Qt_conv rfl rfl Tryz.underlying5) ?_))
 obtain ⟨d2, hb2, hw2⟩ := byte_ex r.slot
 rw [hw2]
 refine zy (zm (.int .u8 _) rfl) (ze rfl (Ef_sliceN (m := ([d0, d1, d2, 0] : List UInt8).length) [.int .u8 (d0.toNat : Int), .int .u8 (d1.toNat : Int), .int .u8 (d2.toNat : Int), .int .u8 0] (bytesV [d0, d1, d2, 0]) rfl rfl rfl rfl (by simp [Value.cells]) rfl rfl (fun a19 c19 => ?_)))
 refine TL_conv (fun w hw => hw.addNilB 5) ?_
 refine ze rfl (Ef_appendB (sv := .slice none ([] : List UInt8).length 0) (xv := .slice _ _ _) (l := []) rfl rfl (by simp) rfl (fun a20 c20 => ?_))
 rw [List.nil_append]
 refine Qas rfl rfl (T4 (Qms rfl rfl (zy (zf 3 rfl rfl) (zy (zf 4 rfl rfl) (zy (zl rfl) (ze rfl (zc (rFold_c hn) rfl (fun x25 => ?_))))))))
 refine ze rfl (zc (rPacked_c (x := (foldN r.res.n : Int)) (by omega) (by have := foldN_lt hn; omega)) rfl (fun x26 => ?_))
 rw [Int.toNat_natCast]
 refine ze rfl (Ef_appendB (sv := .slice _ _ _) (xv := .slice _ _ _) rfl rfl (by have := packed_length_le _ (foldN_lt hn); simp; omega) rfl (fun a27 c27 => ?_))
 refine Qas rfl rfl (T4 (Qms rfl rfl (Qas rfl rfl (TX (zQ ?_)))))
 have e : replyB r = [d0, d1, d2, 0] ++ packed (foldN r.res.n) := by unfold replyB okI; rw [if_neg (by simp [hok]), hb0, hb1, hb2]; rfl
 simp only [e]
 exact zX ⟨a27, c27⟩ [_] Tryz.results139 ⟨rfl, trivial⟩ rfl SB
theorem putWorld_c {w0 : World} {H : List SA} {s f n1 n2 : Int} {m1 m2 : Nat} (hm1 : m1 < 65536) (hm2 : m2 < 65536) {cs : Vector CellV 16} (hcs : ∀ (i : Nat) (hi : i < 16), -9223372036854775808 ≤ cs[i].n ∧ cs[i].n ≤ 9223372036854775807) {rs : Vector ReplyV 6} (hrs : ∀ (i : Nat) (hi : i < 6), -9223372036854775808 ≤ rs[i].res.n ∧ rs[i].res.n ≤ 9223372036854775807) :
 CT Tryz.prog w0 (H) 81 [.agg (WorldV.mk s f ⟨n1, (m1 : Int)⟩ ⟨n2, (m2 : Int)⟩ cs rs).cells] (α := AC) (fun y => .slice y.a (worldB s f n1 m1 n2 m2 cs rs).length y.c) (fun y => row (.slice y.a (worldB s f n1 m1 n2 m2 cs rs).length y.c) 5 1 (bytesV (worldB s f n1 m1 n2 m2 cs rs)) :: H) := by
 refine CT_intro Tryz.func81 rfl Tryz.ntmps81 rfl (T2 (ze rfl (Ef_boxN rfl (fun b1 => ?_))))
 refine Qas rfl rfl (TX (zS (zD (blk b1 (.cells (WorldV.mk s f ⟨n1, (m1 : Int)⟩ ⟨n2, (m2 : Int)⟩ cs rs).cells 67 (0, 0)) :: H) [(0, true), (1, true), (2, true), (4, true), (5, true), (6, true), (3, false), (7, false), (8, true)] SB (fun hns0 => ?_))))
 refine zd hns0 rfl (zf 0 rfl rfl) rfl (zd hns0 rfl (zl rfl) rfl (zd hns0 rfl (Qt_conv rfl rfl Tryz.underlying121) rfl (zd hns0 rfl (zf 1 rfl rfl) rfl (zd hns0 rfl (zl rfl) rfl (zd hns0 rfl (Qt_conv rfl rfl Tryz.underlying121) rfl (DL_e rfl rfl (zc (putFixed_c (a := none) (l := []) (c := 0) (x := IntKind.u64.wrap s) (n := 2) (hr := RdB.nil') (by simp) (u64_nonneg _)) rfl (fun x11 => ⟨SB, ?_⟩))))))))
 rw [putFixed_2k, List.nil_append]
 refine DL_e rfl rfl (zc (putFixed_c (x := IntKind.u64.wrap f) (n := 2) (by rw [fixed_length]; omega) (u64_nonneg _)) rfl (fun x15 => ⟨SB, ?_⟩))
 rw [putFixed_2k]
 refine zd hns0 rfl (za (.slice _ _ _) rfl) rfl (DL_nil (zx (zS (zS (zD (blk b1 (.cells (WorldV.mk s f ⟨n1, (m1 : Int)⟩ ⟨n2, (m2 : Int)⟩ cs rs).cells 67 (0, 0)) :: H) [(0, true), (1, true), (3, true), (4, true), (6, true), (7, true), (10, true), (2, false), (5, false), (8, false), (9, true)] SB (fun hns1 => ?_))))))
 refine zd hns1 rfl (zf 2 rfl rfl) rfl (zd hns1 rfl (zn rfl rfl) rfl (zd hns1 rfl (zf 4 rfl rfl) rfl (zd hns1 rfl (zn rfl rfl) rfl (zd hns1 rfl (zf 6 rfl rfl) rfl (zd hns1 rfl (zn rfl rfl) rfl (zd hns1 rfl (zm (.int .i64 _) rfl) rfl (DL_e rfl rfl (zc (viewPut_c hm1) rfl (fun x18 => ⟨SB, ?_⟩)))))))))
 refine DL_e rfl rfl (zc (viewPut_c hm2) rfl (fun x21 => ⟨SB, ?_⟩))
 refine DL_e rfl rfl (zc (kvPut_c hcs) rfl (fun x24 => ⟨SB, ?_⟩))
 refine zd hns1 rfl (Qt_build_arr #[(.slice _ _ _), (.slice _ _ _), (.slice _ _ _)] Tryz.underlying238 rfl rfl rfl) rfl (DL_nil (zx (zB (T_unroll (TU_round (T2 (zy (Qt_lss rfl rfl) (TX (zS (T_cond_true rfl (by first | rfl | decide) (zk (zx (zS (zB (T2 ?_)))))))))))))))
 refine zy (Qt_index (_) rfl rfl Tryz.underlying238 (by omega) (by omega) (rfl)) (Qas rfl rfl (TX (zR (Qms rfl rfl (Qms rfl rfl (ze rfl (zc (putText_c (l := fixed (IntKind.u64.wrap s).toNat 2 ++ fixed (IntKind.u64.wrap f).toNat 2) (l2 := viewB n1 m1) (by have hv1 := viewB_len n1 m1; have hv2 := viewB_len n2 m2; have hv3 := kvB_len hcs; have hv4 := textB_length (viewB n1 m1) (by omega); have hv5 := textB_length (viewB n2 m2) (by omega); simp only [List.length_append, fixed_length]; omega) (by have hv1 := viewB_len n1 m1; have hv2 := viewB_len n2 m2; have hv3 := kvB_len hcs; have hv4 := textB_length (viewB n1 m1) (by omega); have hv5 := textB_length (viewB n2 m2) (by omega); omega)) rfl (fun x31 => ?_))))))))
 rw [List.append_assoc (fixed (IntKind.u64.wrap s).toNat 2 ++ fixed (IntKind.u64.wrap f).toNat 2) (packed (viewB n1 m1).length) (viewB n1 m1), show packed (viewB n1 m1).length ++ viewB n1 m1 = textB (viewB n1 m1) from rfl]
 refine Qas rfl rfl (zz (X_block (zx (zR (zy (zj rfl rfl) (Qmi rfl rfl (zz (X_again (TU_round (T2 (zy (Qt_lss rfl rfl) (TX (zS (T_cond_true rfl (by first | rfl | decide) (zk (zx (zS (zB (T2 ?_)))))))))))))))))))
 refine zy (Qt_index (_) rfl rfl Tryz.underlying238 (by omega) (by omega) (rfl)) (Qas rfl rfl (TX (zR (Qms rfl rfl (Qms rfl rfl (ze rfl (zc (putText_c (l := fixed (IntKind.u64.wrap s).toNat 2 ++ fixed (IntKind.u64.wrap f).toNat 2 ++ textB (viewB n1 m1)) (l2 := viewB n2 m2) (by have hv1 := viewB_len n1 m1; have hv2 := viewB_len n2 m2; have hv3 := kvB_len hcs; have hv4 := textB_length (viewB n1 m1) (by omega); have hv5 := textB_length (viewB n2 m2) (by omega); simp only [List.length_append, fixed_length]; omega) (by have hv1 := viewB_len n1 m1; have hv2 := viewB_len n2 m2; have hv3 := kvB_len hcs; have hv4 := textB_length (viewB n1 m1) (by omega); have hv5 := textB_length (viewB n2 m2) (by omega); omega)) rfl (fun x31 => ?_))))))))
 rw [List.append_assoc (fixed (IntKind.u64.wrap s).toNat 2 ++ fixed (IntKind.u64.wrap f).toNat 2 ++ textB (viewB n1 m1)) (packed (viewB n2 m2).length) (viewB n2 m2), show packed (viewB n2 m2).length ++ viewB n2 m2 = textB (viewB n2 m2) from rfl]
 refine Qas rfl rfl (zz (X_block (zx (zR (zy (zj rfl rfl) (Qmi rfl rfl (zz (X_again (TU_round (T2 (zy (Qt_lss rfl rfl) (TX (zS (T_cond_true rfl (by first | rfl | decide) (zk (zx (zS (zB (T2 ?_)))))))))))))))))))
 refine zy (Qt_index (_) rfl rfl Tryz.underlying238 (by omega) (by omega) (rfl)) (Qas rfl rfl (TX (zR (Qms rfl rfl (Qms rfl rfl (ze rfl (zc (putText_c (l := fixed (IntKind.u64.wrap s).toNat 2 ++ fixed (IntKind.u64.wrap f).toNat 2 ++ textB (viewB n1 m1) ++ textB (viewB n2 m2)) (l2 := kvB cs) (by have hv1 := viewB_len n1 m1; have hv2 := viewB_len n2 m2; have hv3 := kvB_len hcs; have hv4 := textB_length (viewB n1 m1) (by omega); have hv5 := textB_length (viewB n2 m2) (by omega); simp only [List.length_append, fixed_length]; omega) (by have hv1 := viewB_len n1 m1; have hv2 := viewB_len n2 m2; have hv3 := kvB_len hcs; have hv4 := textB_length (viewB n1 m1) (by omega); have hv5 := textB_length (viewB n2 m2) (by omega); omega)) rfl (fun x31 => ?_))))))))
 rw [List.append_assoc (fixed (IntKind.u64.wrap s).toNat 2 ++ fixed (IntKind.u64.wrap f).toNat 2 ++ textB (viewB n1 m1) ++ textB (viewB n2 m2)) (packed (kvB cs).length) (kvB cs), show packed (kvB cs).length ++ kvB cs = textB (kvB cs) from rfl]
 refine Qas rfl rfl (zz (X_block (zx (zR (zy (zj rfl rfl) (Qmi rfl rfl (zz (X_again (TU_round (T2 (zy (Qt_lss rfl rfl) (TX (zS (T_cond_false rfl (by first | rfl | decide) (zY (zG (X_again_exit (zE (zx (zS (T2 ?_)))))))))))))))))))))
 refine zy (zf 38 rfl rfl) (zy (zn rfl rfl) (Qmi rfl rfl (TX (zB ?_))))
 have hhd := headB_len (s := s) (f := f) (n1 := n1) (n2 := n2) (m1 := m1) (m2 := m2) hcs
 refine T_loop [3, 7, 35, 36, 37, 38, 39, 40, 41, 42] [35, 3] (fun us H' => ∃ (k : Nat) (a : Option Addr) (c : Nat), us = [.int .i64 (k : Int), .slice a (fixed (IntKind.u64.wrap s).toNat 2 ++ fixed (IntKind.u64.wrap f).toNat 2 ++ textB (viewB n1 m1) ++ textB (viewB n2 m2) ++ textB (kvB cs) ++ repliesB rs k).length c] ∧ row (.slice a (fixed (IntKind.u64.wrap s).toNat 2 ++ fixed (IntKind.u64.wrap f).toNat 2 ++ textB (viewB n1 m1) ++ textB (viewB n2 m2) ++ textB (kvB cs) ++ repliesB rs k).length c) 5 1 (bytesV (fixed (IntKind.u64.wrap s).toNat 2 ++ fixed (IntKind.u64.wrap f).toNat 2 ++ textB (viewB n1 m1) ++ textB (viewB n2 m2) ++ textB (kvB cs) ++ repliesB rs k)) :: blk b1 (.cells (WorldV.mk s f ⟨n1, (m1 : Int)⟩ ⟨n2, (m2 : Int)⟩ cs rs).cells 67 (0, 0)) :: H = H' ∧ k ≤ 6) (fun us => match us with | .int _ i :: _ => 6 - i.toNat | _ => 0) ⟨0, x31.a, x31.c, by rw [show repliesB rs 0 = [] from rfl, List.append_nil]; rfl, by rw [show repliesB rs 0 = [] from rfl, List.append_nil], by omega⟩ SB ?_
 rintro τ1 _ _  ⟨k, a, c, rfl, rfl, hk0⟩ _
 refine T2 (zy (Qt_lss rfl rfl) (TX (zS (zC rfl (fun h36 => ?_) (fun h36 => ?_)))))
 ·
  have p36 := cL h36
  have hk : k < 6 := by omega
  have hrk := hrs k hk
  have hlk := replyB_len hrk
  have hhk := repliesB_len hrs k (by omega)
  have hsk : SubAt (flatV ReplyV.list rs).toArray (k * 5) 5 rs[k].cells := sub_elem _ 5 ReplyV.list_len rs k hk
  refine zk (zx (zS (zB (T2 (zy (Qt_indexS rfl rfl Tryz.underlying65 hk) (ze rfl (Ef_allocN (fun b7 => ?_))))))))
  refine zN (zs rfl rfl (TX (zR (Qms rfl rfl (zy (zn rfl rfl) (ze rfl (zc (putReply_c (r := rs[k]) hrk) rfl (fun x40 => ?_))))))))
  refine ze rfl (zc (putText_c (l := fixed (IntKind.u64.wrap s).toNat 2 ++ fixed (IntKind.u64.wrap f).toNat 2 ++ textB (viewB n1 m1) ++ textB (viewB n2 m2) ++ textB (kvB cs) ++ repliesB rs k) (l2 := replyB rs[k]) (by rw [List.length_append]; omega) (by omega)) rfl (fun x41 => ?_))
  rw [List.append_assoc (fixed (IntKind.u64.wrap s).toNat 2 ++ fixed (IntKind.u64.wrap f).toNat 2 ++ textB (viewB n1 m1) ++ textB (viewB n2 m2) ++ textB (kvB cs) ++ repliesB rs k) (packed (replyB rs[k]).length) (replyB rs[k]), show packed (replyB rs[k]).length ++ replyB rs[k] = textB (replyB rs[k]) from rfl, List.append_assoc (fixed (IntKind.u64.wrap s).toNat 2 ++ fixed (IntKind.u64.wrap f).toNat 2 ++ textB (viewB n1 m1) ++ textB (viewB n2 m2) ++ textB (kvB cs)) (repliesB rs k) (textB (replyB rs[k])), repliesB_succ rs hk]
  refine Qas rfl rfl (zz (X_block (zx (zR (zy (zj rfl rfl) (Qmi rfl rfl (zz ?_)))))))
  apply X_loop
  case ha => exact zA
  case hI => exact ⟨k + 1, x41.a, x41.c, rfl, rfl, by omega⟩
  case hm => exact by show 6 - (k + 1 : Int).toNat < 6 - (k : Int).toNat; omega
  case hH => exact SB
 have p36 := cL h36
 obtain rfl : k = 6 := by omega
 have e6 : fixed (IntKind.u64.wrap s).toNat 2 ++ fixed (IntKind.u64.wrap f).toNat 2 ++ textB (viewB n1 m1) ++ textB (viewB n2 m2) ++ textB (kvB cs) ++ repliesB rs 6 = worldB s f n1 m1 n2 m2 cs rs := rfl
 rw [e6]
 refine zY (zG (zW (zE (zx (T2 (Qms rfl rfl (Qas rfl rfl (TX (zQ ?_)))))))))
 exact zX ⟨a, c⟩ [_] Tryz.results81 ⟨rfl, trivial⟩ rfl SB
theorem rPutWorld_c {w0 : World} {H : List SA} {s f n1 n2 : Int} {m1 m2 : Nat} (hm1 : m1 < 65536) (hm2 : m2 < 65536) {cs : Vector CellV 16} (hcs : ∀ (i : Nat) (hi : i < 16), -9223372036854775808 ≤ cs[i].n ∧ cs[i].n ≤ 9223372036854775807) {rs : Vector ReplyV 6} (hrs : ∀ (i : Nat) (hi : i < 6), -9223372036854775808 ≤ rs[i].res.n ∧ rs[i].res.n ≤ 9223372036854775807) :
 CT Tryz.prog w0 (H) 88 [.agg (WorldV.mk s f ⟨n1, (m1 : Int)⟩ ⟨n2, (m2 : Int)⟩ cs rs).cells] (α := AC) (fun y => .slice y.a (worldB s f n1 m1 n2 m2 cs rs).length y.c) (fun y => row (.slice y.a (worldB s f n1 m1 n2 m2 cs rs).length y.c) 5 1 (bytesV (worldB s f n1 m1 n2 m2 cs rs)) :: H) := by
 refine CT_intro Tryz.func88 rfl Tryz.ntmps88 rfl (T2 (ze rfl (Ef_boxN rfl (fun b1 => ?_))))
 refine Qas rfl rfl (TX (zS (zD (blk b1 (.cells (WorldV.mk s f ⟨n1, (m1 : Int)⟩ ⟨n2, (m2 : Int)⟩ cs rs).cells 67 (0, 0)) :: H) [(0, true), (1, true), (2, true), (4, true), (5, true), (6, true), (3, false), (7, false), (8, false), (9, true)] SB (fun hns0 => ?_))))
 refine zd hns0 rfl (zf 0 rfl rfl) rfl (zd hns0 rfl (zl rfl) rfl (zd hns0 rfl (Qt_conv rfl rfl Tryz.underlying121) rfl (zd hns0 rfl (zf 1 rfl rfl) rfl (zd hns0 rfl (zl rfl) rfl (zd hns0 rfl (Qt_conv rfl rfl Tryz.underlying121) rfl (DL_e rfl rfl (zc (rFixed_c (x := IntKind.u64.wrap s) (n := 2) (u64_nonneg _) (u64_lt _)) rfl (fun x8 => ⟨SB, ?_⟩))))))))
 rw [show fixedR (IntKind.u64.wrap s) 2 = fixed (IntKind.u64.wrap s).toNat 2 from rfl]
 refine DL_e rfl rfl (zc (rFixed_c (x := IntKind.u64.wrap f) (n := 2) (u64_nonneg _) (u64_lt _)) rfl (fun x12 => ⟨SB, ?_⟩))
 rw [show fixedR (IntKind.u64.wrap f) 2 = fixed (IntKind.u64.wrap f).toNat 2 from rfl]
 refine DL_e rfl rfl (zc (rJoin_c (l := fixed (IntKind.u64.wrap s).toNat 2) (l2 := fixed (IntKind.u64.wrap f).toNat 2) (by rw [fixed_length, fixed_length]; omega)) rfl (fun x13 => ⟨SB, ?_⟩))
 refine zd hns0 rfl (za (.slice _ _ _) rfl) rfl (DL_nil (zx (T2 (Qms rfl rfl (zy (zf 2 rfl rfl) (zy (zn rfl rfl) (ze rfl (zc (rViewPut_c hm1) rfl (fun x17 => ?_)))))))))
 refine ze rfl (zc (rText_c (l2 := viewB n1 m1) (by have hv1 := viewB_len n1 m1; have hv2 := viewB_len n2 m2; have hv3 := kvB_len hcs; have hv4 := textB_length (viewB n1 m1) (by omega); have hv5 := textB_length (viewB n2 m2) (by omega); omega)) rfl (fun x18 => ?_))
 refine ze rfl (Ef_appendB (sv := .slice _ _ _) (xv := .slice _ _ _) rfl rfl (by have hv1 := viewB_len n1 m1; have hv2 := viewB_len n2 m2; have hv3 := kvB_len hcs; have hv4 := textB_length (viewB n1 m1) (by omega); have hv5 := textB_length (viewB n2 m2) (by omega); have hv6 := textB_length (kvB cs) (by omega); simp only [List.length_append, fixed_length]; omega) rfl (fun a19 c19 => ?_))
 refine Qas rfl rfl (T4 (Qms rfl rfl (zy (zf 4 rfl rfl) (zy (zn rfl rfl) (ze rfl (zc (rViewPut_c hm2) rfl (fun x23 => ?_)))))))
 refine ze rfl (zc (rText_c (l2 := viewB n2 m2) (by have hv1 := viewB_len n1 m1; have hv2 := viewB_len n2 m2; have hv3 := kvB_len hcs; have hv4 := textB_length (viewB n1 m1) (by omega); have hv5 := textB_length (viewB n2 m2) (by omega); omega)) rfl (fun x24 => ?_))
 refine ze rfl (Ef_appendB (sv := .slice _ _ _) (xv := .slice _ _ _) rfl rfl (by have hv1 := viewB_len n1 m1; have hv2 := viewB_len n2 m2; have hv3 := kvB_len hcs; have hv4 := textB_length (viewB n1 m1) (by omega); have hv5 := textB_length (viewB n2 m2) (by omega); have hv6 := textB_length (kvB cs) (by omega); simp only [List.length_append, fixed_length]; omega) rfl (fun a25 c25 => ?_))
 refine Qas rfl rfl (T4 (Qms rfl rfl (zy (zf 6 rfl rfl) (zy (zn rfl rfl) (ze rfl (zc (rKvPut_c hcs) rfl (fun x29 => ?_)))))))
 refine ze rfl (zc (rText_c (l2 := kvB cs) (by have hv1 := viewB_len n1 m1; have hv2 := viewB_len n2 m2; have hv3 := kvB_len hcs; have hv4 := textB_length (viewB n1 m1) (by omega); have hv5 := textB_length (viewB n2 m2) (by omega); omega)) rfl (fun x30 => ?_))
 refine ze rfl (Ef_appendB (sv := .slice _ _ _) (xv := .slice _ _ _) rfl rfl (by have hv1 := viewB_len n1 m1; have hv2 := viewB_len n2 m2; have hv3 := kvB_len hcs; have hv4 := textB_length (viewB n1 m1) (by omega); have hv5 := textB_length (viewB n2 m2) (by omega); have hv6 := textB_length (kvB cs) (by omega); simp only [List.length_append, fixed_length]; omega) rfl (fun a31 c31 => ?_))
 refine Qas rfl rfl (TX (zS (T2 (Qai rfl rfl (TX (zB ?_))))))
 have hhd := headB_len (s := s) (f := f) (n1 := n1) (n2 := n2) (m1 := m1) (m2 := m2) hcs
 refine T_loop [3, 4, 32, 33, 34, 35, 36, 37, 38, 39, 40, 41, 42, 43] [4, 3] (fun us H' => ∃ (k : Nat) (a : Option Addr) (c : Nat), us = [.int .i64 (k : Int), .slice a (fixed (IntKind.u64.wrap s).toNat 2 ++ fixed (IntKind.u64.wrap f).toNat 2 ++ textB (viewB n1 m1) ++ textB (viewB n2 m2) ++ textB (kvB cs) ++ repliesB rs k).length c] ∧ row (.slice a (fixed (IntKind.u64.wrap s).toNat 2 ++ fixed (IntKind.u64.wrap f).toNat 2 ++ textB (viewB n1 m1) ++ textB (viewB n2 m2) ++ textB (kvB cs) ++ repliesB rs k).length c) 5 1 (bytesV (fixed (IntKind.u64.wrap s).toNat 2 ++ fixed (IntKind.u64.wrap f).toNat 2 ++ textB (viewB n1 m1) ++ textB (viewB n2 m2) ++ textB (kvB cs) ++ repliesB rs k)) :: blk b1 (.cells (WorldV.mk s f ⟨n1, (m1 : Int)⟩ ⟨n2, (m2 : Int)⟩ cs rs).cells 67 (0, 0)) :: H = H' ∧ k ≤ 6) (fun us => match us with | .int _ i :: _ => 6 - i.toNat | _ => 0) ⟨0, a31, c31, by rw [show repliesB rs 0 = [] from rfl, List.append_nil]; rfl, by rw [show repliesB rs 0 = [] from rfl, List.append_nil], by omega⟩ SB ?_
 rintro τ0 _ _  ⟨k, a, c, rfl, rfl, hk0⟩ _
 refine zS (T2 (Qmi rfl rfl (zy (Qt_lss rfl rfl) (TX (zC rfl (fun h33 => ?_) (fun h33 => ?_))))))
 ·
  have p33 := cL h33
  have hk : k < 6 := by omega
  have hrk := hrs k hk
  have hlk := replyB_len hrk
  have hhk := repliesB_len hrs k (by omega)
  have hsk : SubAt (WorldV.mk s f ⟨n1, (m1 : Int)⟩ ⟨n2, (m2 : Int)⟩ cs rs).cells (38 + k * 5) 5 rs[k].cells := WorldV.sub_last (WorldV.mk s f ⟨n1, (m1 : Int)⟩ ⟨n2, (m2 : Int)⟩ cs rs) k hk
  refine zk (zx (zS (zB (zR (Qms rfl rfl (Qmi rfl rfl (zy (zf 38 rfl rfl) (zy (Qt_indexAddr_arrC (sz := 5) (38 + k * 5) k rfl rfl Tryz.underlying65 rfl rfl (by rw [Nat.blt_eq]; exact hk) rfl) (zy (zn rfl (by rw [Nat.ble_eq]; omega)) (ze rfl (zc (rPutReply_c (r := rs[k]) hrk) rfl (fun x41 => ?_))))))))))))
  refine ze rfl (zc (rText_c (l2 := replyB rs[k]) (by omega)) rfl (fun x42 => ?_))
  refine ze rfl (Ef_appendB (sv := .slice _ _ _) (xv := .slice _ _ _) rfl rfl (by have hv7 := textB_length (replyB rs[k]) (by omega); rw [List.length_append]; omega) rfl (fun a43 c43 => ?_))
  rw [List.append_assoc (fixed (IntKind.u64.wrap s).toNat 2 ++ fixed (IntKind.u64.wrap f).toNat 2 ++ textB (viewB n1 m1) ++ textB (viewB n2 m2) ++ textB (kvB cs)) (repliesB rs k) (textB (replyB rs[k])), repliesB_succ rs hk]
  refine Qas rfl rfl (zz (X_block (zx (zR (Qmi rfl rfl (zy (zj rfl rfl) (Qai rfl rfl (zz ?_))))))))
  apply X_loop
  case ha => exact zA
  case hI => exact ⟨k + 1, a43, c43, rfl, rfl, by omega⟩
  case hm => exact by show 6 - (k + 1 : Int).toNat < 6 - (k : Int).toNat; omega
  case hH => exact SB
 have p33 := cL h33
 obtain rfl : k = 6 := by omega
 have e6 : fixed (IntKind.u64.wrap s).toNat 2 ++ fixed (IntKind.u64.wrap f).toNat 2 ++ textB (viewB n1 m1) ++ textB (viewB n2 m2) ++ textB (kvB cs) ++ repliesB rs 6 = worldB s f n1 m1 n2 m2 cs rs := rfl
 rw [e6]
 refine zY (zG (zW (zE (zx (T2 (Qms rfl rfl (Qas rfl rfl (TX (zQ ?_)))))))))
 exact zX ⟨a, c⟩ [_] Tryz.results88 ⟨rfl, trivial⟩ rfl SB
attribute [local irreducible] sha worldB
theorem digest_c {w0 : World} {H : List SA} {s f n1 n2 : Int} {m1 m2 : Nat} (hm1 : m1 < 65536) (hm2 : m2 < 65536) {cs : Vector CellV 16} (hcs : ∀ (i : Nat) (hi : i < 16), -9223372036854775808 ≤ cs[i].n ∧ cs[i].n ≤ 9223372036854775807) {rs : Vector ReplyV 6} (hrs : ∀ (i : Nat) (hi : i < 6), -9223372036854775808 ≤ rs[i].res.n ∧ rs[i].res.n ≤ 9223372036854775807) :
 CT Tryz.prog w0 (H) 41 [.agg (WorldV.mk s f ⟨n1, (m1 : Int)⟩ ⟨n2, (m2 : Int)⟩ cs rs).cells] (α := Unit) (fun _ => .agg (hlist (sha (worldB s f n1 m1 n2 m2 cs rs))).toArray) (fun _ => H) := by
 refine CT_intro Tryz.func41 rfl Tryz.ntmps41 rfl (T2 (ze rfl (Ef_boxN rfl (fun b1 => ?_))))
 refine ze rfl (Ef_allocN (fun b2 => ?_))
 refine T4 (zy (zn rfl rfl) (ze rfl (zc (putWorld_c hm1 hm2 hcs hrs) rfl (fun x4 => ?_))))
 refine ze rfl (zc (sum_c (l := worldB s f n1 m1 n2 m2 cs rs) (by have := worldB_len (s := s) (f := f) (n1 := n1) (n2 := n2) (m1 := m1) (m2 := m2) hcs hrs; omega)) rfl (fun x5 => ?_))
 refine zN (zs rfl rfl (TX (zQ ?_)))
 exact zX () [_] Tryz.results41 ⟨⟨_, rfl, res_cellN rfl⟩, trivial⟩ rfl SB
theorem rDigest_c {w0 : World} {H : List SA} {s f n1 n2 : Int} {m1 m2 : Nat} (hm1 : m1 < 65536) (hm2 : m2 < 65536) {cs : Vector CellV 16} (hcs : ∀ (i : Nat) (hi : i < 16), -9223372036854775808 ≤ cs[i].n ∧ cs[i].n ≤ 9223372036854775807) {rs : Vector ReplyV 6} (hrs : ∀ (i : Nat) (hi : i < 6), -9223372036854775808 ≤ rs[i].res.n ∧ rs[i].res.n ≤ 9223372036854775807) :
 CT Tryz.prog w0 (H) 47 [.agg (WorldV.mk s f ⟨n1, (m1 : Int)⟩ ⟨n2, (m2 : Int)⟩ cs rs).cells] (α := Unit) (fun _ => .agg (hlist (sha (worldB s f n1 m1 n2 m2 cs rs))).toArray) (fun _ => H) := by
 refine CT_intro Tryz.func47 rfl Tryz.ntmps47 rfl (T2 (ze rfl (Ef_boxN rfl (fun b1 => ?_))))
 refine ze rfl (Ef_allocN (fun b2 => ?_))
 refine T4 (zy (zn rfl rfl) (ze rfl (zc (rPutWorld_c hm1 hm2 hcs hrs) rfl (fun x4 => ?_))))
 refine ze rfl (zc (rSum_c (l := worldB s f n1 m1 n2 m2 cs rs) (by have := worldB_len (s := s) (f := f) (n1 := n1) (n2 := n2) (m1 := m1) (m2 := m2) hcs hrs; omega)) rfl (fun x5 => ?_))
 refine zN (zs rfl rfl (TX (zQ ?_)))
 exact zX () [_] Tryz.results47 ⟨⟨_, rfl, res_cellN rfl⟩, trivial⟩ rfl SB
end
end Go.Proofs.YtnijomppbgdmnaaGreat
