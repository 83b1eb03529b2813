/- Walks: the references on signatures. -/
import Derived.Test.YtnijomppbgdmnaaGreatSgP
import Derived.Test.YtnijomppbgdmnaaGreatXrRP
import Derived.Test.YtnijomppbgdmnaaGreatRrRP
set_option linter.unusedSimpArgs false
set_option linter.unusedVariables false
namespace Go.Proofs.YtnijomppbgdmnaaGreat
section
open Go.RowKit Go.Sx
set_option maxRecDepth 100000
set_option maxHeartbeats 1000000
/-- Bytes that are ours behind the first step, and the caller's ahead of it. -/
def prow (w0 : World) (H : List SA) : Nat → Value → List UInt8 → SA
 | 0, s, l => pu (RdB w0 H s l)
 | _ + 1, s, l => row s 5 1 (bytesV l)
instance prow_rd {w0 : World} {H : List SA} {k : Nat} {a : Option Addr} {l : List UInt8} {c : Nat} : RdB w0 (prow w0 H k (.slice a l.length c) l :: H) (.slice a l.length c) l := by
 cases k with
 | zero => exact ⟨fun w hw => (St.pure (p := RdB w0 H (.slice a l.length c) l) hw).rd w hw.tail⟩
 | succ k => exact (inferInstance : RdB w0 (row (.slice a l.length c) 5 1 (bytesV l) :: H) (.slice a l.length c) l)
/-- The first digits. -/
def digT (h : Vector UInt8 32) (k : Nat) : List Nat := (List.range (2 * k)).map (digN h)
theorem digT_len (h : Vector UInt8 32) (k : Nat) : (digT h k).length = 2 * k := by simp [digT]
theorem digT_zero (h : Vector UInt8 32) : digT h 0 = [] := rfl
theorem digT_step (h : Vector UInt8 32) (k : Nat) (hk : k < 16) : digT h k ++ [nibH h k, nibL h k] = digT h (k + 1) := digits_step h k hk
theorem digT_fin (h : Vector UInt8 32) : digT h 16 ++ [sumD h 16 / 256, sumD h 16 / 16 % 16, sumD h 16 % 16] = digL h := digits_fin h
theorem sumD_zero (h : Vector UInt8 32) : sumD h 0 = 0 := rfl
theorem half_up (N k : Nat) (h : N < 256) : IntKind.i64.wrap (((N / 2 ^ k : Nat) : Int).tdiv 2) = ((N / 2 ^ (k + 1) : Nat) : Int) := by
 have h1 := Nat.div_le_self N (2 ^ k)
 rw [Nat.pow_succ, ← Nat.div_div_eq_div_mul]
 generalize N / 2 ^ k = m at *
 rw [show (m : Int).tdiv 2 = ((m / 2 : Nat) : Int) from rfl, wrap_i64 (by omega) (by omega)]
theorem hash_get (l : List UInt8) (k j : Nat) (hj : j < 32) (h : k + j < l.length) : (hashV l k)[j] = l[k + j] := by
 unfold hashV
 rw [Vector.getElem_ofFn, List.getD_eq_getElem?_getD, List.getElem?_eq_getElem h]; rfl
theorem piece_list (l : List UInt8) (k : Nat) (h : 16 * k + 16 ≤ l.length) : (pieceV l k).toList = (l.drop (16 * k)).take 16 := by
 unfold pieceV; exact ofFn_sub l (16 * k) h
attribute [local irreducible] sha cutV stepV walkV putFixed digT digL sumD nibH nibL digN pieceV hashV recL recV pairV upV
theorem rPair_c {w0 : World} {H : List SA} {x y : Vector UInt8 32} :
 CT Tryz.prog w0 (H) 184 [.agg (hlist x).toArray, .agg (hlist y).toArray] (α := Unit) (fun _ => .agg (hlist (pairV x y)).toArray) (fun _ => H) := by
 refine CT_intro Tryz.func184 rfl Tryz.ntmps184 rfl (T2 (ze rfl (Ef_boxN rfl (fun b2 => ?_))))
 refine ze rfl (Ef_boxN rfl (fun b3 => ?_))
 refine ze rfl (Ef_allocN (fun b4 => ?_))
 refine TX (zS (zD (blk b2 (.cells (hlist x).toArray 32 (0, 0)) :: blk b3 (.cells (hlist y).toArray 32 (0, 0)) :: H) [(0, true), (2, true), (1, false), (3, false), (4, false), (5, false), (6, false)] SB (fun hns0 => ?_)))
 refine zd hns0 rfl (zn rfl rfl) rfl (zd hns0 rfl (zn rfl rfl) rfl (DL_e rfl rfl (zc (rHash_c (h := x)) rfl (fun x6 => ⟨SB, ?_⟩))))
 refine DL_e rfl rfl (zc (rHash_c (h := y)) rfl (fun x8 => ⟨SB, ?_⟩))
 refine DL_e rfl rfl (zc (rJoin_c (l := x.toList) (l2 := y.toList) (by simp)) rfl (fun x9 => ⟨SB, ?_⟩))
 refine DL_e rfl rfl (zc (rSum_c (l := x.toList ++ y.toList) (by simp)) rfl (fun x10 => ⟨SB, ?_⟩))
 refine DL_n rfl (zs rfl rfl (⟨SB, (DL_nil (zx (zQ ?_)))⟩))
 rw [show pairV x y = sha (x.toList ++ y.toList) from by unfold pairV; rfl]
 exact zX () [_] Tryz.results184 ⟨⟨_, rfl, res_cellN rfl⟩, trivial⟩ rfl SB
theorem rWalk_c {w0 : World} {H : List SA} {pv : Vector UInt8 16} {j : Int} {fr to : Nat} (hto : to ≤ 1000) {a : Option Addr} {l : List UInt8} {c : Nat} [hr : RdB w0 H (.slice a l.length c) l] (hpl : pv.toList = l) :
 CT Tryz.prog w0 (H) 191 [.slice a l.length c, .int .i64 j, .int .i64 (fr : Int), .int .i64 (to : Int)] (α := AC) (fun y => .slice y.a (walkV pv j fr (to - fr)).toList.length y.c) (fun y => prow w0 H (to - fr) (.slice y.a (walkV pv j fr (to - fr)).toList.length y.c) (walkV pv j fr (to - fr)).toList :: H) := by
 subst hpl
 refine CT_intro Tryz.func191 rfl Tryz.ntmps191 rfl (T2 (Qas rfl rfl (TX (zS (T2 (Qmi rfl rfl (Qai rfl rfl (TX (zB ?_)))))))))
 refine T_loop [0, 9, 10, 12, 13, 14, 15, 16, 17, 18, 19, 20, 21, 22, 23, 24, 25, 26, 27, 28] [9, 0] (fun us H' => ∃ (k : Nat) (a : Option Addr) (c : Nat), us = [.int .i64 ((fr + k : Nat) : Int), .slice a (walkV pv j fr k).toList.length c] ∧ prow w0 H k (.slice a (walkV pv j fr k).toList.length c) (walkV pv j fr k).toList :: H = H' ∧ k ≤ to - fr) (fun us => match us with | .int _ i :: _ => to - i.toNat | _ => 0) ⟨0, a, c, by rw [walkV_zero]; rfl, rfl, by omega⟩ (fun w hw => by
  have h0 : St w0 H w := SB w hw
  refine h0.addPure ?_
  rw [walkV_zero]
  exact hr) ?_
 rintro τ0 _ _  ⟨k, a1, c1, rfl, rfl, hk0⟩ _
 refine zS (T2 (Qmi rfl rfl (Qmi rfl rfl (zy (Qt_lss rfl rfl) (TX (zC rfl (fun h14 => ?_) (fun h14 => ?_)))))))
 ·
  have p14 := cL h14
  have hk2 : fr + k < to := by omega
  refine zk (zx (zS (zB (T2 (Qas rfl rfl (T4 (Qms rfl rfl (Qms rfl rfl (TL_conv (fun w hw => hw.addNilB 5) ?_)))))))))
  refine ze rfl (Ef_appendB (sv := .slice _ _ _) (xv := .slice _ _ _) (l := []) rfl rfl (by simp) rfl (fun a19 c19 => ?_))
  rw [List.nil_append]
  refine Qas rfl rfl (T4 (Qms rfl rfl (Qmi rfl rfl (zy (Qt_conv rfl rfl Tryz.underlying5) (Qmi rfl rfl (zy (Qt_conv rfl rfl Tryz.underlying5) (ze rfl (Ef_sliceN (m := ([u8Of (IntKind.u8.wrap j), u8Of (IntKind.u8.wrap ((fr + k : Nat) : Int))] : List UInt8).length) [.int .u8 (IntKind.u8.wrap j), .int .u8 (IntKind.u8.wrap ((fr + k : Nat) : Int))] (bytesV [u8Of (IntKind.u8.wrap j), u8Of (IntKind.u8.wrap ((fr + k : Nat) : Int))]) rfl rfl rfl (u8_two j ((fr + k : Nat) : Int)) (by simp [Value.cells]) rfl rfl (fun a25 c25 => ?_)))))))))
  refine ze rfl (Ef_appendB (sv := .slice _ _ _) (xv := .slice _ _ _) (l := (walkV pv j fr k).toList) rfl rfl (by simp) rfl (fun a26 c26 => ?_))
  refine Qas rfl rfl (TX (zR (Qms rfl rfl (ze rfl (zc (rPiece_c (l := (walkV pv j fr k).toList ++ [u8Of (IntKind.u8.wrap j), u8Of (IntKind.u8.wrap ((fr + k : Nat) : Int))]) (by simp)) rfl (fun x28 => ?_))))))
  rw [show cutV ((walkV pv j fr k).toList ++ [u8Of (IntKind.u8.wrap j), u8Of (IntKind.u8.wrap ((fr + k : Nat) : Int))]) = walkV pv j fr (k + 1) from by rw [← walkV_succ]; unfold stepV; rfl]
  refine Qas rfl rfl (zz (X_block (zx (zR (Qmi rfl rfl (zy (zj rfl rfl) ?_))))))
  rw [show ((fr + k : Nat) : Int) + 1 = ((fr + (k + 1) : Nat) : Int) from by omega]
  refine Qai rfl rfl (zz ?_)
  apply X_loop
  case ha => exact zA
  case hI => exact ⟨k + 1, x28.a, x28.c, rfl, rfl, by omega⟩
  case hm => exact by show to - ((fr + (k + 1) : Nat) : Int).toNat < to - ((fr + k : Nat) : Int).toNat; omega
  case hH => exact (fun w hw => (SB w hw : St w0 (row (.slice x28.a ((walkV pv j fr (k + 1)).toList).length x28.c) 5 1 (bytesV ((walkV pv j fr (k + 1)).toList)) :: H) w))
 have p14 := cL h14
 have hke : k = to - fr := by omega
 refine zY (zG (zW (zE (zx (T2 (Qms rfl rfl (Qas rfl rfl (TX (zQ ?_)))))))))
 rw [← hke]
 exact zX ⟨a1, c1⟩ [_] Tryz.results191 ⟨rfl, trivial⟩ rfl SB
theorem rDigits_c {w0 : World} {H : List SA} {h : Vector UInt8 32} :
 CT Tryz.prog w0 (H) 190 [.agg (hlist h).toArray] (α := AC) (fun y => .slice y.a (digL h).length y.c) (fun y => row (.slice y.a (digL h).length y.c) 3 1 ((digL h).flatMap encN) :: H) := by
 refine CT_intro Tryz.func190 rfl Tryz.ntmps190 rfl (T2 (ze rfl (Ef_boxN rfl (fun b1 => ?_))))
 refine Qas rfl rfl (T4 (Qas rfl rfl (T4 (Qai rfl rfl (TX (zS (T2 (Qai rfl rfl (TX (zB ?_))))))))))
 refine T_loop [3, 4, 5, 6, 7, 8, 9, 10, 11, 12, 13, 14, 15, 16, 17, 18, 19, 20, 21, 22, 23, 24, 25, 26, 27, 28, 29, 30, 31, 32] [5, 4, 3] (fun us H' => ∃ (k : Nat) (a : Option Addr) (c : Nat), us = [.int .i64 (k : Int), .int .i64 ((sumD h k : Nat) : Int), .slice a (digT h k).length c] ∧ row (.slice a (digT h k).length c) 3 1 ((digT h k).flatMap encN) :: blk b1 (.cells (hlist h).toArray 32 (0, 0)) :: H = H' ∧ k ≤ 16) (fun us => match us with | .int _ i :: _ => 16 - i.toNat | _ => 0) ⟨0, none, 0, by rw [digT_zero, sumD_zero]; rfl, rfl, by omega⟩ (fun w hw => by
  rw [digT_zero]
  exact (SB w hw : St w0 (blk b1 (.cells (hlist h).toArray 32 (0, 0)) :: H) w).addNil 3 1) ?_
 rintro τ0 _ _  ⟨k, a, c, rfl, rfl, hk0⟩ _
 refine zS (T2 (Qmi rfl rfl (zy (Qt_lss rfl rfl) (TX (zC rfl (fun h9 => ?_) (fun h9 => ?_))))))
 ·
  have p9 := cL h9
  have hk : k < 16 := by omega
  have hc8 := h[k].toNat_lt
  have hch : CellAt (hlist h).toArray k (.int .u8 (h[k].toNat : Int)) := cellAtH rfl (by omega)
  have hsd := sumD_succ h k
  have hlb := sumD_le h k
  have hh1 := nibH_le h k
  have hh2 := nibL_le h k
  refine zk (zx (zS (zB (T2 (Qmi rfl rfl (zy (Qt_indexAddr_arrC (sz := 1) k k rfl rfl Tryz.underlying32 rfl rfl (by rw [Nat.blt_eq]; omega) (by omega)) (zy (zl rfl) (zy (Qt_conv_i64 rfl rfl Tryz.underlying3 (by omega) (by omega)) (zy (Qt_val (Qt_quo rfl rfl (by decide)) (congrArg (Value.int .i64) (show IntKind.i64.wrap ((h[k].toNat : Int).tdiv 16) = ((nibH h k : Nat) : Int) from by rw [show (h[k].toNat : Int).tdiv 16 = ((h[k].toNat / 16 : Nat) : Int) from rfl, wrap_i64 (by omega) (by omega), nibH_div, hget h k (by omega)]))) (Qai rfl rfl (T4 (Qmi rfl rfl (zy (Qt_indexAddr_arrC (sz := 1) k k rfl rfl Tryz.underlying32 rfl rfl (by rw [Nat.blt_eq]; omega) (by omega)) (zy (zl rfl) (zy (Qt_conv_i64 rfl rfl Tryz.underlying3 (by omega) (by omega)) (zy (Qt_val (Qt_rem rfl rfl (by decide)) (congrArg (Value.int .i64) (show (h[k].toNat : Int).tmod 16 = ((nibL h k : Nat) : Int) from by rw [show (h[k].toNat : Int).tmod 16 = ((h[k].toNat % 16 : Nat) : Int) from rfl, nibL_mod, hget h k (by omega)]))) ?_))))))))))))))))
  refine Qai rfl rfl (T4 (Qms rfl rfl (Qmi rfl rfl (Qmi rfl rfl (ze rfl (Ef_sliceN (m := ([nibH h k, nibL h k] : List Nat).length) [.int .i64 ((nibH h k : Nat) : Int), .int .i64 ((nibL h k : Nat) : Int)] (([nibH h k, nibL h k] : List Nat).flatMap encN) rfl rfl rfl rfl (by simp [Value.cells]) rfl rfl (fun a25 c25 => ?_)))))))
  refine ze rfl (Ef_appendS encN (sv := .slice _ _ _) (xv := .slice _ _ _) (xs := digT h k) (ys := ([nibH h k, nibL h k] : List Nat)) (fun _ => rfl) (fun _ => rfl) rfl rfl (by rw [digT_len]; first | (simp; done) | (simp; omega)) rfl rfl (fun a26 c26 => ?_))
  rw [digT_step h k hk]
  refine Qas rfl rfl (TX (zR (Qmi rfl rfl (zy (zj rfl rfl) (Qmi rfl rfl (zy (zh rfl rfl) (Qmi rfl rfl (zy (zh rfl rfl) ?_))))))))
  rw [show ((sumD h k : Nat) : Int) + 30 - ((nibH h k : Nat) : Int) - ((nibL h k : Nat) : Int) = ((sumD h (k + 1) : Nat) : Int) from by rw [hsd]; omega]
  refine Qai rfl rfl (zz (X_block (zx (zR (Qmi rfl rfl (zy (zj rfl rfl) (Qai rfl rfl (zz ?_))))))))
  apply X_loop
  case ha => exact zA
  case hI => exact ⟨k + 1, a26, c26, rfl, rfl, by omega⟩
  case hm => exact by show 16 - (k + 1 : Int).toNat < 16 - (k : Int).toNat; omega
  case hH => exact SB
 have p9 := cL h9
 have hk16 : k = 16 := by omega
 subst hk16
 have hlb := sumD_le h 16
 refine zY (zG (zW (zE (zx (T2 (Qms rfl rfl (Qmi rfl rfl (zy (Qt_val (Qt_quo rfl rfl (by decide)) (congrArg (Value.int .i64) (show IntKind.i64.wrap (((sumD h 16 : Nat) : Int).tdiv 256) = ((sumD h 16 / 256 : Nat) : Int) from by rw [show ((sumD h 16 : Nat) : Int).tdiv 256 = ((sumD h 16 / 256 : Nat) : Int) from rfl, wrap_i64 (by omega) (by omega)]))) (Qmi rfl rfl (zy (Qt_val (Qt_quo rfl rfl (by decide)) (congrArg (Value.int .i64) (show IntKind.i64.wrap (((sumD h 16 : Nat) : Int).tdiv 16) = ((sumD h 16 / 16 : Nat) : Int) from by rw [show ((sumD h 16 : Nat) : Int).tdiv 16 = ((sumD h 16 / 16 : Nat) : Int) from rfl, wrap_i64 (by omega) (by omega)]))) (zy (Qt_val (Qt_rem rfl rfl (by decide)) (congrArg (Value.int .i64) (show ((sumD h 16 / 16 : Nat) : Int).tmod 16 = ((sumD h 16 / 16 % 16 : Nat) : Int) from rfl))) (Qmi rfl rfl (zy (Qt_val (Qt_rem rfl rfl (by decide)) (congrArg (Value.int .i64) (show ((sumD h 16 : Nat) : Int).tmod 16 = ((sumD h 16 % 16 : Nat) : Int) from rfl))) (ze rfl (Ef_sliceN (m := ([sumD h 16 / 256, sumD h 16 / 16 % 16, sumD h 16 % 16] : List Nat).length) [.int .i64 ((sumD h 16 / 256 : Nat) : Int), .int .i64 ((sumD h 16 / 16 % 16 : Nat) : Int), .int .i64 ((sumD h 16 % 16 : Nat) : Int)] (([sumD h 16 / 256, sumD h 16 / 16 % 16, sumD h 16 % 16] : List Nat).flatMap encN) rfl rfl rfl rfl (by simp [Value.cells]) rfl rfl (fun a41 c41 => ?_))))))))))))))))
 refine ze rfl (Ef_appendS encN (sv := .slice _ _ _) (xv := .slice _ _ _) (xs := digT h 16) (ys := ([sumD h 16 / 256, sumD h 16 / 16 % 16, sumD h 16 % 16] : List Nat)) (fun _ => rfl) (fun _ => rfl) rfl rfl (by rw [digT_len]; first | (simp; done) | (simp; omega)) rfl rfl (fun a42 c42 => ?_))
 rw [digT_fin h]
 refine Qas rfl rfl (T4 (Qms rfl rfl (Qas rfl rfl (TX (zQ ?_)))))
 exact zX ⟨a42, c42⟩ [_] Tryz.results190 ⟨rfl, trivial⟩ rfl SB
theorem rRecover_c {w0 : World} {H : List SA} {ta : Option Addr} {tl : List UInt8} {tc : Nat} [hr : RdB w0 H (.slice ta tl.length tc) tl] (htl : tl.length ≤ 4294967000) {sa : Option Addr} {sl : List UInt8} {sc : Nat} [hs : RdB w0 H (.slice sa sl.length sc) sl] (hsl : sl.length = 560) :
 CT Tryz.prog w0 (H) 183 [.slice ta tl.length tc, .slice sa sl.length sc] (α := Unit) (fun _ => .tuple #[.agg (hlist (recV tl sl)).toArray, .int .i64 0]) (fun _ => H) := by
 refine CT_intro Tryz.func183 rfl Tryz.ntmps183 rfl (T2 (ze rfl (Ef_allocN (fun b4 => ?_))))
 refine Qai rfl rfl (TX (zS (T2 (Qms rfl rfl (zy (zL rfl Tryz.underlying33) (zy (Qt_neq rfl rfl) (TX (zC rfl (fun h11 => ?_) (fun h11 => ?_)))))))))
 ·
  have p11 := cL h11
  exact absurd h11 (by simp [hsl])
 have p11 := cL h11
 refine S4 (Qms rfl rfl (ze rfl (zc (rSum_c htl) rfl (fun x14 => ?_))))
 refine ze rfl (zc (rDigits_c (h := sha tl)) rfl (fun x15 => ?_))
 refine Qas rfl rfl (T4 (Qas rfl rfl (TX (zS (T2 (Qai rfl rfl (TX (zB ?_))))))))
 refine T_loop [7, 8, 16, 17, 18, 19, 20, 21, 22, 23, 24, 25, 26, 27, 28, 29, 30, 31, 32, 33, 34] [8, 7] (fun us H' => ∃ (k : Nat) (a : Option Addr) (c : Nat), us = [.int .i64 (k : Int), .slice a (recL tl sl k).length c] ∧ row (.slice a (recL tl sl k).length c) 5 1 (bytesV (recL tl sl k)) :: row (.slice x15.a (digL (sha tl)).length x15.c) 3 1 ((digL (sha tl)).flatMap encN) :: blk b4 (.cells (hlist (zeroV 32)).toArray 32 (0, 0)) :: H = H' ∧ k ≤ 35) (fun us => match us with | .int _ i :: _ => 35 - i.toNat | _ => 0) ⟨0, none, 0, by rw [recL_zero]; rfl, rfl, by omega⟩ (fun w hw => by
  rw [recL_zero]
  exact (SB w hw : St w0 (row (.slice x15.a (digL (sha tl)).length x15.c) 3 1 ((digL (sha tl)).flatMap encN) :: blk b4 (.cells (hlist (zeroV 32)).toArray 32 (0, 0)) :: H) w).addNilB 5) ?_
 rintro τ0 _ _  ⟨k, a, c, rfl, rfl, hk0⟩ _
 refine zS (T2 (Qmi rfl rfl (zy (Qt_lss rfl rfl) (TX (zC rfl (fun h17 => ?_) (fun h17 => ?_))))))
 ·
  have p17 := cL h17
  have hk : k < 35 := by omega
  refine zk (zx (zS (zB (zD (row (.slice x15.a (digL (sha tl)).length x15.c) 3 1 ((digL (sha tl)).flatMap encN) :: blk b4 (.cells (hlist (zeroV 32)).toArray 32 (0, 0)) :: H) [(0, true), (1, true), (2, true), (3, true), (4, true), (5, true), (6, true), (7, true), (8, true), (9, true), (10, true), (11, true), (12, true), (13, false), (14, false), (15, true)] SB (fun hns0 => ?_)))))
  refine zd hns0 rfl (zm (.slice _ _ _) rfl) rfl (zd hns0 rfl (zm (.slice _ _ _) rfl) rfl (zd hns0 rfl (zm (.int .i64 _) rfl) rfl (zd hns0 rfl (Qt_mul rfl rfl (by omega) (by omega)) rfl ?_)))
  rw [show (16 : Int) * (k : Int) = ((16 * k : Nat) : Int) from by omega]
  refine zd hns0 rfl (zm (.int .i64 _) rfl) rfl (zd hns0 rfl (Qt_mul rfl rfl (by omega) (by omega)) rfl ?_)
  rw [show (16 : Int) * (k : Int) = ((16 * k : Nat) : Int) from by omega]
  refine zd hns0 rfl (zj rfl rfl) rfl ?_
  rw [show ((16 * k : Nat) : Int) + 16 = ((16 * k + 16 : Nat) : Int) from by omega]
  refine zd hns0 rfl (Qt_sliceB_lh (16 * k) 16 rfl rfl rfl (by omega)) rfl (zd hns0 rfl (zm (.int .i64 _) rfl) rfl (zd hns0 rfl (zm (.slice _ _ _) rfl) rfl (zd hns0 rfl (zm (.int .i64 _) rfl) rfl (zd hns0 rfl (Qt_indexR rfl rfl (by omega) (by rw [encN_len, digL_len]; omega)) rfl (zd hns0 rfl (Qt_loadR (.int .i64 ((digL (sha tl))[k]'(by rw [digL_len]; exact hk) : Int)) rfl (encN_get _ k (by rw [digL_len]; exact hk))) rfl ?_)))))
  rw [digL_get (sha tl) k hk]
  refine DL_e rfl rfl (zc (rWalk_c (pv := pieceV sl k) (j := (k : Int)) (fr := (digN (sha tl) k)) (to := 15) (by decide) (l := (sl.drop (16 * k)).take 16) (piece_list sl k (by omega))) rfl (fun x33 => ⟨SB, ?_⟩))
  refine DL_e rfl rfl (Ef_appendB (sv := .slice _ _ _) (xv := .slice _ _ _) (l := recL tl sl k) (l' := (walkV (pieceV sl k) (k : Int) (digN (sha tl) k) (15 - (digN (sha tl) k))).toList) rfl rfl (by have := recL_len tl sl k; simp; omega) rfl (fun a34 c34 => ⟨SB, ?_⟩))
  rw [← recL_succ tl sl k]
  refine zd hns0 rfl (za (.slice _ _ _) rfl) rfl (DL_nil (X_block (zx (zR (Qmi rfl rfl (zy (zj rfl rfl) (Qai rfl rfl (zz ?_))))))))
  apply X_loop
  case ha => exact zA
  case hI => exact ⟨k + 1, a34, c34, rfl, rfl, by omega⟩
  case hm => exact by show 35 - (k + 1 : Int).toNat < 35 - (k : Int).toNat; omega
  case hH => exact SB
 have p17 := cL h17
 have hk35 : k = 35 := by omega
 subst hk35
 refine zY (zG (zW (zE (zx (T2 (Qms rfl rfl (ze rfl (zc (rSum_c (l := recL tl sl 35) (by rw [recL_len]; decide)) rfl (fun x36 => ?_)))))))))
 refine zN (zs rfl rfl (Qai rfl rfl (TX (zQ ?_))))
 rw [show recV tl sl = sha (recL tl sl 35) from by unfold recV; rfl]
 exact zX () [_, _] Tryz.results183 ⟨⟨_, rfl, res_cellN rfl⟩, rfl, trivial⟩ rfl SB
theorem rVerify_c {w0 : World} {H : List SA} {root : Vector UInt8 32} {ta : Option Addr} {tl : List UInt8} {tc : Nat} [hr : RdB w0 H (.slice ta tl.length tc) tl] (htl : tl.length ≤ 4294967000) {sa : Option Addr} {sl : List UInt8} {sc : Nat} [hs : RdB w0 H (.slice sa sl.length sc) sl] :
 CT Tryz.prog w0 (H) 160 [.agg (hlist root).toArray, .slice ta tl.length tc, .slice sa sl.length sc] (α := Unit) (fun _ => .tuple #[.int .i64 (verV root tl sl).1, .int .i64 (verV root tl sl).2]) (fun _ => H) := by
 refine CT_intro Tryz.func160 rfl Tryz.ntmps160 rfl (T2 (ze rfl (Ef_boxN rfl (fun b3 => ?_))))
 refine Qai rfl rfl (Qai rfl rfl (TX (zS (T2 (Qms rfl rfl (zy (zL rfl Tryz.underlying33) (zy (Qt_neq rfl rfl) (Qmb rfl rfl (TL_split 18 rfl (fun h18 => ?_) (fun h18 => ?_))))))))))
 ·
  have p18 := cL h18
  have hve : verV root tl sl = (0, 2) := if_pos (.inl (by have h := h18; simp at h; omega))
  refine zp rfl rfl h18 rfl (zp rfl rfl h18 rfl (zp rfl rfl h18 rfl (zp rfl rfl h18 rfl (zy (zT (.bool _) rfl h18 rfl) (TX (T_cond_true rfl rfl (T2 (Qai rfl rfl (Qai rfl rfl (TX (zQ (zr ?_))))))))))))
  rw [hve]
  exact zX () [_, _] Tryz.results160 ⟨rfl, rfl, trivial⟩ rfl SB
 have p18 := cL h18
 have hl : sl.length = 657 := by have h := h18; simp at h; omega
 have hb0 : (bytesV sl)[0]? = some (.int .u8 ((sl.getD 0 0).toNat : Int)) := by rw [List.getD_eq_getElem?_getD, List.getElem?_eq_getElem (show 0 < sl.length by omega)]; exact bytes_get _ _ (by omega)
 have hn8 := (sl.getD 0 0).toNat_lt
 refine zt rfl rfl h18 (Qms rfl rfl (zt rfl rfl h18 (zy (Qt_indexR rfl rfl (by omega) (by simp; omega)) (zt rfl rfl h18 (zy (Qt_loadR (.int .u8 ((sl.getD 0 0).toNat : Int)) rfl (hb0)) (zt rfl rfl h18 (zy (Qt_gtr rfl rfl) (zy (zF (.bool _) rfl h18 rfl) (TX (zC rfl (fun h23 => ?_) (fun h23 => ?_)))))))))))
 ·
  have p23 := cL h23
  have hve : verV root tl sl = (0, 2) := if_pos (.inr (by omega))
  refine T2 (Qai rfl rfl (Qai rfl rfl (TX (zQ (zr ?_)))))
  rw [hve]
  exact zX () [_, _] Tryz.results160 ⟨rfl, rfl, trivial⟩ rfl SB
 have p23 := cL h23
 have hn7 : (sl.getD 0 0).toNat < 8 := by omega
 refine S4 (Qms rfl rfl (zy (Qt_indexR rfl rfl (by omega) (by simp; omega)) (zy (Qt_loadR (.int .u8 ((sl.getD 0 0).toNat : Int)) rfl (hb0)) (zy (Qt_conv_i64 rfl rfl Tryz.underlying3 (by omega) (by omega)) (Qai rfl rfl (T4 (Qms rfl rfl (Qms rfl rfl (zy (Qt_sliceB_lh 1 560 rfl rfl rfl (by omega)) (ze rfl (zc (rRecover_c htl (sl := (sl.drop 1).take 560) (by simp; omega)) rfl (fun x32 => ?_))))))))))))
 refine zy (zm (.tuple _) rfl) (zy (Qt_extract rfl) (zy (Qt_extract rfl) (ze rfl (Ef_allocN (fun b9 => ?_)))))
 refine zN (zs rfl rfl (Qai rfl rfl (T4 (Qmi rfl rfl (Qai rfl rfl (TX (zS (T2 (Qai rfl rfl (TX (zB ?_)))))))))))
 refine T_loop [11, 12, 13, 14, 36, 37, 38, 39, 40, 41, 42, 43, 44, 45, 46, 47, 48, 49, 50, 51, 52, 53, 54, 55, 56, 57, 58, 59, 60, 61, 62, 63, 64, 65] [12, 11] (fun us H' => ∃ (k : Nat), us = [.int .i64 (k : Int), .int .i64 (((sl.getD 0 0).toNat / 2 ^ k : Nat) : Int)] ∧ blk b9 (.cells (hlist (upV sl (sl.getD 0 0).toNat (recV tl ((sl.drop 1).take 560)) k)).toArray 32 (0, 0)) :: blk b3 (.cells (hlist root).toArray 32 (0, 0)) :: H = H' ∧ k ≤ 3) (fun us => match us with | .int _ i :: _ => 3 - i.toNat | _ => 0) ⟨0, by rw [Nat.pow_zero, Nat.div_one]; rfl, rfl, by omega⟩ (fun w hw => by
  rw [upV_zero]
  exact SB w hw) ?_
 rintro τ0 _ _  ⟨k, rfl, rfl, hk0⟩ _
 refine zS (T2 (Qmi rfl rfl (zy (Qt_lss rfl rfl) (TX (zC rfl (fun h37 => ?_) (fun h37 => ?_))))))
 ·
  have p37 := cL h37
  have hk : k < 3 := by omega
  refine zk (zx (zS (zB (T2 (zy (Qt_build_arr (hlist (zeroV 32)).toArray Tryz.underlying32 rfl rfl rfl) (ze rfl (Ef_allocN (fun b13 => ?_))))))))
  refine zN (zs rfl rfl (TX (zS (T2 (Qai rfl rfl (TX (zB ?_)))))))
  refine T_loop [14, 41, 42, 43, 44, 45, 46, 47, 48, 49, 50, 51, 52, 53, 54] [14] (fun us H' => ∃ (j : Nat), us = [.int .i64 (j : Int)] ∧ blk b13 (.cells (hlist (hfirst (hashV sl (561 + 32 * k)) j)).toArray 32 (0, 0)) :: blk b9 (.cells (hlist (upV sl (sl.getD 0 0).toNat (recV tl ((sl.drop 1).take 560)) k)).toArray 32 (0, 0)) :: blk b3 (.cells (hlist root).toArray 32 (0, 0)) :: H = H' ∧ j ≤ 32) (fun us => match us with | .int _ i :: _ => 32 - i.toNat | _ => 0) ⟨0, rfl, rfl, by omega⟩ (fun w hw => by rw [hfirst_zero]; exact SB w hw) ?_
  rintro τ1 _ _  ⟨j, rfl, rfl, hj0⟩ _
  refine zS (T2 (Qmi rfl rfl (zy (Qt_lss rfl rfl) (TX (zC rfl (fun h42 => ?_) (fun h42 => ?_))))))
  ·
   have p42 := cL h42
   have hj : j < 32 := by omega
   have hgb : (bytesV sl)[561 + 32 * k + j]? = some (.int .u8 ((hashV sl (561 + 32 * k))[j].toNat : Int)) := by rw [hash_get sl (561 + 32 * k) j hj (by omega)]; exact bytes_get _ _ (by omega)
   refine zk (zx (zS (zB (zR (Qmi rfl rfl (Qms rfl rfl (Qmi rfl rfl (zy (Qt_mul rfl rfl (by omega) (by omega)) ?_))))))))
   rw [show (32 : Int) * (k : Int) = ((32 * k : Nat) : Int) from by omega]
   refine zy (zj rfl rfl) ?_
   rw [show (561 : Int) + ((32 * k : Nat) : Int) = ((561 + 32 * k : Nat) : Int) from by omega]
   refine Qmi rfl rfl (zy (zj rfl rfl) ?_)
   rw [show ((561 + 32 * k : Nat) : Int) + (j : Int) = ((561 + 32 * k + j : Nat) : Int) from by omega]
   refine zy (Qt_indexR rfl rfl (by omega) (by simp; omega)) (zy (Qt_loadR (.int .u8 ((hashV sl (561 + 32 * k))[j].toNat : Int)) rfl (hgb)) ?_)
   have hput : Put (hlist (hfirst (hashV sl (561 + 32 * k)) j)).toArray (0 + (j : Int).toNat * 1) (.int .u8 ((hashV sl (561 + 32 * k))[j].toNat : Int)) (hlist (hfirst (hashV sl (561 + 32 * k)) (j + 1))).toArray := by have := putAtH (h := (hfirst (hashV sl (561 + 32 * k)) j)) (m := 0 + (j : Int).toNat * 1) (i := j) (c := (hashV sl (561 + 32 * k))[j]) (by simp) hj; rwa [hfirst_set _ _ hj] at this
   refine zy (Qt_indexAddr_arr (sz := 1) rfl rfl Tryz.underlying32 rfl rfl (by omega) (by omega)) (zN (Ef_store1 (.int .u8 _) rfl rfl (zz (X_block (zx (zR (Qmi rfl rfl (zy (zj rfl rfl) (Qai rfl rfl (zz ?_))))))))))
   apply X_loop
   case ha => exact zA
   case hI => exact ⟨j + 1, rfl, rfl, by omega⟩
   case hm => exact by show 32 - (j + 1 : Int).toNat < 32 - (j : Int).toNat; omega
   case hH => exact SB
  have p42 := cL h42
  have hj : j = 32 := by omega
  subst hj
  rw [hfirst_all]
  refine zY (zG (zW (zE (zx (zS (T2 (Qmi rfl rfl (zy (Qt_val (Qt_rem rfl rfl (by decide)) (congrArg (Value.int .i64) (show (((sl.getD 0 0).toNat / 2 ^ k : Nat) : Int).tmod 2 = (((sl.getD 0 0).toNat / 2 ^ k % 2 : Nat) : Int) from rfl))) (zy (Qt_eql rfl rfl) (TX (zC rfl (fun h57 => ?_) (fun h57 => ?_))))))))))))
  ·
   have p57 := cL h57
   have hev : (sl.getD 0 0).toNat / 2 ^ k % 2 = 0 := by omega
   refine zR (zy (zn rfl rfl) (zy (zn rfl rfl) (ze rfl (zc (rPair_c (x := (upV sl (sl.getD 0 0).toNat (recV tl ((sl.drop 1).take 560)) k)) (y := (hashV sl (561 + 32 * k)))) rfl (fun x60 => ?_)))))
   rw [← upV_even sl (sl.getD 0 0).toNat (recV tl ((sl.drop 1).take 560)) k hev]
   refine zN (zs rfl rfl (TX (zR (Qmi rfl rfl (zy (Qt_val (Qt_quo rfl rfl (by decide)) (congrArg (Value.int .i64) (half_up (sl.getD 0 0).toNat k (by omega)))) (Qai rfl rfl (zz (X_block (zx (zR (Qmi rfl rfl (zy (zj rfl rfl) (Qai rfl rfl (zz ?_))))))))))))))
   apply X_loop
   case ha => exact zA
   case hI => exact ⟨k + 1, rfl, rfl, by omega⟩
   case hm => exact by show 3 - (k + 1 : Int).toNat < 3 - (k : Int).toNat; omega
   case hH => exact SB
  have p57 := cL h57
  have hev : ¬ (sl.getD 0 0).toNat / 2 ^ k % 2 = 0 := by omega
  refine zR (zy (zn rfl rfl) (zy (zn rfl rfl) (ze rfl (zc (rPair_c (x := (hashV sl (561 + 32 * k))) (y := (upV sl (sl.getD 0 0).toNat (recV tl ((sl.drop 1).take 560)) k))) rfl (fun x63 => ?_)))))
  rw [← upV_odd sl (sl.getD 0 0).toNat (recV tl ((sl.drop 1).take 560)) k hev]
  refine zN (zs rfl rfl (TX (zR (Qmi rfl rfl (zy (Qt_val (Qt_quo rfl rfl (by decide)) (congrArg (Value.int .i64) (half_up (sl.getD 0 0).toNat k (by omega)))) (Qai rfl rfl (zz (X_block (zx (zR (Qmi rfl rfl (zy (zj rfl rfl) (Qai rfl rfl (zz ?_))))))))))))))
  apply X_loop
  case ha => exact zA
  case hI => exact ⟨k + 1, rfl, rfl, by omega⟩
  case hm => exact by show 3 - (k + 1 : Int).toNat < 3 - (k : Int).toNat; omega
  case hH => exact SB
 have p37 := cL h37
 have hk3 : k = 3 := by omega
 subst hk3
 refine zY (zG (zW (zE (zx (zS (T2 (zy (zn rfl rfl) (zy (zn rfl rfl) (zy (Qt_agg_neq rfl rfl (by kernel_rfl)) (TX (zC rfl (fun h68 => ?_) (fun h68 => ?_))))))))))))
 ·
  have p68 := cL h68
  have hve : verV root tl sl = (0, 5) := by unfold verV; rw [if_neg (by omega), if_pos (by simpa using h68)]
  refine T2 (Qai rfl rfl (Qai rfl rfl (TX (zQ (zr ?_)))))
  rw [hve]
  exact zX () [_, _] Tryz.results160 ⟨rfl, rfl, trivial⟩ rfl SB
 have p68 := cL h68
 have hve : verV root tl sl = (((sl.getD 0 0).toNat : Int), 0) := by unfold verV; rw [if_neg (by omega), if_neg (by simpa using h68)]
 refine S4 (Qmi rfl rfl (Qai rfl rfl (Qai rfl rfl (TX (zQ ?_)))))
 rw [hve]
 exact zX () [_, _] Tryz.results160 ⟨rfl, rfl, trivial⟩ rfl SB
end
section
open Go.RowKit Go.Sx
set_option maxRecDepth 100000
set_option maxHeartbeats 1000000
theorem rFold_c {w0 : World} {H : List SA} {x : Int} (hx : -9223372036854775808 ≤ x ∧ x ≤ 9223372036854775807) :
 CT Tryz.prog w0 (H) 170 [.int .i64 x] (α := Unit) (fun _ => .int .u64 (foldN x : Int)) (fun _ => H) := by
 refine CT_intro Tryz.func170 rfl Tryz.ntmps170 rfl (T2 (zy (za (.int .u64 _) rfl) (TX (zS (T2 (Qmi rfl rfl (zy (Qt_lss rfl rfl) (TX (zC rfl (fun h4 => ?_) (fun h4 => ?_))))))))))
 ·
  have p4 := cL h4
  refine T2 (Qmi rfl rfl (zy (Qt_addw rfl rfl) (zy (Qt_neg rfl) (zy (Qt_conv rfl rfl Tryz.underlying121) (zy (Qt_mulw rfl rfl) (zy (Qt_addw rfl rfl) (zy (za (.int .u64 _) rfl) (TX (zQ (zr ?_))))))))))
  exact zX () [.int .u64 (foldN x : Int)] Tryz.results170 ⟨congrArg (Value.int .u64) (fold_neg hx.1 (by omega)), trivial⟩ rfl SB
 have p4 := cL h4
 refine S4 (Qmi rfl rfl (zy (Qt_conv rfl rfl Tryz.underlying121) (zy (Qt_mulw rfl rfl) (zy (za (.int .u64 _) rfl) (TX (zQ ?_))))))
 exact zX () [.int .u64 (foldN x : Int)] Tryz.results170 ⟨congrArg (Value.int .u64) (fold_pos hx.2 (by omega)), trivial⟩ rfl SB
theorem u8_four (a b c d : Int) : (([.int .u8 (IntKind.u8.wrap a), .int .u8 (IntKind.u8.wrap b), .int .u8 (IntKind.u8.wrap c), .int .u8 (IntKind.u8.wrap d)] : List Value).flatMap fun v => v.cells.toList) = bytesV [u8Of (IntKind.u8.wrap a), u8Of (IntKind.u8.wrap b), u8Of (IntKind.u8.wrap c), u8Of (IntKind.u8.wrap d)] := by
 show [Value.int .u8 (IntKind.u8.wrap a), Value.int .u8 (IntKind.u8.wrap b), Value.int .u8 (IntKind.u8.wrap c), Value.int .u8 (IntKind.u8.wrap d)] = [byteV (u8Of (IntKind.u8.wrap a)), byteV (u8Of (IntKind.u8.wrap b)), byteV (u8Of (IntKind.u8.wrap c)), byteV (u8Of (IntKind.u8.wrap d))]
 rw [byteV_u8Of (wrap_u8_range a).1 (wrap_u8_range a).2, byteV_u8Of (wrap_u8_range b).1 (wrap_u8_range b).2, byteV_u8Of (wrap_u8_range c).1 (wrap_u8_range c).2, byteV_u8Of (wrap_u8_range d).1 (wrap_u8_range d).2]
theorem put_one (l : List UInt8) {x : Int} (h0 : 0 ≤ x) (h1 : x < 256) : putFixed l (IntKind.u64.wrap x) 1 = l ++ [u8Of (IntKind.u8.wrap x)] := by
 unfold putFixed
 rw [if_pos (show wideB 1 = true from rfl), wrap_u64 h0 (by omega)]
 obtain ⟨n, rfl⟩ := Int.eq_ofNat_of_zero_le h0
 refine congrArg (l ++ ·) ?_
 have e : IntKind.u8.wrap (n : Int) = (n : Int) := by simp [IntKind.wrap, IntKind.bits, IntKind.signed]; omega
 rw [e]
 simp [fixed, u8Of]
 rw [Nat.mod_eq_of_lt (by omega)]
theorem rightQ_range {c kind key a b : Int} (h : rightQ c kind key a b = true) : (0 ≤ kind ∧ kind < 256) ∧ 0 ≤ key ∧ key < 256 := by
 unfold rightQ at h
 split at h
 · have := of_decide_eq_true h; omega
 · have := of_decide_eq_true h; omega
def headQ (r : ReqV) : List UInt8 := [u8Of (IntKind.u8.wrap r.client), u8Of (IntKind.u8.wrap r.seq), u8Of (IntKind.u8.wrap r.op.kind), u8Of (IntKind.u8.wrap r.op.key)]
theorem textQ_head {r : ReqV} (h : formedQ r.abs = true) : textQ r.abs = headQ r ++ packed (foldN r.op.a) ++ packed (foldN r.op.b) := by
 unfold textQ
 rw [if_neg (by rw [h]; decide)]
 unfold formedQ at h
 obtain ⟨⟨h1, h2⟩, ⟨h3, h4⟩, h5, -⟩ := of_decide_eq_true h
 obtain ⟨⟨h6, h7⟩, h8, h9⟩ := rightQ_range h5
 rw [put_one [] h1 (by omega), put_one _ (show 0 ≤ r.abs.seq by omega) (by omega), put_one _ h6 h7, put_one _ h8 h9]
 rfl
theorem byte_at (l : List UInt8) (i : Nat) (h : i < l.length) : (bytesV l)[i]? = some (.int .u8 ((l.getD i 0).toNat : Int)) := by
 rw [List.getD_eq_getElem?_getD, List.getElem?_eq_getElem h]
 exact bytes_get _ _ h
attribute [local irreducible] sha putFixed formedQ
theorem rUnfold_c {w0 : World} {H : List SA} {x : Nat} (hx : x < 18446744073709551616) :
 CT Tryz.prog w0 (H) 134 [.int .u64 (x : Int)] (α := Unit) (fun _ => .int .i64 (unfoldN x)) (fun _ => H) := by
 refine CT_intro Tryz.func134 rfl Tryz.ntmps134 rfl (T2 (Qai rfl rfl (TX (zS (T2 (zy (zm (.int .u64 _) rfl) (zy (Qt_val (Qt_rem rfl rfl (by decide)) (congrArg (Value.int .u64) (rem_nat x 2))) (zy (Qt_eql rfl rfl) (TX (zC rfl (fun h5 => ?_) (fun h5 => ?_)))))))))))
 ·
  have p5 := cL h5
  refine T2 (zy (zm (.int .u64 _) rfl) (zy (Qt_val (Qt_quo rfl rfl (by decide)) (congrArg (Value.int .u64) (quo_nat x 2 (by decide) hx))) (zy (Qt_conv_i64 rfl rfl Tryz.underlying2 (by omega) (by omega)) (zy (Qt_val (Qt_neg rfl) (congrArg (Value.int .i64) (show IntKind.i64.wrap (0 - ((x / 2 : Nat) : Int)) = -((x / 2 : Nat) : Int) from by rw [wrap_i64 (by omega) (by omega)]; omega))) (zy (zh rfl rfl) (Qai rfl rfl (TX (zQ (zr ?_)))))))))
  have e : unfoldN x = -((x / 2 : Nat) : Int) - 1 := if_pos (by omega)
  exact zX () [_] Tryz.results134 ⟨rfl, trivial⟩ (by rw [e]; rfl) SB
 have p5 := cL h5
 refine S4 (zy (zm (.int .u64 _) rfl) (zy (Qt_val (Qt_quo rfl rfl (by decide)) (congrArg (Value.int .u64) (quo_nat x 2 (by decide) hx))) (zy (Qt_conv_i64 rfl rfl Tryz.underlying2 (by omega) (by omega)) (Qai rfl rfl (TX (zQ ?_))))))
 have e : unfoldN x = ((x / 2 : Nat) : Int) := if_neg (by omega)
 exact zX () [_] Tryz.results134 ⟨rfl, trivial⟩ (by rw [e]; rfl) SB
theorem rTextQ_c {w0 : World} {H : List SA} {r : ReqV} (hf : formedQ r.abs = true) (ha : Sig64 r.op.a) (hb : Sig64 r.op.b) :
 CT Tryz.prog w0 (H) 161 [.agg r.cells] (α := AC) (fun y => .slice y.a (textQ r.abs).length y.c) (fun y => row (.slice y.a (textQ r.abs).length y.c) 5 1 (bytesV (textQ r.abs)) :: H) := by
 refine CT_intro Tryz.func161 rfl Tryz.ntmps161 rfl (T2 (ze rfl (Ef_boxN rfl (fun b1 => ?_))))
 refine Qas rfl rfl (T4 (Qas rfl rfl (T4 (Qms rfl rfl (zy (zf 0 rfl rfl) (zy (zl rfl) (zy (Qt_conv rfl rfl Tryz.underlying5) (zy (zf 1 rfl rfl) (zy (zl rfl) (zy (Qt_conv rfl rfl Tryz.underlying5) (zy (zf 2 rfl rfl) ?_)))))))))))
 refine zy (zf 2 rfl rfl) (zy (zl rfl) (zy (Qt_conv rfl rfl Tryz.underlying5) (zy (zf 2 rfl rfl) (zy (zf 3 rfl rfl) (zy (zl rfl) (zy (Qt_conv rfl rfl Tryz.underlying5) (ze rfl (Ef_sliceN (m := ([u8Of (IntKind.u8.wrap r.client), u8Of (IntKind.u8.wrap r.seq), u8Of (IntKind.u8.wrap r.op.kind), u8Of (IntKind.u8.wrap r.op.key)] : List UInt8).length) [.int .u8 (IntKind.u8.wrap r.client), .int .u8 (IntKind.u8.wrap r.seq), .int .u8 (IntKind.u8.wrap r.op.kind), .int .u8 (IntKind.u8.wrap r.op.key)] (bytesV [u8Of (IntKind.u8.wrap r.client), u8Of (IntKind.u8.wrap r.seq), u8Of (IntKind.u8.wrap r.op.kind), u8Of (IntKind.u8.wrap r.op.key)]) rfl rfl rfl (u8_four r.client r.seq r.op.kind r.op.key) (by simp [Value.cells]) rfl rfl (fun a19 c19 => ?_)))))))))
 refine TL_conv (fun w hw => hw.addNilB 5) ?_
 refine ze rfl (Ef_appendB (sv := .slice _ _ _) (xv := .slice _ _ _) (l := []) (l' := [u8Of (IntKind.u8.wrap r.client), u8Of (IntKind.u8.wrap r.seq), u8Of (IntKind.u8.wrap r.op.kind), u8Of (IntKind.u8.wrap r.op.key)]) rfl rfl (by simp) rfl (fun a20 c20 => ?_))
 rw [List.nil_append, show [u8Of (IntKind.u8.wrap r.client), u8Of (IntKind.u8.wrap r.seq), u8Of (IntKind.u8.wrap r.op.kind), u8Of (IntKind.u8.wrap r.op.key)] = headQ r from rfl]
 refine Qas rfl rfl (T4 (Qms rfl rfl (zy (zf 2 rfl rfl) (zy (zf 4 rfl rfl) (zy (zl rfl) (ze rfl (zc (rFold_c (x := r.op.a) ha) rfl (fun x25 => ?_))))))))
 refine ze rfl (zc (rPacked_c (x := (foldN r.op.a : Int)) (by omega) (by have := foldN_lt ha; omega)) rfl (fun x26 => ?_))
 rw [Int.toNat_natCast]
 refine ze rfl (Ef_appendB (sv := .slice _ _ _) (xv := .slice _ _ _) (l := headQ r) rfl rfl (by have := packed_length_le (foldN r.op.a) (foldN_lt ha); have : (headQ r).length = 4 := rfl; omega) rfl (fun a27 c27 => ?_))
 refine Qas rfl rfl (T4 (Qms rfl rfl (zy (zf 2 rfl rfl) (zy (zf 5 rfl rfl) (zy (zl rfl) (ze rfl (zc (rFold_c (x := r.op.b) hb) rfl (fun x32 => ?_))))))))
 refine ze rfl (zc (rPacked_c (x := (foldN r.op.b : Int)) (by omega) (by have := foldN_lt hb; omega)) rfl (fun x33 => ?_))
 rw [Int.toNat_natCast]
 refine ze rfl (Ef_appendB (sv := .slice _ _ _) (xv := .slice _ _ _) (l := headQ r ++ packed (foldN r.op.a)) rfl rfl (by have := packed_length_le (foldN r.op.a) (foldN_lt ha); have := packed_length_le (foldN r.op.b) (foldN_lt hb); have : (headQ r).length = 4 := rfl; rw [List.length_append]; omega) rfl (fun a34 c34 => ?_))
 refine Qas rfl rfl (T4 (Qms rfl rfl (Qas rfl rfl (TX (zQ ?_)))))
 rw [textQ_head hf]
 exact zX ⟨a34, c34⟩ [_] Tryz.results161 ⟨rfl, trivial⟩ rfl SB
theorem rtextG_c {w0 : World} {H : List SA} {a : Option Addr} {l : List UInt8} {c : Nat} [hr : RdB w0 H (.slice a l.length c) l] (hl : l.length ≤ 4294967296) :
 CT Tryz.prog w0 (H) 181 [.slice a l.length c] (α := ReqV) (fun y => .agg (QGotV.mk y (textG l).1).cells) (fun y => pu (((textG l).1 = 0 → y.abs = (textG l).2 ∧ y.sig = ⟨none, 0, []⟩) ∧ ((textG l).1 ≠ 0 → y = ReqV.zero)) :: H) := by
 refine CT_intro Tryz.func181 rfl Tryz.ntmps181 rfl (T2 (ze rfl (Ef_allocN (fun b2 => ?_))))
 refine TX (zS (T2 (Qms rfl rfl (zy (zL rfl Tryz.underlying33) (zy (Qt_lss rfl rfl) (TX (zC rfl (fun h8 => ?_) (fun h8 => ?_))))))))
 ·
  have p8 := cL h8
  refine T2 (zy (zw [(1, (.int .i64 _))] rfl) (zN (zs rfl rfl (TX (zQ (zr ?_))))))
  obtain ⟨d, e⟩ : ∃ d, textG l = (1, d) := ⟨_, by unfold textG; exact if_pos (by omega)⟩
  rw [e]
  exact zX ReqV.zero [_] Tryz.results181 ⟨⟨_, rfl, res_cellN rfl⟩, trivial⟩ rfl (fun w hw => (SB w hw : St w0 H w).addPure ⟨fun h => absurd h (show ¬ ((1 : Int) = 0) by decide), fun _ => rfl⟩)
 have p8 := cL h8
 have hl4 : 4 ≤ l.length := by omega
 have hb0 := byte_at l 0 (by omega)
 have hb1 := byte_at l 1 (by omega)
 have hb2 := byte_at l 2 (by omega)
 have hb3 := byte_at l 3 (by omega)
 have hn0 := (l.getD 0 0).toNat_lt
 have hn1 := (l.getD 1 0).toNat_lt
 have hn2 := (l.getD 2 0).toNat_lt
 have hn3 := (l.getD 3 0).toNat_lt
 refine zk (zx (zS (zD H [(0, true), (1, true), (2, true), (3, true), (4, true), (5, true), (6, true), (7, true), (8, true), (9, false), (10, false)] SB (fun hns0 => ?_))))
 refine zd hns0 rfl (zm (.slice _ _ _) rfl) rfl (zd hns0 rfl (Qt_indexR rfl rfl (by omega) (by simp; omega)) rfl (zd hns0 rfl (Qt_loadR (.int .u8 ((l.getD 0 0).toNat : Int)) rfl (hb0)) rfl (zd hns0 rfl (Qt_conv_i64 rfl rfl Tryz.underlying3 (by omega) (by omega)) rfl (zd hns0 rfl (zm (.slice _ _ _) rfl) rfl (zd hns0 rfl (Qt_indexR rfl rfl (by omega) (by simp; omega)) rfl (zd hns0 rfl (Qt_loadR (.int .u8 ((l.getD 1 0).toNat : Int)) rfl (hb1)) rfl (zd hns0 rfl (Qt_conv_i64 rfl rfl Tryz.underlying3 (by omega) (by omega)) rfl (zd hns0 rfl (zw [(0, (.int .i64 _)), (1, (.int .i64 _))] rfl) rfl ?_))))))))
 refine DL_e rfl rfl (Ef_allocN (fun b3 => ⟨SB, ?_⟩))
 refine DL_n rfl (zs rfl rfl (⟨SB, (DL_nil (zx (T2 (Qms rfl rfl (zy (Qt_indexR rfl rfl (by omega) (by simp; omega)) (zy (Qt_loadR (.int .u8 ((l.getD 2 0).toNat : Int)) rfl (hb2)) (zy (Qt_conv_i64 rfl rfl Tryz.underlying3 (by omega) (by omega)) (zy (zf 2 rfl rfl) (zy (zf 2 rfl rfl) (zN (Ef_store1 (.int .i64 _) rfl rfl (T4 (Qms rfl rfl (zy (Qt_indexR rfl rfl (by omega) (by simp; omega)) (zy (Qt_loadR (.int .u8 ((l.getD 3 0).toNat : Int)) rfl (hb3)) (zy (Qt_conv_i64 rfl rfl Tryz.underlying3 (by omega) (by omega)) (zy (zf 2 rfl rfl) ?_)))))))))))))))))⟩))
 refine zy (zf 3 rfl rfl) (zN (Ef_store1 (.int .i64 _) rfl rfl (T4 (Qms rfl rfl (ze rfl (zc (rReadPacked_c (k := 4) (by omega) hl) rfl (fun x32 => ?_)))))))
 have hpb1 := (rdPacked_bound (l.drop 4)).2.1
 rw [List.length_drop] at hpb1
 refine ze rfl (Ef_allocN (fun b4 => ?_))
 refine zN (zs rfl rfl (TX (zS (T2 (zy (zf 3 rfl rfl) (zy (zl rfl) (zy (Qt_neq rfl rfl) (TX (zC rfl (fun h35 => ?_) (fun h35 => ?_))))))))))
 ·
  have p35 := cL h35
  refine T2 (zy (zf 3 rfl rfl) (zy (zl rfl) (zy (zw [(1, (.int .i64 _))] rfl) (zN (zs rfl rfl (TX (zQ (zr ?_))))))))
  obtain ⟨d, e⟩ : ∃ d, textG l = ((rdPacked (l.drop 4)).1, d) := ⟨_, by unfold textG; rw [if_neg (by omega), if_pos p35]⟩
  rw [e]
  exact zX ReqV.zero [_] Tryz.results181 ⟨⟨_, rfl, res_cellN rfl⟩, trivial⟩ rfl (fun w hw => (SB w hw : St w0 H w).addPure ⟨fun h => absurd h (p35), fun _ => rfl⟩)
 have p35 := cL h35
 refine S4 (Qms rfl rfl (zy (zf 2 rfl rfl) (zy (zl rfl) (zy (zj rfl rfl) ?_))))
 rw [show (4 : Int) + (((rdPacked (l.drop 4)).2.2 : Nat) : Int) = (((4 + (rdPacked (l.drop 4)).2.2) : Nat) : Int) from by omega]
 refine ze rfl (zc (rReadPacked_c (k := (4 + (rdPacked (l.drop 4)).2.2)) (by omega) hl) rfl (fun x43 => ?_))
 have hpb2 := (rdPacked_bound (l.drop (4 + (rdPacked (l.drop 4)).2.2))).2.1
 rw [List.length_drop] at hpb2
 refine ze rfl (Ef_allocN (fun b5 => ?_))
 refine zN (zs rfl rfl (TX (zS (T2 (zy (zf 3 rfl rfl) (zy (zl rfl) (zy (Qt_neq rfl rfl) (TX (zC rfl (fun h46 => ?_) (fun h46 => ?_))))))))))
 ·
  have p46 := cL h46
  refine T2 (zy (zf 3 rfl rfl) (zy (zl rfl) (zy (zw [(1, (.int .i64 _))] rfl) (zN (zs rfl rfl (TX (zQ (zr ?_))))))))
  obtain ⟨d, e⟩ : ∃ d, textG l = ((rdPacked (l.drop (4 + (rdPacked (l.drop 4)).2.2))).1, d) := ⟨_, by unfold textG; rw [if_neg (by omega), if_neg (by simpa using p35), if_pos p46]⟩
  rw [e]
  exact zX ReqV.zero [_] Tryz.results181 ⟨⟨_, rfl, res_cellN rfl⟩, trivial⟩ rfl (fun w hw => (SB w hw : St w0 H w).addPure ⟨fun h => absurd h (p46), fun _ => rfl⟩)
 have p46 := cL h46
 refine zk (zx (zS (T2 (zy (zf 2 rfl rfl) (zy (zl rfl) (zy (zj rfl rfl) ?_))))))
 rw [show (4 : Int) + (((rdPacked (l.drop 4)).2.2 : Nat) : Int) = (((4 + (rdPacked (l.drop 4)).2.2) : Nat) : Int) from by omega]
 refine zy (zf 2 rfl rfl) (zy (zl rfl) (zy (zj rfl rfl) (Qms rfl rfl (zy (zL rfl Tryz.underlying33) (zy (Qt_lss rfl rfl) (TX (zC rfl (fun h58 => ?_) (fun h58 => ?_))))))))
 ·
  have p58 := cL h58
  refine T2 (zy (zw [(1, (.int .i64 _))] rfl) (zN (zs rfl rfl (TX (zQ (zr ?_))))))
  obtain ⟨d, e⟩ : ∃ d, textG l = (2, d) := ⟨_, by unfold textG; rw [if_neg (by omega), if_neg (by simpa using p35), if_neg (by simpa using p46), if_pos (by omega)]⟩
  rw [e]
  exact zX ReqV.zero [_] Tryz.results181 ⟨⟨_, rfl, res_cellN rfl⟩, trivial⟩ rfl (fun w hw => (SB w hw : St w0 H w).addPure ⟨fun h => absurd h (show ¬ ((2 : Int) = 0) by decide), fun _ => rfl⟩)
 have p58 := cL h58
 refine S4 (zy (zf 0 rfl rfl) (zy (zl rfl) (ze rfl (zc (rUnfold_c (x := (rdPacked (l.drop 4)).2.1) (rdPacked_bound _).2.2) rfl (fun x62 => ?_)))))
 refine zy (zf 2 rfl rfl) (zy (zf 4 rfl rfl) (zN (Ef_store1 (.int .i64 _) rfl rfl (T4 (zy (zf 0 rfl rfl) (zy (zl rfl) (ze rfl (zc (rUnfold_c (x := (rdPacked (l.drop (4 + (rdPacked (l.drop 4)).2.2))).2.1) (rdPacked_bound _).2.2) rfl (fun x67 => ?_)))))))))
 refine zy (zf 2 rfl rfl) (zy (zf 5 rfl rfl) (zN (Ef_store1 (.int .i64 _) rfl rfl (T4 (zy (zn rfl rfl) (zy (zw [(0, (.agg _))] rfl) (zN (zs rfl rfl (TX (zQ ?_))))))))))
 have e : textG l = (0, (ReqV.mk ((l.getD 0 0).toNat : Int) ((l.getD 1 0).toNat : Int) ⟨((l.getD 2 0).toNat : Int), ((l.getD 3 0).toNat : Int), unfoldN (rdPacked (l.drop 4)).2.1, unfoldN (rdPacked (l.drop (4 + (rdPacked (l.drop 4)).2.2))).2.1⟩ ⟨none, 0, []⟩).abs) := by
  unfold textG; rw [if_neg (by omega), if_neg (by simpa using p35), if_neg (by simpa using p46), if_neg (by omega)]; rfl
 rw [e]
 exact zX (ReqV.mk ((l.getD 0 0).toNat : Int) ((l.getD 1 0).toNat : Int) ⟨((l.getD 2 0).toNat : Int), ((l.getD 3 0).toNat : Int), unfoldN (rdPacked (l.drop 4)).2.1, unfoldN (rdPacked (l.drop (4 + (rdPacked (l.drop 4)).2.2))).2.1⟩ ⟨none, 0, []⟩) [_] Tryz.results181 ⟨⟨_, rfl, res_cellN rfl⟩, trivial⟩ rfl (fun w hw => (SB w hw : St w0 H w).addPure ⟨fun _ => ⟨rfl, rfl⟩, fun h => absurd rfl h⟩)
theorem rGetQ_c {w0 : World} {H : List SA} {a : Option Addr} {l : List UInt8} {c : Nat} [hr : RdB w0 H (.slice a l.length c) l] (hl : l.length ≤ 4294967296) :
 CT Tryz.prog w0 (H) 157 [.slice a l.length c] (α := ReqV) (fun y => .agg (QGotV.mk y (getG l).1).cells) (fun y => pu (y.abs = (getG l).2) :: row (.slice y.sig.a (y.sig.l).length y.sig.c) 5 1 (bytesV (y.sig.l)) :: H) := by
 refine CT_intro Tryz.func157 rfl Tryz.ntmps157 rfl (T2 (ze rfl (Ef_allocN (fun b2 => ?_))))
 refine T4 (Qms rfl rfl (ze rfl (zc (rReadText_c (k := 0) (m := 100) (by omega) hl (by decide) (by decide)) rfl (fun x7 => ?_))))
 rw [List.drop_zero]
 obtain ⟨hb1, hb2⟩ := rdText_bound l 100
 refine ze rfl (Ef_allocN (fun b3 => ?_))
 refine zN (zs rfl rfl (TX (zS (T2 (zy (zf 3 rfl rfl) (zy (zl rfl) (zy (Qt_neq rfl rfl) (TX (zC rfl (fun h10 => ?_) (fun h10 => ?_))))))))))
 ·
  have p10 := cL h10
  refine T2 (zy (zf 3 rfl rfl) (zy (zl rfl) (zy (zw [(1, (.int .i64 _))] rfl) (zN (zs rfl rfl (TX (zQ (zr ?_))))))))
  have e : getG l = ((rdText l 100).1, .zero) := by
   unfold getG; rw [if_pos p10]
  rw [e]
  exact zX ReqV.zero [_] Tryz.results157 ⟨⟨_, rfl, res_cellN rfl⟩, trivial⟩ rfl (fun w hw => ((SB w hw : St w0 H w).addNilB 5).addPure rfl)
 have p10 := cL h10
 refine S4 (zy (zf 1 rfl rfl) (zy (zl rfl) (ze rfl (zc (rtextG_c (a := x7.a) (l := (rdText l 100).2.1) (c := x7.c) (by omega)) rfl (fun x16 => ?_)))))
 refine TL_pure (fun h16 => ?_)
 obtain ⟨h16, h16z⟩ := h16
 refine ze rfl (Ef_allocN (fun b4 => ?_))
 refine zN (zs rfl rfl (TX (zS (T2 (zy (zf 7 rfl rfl) (zy (zl rfl) (zy (Qt_neq rfl rfl) (TX (zC rfl (fun h19 => ?_) (fun h19 => ?_))))))))))
 ·
  have p19 := cL h19
  have hz := h16z p19
  subst hz
  refine T2 (zy (zn rfl rfl) (zN (zs rfl rfl (TX (zQ (zr ?_))))))
  have e : getG l = ((textG (rdText l 100).2.1).1, .zero) := by
   unfold getG; rw [if_neg (by simpa using p10), if_pos p19]
  rw [e]
  exact zX ReqV.zero [_] Tryz.results157 ⟨⟨_, rfl, res_cellN rfl⟩, trivial⟩ rfl (fun w hw => ((SB w hw : St w0 H w).addNilB 5).addPure rfl)
 have p19 := cL h19
 obtain ⟨h16, h16s⟩ := h16 (by simpa using p19)
 refine S4 (Qms rfl rfl (zy (zf 2 rfl rfl) (zy (zl rfl) (ze rfl (zc (rReadText_c (k := (rdText l 100).2.2) (m := 1000) (by omega) hl (by decide) (by decide)) rfl (fun x24 => ?_))))))
 obtain ⟨hb3, hb4⟩ := rdText_bound (l.drop (rdText l 100).2.2) 1000
 rw [List.length_drop] at hb3 hb4
 refine ze rfl (Ef_allocN (fun b5 => ?_))
 refine zN (zs rfl rfl (TX (zS (T2 (zy (zf 3 rfl rfl) (zy (zl rfl) (zy (Qt_neq rfl rfl) (TX (zC rfl (fun h27 => ?_) (fun h27 => ?_))))))))))
 ·
  have p27 := cL h27
  refine T2 (zy (zf 3 rfl rfl) (zy (zl rfl) (zy (zw [(1, (.int .i64 _))] rfl) (zN (zs rfl rfl (TX (zQ (zr ?_))))))))
  have e : getG l = ((rdText (l.drop (rdText l 100).2.2) 1000).1, .zero) := by
   unfold getG; rw [if_neg (by simpa using p10), if_neg (by simpa using p19), if_pos p27]
  rw [e]
  exact zX ReqV.zero [_] Tryz.results157 ⟨⟨_, rfl, res_cellN rfl⟩, trivial⟩ rfl (fun w hw => ((SB w hw : St w0 H w).addNilB 5).addPure rfl)
 have p27 := cL h27
 refine zk (zx (zS (T2 (zy (zf 2 rfl rfl) (zy (zl rfl) (zy (zf 2 rfl rfl) (zy (zl rfl) (zy (zj rfl rfl) (Qms rfl rfl (zy (zL rfl Tryz.underlying33) (zy (Qt_lss rfl rfl) (TX (zC rfl (fun h38 => ?_) (fun h38 => ?_))))))))))))))
 ·
  have p38 := cL h38
  refine T2 (zy (zw [(1, (.int .i64 _))] rfl) (zN (zs rfl rfl (TX (zQ (zr ?_))))))
  have e : getG l = (2, .zero) := by
   unfold getG; rw [if_neg (by simpa using p10), if_neg (by simpa using p19), if_neg (by simpa using p27), if_pos (by omega)]
  rw [e]
  exact zX ReqV.zero [_] Tryz.results157 ⟨⟨_, rfl, res_cellN rfl⟩, trivial⟩ rfl (fun w hw => ((SB w hw : St w0 H w).addNilB 5).addPure rfl)
 have p38 := cL h38
 refine S4 (zy (zf 1 rfl rfl) (zy (zl rfl) (zy (zf 0 rfl rfl) (zy (zf 6 rfl rfl) (zN (Ef_store1 (.slice _ _ _) rfl rfl (TX (zS (T2 (zy (zf 0 rfl rfl) (zy (zn rfl rfl) ?_)))))))))))
 refine ze rfl (zc (rFormed_c (r := (ReqV.mk x16.client x16.seq x16.op ⟨x24.a, x24.c, (rdText (l.drop (rdText l 100).2.2) 1000).2.1⟩))) rfl (fun x46 => ?_))
 refine zy (Qt_not rfl) (TX (zC rfl (fun h47 => ?_) (fun h47 => ?_)))
 ·
  have p47 := cL h47
  refine T2 (zy (zw [(1, (.int .i64 _))] rfl) (zN (zs rfl rfl (TX (zQ (zr ?_))))))
  have e : getG l = (15, .zero) := by
   unfold getG; rw [if_neg (by simpa using p10), if_neg (by simpa using p19), if_neg (by simpa using p27), if_neg (by omega), if_pos (by rw [← h16]; have h : (!(formedQ (ReqV.mk x16.client x16.seq x16.op ⟨x24.a, x24.c, (rdText (l.drop (rdText l 100).2.2) 1000).2.1⟩).abs)) = true := h47; exact (Bool.not_eq_true' _).mp h)]
  rw [e]
  exact zX ReqV.zero [_] Tryz.results157 ⟨⟨_, rfl, res_cellN rfl⟩, trivial⟩ rfl (fun w hw => ((SB w hw : St w0 H w).addNilB 5).addPure rfl)
 have p47 := cL h47
 refine S4 (zy (zn rfl rfl) (zN (zs rfl rfl (TX (zQ ?_)))))
 have e : getG l = (0, { (textG (rdText l 100).2.1).2 with sig := (rdText (l.drop (rdText l 100).2.2) 1000).2.1 }) := by
  unfold getG; rw [if_neg (by simpa using p10), if_neg (by simpa using p19), if_neg (by simpa using p27), if_neg (by omega), if_neg (by rw [← h16]; intro hh; have h : (!(formedQ (ReqV.mk x16.client x16.seq x16.op ⟨x24.a, x24.c, (rdText (l.drop (rdText l 100).2.2) 1000).2.1⟩).abs)) = false := h47; rw [show formedQ (ReqV.mk x16.client x16.seq x16.op ⟨x24.a, x24.c, (rdText (l.drop (rdText l 100).2.2) 1000).2.1⟩).abs = false from hh] at h; cases h)]
 rw [e]
 exact zX (ReqV.mk x16.client x16.seq x16.op ⟨x24.a, x24.c, (rdText (l.drop (rdText l 100).2.2) 1000).2.1⟩) [_] Tryz.results157 ⟨⟨_, rfl, res_cellN rfl⟩, trivial⟩ (by rw [show (textG (rdText l 100).2.1).1 = 0 by simpa using p19]; rfl) (fun w hw => (SB w hw : St w0 (row (.slice x24.a ((rdText (l.drop (rdText l 100).2.2) 1000).2.1).length x24.c) 5 1 (bytesV ((rdText (l.drop (rdText l 100).2.2) 1000).2.1)) :: H) w).addPure (by rw [← h16]; rfl))
end
section
open Go.RowKit Go.Sx
set_option maxRecDepth 100000
set_option maxHeartbeats 1000000
theorem reqs_len : ∀ ls : List ReqV, (ls.flatMap ReqV.list).length = ls.length * 7
 | [] => rfl
 | x :: l => by rw [List.flatMap_cons, List.length_append, ReqV.list_len, reqs_len l, List.length_cons]; omega
theorem reqs_pos {ls : List ReqV} {i : Nat} (h : i < ls.length) : 0 < (ls.flatMap ReqV.list).length := by rw [reqs_len]; omega
theorem req_client (ls : List ReqV) (i : Nat) (h : i < ls.length) : (ls.flatMap ReqV.list)[i * 7 + 0]? = some (.int .i64 ls[i].client) := by rw [flat_get ReqV.list 7 ReqV.list_len ls i 0 h (by decide)]; rfl
theorem req_seq (ls : List ReqV) (i : Nat) (h : i < ls.length) : (ls.flatMap ReqV.list)[i * 7 + 1]? = some (.int .i64 ls[i].seq) := by rw [flat_get ReqV.list 7 ReqV.list_len ls i 1 h (by decide)]; rfl
attribute [local irreducible] sha putFixed verV textQ getG rdText formedQ
theorem rFormedBatch_c {w0 : World} {H : List SA} {a : Option Addr} {c : Nat} {ls : List ReqV} [hr : RdC w0 H (.slice a ls.length c) 7 (ls.flatMap ReqV.list)] (hn : ls.length ≤ 100) :
 CT Tryz.prog w0 (H) 158 [.slice a ls.length c] (α := Unit) (fun _ => .bool (fbB (ls.map ReqV.abs))) (fun _ => H) := by
 refine CT_intro Tryz.func158 rfl Tryz.ntmps158 rfl (T2 (Qab rfl rfl (TX (zS (T2 (Qms rfl rfl (zy (zL rfl Tryz.underlying149) (zy (Qt_lss rfl rfl) (Qmb rfl rfl (TL_split 8 rfl (fun h8 => ?_) (fun h8 => ?_)))))))))))
 ·
  have p8 := cL h8
  refine zp rfl rfl h8 rfl (zp rfl rfl h8 rfl (zp rfl rfl h8 rfl (zy (zT (.bool _) rfl h8 rfl) (TX (T_cond_true rfl rfl (T2 (Qab rfl rfl (TX (zQ (zr ?_))))))))))
  have e : fbB (ls.map ReqV.abs) = false := by rw [fbB_P, List.length_map, decide_eq_false (by omega), Bool.and_false]
  rw [e]
  exact zX () [_] Tryz.results158 ⟨rfl, trivial⟩ rfl SB
 have p8 := cL h8
 refine zt rfl rfl h8 (Qms rfl rfl (zt rfl rfl h8 (zy (zL rfl Tryz.underlying149) (zt rfl rfl h8 (zy (Qt_gtr rfl rfl) (zy (zF (.bool _) rfl h8 rfl) (TX (zC rfl (fun h12 => ?_) (fun h12 => ?_)))))))))
 ·
  have p12 := cL h12
  refine T2 (Qab rfl rfl (TX (zQ (zr ?_))))
  have e : fbB (ls.map ReqV.abs) = false := by rw [fbB_P, List.length_map, decide_eq_false (by omega), Bool.and_false]
  rw [e]
  exact zX () [_] Tryz.results158 ⟨rfl, trivial⟩ rfl SB
 have p12 := cL h12
 refine zk (zx (zS (T2 (Qai rfl rfl (TX (zB ?_))))))
 refine T_loop [2, 3, 4, 13, 14, 15, 16, 17, 18, 19, 20, 21, 22, 23, 24, 25, 26, 27, 28, 29, 30, 31, 32, 33, 34, 35, 36, 37, 38, 39, 40, 41, 42, 43, 44, 45, 46, 47, 48, 49, 50, 51, 52, 53] [3] (fun us H' => ∃ (k : Nat), us = [.int .i64 (k : Int)] ∧ H = H' ∧ k ≤ ls.length ∧ (okP [] (ls.map ReqV.abs) = okP ((ls.map ReqV.abs).take k) ((ls.map ReqV.abs).drop k))) (fun us => match us with | .int _ i :: _ => ls.length - i.toNat | _ => 0) ⟨0, rfl, rfl, by omega, rfl⟩ SB ?_
 rintro τ0 _ _  ⟨k, rfl, rfl, hk0, hi⟩ _
 refine zS (T2 (Qmi rfl rfl (Qms rfl rfl (zy (zL rfl Tryz.underlying149) (zy (Qt_lss rfl rfl) (TX (zC rfl (fun h16 => ?_) (fun h16 => ?_))))))))
 ·
  have p16 := cL h16
  have hk : k < ls.length := by omega
  have hst := okP_step (ls.map ReqV.abs) k (by simpa using hk)
  have hgk : ((ls.map ReqV.abs)[k]'(by simpa using hk)) = ls[k].abs := by simp
  rw [hgk] at hst
  refine zk (zx (zS (zB (zS (T2 (Qms rfl rfl (Qmi rfl rfl (zy (Qt_indexN rfl rfl (by omega) (by omega)) (zy (Qt_val (Qt_loadRN 7 ls[k].list rfl (flat_slice _ 7 ReqV.list_len ls k hk) (ReqV.list_len _) (by decide)) (show Value.agg ls[k].list.toArray = Value.agg ls[k].cells from rfl)) (ze rfl (zc (rFormed_c (r := ls[k])) rfl (fun x23 => ?_))))))))))))
  refine zy (Qt_not rfl) (TX (zC rfl (fun h24 => ?_) (fun h24 => ?_)))
  ·
   have p24 := cL h24
   refine T2 (Qab rfl rfl (TX (zQ (zr (zb (zr (X_loop_ret (zb (zr ?_)))))))))
   have e : fbB (ls.map ReqV.abs) = false := by rw [fbB_P, hi, hst, show formedQ ls[k].abs = false from by simpa using p24]; rfl
   rw [e]
   exact zX () [_] Tryz.results158 ⟨rfl, trivial⟩ rfl SB
  have p24 := cL h24
  have hfk : formedQ ls[k].abs = true := by simpa using p24
  refine S4 (Qai rfl rfl (TX (zB ?_)))
  refine T_loop [2, 4, 25, 26, 27, 28, 29, 30, 31, 32, 33, 34, 35, 36, 37, 38, 39, 40, 41, 42, 43, 44, 45, 46, 47, 48, 49, 50, 51, 52, 53] [4] (fun us H' => ∃ (j : Nat), us = [.int .i64 (j : Int)] ∧ H = H' ∧ j ≤ k ∧ (pbad ((ls.map ReqV.abs).take j) ls[k].abs = false)) (fun us => match us with | .int _ i :: _ => k - i.toNat | _ => 0) ⟨0, rfl, rfl, by omega, rfl⟩ SB ?_
  rintro τ1 _ _  ⟨j, rfl, rfl, hj0, hb⟩ _
  refine zS (T2 (Qmi rfl rfl (Qmi rfl rfl (zy (Qt_lss rfl rfl) (TX (zC rfl (fun h27 => ?_) (fun h27 => ?_)))))))
  ·
   have p27 := cL h27
   have hj : j < k := by omega
   have hjl : j < ls.length := by omega
   have hgj : ((ls.map ReqV.abs)[j]'(by simpa using hjl)) = ls[j].abs := by simp
   have hps := pbad_step (ls.map ReqV.abs) j (by simpa using hjl) ls[k].abs
   rw [hgj, hb, Bool.false_or] at hps
   refine zk (zx (zS (zB (zS (zD H [(0, true), (1, true), (2, true), (3, true), (4, true), (5, true), (6, true), (7, true), (8, true), (9, true), (10, true), (11, true), (12, true), (13, true), (14, true), (15, true), (16, true), (17, true), (18, true), (19, true), (20, true), (21, true), (22, true), (23, true)] SB (fun hns0 => ?_))))))
   refine zd hns0 rfl (zm (.slice _ _ _) rfl) rfl (zd hns0 rfl (zm (.int .i64 _) rfl) rfl (zd hns0 rfl (Qt_indexN rfl rfl (by omega) (by omega)) rfl (zd hns0 rfl (Qt_fieldR rfl 7 (reqs_pos hjl)) rfl (zd hns0 rfl (Qt_loadRs 7 (.int .i64 ls[j].client) rfl (req_client ls j hjl)) rfl (zd hns0 rfl (zm (.slice _ _ _) rfl) rfl (zd hns0 rfl (zm (.int .i64 _) rfl) rfl (zd hns0 rfl (Qt_indexN rfl rfl (by omega) (by omega)) rfl (zd hns0 rfl (Qt_fieldR rfl 7 (reqs_pos hk)) rfl (zd hns0 rfl (Qt_loadRs 7 (.int .i64 ls[k].client) rfl (req_client ls k hk)) rfl (zd hns0 rfl (Qt_eql rfl rfl) rfl (zd hns0 rfl (zm (.bool _) rfl) rfl ?_)))))))))))
   refine DL_split 41 rfl (fun h41 => ?_) (fun h41 => ?_)
   ·
    have p41 := cL h41
    refine DL_qg hns0 rfl rfl rfl h41 (zm (.slice _ _ _) rfl) rfl (DL_qg hns0 rfl rfl rfl h41 (zm (.int .i64 _) rfl) rfl (DL_qg hns0 rfl rfl rfl h41 (Qt_indexN rfl rfl (by omega) (by omega)) rfl (DL_qg hns0 rfl rfl rfl h41 (Qt_fieldR rfl 7 (reqs_pos hjl)) rfl (DL_qg hns0 rfl rfl rfl h41 (Qt_loadRs 7 (.int .i64 ls[j].seq) rfl (req_seq ls j hjl)) rfl (DL_qg hns0 rfl rfl rfl h41 (zm (.slice _ _ _) rfl) rfl (DL_qg hns0 rfl rfl rfl h41 (zm (.int .i64 _) rfl) rfl (DL_qg hns0 rfl rfl rfl h41 (Qt_indexN rfl rfl (by omega) (by omega)) rfl (DL_qg hns0 rfl rfl rfl h41 (Qt_fieldR rfl 7 (reqs_pos hk)) rfl (DL_qg hns0 rfl rfl rfl h41 (Qt_loadRs 7 (.int .i64 ls[k].seq) rfl (req_seq ls k hk)) rfl (DL_qg hns0 rfl rfl rfl h41 (Qt_geq rfl rfl) rfl (zd hns0 rfl (zT (.bool _) rfl h41 rfl) rfl (DL_nil (zx (zC rfl (fun h53 => ?_) (fun h53 => ?_)))))))))))))))
    ·
     have p53 := cL h53
     refine T2 (Qab rfl rfl (TX (zQ (zb (zr (X_loop_ret (zb (zb (zr (X_loop_ret (zb (zr ?_))))))))))))
     have hm : pbad ((ls.map ReqV.abs).take k) ls[k].abs = true := pbad_more (ls.map ReqV.abs) j k hj (by rw [List.length_map]; omega) _ (by rw [hgj]; exact ⟨show ls[j].client = ls[k].client by omega, show ls[k].seq ≤ ls[j].seq by omega⟩)
     have e : fbB (ls.map ReqV.abs) = false := by rw [fbB_P, hi, hst, hfk, hm]; rfl
     rw [e]
     exact zX () [_] Tryz.results158 ⟨rfl, trivial⟩ rfl SB
    have p53 := cL h53
    refine zk (X_block (zx (zR (Qmi rfl rfl (zy (zj rfl rfl) (Qai rfl rfl (zz ?_)))))))
    apply X_loop
    case ha => exact zA
    case hI => exact ⟨j + 1, rfl, rfl, by omega, by rw [hps]; exact decide_eq_false (by rintro ⟨h1, h2⟩; dsimp only [ReqV.abs] at h1 h2; omega)⟩
    case hm => exact by show k - (j + 1 : Int).toNat < k - (j : Int).toNat; omega
    case hH => exact SB
   have p41 := cL h41
   refine DL_pass hns0 rfl rfl rfl h41 rfl (DL_pass hns0 rfl rfl rfl h41 rfl (DL_pass hns0 rfl rfl rfl h41 rfl (DL_pass hns0 rfl rfl rfl h41 rfl (DL_pass hns0 rfl rfl rfl h41 rfl (DL_pass hns0 rfl rfl rfl h41 rfl (DL_pass hns0 rfl rfl rfl h41 rfl (DL_pass hns0 rfl rfl rfl h41 rfl (DL_pass hns0 rfl rfl rfl h41 rfl (DL_pass hns0 rfl rfl rfl h41 rfl (DL_pass hns0 rfl rfl rfl h41 rfl (zd hns0 rfl (zF (.bool _) rfl h41 rfl) rfl (DL_nil (zx (T_cond_false rfl rfl (zk (X_block (zx (zR (Qmi rfl rfl (zy (zj rfl rfl) (Qai rfl rfl (zz ?_))))))))))))))))))))))
   apply X_loop
   case ha => exact zA
   case hI => exact ⟨j + 1, rfl, rfl, by omega, by rw [hps]; exact decide_eq_false (by rintro ⟨h1, h2⟩; dsimp only [ReqV.abs] at h1 h2; omega)⟩
   case hm => exact by show k - (j + 1 : Int).toNat < k - (j : Int).toNat; omega
   case hH => exact SB
  have p27 := cL h27
  have hjk : j = k := by omega
  rw [hjk] at hb
  refine zY (zG (zW (zE (X_block (zx (zR (Qmi rfl rfl (zy (zj rfl rfl) (Qai rfl rfl (zz ?_))))))))))
  apply X_loop
  case ha => exact zA
  case hI => exact ⟨k + 1, rfl, rfl, by omega, by rw [hi, hst, hfk, hb]; rfl⟩
  case hm => exact by show ls.length - (k + 1 : Int).toNat < ls.length - (k : Int).toNat; omega
  case hH => exact SB
 have p16 := cL h16
 have hkn : k = ls.length := by omega
 have hok : okP [] (ls.map ReqV.abs) = true := by rw [hi, List.drop_of_length_le (by simp; omega)]; rfl
 refine zY (zG (zW (zE (zx (T2 (Qab rfl rfl (TX (zQ ?_))))))))
 have e : fbB (ls.map ReqV.abs) = true := by rw [fbB_P, hok, List.length_map, decide_eq_true (by omega)]; rfl
 rw [e]
 exact zX () [_] Tryz.results158 ⟨rfl, trivial⟩ rfl SB
theorem rGetBatch_c {w0 : World} {H : List SA} {a : Option Addr} {l : List UInt8} {c : Nat} [hr : RdB w0 H (.slice a l.length c) l] (hl : l.length ≤ 4294967296) :
 CT Tryz.prog w0 (H) 119 [.slice a l.length c] (α := (AC × List ReqV) × List Nat) (fun y => .tuple #[.slice y.1.1.a y.1.2.length y.1.1.c, .int .i64 (batchG l).1]) (fun y => pu (y.1.2.map ReqV.abs = (batchG l).2 ∧ (∀ x ∈ y.1.2, Sig64 x.op.a ∧ Sig64 x.op.b) ∧ y.1.2.length ≤ 4) :: row (.slice y.1.1.a (y.1.2).length y.1.1.c) 200 7 ((y.1.2).flatMap ReqV.list) :: dat y.2 ⟨(y.1.2).map ReqV.sig, [], []⟩ :: H) := by
 refine CT_intro Tryz.func119 rfl Tryz.ntmps119 rfl (T2 (Qas rfl rfl (Qai rfl rfl (T4 (Qms rfl rfl (ze rfl (zc (rReadCount_c (k := 0) (m := 4) (by omega) hl (by decide) (by decide)) rfl (fun x11 => ?_))))))))
 rw [List.drop_zero]
 obtain ⟨hb1, hb2, hb3⟩ := rdCount_bound l 4
 refine ze rfl (Ef_allocN (fun b4 => ?_))
 refine zN (zs rfl rfl (TX (zS (T2 (zy (zf 3 rfl rfl) (zy (zl rfl) (zy (Qt_neq rfl rfl) (TX (zC rfl (fun h14 => ?_) (fun h14 => ?_))))))))))
 ·
  have p14 := cL h14
  refine zS (zD (blk b4 (.cells (GotV.mk ((rdCount l 4).2.1 : Int) ⟨none, 0, []⟩ ((rdCount l 4).2.2 : Int) (rdCount l 4).1).cells 123 (0, 0)) :: H) [(0, true), (1, true), (2, true), (3, true)] SB (fun hns0 => ?_))
  refine zd hns0 rfl (zf 3 rfl rfl) rfl (zd hns0 rfl (zl rfl) rfl (zd hns0 rfl (za (.slice _ _ _) rfl) rfl (zd hns0 rfl (za (.int .i64 _) rfl) rfl (DL_nil (zx (zQ (zr ?_)))))))
  have e : batchG l = ((rdCount l 4).1, []) := by
   unfold batchG; rw [if_pos p14]
  simp only [e]
  exact zX ((⟨none, 0⟩, []), []) [_, _] Tryz.results119 ⟨rfl, rfl, trivial⟩ rfl (fun w hw => by
   have h0 : St w0 H w := SB w hw
   exact St.addPure (h0.datNil.addNil 200 7) ⟨rfl, fun x hx => (by cases hx), Nat.zero_le _⟩)
 have p14 := cL h14
 have hc0 : (rdCount l 4).1 = 0 := by omega
 have hc4 := (rdCount_ok hc0).2.1
 rw [← show rdCount l 4 = rdPacked l from (rdCount_ok hc0).1] at hc4
 refine S4 (zy (zf 2 rfl rfl) (zy (zl rfl) (Qai rfl rfl (T4 (Qas rfl rfl (TX (zS (T2 (Qai rfl rfl (TX (zB ?_)))))))))))
 refine T_loop [2, 3, 5, 6, 7, 8, 9, 19, 20, 21, 22, 23, 24, 25, 26, 27, 28, 29, 30, 31, 32, 33, 34, 35, 36, 37, 38, 39, 40, 41, 42, 43, 44, 45, 46, 47, 48, 49, 50] [7, 5, 6] (fun us H' => ∃ (k : Nat) (q : Nat) (a7 : Option Addr) (c7 : Nat) (ls : List ReqV) (fp : List Nat), us = [.int .i64 (k : Int), .int .i64 (q : Int), .slice a7 ls.length c7] ∧ row (.slice a7 (ls).length c7) 200 7 ((ls).flatMap ReqV.list) :: dat fp ⟨(ls).map ReqV.sig, [], []⟩ :: blk b4 (.cells (GotV.mk ((rdCount l 4).2.1 : Int) ⟨none, 0, []⟩ ((rdCount l 4).2.2 : Int) (rdCount l 4).1).cells 123 (0, 0)) :: H = H' ∧ k ≤ (rdCount l 4).2.1 ∧ ((itA l (rdCount l 4).2.2 (rdCount l 4).2.1 []) = itA l q ((rdCount l 4).2.1 - k) (ls.map ReqV.abs)) ∧ (ls.length = k) ∧ (q ≤ l.length) ∧ (∀ x ∈ ls, Sig64 x.op.a ∧ Sig64 x.op.b)) (fun us => match us with | .int _ i :: _ => (rdCount l 4).2.1 - i.toNat | _ => 0) ⟨0, (rdCount l 4).2.2, none, 0, [], [], rfl, rfl, by omega, rfl, rfl, hb2, fun x hx => by cases hx⟩ (fun w hw => by
  have h0 : St w0 (blk b4 (.cells (GotV.mk ((rdCount l 4).2.1 : Int) ⟨none, 0, []⟩ ((rdCount l 4).2.2 : Int) (rdCount l 4).1).cells 123 (0, 0)) :: H) w := SB w hw
  exact (h0.datNil).addNil 200 7) ?_
 rintro τ0 _ _  ⟨k, q, a7, c7, ls, fp, rfl, rfl, hk0, hi, hll, hq, hsg⟩ _
 refine zS (T2 (Qmi rfl rfl (zy (zf 0 rfl rfl) (zy (zl rfl) (zy (Qt_conv_i64 rfl rfl Tryz.underlying3 (by omega) (by omega)) (zy (Qt_lss rfl rfl) (TX (zC rfl (fun h23 => ?_) (fun h23 => ?_)))))))))
 ·
  have p23 := cL h23
  have hk : k < (rdCount l 4).2.1 := by omega
  rw [show (rdCount l 4).2.1 - k = ((rdCount l 4).2.1 - (k + 1)) + 1 from by omega] at hi
  refine zk (zx (zS (zB (T2 (Qms rfl rfl (Qmi rfl rfl (ze rfl (zc (rReadText_c (k := q) (m := 2000) hq hl (by decide) (by decide)) rfl (fun x28 => ?_)))))))))
  obtain ⟨ht1, ht2⟩ := rdText_bound (l.drop q) 2000
  rw [List.length_drop] at ht1 ht2
  refine ze rfl (Ef_allocN (fun b8 => ?_))
  refine zN (zs rfl rfl (TX (zS (T2 (zy (zf 3 rfl rfl) (zy (zl rfl) (zy (Qt_neq rfl rfl) (TX (zC rfl (fun h31 => ?_) (fun h31 => ?_))))))))))
  ·
   have p31 := cL h31
   rw [itA_bad1 p31] at hi
   refine zS (zD (blk b8 (.cells (GotV.mk 0 ⟨x28.a, x28.c, (rdText (l.drop q) 2000).2.1⟩ ((rdText (l.drop q) 2000).2.2 : Int) (rdText (l.drop q) 2000).1).cells 123 (0, 0)) :: H) [(0, true), (1, true), (2, true), (3, true)] SB (fun hns1 => ?_))
   refine zd hns1 rfl (zf 3 rfl rfl) rfl (zd hns1 rfl (zl rfl) rfl (zd hns1 rfl (za (.slice _ _ _) rfl) rfl (zd hns1 rfl (za (.int .i64 _) rfl) rfl (DL_nil (zx (zQ (zr (zb (zr (X_loop_ret (zb (zr ?_))))))))))))
   have e : batchG l = ((rdText (l.drop q) 2000).1, []) := by
    unfold batchG; rw [if_neg (by omega), if_pos (by rw [hi]; exact p31), hi]
   simp only [e]
   exact zX ((⟨none, 0⟩, []), []) [_, _] Tryz.results119 ⟨rfl, rfl, trivial⟩ rfl (fun w hw => by
    have h0 : St w0 H w := SB w hw
    exact St.addPure (h0.datNil.addNil 200 7) ⟨rfl, fun x hx => (by cases hx), Nat.zero_le _⟩)
  have p31 := cL h31
  refine S4 (Qmi rfl rfl (zy (zf 2 rfl rfl) (zy (zl rfl) (zy (zj rfl rfl) ?_))))
  rw [show (q : Int) + (((rdText (l.drop q) 2000).2.2 : Nat) : Int) = ((q + (rdText (l.drop q) 2000).2.2 : Nat) : Int) from by omega]
  refine Qai rfl rfl (T4 (zy (zf 1 rfl rfl) (zy (zl rfl) (ze rfl (zc (rGetQ_c (a := x28.a) (l := (rdText (l.drop q) 2000).2.1) (c := x28.c) (by omega)) rfl (fun x40 => ?_))))))
  refine TL_pure (fun h40 => ?_)
  have hys := getG_sig (rdText (l.drop q) 2000).2.1
  rw [← h40] at hys
  refine ze rfl (Ef_allocN (fun b9 => ?_))
  refine zN (zs rfl rfl (TX (zS (T2 (zy (zf 7 rfl rfl) (zy (zl rfl) (zy (Qt_neq rfl rfl) (TX (zC rfl (fun h43 => ?_) (fun h43 => ?_))))))))))
  ·
   have p43 := cL h43
   rw [itA_bad2 (by omega) p43] at hi
   refine zS (zD (blk b9 (.cells (QGotV.mk x40 (getG (rdText (l.drop q) 2000).2.1).1).cells 261 (0, 0)) :: H) [(0, true), (1, true), (2, true), (3, true)] SB (fun hns2 => ?_))
   refine zd hns2 rfl (zf 7 rfl rfl) rfl (zd hns2 rfl (zl rfl) rfl (zd hns2 rfl (za (.slice _ _ _) rfl) rfl (zd hns2 rfl (za (.int .i64 _) rfl) rfl (DL_nil (zx (zQ (zr (zb (zr (X_loop_ret (zb (zr ?_))))))))))))
   have e : batchG l = ((getG (rdText (l.drop q) 2000).2.1).1, []) := by
    unfold batchG; rw [if_neg (by omega), if_pos (by rw [hi]; exact p43), hi]
   simp only [e]
   exact zX ((⟨none, 0⟩, []), []) [_, _] Tryz.results119 ⟨rfl, rfl, trivial⟩ rfl (fun w hw => by
    have h0 : St w0 H w := SB w hw
    exact St.addPure (h0.datNil.addNil 200 7) ⟨rfl, fun x hx => (by cases hx), Nat.zero_le _⟩)
  have p43 := cL h43
  rw [itA_ok (by omega) (by omega), ← h40] at hi
  refine zk (zx (zR (Qms rfl rfl (zy (zf 0 rfl rfl) (zy (zn rfl rfl) (ze rfl (Ef_sliceN (m := ([x40] : List ReqV).length) [.agg (x40).cells] (([x40] : List ReqV).flatMap ReqV.list) rfl rfl rfl rfl (by simp [Value.cells, ReqV.size]) rfl rfl (fun a49 c49 => ?_))))))))
  refine ze rfl (Ef_appendS ReqV.list (sv := .slice _ _ _) (xv := .slice _ _ _) (xs := ls) (ys := [x40]) ReqV.list_len ReqV.list_one rfl rfl (by simp; omega) rfl rfl (fun a50 c50 => ?_))
  refine Qas rfl rfl (zz (X_block (zx (zR (Qmi rfl rfl (zy (zj rfl rfl) (Qai rfl rfl (zz ?_))))))))
  apply X_loop
  case ha => exact zA
  case hI => exact ⟨k + 1, _, a50, c50, ls ++ [x40], (fp ++ (rowFp (.slice x40.sig.a x40.sig.l.length x40.sig.c))), rfl, rfl, by omega, by rw [hi, List.map_append]; rfl, by simp [hll], by omega, fun x hx => by rcases List.mem_append.1 hx with h | h; exact hsg x h; rw [List.mem_singleton.1 h]; exact hys⟩
  case hm => exact by show (rdCount l 4).2.1 - (k + 1 : Int).toNat < (rdCount l 4).2.1 - (k : Int).toNat; omega
  case hH => exact (fun w hw => by
   have h1 : St w0 (row (.slice x40.sig.a x40.sig.l.length x40.sig.c) 5 1 (bytesV x40.sig.l) :: dat fp ⟨(ls).map ReqV.sig, [], []⟩ :: row (.slice a50 (ls ++ [x40]).length c50) 200 7 ((ls ++ [x40]).flatMap ReqV.list) :: blk b4 (.cells (GotV.mk ((rdCount l 4).2.1 : Int) ⟨none, 0, []⟩ ((rdCount l 4).2.2 : Int) (rdCount l 4).1).cells 123 (0, 0)) :: H) w := SB w hw
   have h3 : St w0 (dat fp ⟨(ls).map ReqV.sig, [], []⟩ :: dat (rowFp (.slice x40.sig.a x40.sig.l.length x40.sig.c)) ⟨[x40.sig], [], []⟩ :: row (.slice a50 (ls ++ [x40]).length c50) 200 7 ((ls ++ [x40]).flatMap ReqV.list) :: blk b4 (.cells (GotV.mk ((rdCount l 4).2.1 : Int) ⟨none, 0, []⟩ ((rdCount l 4).2.2 : Int) (rdCount l 4).1).cells 123 (0, 0)) :: H) w := Subs.st inferInstance w h1.datB
   have h4 : St w0 (dat (fp ++ (rowFp (.slice x40.sig.a x40.sig.l.length x40.sig.c))) ⟨(ls ++ [x40]).map ReqV.sig, [], []⟩ :: row (.slice a50 (ls ++ [x40]).length c50) 200 7 ((ls ++ [x40]).flatMap ReqV.list) :: blk b4 (.cells (GotV.mk ((rdCount l 4).2.1 : Int) ⟨none, 0, []⟩ ((rdCount l 4).2.2 : Int) (rdCount l 4).1).cells 123 (0, 0)) :: H) w := by
    rw [List.map_append]; exact h3.datAdd
   exact Subs.st inferInstance w h4)
 have p23 := cL h23
 have hkn : k = (rdCount l 4).2.1 := by omega
 rw [hkn, Nat.sub_self] at hi
 have hie : (itA l (rdCount l 4).2.2 (rdCount l 4).2.1 []) = (0, ls.map ReqV.abs, q) := hi
 refine zY (zG (zW (zE (zx (zS (T2 (Qmi rfl rfl (Qms rfl rfl (zy (zL rfl Tryz.underlying33) (zy (Qt_lss rfl rfl) (TX (zC rfl (fun h54 => ?_) (fun h54 => ?_)))))))))))))
 ·
  have p54 := cL h54
  refine T2 (Qas rfl rfl (Qai rfl rfl (TX (zQ (zr ?_)))))
  have e : batchG l = (2, []) := by
   unfold batchG; rw [if_neg (by omega), if_neg (by rw [hie]; simp), if_pos (by rw [hie]; show q < l.length; omega)]
  simp only [e]
  exact zX ((⟨none, 0⟩, []), []) [_, _] Tryz.results119 ⟨rfl, rfl, trivial⟩ rfl (fun w hw => by
   have h0 : St w0 H w := SB w hw
   exact St.addPure (h0.datNil.addNil 200 7) ⟨rfl, fun x hx => (by cases hx), Nat.zero_le _⟩)
 have p54 := cL h54
 refine zk (zx (zS (T2 (Qms rfl rfl (ze rfl (zc (rFormedBatch_c (ls := ls) (by omega)) rfl (fun x56 => ?_)))))))
 refine zy (Qt_not rfl) (TX (zC rfl (fun h57 => ?_) (fun h57 => ?_)))
 ·
  have p57 := cL h57
  refine T2 (Qas rfl rfl (Qai rfl rfl (TX (zQ (zr ?_)))))
  have e : batchG l = (15, []) := by
   unfold batchG; rw [if_neg (by omega), if_neg (by rw [hie]; simp), if_neg (by rw [hie]; show ¬ q < l.length; omega), if_pos (by rw [hie]; simpa using h57)]
  simp only [e]
  exact zX ((⟨none, 0⟩, []), []) [_, _] Tryz.results119 ⟨rfl, rfl, trivial⟩ rfl (fun w hw => by
   have h0 : St w0 H w := SB w hw
   exact St.addPure (h0.datNil.addNil 200 7) ⟨rfl, fun x hx => (by cases hx), Nat.zero_le _⟩)
 have p57 := cL h57
 refine S4 (Qms rfl rfl (Qas rfl rfl (Qai rfl rfl (TX (zQ ?_)))))
 have e : batchG l = (0, ls.map ReqV.abs) := by
  unfold batchG; rw [if_neg (by omega), if_neg (by rw [hie]; simp), if_neg (by rw [hie]; show ¬ q < l.length; omega), if_neg (by rw [hie]; simpa using h57), hie]
 rw [e]
 exact zX ((⟨a7, c7⟩, ls), fp) [_, _] Tryz.results119 ⟨rfl, rfl, trivial⟩ rfl (fun w hw => (SB w hw : St w0 (row (.slice a7 (ls).length c7) 200 7 ((ls).flatMap ReqV.list) :: dat fp ⟨(ls).map ReqV.sig, [], []⟩ :: H) w).addPure ⟨rfl, hsg, by show ls.length ≤ 4; omega⟩)
theorem rCheckQ_c {w0 : World} {H : List SA} {sa : Option Addr} {sc : Nat} {ks : List BS} {ra : Option Addr} {rc : Nat} {rs : List (Vector UInt8 32)} [hrr : RdC w0 H (.slice ra rs.length rc) 32 (rs.flatMap hlist)] (hrs : rs.length ≤ 1000) {r : ReqV} (ha : Sig64 r.op.a) (hb : Sig64 r.op.b) [hsg : RdB w0 H (.slice r.sig.a r.sig.l.length r.sig.c) r.sig.l] :
 CT Tryz.prog w0 (H) 120 [.agg (KeysV.mk ⟨sa, sc, ks⟩ ⟨ra, rs.length, rc⟩).cells, .agg r.cells] (α := Unit) (fun _ => .int .i64 (chkQ rs r.abs)) (fun _ => H) := by
 refine CT_intro Tryz.func120 rfl Tryz.ntmps120 rfl (T2 (ze rfl (Ef_boxN rfl (fun b2 => ?_))))
 refine ze rfl (Ef_boxN rfl (fun b3 => ?_))
 refine Qai rfl rfl (TX (zS (T2 (zy (zn rfl rfl) (ze rfl (zc (rFormed_c (r := r)) rfl (fun x8 => ?_)))))))
 refine zy (Qt_not rfl) (TX (zC rfl (fun h9 => ?_) (fun h9 => ?_)))
 ·
  have p9 := cL h9
  refine T2 (Qai rfl rfl (TX (zQ (zr ?_))))
  have e : chkQ rs r.abs = 15 := by
   unfold chkQ; rw [if_pos (by simpa using h9)]
  rw [e]
  exact zX () [_] Tryz.results120 ⟨rfl, trivial⟩ rfl SB
 have p9 := cL h9
 have hfq : formedQ r.abs = true := by simpa using h9
 refine zk (zx (zS (T2 (zy (zf 0 rfl rfl) (zy (zl rfl) (zy (zf 1 rfl rfl) (zy (zl rfl) (zy (zL rfl Tryz.underlying25) (zy (Qt_geq rfl rfl) (TX (zC rfl (fun h15 => ?_) (fun h15 => ?_))))))))))))
 ·
  have p15 := cL h15
  refine T2 (Qai rfl rfl (TX (zQ (zr ?_))))
  have e : chkQ rs r.abs = 6 := by
   unfold chkQ; rw [if_neg (by simpa using h9), if_pos (by show (rs.length : Int) ≤ r.client; omega)]
  rw [e]
  exact zX () [_] Tryz.results120 ⟨rfl, trivial⟩ rfl SB
 have p15 := cL h15
 have hc0 := formedQ_client hfq
 have hsq : 1 ≤ r.seq ∧ r.seq ≤ 8 := formedQ_seq hfq
 have hw : IntKind.i64.wrap (r.seq - 1) = r.seq - 1 := by simp [IntKind.wrap, IntKind.bits, IntKind.signed]; omega
 obtain ⟨n, hcn⟩ := Int.eq_ofNat_of_zero_le (show 0 ≤ r.client from hc0)
 have hn : n < rs.length := by omega
 have hgd : rs.getD r.abs.client.toNat default = rs[n] := by
  show rs.getD r.client.toNat default = rs[n]
  rw [hcn, Int.toNat_natCast, List.getD_eq_getElem?_getD, List.getElem?_eq_getElem hn]; rfl
 refine zk (zx (zS (zD (blk b2 (.cells (KeysV.mk ⟨sa, sc, ks⟩ ⟨ra, rs.length, rc⟩).cells 40 (0, 0)) :: blk b3 (.cells r.cells 200 (0, 0)) :: H) [(0, true), (1, true), (2, true), (3, true), (4, true), (5, true), (6, true), (8, true), (9, true), (7, false), (10, false), (11, true), (12, true), (13, true), (14, true), (15, true)] SB (fun hns0 => ?_))))
 refine zd hns0 rfl (zf 1 rfl rfl) rfl (zd hns0 rfl (zl rfl) rfl (zd hns0 rfl (zf 0 rfl rfl) rfl (zd hns0 rfl (zl rfl) rfl (zd hns0 rfl (Qt_indexN rfl (show Value.int .i64 r.client = .int .i64 (n : Int) from by rw [hcn]) (by omega) (by simp; omega)) rfl (zd hns0 rfl (Qt_loadRN 32 (hlist rs[n]) rfl (flat_slice _ 32 hl32 rs n hn) (hl32 _) (by decide)) rfl (zd hns0 rfl (zn rfl rfl) rfl (zd hns0 rfl (zf 6 rfl rfl) rfl (zd hns0 rfl (zl rfl) rfl ?_))))))))
 refine DL_e rfl rfl (zc (rTextQ_c (r := r) hfq ha hb) rfl (fun x24 => ⟨SB, ?_⟩))
 refine DL_e rfl rfl (zc (rVerify_c (root := rs[n]) (tl := textQ r.abs) (by have := textQ_len (r := r.abs) ha hb; omega) (sl := r.sig.l)) rfl (fun x27 => ⟨SB, ?_⟩))
 refine zd hns0 rfl (zm (.tuple _) rfl) rfl (zd hns0 rfl (Qt_extract rfl) rfl (zd hns0 rfl (Qt_extract rfl) rfl (zd hns0 rfl (za (.int .i64 _) rfl) rfl (zd hns0 rfl (za (.int .i64 _) rfl) rfl (DL_nil (zx (zS (T2 (Qmi rfl rfl (zy (Qt_neq rfl rfl) (TX (zC rfl (fun h31 => ?_) (fun h31 => ?_)))))))))))))
 ·
  have p31 := cL h31
  refine T2 (Qmi rfl rfl (Qai rfl rfl (TX (zQ (zr ?_)))))
  have e : chkQ rs r.abs = (verV rs[n] (textQ r.abs) r.sig.l).2 := by
   unfold chkQ; rw [if_neg (by simpa using h9), if_neg (by show ¬ (rs.length : Int) ≤ r.client; omega), hgd, show r.abs.sig = r.sig.l from rfl, show r.abs.seq = r.seq from rfl, if_pos p31]
  rw [e]
  exact zX () [_] Tryz.results120 ⟨rfl, trivial⟩ rfl SB
 have p31 := cL h31
 refine zk (zx (zS (T2 (Qmi rfl rfl (zy (zf 1 rfl rfl) (zy (zl rfl) (zy (zh rfl rfl) (zy (Qt_neq rfl rfl) (TX (zC rfl (fun h37 => ?_) (fun h37 => ?_)))))))))))
 ·
  have p37 := cL h37
  refine T2 (Qai rfl rfl (TX (zQ (zr ?_))))
  have e : chkQ rs r.abs = 5 := by
   unfold chkQ; rw [if_neg (by simpa using h9), if_neg (by show ¬ (rs.length : Int) ≤ r.client; omega), hgd, show r.abs.sig = r.sig.l from rfl, show r.abs.seq = r.seq from rfl, if_neg (fun hh => hh p31), if_pos p37]
  rw [e]
  exact zX () [_] Tryz.results120 ⟨rfl, trivial⟩ rfl SB
 have p37 := cL h37
 refine S4 (Qai rfl rfl (TX (zQ ?_)))
 have e : chkQ rs r.abs = 0 := by
  unfold chkQ; rw [if_neg (by simpa using h9), if_neg (by show ¬ (rs.length : Int) ≤ r.client; omega), hgd, show r.abs.sig = r.sig.l from rfl, show r.abs.seq = r.seq from rfl, if_neg (fun hh => hh p31), if_neg (fun hh => hh p37)]
 rw [e]
 exact zX () [_] Tryz.results120 ⟨rfl, trivial⟩ rfl SB
theorem rCheckBatch_c {w0 : World} {H : List SA} {sa : Option Addr} {sc : Nat} {ks : List BS} {ra : Option Addr} {rc : Nat} {rs : List (Vector UInt8 32)} [hrr : RdC w0 H (.slice ra rs.length rc) 32 (rs.flatMap hlist)] (hrs : rs.length ≤ 1000) {a : Option Addr} {l : List UInt8} {c : Nat} [hr : RdB w0 H (.slice a l.length c) l] (hl : l.length ≤ 4294967296) :
 CT Tryz.prog w0 (H) 74 [.agg (KeysV.mk ⟨sa, sc, ks⟩ ⟨ra, rs.length, rc⟩).cells, .slice a l.length c] (α := Sl) (fun y => .tuple #[.slice y.a y.n y.c, .int .i64 (cbE rs l)]) (fun _ => H) := by
 refine CT_intro Tryz.func74 rfl Tryz.ntmps74 rfl (T2 (ze rfl (Ef_boxN rfl (fun b2 => ?_))))
 refine Qas rfl rfl (Qai rfl rfl (T4 (Qms rfl rfl (ze rfl (zc (rGetBatch_c hl) rfl (fun x11 => ?_))))))
 refine TL_pure (fun h11 => ?_)
 obtain ⟨h11, hx11, hl11⟩ := h11
 refine zy (zm (.tuple _) rfl) (zy (Qt_extract rfl) (zy (Qt_extract rfl) (Qas rfl rfl (Qai rfl rfl (TX (zS (T2 (Qmi rfl rfl (zy (Qt_neq rfl rfl) (TX (zC rfl (fun h15 => ?_) (fun h15 => ?_))))))))))))
 ·
  have p15 := cL h15
  refine T2 (Qmi rfl rfl (Qas rfl rfl (Qai rfl rfl (TX (zQ (zr ?_))))))
  have e : cbE rs l = (batchG l).1 := by
   exact if_pos p15
  rw [e]
  exact zX (⟨none, 0, 0⟩ : Sl) [_, _] Tryz.results74 ⟨rfl, rfl, trivial⟩ rfl SB
 have p15 := cL h15
 have hb0 : (batchG l).1 = 0 := by omega
 refine zk (zx (zS (T2 (Qai rfl rfl (TX (zB ?_))))))
 refine T_loop [4, 5, 7, 8, 17, 18, 19, 20, 21, 22, 23, 24, 25, 26, 27, 28, 29, 30, 31] [8] (fun us H' => ∃ (k : Nat), us = [.int .i64 (k : Int)] ∧ row (.slice x11.1.1.a (x11.1.2).length x11.1.1.c) 200 7 ((x11.1.2).flatMap ReqV.list) :: dat x11.2 ⟨(x11.1.2).map ReqV.sig, [], []⟩ :: blk b2 (.cells (KeysV.mk ⟨sa, sc, ks⟩ ⟨ra, rs.length, rc⟩).cells 40 (0, 0)) :: H = H' ∧ k ≤ x11.1.2.length ∧ (firstE rs (x11.1.2.map ReqV.abs) = firstE rs ((x11.1.2.map ReqV.abs).drop k))) (fun us => match us with | .int _ i :: _ => x11.1.2.length - i.toNat | _ => 0) ⟨0, rfl, rfl, by omega, rfl⟩ SB ?_
 rintro τ0 _ _  ⟨k, rfl, rfl, hk0, hi⟩ _
 refine zS (T2 (Qmi rfl rfl (Qms rfl rfl (zy (zL rfl Tryz.underlying149) (zy (Qt_lss rfl rfl) (TX (zC rfl (fun h20 => ?_) (fun h20 => ?_))))))))
 ·
  have p20 := cL h20
  have hk : k < x11.1.2.length := by omega
  have hst := firstE_step rs (x11.1.2.map ReqV.abs) k (by simpa using hk)
  have hgk : ((x11.1.2.map ReqV.abs)[k]'(by simpa using hk)) = x11.1.2[k].abs := by simp
  rw [hgk] at hst
  refine zk (zx (zS (zB (zS (zD (row (.slice x11.1.1.a (x11.1.2).length x11.1.1.c) 200 7 ((x11.1.2).flatMap ReqV.list) :: dat x11.2 ⟨(x11.1.2).map ReqV.sig, [], []⟩ :: blk b2 (.cells (KeysV.mk ⟨sa, sc, ks⟩ ⟨ra, rs.length, rc⟩).cells 40 (0, 0)) :: H) [(0, true), (1, true), (2, true), (3, true), (4, true), (5, false), (6, true)] SB (fun hns0 => ?_))))))
  refine zd hns0 rfl (zn rfl rfl) rfl (zd hns0 rfl (zm (.slice _ _ _) rfl) rfl (zd hns0 rfl (zm (.int .i64 _) rfl) rfl (zd hns0 rfl (Qt_indexN rfl rfl (by omega) (by simp; omega)) rfl (zd hns0 rfl (Qt_val (Qt_loadRN 7 x11.1.2[k].list rfl (flat_slice _ 7 ReqV.list_len x11.1.2 k hk) (ReqV.list_len _) (by decide)) (show Value.agg x11.1.2[k].list.toArray = Value.agg x11.1.2[k].cells from rfl)) rfl ?_))))
  have : RdB w0 (dat x11.2 ⟨(x11.1.2).map ReqV.sig, [], []⟩ :: blk b2 (.cells (KeysV.mk ⟨sa, sc, ks⟩ ⟨ra, rs.length, rc⟩).cells 40 (0, 0)) :: H) (.slice x11.1.2[k].sig.a x11.1.2[k].sig.l.length x11.1.2[k].sig.c) x11.1.2[k].sig.l := (RdE.own2 : RdE w0 _ (x11.1.2.map ReqV.sig)).get (List.mem_map.2 ⟨_, List.getElem_mem hk, rfl⟩)
  refine DL_e rfl rfl (zc (rCheckQ_c (sa := sa) (sc := sc) (ks := ks) (rc := rc) (rs := rs) hrs (r := x11.1.2[k]) (hx11 _ (List.getElem_mem hk)).1 (hx11 _ (List.getElem_mem hk)).2) rfl (fun x28 => ⟨SB, ?_⟩))
  refine zd hns0 rfl (za (.int .i64 _) rfl) rfl (DL_nil (zx (T2 (Qmi rfl rfl (zy (Qt_neq rfl rfl) (TX (zC rfl (fun h30 => ?_) (fun h30 => ?_))))))))
  ·
   have p30 := cL h30
   rw [if_pos p30] at hst
   refine T2 (Qmi rfl rfl (Qas rfl rfl (Qai rfl rfl (TX (zQ (zb (zr (X_loop_ret (zb (zr ?_))))))))))
   have e : cbE rs l = chkQ rs x11.1.2[k].abs := by
    unfold cbE; rw [if_neg (by omega), ← h11, hi, hst]
   rw [e]
   exact zX (⟨none, 0, 0⟩ : Sl) [_, _] Tryz.results74 ⟨rfl, rfl, trivial⟩ rfl SB
  have p30 := cL h30
  rw [if_neg (by omega)] at hst
  refine zk (X_block (zx (zR (Qmi rfl rfl (zy (zj rfl rfl) (Qai rfl rfl (zz ?_)))))))
  apply X_loop
  case ha => exact zA
  case hI => exact ⟨k + 1, rfl, rfl, by omega, by rw [hi, hst]⟩
  case hm => exact by show x11.1.2.length - (k + 1 : Int).toNat < x11.1.2.length - (k : Int).toNat; omega
  case hH => exact SB
 have p20 := cL h20
 have hkn : k = x11.1.2.length := by omega
 refine zY (zG (zW (zE (zx (T2 (Qms rfl rfl (Qas rfl rfl (Qai rfl rfl (TX (zQ ?_))))))))))
 have e : cbE rs l = 0 := by
  unfold cbE; rw [if_neg (by omega), ← h11, hi, hkn, List.drop_of_length_le (by simp)]; rfl
 rw [e]
 exact zX (⟨x11.1.1.a, x11.1.2.length, x11.1.1.c⟩ : Sl) [_, _] Tryz.results74 ⟨rfl, rfl, trivial⟩ rfl SB
end
end Go.Proofs.YtnijomppbgdmnaaGreat
