/- Walks: the references on signatures. -/
import Derived.Test.YtnijomppbgdmnaaGreatSgP
import Derived.Test.YtnijomppbgdmnaaGreatXrRP
import Derived.Test.YtnijomppbgdmnaaGreatRrRP
namespace Go.Proofs.YtnijomppbgdmnaaGreat
open Go.RowKit Go.Sx
set_option maxRecDepth 100000
set_option linter.unusedSimpArgs false
set_option linter.unusedVariables false
/-- Bytes that are ours behind the first step, and the caller's ahead of it. -/
def prow (w0 : World) (H : List SA) : Nat → Value → List UInt8 → SA
 | 0, s, l => pu (RdB w0 H s l)
 | _ + 1, s, l => row s 5 1 (bytesV l)
instance prow_rd {w0 : World} {H : List SA} {k : Nat} {a : Option Addr} {l : List UInt8} {c : Nat} : RdB w0 (prow w0 H k (.slice a l.length c) l :: H) (.slice a l.length c) l := by
 cases k with
 | zero => exact ⟨fun w hw => (St.pure (p := RdB w0 H (.slice a l.length c) l) hw).rd w hw.tail⟩
 | succ k => exact (inferInstance : RdB w0 (row (.slice a l.length c) 5 1 (bytesV l) :: H) (.slice a l.length c) l)
/-- The first digits. -/
def digT (h : Vector UInt8 32) (k : Nat) : List Nat := (List.range (2 * k)).map (digN h)
theorem digT_len (h : Vector UInt8 32) (k : Nat) : (digT h k).length = 2 * k := by simp [digT]
theorem digT_zero (h : Vector UInt8 32) : digT h 0 = [] := rfl
theorem digT_step (h : Vector UInt8 32) (k : Nat) (hk : k < 16) : digT h k ++ [nibH h k, nibL h k] = digT h (k + 1) := digits_step h k hk
theorem digT_fin (h : Vector UInt8 32) : digT h 16 ++ [sumD h 16 / 256, sumD h 16 / 16 % 16, sumD h 16 % 16] = digL h := digits_fin h
theorem sumD_zero (h : Vector UInt8 32) : sumD h 0 = 0 := rfl
theorem half_up (N k : Nat) (h : N < 256) : IntKind.i64.wrap (((N / 2 ^ k : Nat) : Int).tdiv 2) = ((N / 2 ^ (k + 1) : Nat) : Int) := by
 have h1 := Nat.div_le_self N (2 ^ k)
 rw [Nat.pow_succ, ← Nat.div_div_eq_div_mul]
 generalize N / 2 ^ k = m at *
 rw [show (m : Int).tdiv 2 = ((m / 2 : Nat) : Int) from rfl, wrap_i64 (by omega) (by omega)]
theorem hash_get (l : List UInt8) (k j : Nat) (hj : j < 32) (h : k + j < l.length) : (hashV l k)[j] = l[k + j] := by
 unfold hashV
 rw [Vector.getElem_ofFn, List.getD_eq_getElem?_getD, List.getElem?_eq_getElem h]; rfl
theorem piece_list (l : List UInt8) (k : Nat) (h : 16 * k + 16 ≤ l.length) : (pieceV l k).toList = (l.drop (16 * k)).take 16 := by
 unfold pieceV; exact ofFn_sub l (16 * k) h
attribute [local irreducible] sha cutV stepV walkV putFixed digT digL sumD nibH nibL digN pieceV hashV recL recV pairV upV
set_option maxHeartbeats 1000000 in
theorem rPair_c {w0 : World} {H : List SA} {x y : Vector UInt8 32} :
 CT Tryz.prog w0 (H) 184 [.agg (hlist x).toArray, .agg (hlist y).toArray] (α := Unit) (fun _ => .agg (hlist (pairV x y)).toArray) (fun _ => H) := by
 refine CT_intro Tryz.func184 rfl Tryz.ntmps184 rfl ?_
 refine T2 ?_
 refine ze rfl (Ef_boxN rfl (fun b2 => ?_))
 refine ze rfl (Ef_boxN rfl (fun b3 => ?_))
 refine ze rfl (Ef_allocN (fun b4 => ?_))
 refine TX (zS ?_)
 refine T_draw (blk b2 (.cells (hlist x).toArray 32 (0, 0)) :: blk b3 (.cells (hlist y).toArray 32 (0, 0)) :: H) [(0, true), (2, true), (1, false), (3, false), (4, false), (5, false), (6, false)] (by kernel_rfl) (by kernel_rfl) rfl (by kernel_rfl) SB (fun hns0 => ?_)
 refine zd hns0 rfl (zn rfl rfl) rfl (zd hns0 rfl (zn rfl rfl) rfl ?_)
 refine DL_e rfl rfl (zc (rHash_c (h := x)) rfl (fun x6 => ⟨SB, ?_⟩))
 refine DL_e rfl rfl (zc (rHash_c (h := y)) rfl (fun x8 => ⟨SB, ?_⟩))
 refine DL_e rfl rfl (zc (rJoin_c (l := x.toList) (l2 := y.toList) (by simp)) rfl (fun x9 => ⟨SB, ?_⟩))
 refine DL_e rfl rfl (zc (rSum_c (l := x.toList ++ y.toList) (by simp)) rfl (fun x10 => ⟨SB, ?_⟩))
 refine DL_n rfl (zs rfl rfl (⟨SB, ?_⟩))
 refine DL_nil (zx (zQ ?_))
 rw [show pairV x y = sha (x.toList ++ y.toList) from by unfold pairV; rfl]
 exact zX () [_] Tryz.results184 ⟨⟨_, rfl, res_cellN rfl⟩, trivial⟩ rfl SB
set_option maxHeartbeats 1000000 in
theorem rWalk_c {w0 : World} {H : List SA} {pv : Vector UInt8 16} {j : Int} {fr to : Nat} (hto : to ≤ 1000) {a : Option Addr} {l : List UInt8} {c : Nat} [hr : RdB w0 H (.slice a l.length c) l] (hpl : pv.toList = l) :
 CT Tryz.prog w0 (H) 191 [.slice a l.length c, .int .i64 j, .int .i64 (fr : Int), .int .i64 (to : Int)] (α := AC) (fun y => .slice y.a (walkV pv j fr (to - fr)).toList.length y.c) (fun y => prow w0 H (to - fr) (.slice y.a (walkV pv j fr (to - fr)).toList.length y.c) (walkV pv j fr (to - fr)).toList :: H) := by
 subst hpl
 refine CT_intro Tryz.func191 rfl Tryz.ntmps191 rfl ?_
 refine T2 (Qas rfl rfl (TX (zS (T2 ?_))))
 refine Qmi rfl rfl (Qai rfl rfl (TX (zB ?_)))
 refine T_loop [0, 9, 10, 12, 13, 14, 15, 16, 17, 18, 19, 20, 21, 22, 23, 24, 25, 26, 27, 28] [9, 0] (fun us H' => ∃ (k : Nat) (a : Option Addr) (c : Nat), us = [.int .i64 ((fr + k : Nat) : Int), .slice a (walkV pv j fr k).toList.length c] ∧ prow w0 H k (.slice a (walkV pv j fr k).toList.length c) (walkV pv j fr k).toList :: H = H' ∧ k ≤ to - fr) (fun us => match us with | .int _ i :: _ => to - i.toNat | _ => 0) ⟨0, a, c, by rw [walkV_zero]; rfl, rfl, by omega⟩ (fun w hw => by
  have h0 : St w0 H w := SB w hw
  refine h0.addPure ?_
  rw [walkV_zero]
  exact hr) ?_
 rintro τ0 _ _  ⟨k, a1, c1, rfl, rfl, hk0⟩ _
 refine zS (T2 ?_)
 refine Qmi rfl rfl (Qmi rfl rfl (zq (Qt_lss rfl rfl) rfl (TX (zC rfl (fun h14 => ?_) (fun h14 => ?_)))))
 ·
  have p14 := h14
  try simp only [dp] at p14
  have hk2 : fr + k < to := by omega
  refine zk (zx (zS (zB (T2 ?_))))
  refine Qas rfl rfl (T4 (Qms rfl rfl (Qms rfl rfl ?_)))
  refine TL_conv (fun w hw => hw.addNilB 5) ?_
  refine ze rfl (Ef_appendB (sv := .slice _ _ _) (xv := .slice _ _ _) (l := []) rfl rfl (by simp) rfl (fun a19 c19 => ?_))
  rw [List.nil_append]
  refine Qas rfl rfl (T4 (Qms rfl rfl (Qmi rfl rfl (zq (Qt_conv rfl rfl Tryz.underlying5) rfl (Qmi rfl rfl ?_)))))
  refine zq (Qt_conv rfl rfl Tryz.underlying5) rfl ?_
  refine ze rfl (Ef_sliceN (m := ([u8Of (IntKind.u8.wrap j), u8Of (IntKind.u8.wrap ((fr + k : Nat) : Int))] : List UInt8).length) [.int .u8 (IntKind.u8.wrap j), .int .u8 (IntKind.u8.wrap ((fr + k : Nat) : Int))] (bytesV [u8Of (IntKind.u8.wrap j), u8Of (IntKind.u8.wrap ((fr + k : Nat) : Int))]) rfl rfl rfl (u8_two j ((fr + k : Nat) : Int)) (by simp [Value.cells]) rfl rfl (fun a25 c25 => ?_))
  refine ze rfl (Ef_appendB (sv := .slice _ _ _) (xv := .slice _ _ _) (l := (walkV pv j fr k).toList) rfl rfl (by simp) rfl (fun a26 c26 => ?_))
  refine Qas rfl rfl (TX (zR ?_))
  refine Qms rfl rfl ?_
  refine ze rfl (zc (rPiece_c (l := (walkV pv j fr k).toList ++ [u8Of (IntKind.u8.wrap j), u8Of (IntKind.u8.wrap ((fr + k : Nat) : Int))]) (by simp)) rfl (fun x28 => ?_))
  rw [show cutV ((walkV pv j fr k).toList ++ [u8Of (IntKind.u8.wrap j), u8Of (IntKind.u8.wrap ((fr + k : Nat) : Int))]) = walkV pv j fr (k + 1) from by rw [← walkV_succ]; unfold stepV; rfl]
  refine Qas rfl rfl (zz (X_block (zx (zR ?_))))
  refine Qmi rfl rfl (zq (Qt_add rfl rfl (by omega) (by omega)) rfl ?_)
  rw [show ((fr + k : Nat) : Int) + 1 = ((fr + (k + 1) : Nat) : Int) from by omega]
  refine Qai rfl rfl (zz ?_)
  apply X_loop
  case ha => exact (by repeat (first | with_reducible exact agree_refl | refine agree_upd rfl ?_ | refine agree_mix rfl ?_ | refine agree_setAll rfl ?_))
  case hI => exact ⟨k + 1, x28.a, x28.c, rfl, rfl, by omega⟩
  case hm => exact by show to - ((fr + (k + 1) : Nat) : Int).toNat < to - ((fr + k : Nat) : Int).toNat; omega
  case hH => exact (fun w hw => (SB w hw : St w0 (row (.slice x28.a ((walkV pv j fr (k + 1)).toList).length x28.c) 5 1 (bytesV ((walkV pv j fr (k + 1)).toList)) :: H) w))
 have p14 := h14
 try simp only [dp] at p14
 have hke : k = to - fr := by omega
 refine zY (zG (zW (zE (zx (T2 ?_)))))
 refine Qms rfl rfl (Qas rfl rfl (TX (zQ ?_)))
 rw [← hke]
 exact zX ⟨a1, c1⟩ [_] Tryz.results191 ⟨rfl, trivial⟩ rfl SB
set_option maxHeartbeats 1000000 in
theorem rDigits_c {w0 : World} {H : List SA} {h : Vector UInt8 32} :
 CT Tryz.prog w0 (H) 190 [.agg (hlist h).toArray] (α := AC) (fun y => .slice y.a (digL h).length y.c) (fun y => row (.slice y.a (digL h).length y.c) 3 1 ((digL h).flatMap encN) :: H) := by
 refine CT_intro Tryz.func190 rfl Tryz.ntmps190 rfl ?_
 refine T2 ?_
 refine ze rfl (Ef_boxN rfl (fun b1 => ?_))
 refine Qas rfl rfl (T4 (Qas rfl rfl (T4 (Qai rfl rfl (TX (zS (T2 ?_)))))))
 refine Qai rfl rfl (TX (zB ?_))
 refine T_loop [3, 4, 5, 6, 7, 8, 9, 10, 11, 12, 13, 14, 15, 16, 17, 18, 19, 20, 21, 22, 23, 24, 25, 26, 27, 28, 29, 30, 31, 32] [5, 4, 3] (fun us H' => ∃ (k : Nat) (a : Option Addr) (c : Nat), us = [.int .i64 (k : Int), .int .i64 ((sumD h k : Nat) : Int), .slice a (digT h k).length c] ∧ row (.slice a (digT h k).length c) 3 1 ((digT h k).flatMap encN) :: blk b1 (.cells (hlist h).toArray 32 (0, 0)) :: H = H' ∧ k ≤ 16) (fun us => match us with | .int _ i :: _ => 16 - i.toNat | _ => 0) ⟨0, none, 0, by rw [digT_zero, sumD_zero]; rfl, rfl, by omega⟩ (fun w hw => by
  rw [digT_zero]
  exact (SB w hw : St w0 (blk b1 (.cells (hlist h).toArray 32 (0, 0)) :: H) w).addNil 3 1) ?_
 rintro τ0 _ _  ⟨k, a, c, rfl, rfl, hk0⟩ _
 refine zS (T2 ?_)
 refine Qmi rfl rfl (zq (Qt_lss rfl rfl) rfl (TX (zC rfl (fun h9 => ?_) (fun h9 => ?_))))
 ·
  have p9 := h9
  try simp only [dp] at p9
  have hk : k < 16 := by omega
  have hc8 := h[k].toNat_lt
  have hch : CellAt (hlist h).toArray k (.int .u8 (h[k].toNat : Int)) := cellAtH rfl (by omega)
  have hsd := sumD_succ h k
  have hlb := sumD_le h k
  have hh1 := nibH_le h k
  have hh2 := nibL_le h k
  refine zk (zx (zS (zB (T2 ?_))))
  refine Qmi rfl rfl (zq (Qt_indexAddr_arrC (sz := 1) k k rfl rfl Tryz.underlying32 rfl rfl (by rw [Nat.blt_eq]; omega) (by omega)) rfl (zq (zl rfl) rfl (zq (Qt_conv_i64 rfl rfl Tryz.underlying3 (by omega) (by omega)) rfl (zq (Qt_val (Qt_quo rfl rfl (by decide)) (congrArg (Value.int .i64) (show IntKind.i64.wrap ((h[k].toNat : Int).tdiv 16) = ((nibH h k : Nat) : Int) from by rw [show (h[k].toNat : Int).tdiv 16 = ((h[k].toNat / 16 : Nat) : Int) from rfl, wrap_i64 (by omega) (by omega), nibH_div, hget h k (by omega)]))) rfl (Qai rfl rfl ?_)))))
  refine T4 (Qmi rfl rfl (zq (Qt_indexAddr_arrC (sz := 1) k k rfl rfl Tryz.underlying32 rfl rfl (by rw [Nat.blt_eq]; omega) (by omega)) rfl (zq (zl rfl) rfl (zq (Qt_conv_i64 rfl rfl Tryz.underlying3 (by omega) (by omega)) rfl (zq (Qt_val (Qt_rem rfl rfl (by decide)) (congrArg (Value.int .i64) (show (h[k].toNat : Int).tmod 16 = ((nibL h k : Nat) : Int) from by rw [show (h[k].toNat : Int).tmod 16 = ((h[k].toNat % 16 : Nat) : Int) from rfl, nibL_mod, hget h k (by omega)]))) rfl ?_)))))
  refine Qai rfl rfl (T4 (Qms rfl rfl (Qmi rfl rfl (Qmi rfl rfl ?_))))
  refine ze rfl (Ef_sliceN (m := ([nibH h k, nibL h k] : List Nat).length) [.int .i64 ((nibH h k : Nat) : Int), .int .i64 ((nibL h k : Nat) : Int)] (([nibH h k, nibL h k] : List Nat).flatMap encN) rfl rfl rfl rfl (by simp [Value.cells]) rfl rfl (fun a25 c25 => ?_))
  refine ze rfl (Ef_appendS encN (sv := .slice _ _ _) (xv := .slice _ _ _) (xs := digT h k) (ys := ([nibH h k, nibL h k] : List Nat)) (fun _ => rfl) (fun _ => rfl) rfl rfl (by rw [digT_len]; first | (simp; done) | (simp; omega)) rfl rfl (fun a26 c26 => ?_))
  rw [digT_step h k hk]
  refine Qas rfl rfl (TX (zR ?_))
  refine Qmi rfl rfl (zq (Qt_add rfl rfl (by omega) (by omega)) rfl (Qmi rfl rfl (zq (Qt_sub rfl rfl (by omega) (by omega)) rfl (Qmi rfl rfl (zq (Qt_sub rfl rfl (by omega) (by omega)) rfl ?_)))))
  rw [show ((sumD h k : Nat) : Int) + 30 - ((nibH h k : Nat) : Int) - ((nibL h k : Nat) : Int) = ((sumD h (k + 1) : Nat) : Int) from by rw [hsd]; omega]
  refine Qai rfl rfl (zz (X_block (zx (zR ?_))))
  refine Qmi rfl rfl (zq (Qt_add rfl rfl (by omega) (by omega)) rfl (Qai rfl rfl (zz ?_)))
  apply X_loop
  case ha => exact (by repeat (first | with_reducible exact agree_refl | refine agree_upd rfl ?_ | refine agree_mix rfl ?_ | refine agree_setAll rfl ?_))
  case hI => exact ⟨k + 1, a26, c26, rfl, rfl, by omega⟩
  case hm => exact by show 16 - (k + 1 : Int).toNat < 16 - (k : Int).toNat; omega
  case hH => exact SB
 have p9 := h9
 try simp only [dp] at p9
 have hk16 : k = 16 := by omega
 subst hk16
 have hlb := sumD_le h 16
 refine zY (zG (zW (zE (zx (T2 ?_)))))
 refine Qms rfl rfl (Qmi rfl rfl (zq (Qt_val (Qt_quo rfl rfl (by decide)) (congrArg (Value.int .i64) (show IntKind.i64.wrap (((sumD h 16 : Nat) : Int).tdiv 256) = ((sumD h 16 / 256 : Nat) : Int) from by rw [show ((sumD h 16 : Nat) : Int).tdiv 256 = ((sumD h 16 / 256 : Nat) : Int) from rfl, wrap_i64 (by omega) (by omega)]))) rfl (Qmi rfl rfl (zq (Qt_val (Qt_quo rfl rfl (by decide)) (congrArg (Value.int .i64) (show IntKind.i64.wrap (((sumD h 16 : Nat) : Int).tdiv 16) = ((sumD h 16 / 16 : Nat) : Int) from by rw [show ((sumD h 16 : Nat) : Int).tdiv 16 = ((sumD h 16 / 16 : Nat) : Int) from rfl, wrap_i64 (by omega) (by omega)]))) rfl (zq (Qt_val (Qt_rem rfl rfl (by decide)) (congrArg (Value.int .i64) (show ((sumD h 16 / 16 : Nat) : Int).tmod 16 = ((sumD h 16 / 16 % 16 : Nat) : Int) from rfl))) rfl ?_)))))
 refine Qmi rfl rfl (zq (Qt_val (Qt_rem rfl rfl (by decide)) (congrArg (Value.int .i64) (show ((sumD h 16 : Nat) : Int).tmod 16 = ((sumD h 16 % 16 : Nat) : Int) from rfl))) rfl ?_)
 refine ze rfl (Ef_sliceN (m := ([sumD h 16 / 256, sumD h 16 / 16 % 16, sumD h 16 % 16] : List Nat).length) [.int .i64 ((sumD h 16 / 256 : Nat) : Int), .int .i64 ((sumD h 16 / 16 % 16 : Nat) : Int), .int .i64 ((sumD h 16 % 16 : Nat) : Int)] (([sumD h 16 / 256, sumD h 16 / 16 % 16, sumD h 16 % 16] : List Nat).flatMap encN) rfl rfl rfl rfl (by simp [Value.cells]) rfl rfl (fun a41 c41 => ?_))
 refine ze rfl (Ef_appendS encN (sv := .slice _ _ _) (xv := .slice _ _ _) (xs := digT h 16) (ys := ([sumD h 16 / 256, sumD h 16 / 16 % 16, sumD h 16 % 16] : List Nat)) (fun _ => rfl) (fun _ => rfl) rfl rfl (by rw [digT_len]; first | (simp; done) | (simp; omega)) rfl rfl (fun a42 c42 => ?_))
 rw [digT_fin h]
 refine Qas rfl rfl (T4 (Qms rfl rfl (Qas rfl rfl (TX (zQ ?_)))))
 exact zX ⟨a42, c42⟩ [_] Tryz.results190 ⟨rfl, trivial⟩ rfl SB
set_option maxHeartbeats 1000000 in
theorem rRecover_c {w0 : World} {H : List SA} {ta : Option Addr} {tl : List UInt8} {tc : Nat} [hr : RdB w0 H (.slice ta tl.length tc) tl] (htl : tl.length ≤ 4294967000) {sa : Option Addr} {sl : List UInt8} {sc : Nat} [hs : RdB w0 H (.slice sa sl.length sc) sl] (hsl : sl.length = 560) :
 CT Tryz.prog w0 (H) 183 [.slice ta tl.length tc, .slice sa sl.length sc] (α := Unit) (fun _ => .tuple #[.agg (hlist (recV tl sl)).toArray, .int .i64 0]) (fun _ => H) := by
 refine CT_intro Tryz.func183 rfl Tryz.ntmps183 rfl ?_
 refine T2 ?_
 refine ze rfl (Ef_allocN (fun b4 => ?_))
 refine Qai rfl rfl (TX (zS (T2 ?_)))
 refine Qms rfl rfl (zq (zL rfl Tryz.underlying33) rfl (zq (Qt_neq rfl rfl) rfl (TX (zC rfl (fun h11 => ?_) (fun h11 => ?_)))))
 ·
  have p11 := h11
  try simp only [dp] at p11
  exact absurd h11 (by simp [hsl])
 have p11 := h11
 try simp only [dp] at p11
 refine S4 (Qms rfl rfl ?_)
 refine ze rfl (zc (rSum_c htl) rfl (fun x14 => ?_))
 refine ze rfl (zc (rDigits_c (h := sha tl)) rfl (fun x15 => ?_))
 refine Qas rfl rfl (T4 (Qas rfl rfl (TX (zS (T2 ?_)))))
 refine Qai rfl rfl (TX (zB ?_))
 refine T_loop [7, 8, 16, 17, 18, 19, 20, 21, 22, 23, 24, 25, 26, 27, 28, 29, 30, 31, 32, 33, 34] [8, 7] (fun us H' => ∃ (k : Nat) (a : Option Addr) (c : Nat), us = [.int .i64 (k : Int), .slice a (recL tl sl k).length c] ∧ row (.slice a (recL tl sl k).length c) 5 1 (bytesV (recL tl sl k)) :: row (.slice x15.a (digL (sha tl)).length x15.c) 3 1 ((digL (sha tl)).flatMap encN) :: blk b4 (.cells (hlist (zeroV 32)).toArray 32 (0, 0)) :: H = H' ∧ k ≤ 35) (fun us => match us with | .int _ i :: _ => 35 - i.toNat | _ => 0) ⟨0, none, 0, by rw [recL_zero]; rfl, rfl, by omega⟩ (fun w hw => by
  rw [recL_zero]
  exact (SB w hw : St w0 (row (.slice x15.a (digL (sha tl)).length x15.c) 3 1 ((digL (sha tl)).flatMap encN) :: blk b4 (.cells (hlist (zeroV 32)).toArray 32 (0, 0)) :: H) w).addNilB 5) ?_
 rintro τ0 _ _  ⟨k, a, c, rfl, rfl, hk0⟩ _
 refine zS (T2 ?_)
 refine Qmi rfl rfl (zq (Qt_lss rfl rfl) rfl (TX (zC rfl (fun h17 => ?_) (fun h17 => ?_))))
 ·
  have p17 := h17
  try simp only [dp] at p17
  have hk : k < 35 := by omega
  refine zk (zx (zS (zB ?_)))
  refine T_draw (row (.slice x15.a (digL (sha tl)).length x15.c) 3 1 ((digL (sha tl)).flatMap encN) :: blk b4 (.cells (hlist (zeroV 32)).toArray 32 (0, 0)) :: H) [(0, true), (1, true), (2, true), (3, true), (4, true), (5, true), (6, true), (7, true), (8, true), (9, true), (10, true), (11, true), (12, true), (13, false), (14, false), (15, true)] (by kernel_rfl) (by kernel_rfl) rfl (by kernel_rfl) SB (fun hns0 => ?_)
  refine zd hns0 rfl (zm (.slice _ _ _) rfl) rfl (zd hns0 rfl (zm (.slice _ _ _) rfl) rfl (zd hns0 rfl (zm (.int .i64 _) rfl) rfl (zd hns0 rfl (Qt_mul rfl rfl (by omega) (by omega)) rfl ?_)))
  rw [show (16 : Int) * (k : Int) = ((16 * k : Nat) : Int) from by omega]
  refine zd hns0 rfl (zm (.int .i64 _) rfl) rfl (zd hns0 rfl (Qt_mul rfl rfl (by omega) (by omega)) rfl ?_)
  rw [show (16 : Int) * (k : Int) = ((16 * k : Nat) : Int) from by omega]
  refine zd hns0 rfl (Qt_add rfl rfl (by omega) (by omega)) rfl ?_
  rw [show ((16 * k : Nat) : Int) + 16 = ((16 * k + 16 : Nat) : Int) from by omega]
  refine zd hns0 rfl (Qt_sliceB_lh (16 * k) 16 rfl rfl rfl (by omega)) rfl (zd hns0 rfl (zm (.int .i64 _) rfl) rfl (zd hns0 rfl (zm (.slice _ _ _) rfl) rfl (zd hns0 rfl (zm (.int .i64 _) rfl) rfl (zd hns0 rfl (Qt_indexR rfl rfl (by omega) (by rw [encN_len, digL_len]; omega)) rfl (zd hns0 rfl (Qt_loadR (.int .i64 ((digL (sha tl))[k]'(by rw [digL_len]; exact hk) : Int)) rfl (encN_get _ k (by rw [digL_len]; exact hk))) rfl ?_)))))
  rw [digL_get (sha tl) k hk]
  refine DL_e rfl rfl (zc (rWalk_c (pv := pieceV sl k) (j := (k : Int)) (fr := (digN (sha tl) k)) (to := 15) (by decide) (l := (sl.drop (16 * k)).take 16) (piece_list sl k (by omega))) rfl (fun x33 => ⟨SB, ?_⟩))
  refine DL_e rfl rfl (Ef_appendB (sv := .slice _ _ _) (xv := .slice _ _ _) (l := recL tl sl k) (l' := (walkV (pieceV sl k) (k : Int) (digN (sha tl) k) (15 - (digN (sha tl) k))).toList) rfl rfl (by have := recL_len tl sl k; simp; omega) rfl (fun a34 c34 => ⟨SB, ?_⟩))
  rw [← recL_succ tl sl k]
  refine zd hns0 rfl (za (.slice _ _ _) rfl) rfl (DL_nil (X_block (zx (zR ?_))))
  refine Qmi rfl rfl (zq (Qt_add rfl rfl (by omega) (by omega)) rfl (Qai rfl rfl (zz ?_)))
  apply X_loop
  case ha => exact (by repeat (first | with_reducible exact agree_refl | refine agree_upd rfl ?_ | refine agree_mix rfl ?_ | refine agree_setAll rfl ?_))
  case hI => exact ⟨k + 1, a34, c34, rfl, rfl, by omega⟩
  case hm => exact by show 35 - (k + 1 : Int).toNat < 35 - (k : Int).toNat; omega
  case hH => exact SB
 have p17 := h17
 try simp only [dp] at p17
 have hk35 : k = 35 := by omega
 subst hk35
 refine zY (zG (zW (zE (zx (T2 ?_)))))
 refine Qms rfl rfl ?_
 refine ze rfl (zc (rSum_c (l := recL tl sl 35) (by rw [recL_len]; decide)) rfl (fun x36 => ?_))
 refine zN (zs rfl rfl (?_))
 refine Qai rfl rfl (TX (zQ ?_))
 rw [show recV tl sl = sha (recL tl sl 35) from by unfold recV; rfl]
 exact zX () [_, _] Tryz.results183 ⟨⟨_, rfl, res_cellN rfl⟩, rfl, trivial⟩ rfl SB
set_option maxHeartbeats 1000000 in
theorem rVerify_c {w0 : World} {H : List SA} {root : Vector UInt8 32} {ta : Option Addr} {tl : List UInt8} {tc : Nat} [hr : RdB w0 H (.slice ta tl.length tc) tl] (htl : tl.length ≤ 4294967000) {sa : Option Addr} {sl : List UInt8} {sc : Nat} [hs : RdB w0 H (.slice sa sl.length sc) sl] :
 CT Tryz.prog w0 (H) 160 [.agg (hlist root).toArray, .slice ta tl.length tc, .slice sa sl.length sc] (α := Unit) (fun _ => .tuple #[.int .i64 (verV root tl sl).1, .int .i64 (verV root tl sl).2]) (fun _ => H) := by
 refine CT_intro Tryz.func160 rfl Tryz.ntmps160 rfl ?_
 refine T2 ?_
 refine ze rfl (Ef_boxN rfl (fun b3 => ?_))
 refine Qai rfl rfl (Qai rfl rfl (TX (zS (T2 ?_))))
 refine Qms rfl rfl (zq (zL rfl Tryz.underlying33) rfl (zq (Qt_neq rfl rfl) rfl (Qmb rfl rfl ?_)))
 refine TL_split 18 rfl (fun h18 => ?_) (fun h18 => ?_)
 ·
  have p18 := h18
  try simp only [dp] at p18
  have hve : verV root tl sl = (0, 2) := if_pos (.inl (by have h := h18; simp at h; omega))
  refine zp rfl rfl h18 rfl (zp rfl rfl h18 rfl (zp rfl rfl h18 rfl (zp rfl rfl h18 rfl (zq (zT (.bool _) rfl h18 rfl) rfl (TX ?_)))))
  refine T_cond_true rfl rfl (T2 (Qai rfl rfl (Qai rfl rfl (TX (zQ (zr ?_))))))
  rw [hve]
  exact zX () [_, _] Tryz.results160 ⟨rfl, rfl, trivial⟩ rfl SB
 have p18 := h18
 try simp only [dp] at p18
 have hl : sl.length = 657 := by have h := h18; simp at h; omega
 have hb0 : (bytesV sl)[0]? = some (.int .u8 ((sl.getD 0 0).toNat : Int)) := by rw [List.getD_eq_getElem?_getD, List.getElem?_eq_getElem (show 0 < sl.length by omega)]; exact bytes_get _ _ (by omega)
 have hn8 := (sl.getD 0 0).toNat_lt
 refine zt rfl rfl h18 (Qms rfl rfl (zt rfl rfl h18 (zq (Qt_indexR rfl rfl (by omega) (by simp; omega)) rfl (zt rfl rfl h18 (zq (Qt_loadR (.int .u8 ((sl.getD 0 0).toNat : Int)) rfl (hb0)) rfl ?_)))))
 refine zt rfl rfl h18 (zq (Qt_gtr rfl rfl) rfl (zq (zF (.bool _) rfl h18 rfl) rfl (TX (zC rfl (fun h23 => ?_) (fun h23 => ?_)))))
 ·
  have p23 := h23
  try simp only [dp] at p23
  have hve : verV root tl sl = (0, 2) := if_pos (.inr (by omega))
  refine T2 (Qai rfl rfl (Qai rfl rfl (TX (zQ (zr ?_)))))
  rw [hve]
  exact zX () [_, _] Tryz.results160 ⟨rfl, rfl, trivial⟩ rfl SB
 have p23 := h23
 try simp only [dp] at p23
 have hn7 : (sl.getD 0 0).toNat < 8 := by omega
 refine S4 (Qms rfl rfl (zq (Qt_indexR rfl rfl (by omega) (by simp; omega)) rfl (zq (Qt_loadR (.int .u8 ((sl.getD 0 0).toNat : Int)) rfl (hb0)) rfl (zq (Qt_conv_i64 rfl rfl Tryz.underlying3 (by omega) (by omega)) rfl (Qai rfl rfl ?_)))))
 refine T4 (Qms rfl rfl (Qms rfl rfl (zq (Qt_sliceB_lh 1 560 rfl rfl rfl (by omega)) rfl ?_)))
 refine ze rfl (zc (rRecover_c htl (sl := (sl.drop 1).take 560) (by simp; omega)) rfl (fun x32 => ?_))
 refine zq (zm (.tuple _) rfl) rfl (zq (Qt_extract rfl) rfl (zq (Qt_extract rfl) rfl ?_))
 refine ze rfl (Ef_allocN (fun b9 => ?_))
 refine zN (zs rfl rfl (?_))
 refine Qai rfl rfl (T4 (Qmi rfl rfl (Qai rfl rfl (TX (zS (T2 ?_))))))
 refine Qai rfl rfl (TX (zB ?_))
 refine T_loop [11, 12, 13, 14, 36, 37, 38, 39, 40, 41, 42, 43, 44, 45, 46, 47, 48, 49, 50, 51, 52, 53, 54, 55, 56, 57, 58, 59, 60, 61, 62, 63, 64, 65] [12, 11] (fun us H' => ∃ (k : Nat), us = [.int .i64 (k : Int), .int .i64 (((sl.getD 0 0).toNat / 2 ^ k : Nat) : Int)] ∧ blk b9 (.cells (hlist (upV sl (sl.getD 0 0).toNat (recV tl ((sl.drop 1).take 560)) k)).toArray 32 (0, 0)) :: blk b3 (.cells (hlist root).toArray 32 (0, 0)) :: H = H' ∧ k ≤ 3) (fun us => match us with | .int _ i :: _ => 3 - i.toNat | _ => 0) ⟨0, by rw [Nat.pow_zero, Nat.div_one]; rfl, rfl, by omega⟩ (fun w hw => by
  rw [upV_zero]
  exact SB w hw) ?_
 rintro τ0 _ _  ⟨k, rfl, rfl, hk0⟩ _
 refine zS (T2 ?_)
 refine Qmi rfl rfl (zq (Qt_lss rfl rfl) rfl (TX (zC rfl (fun h37 => ?_) (fun h37 => ?_))))
 ·
  have p37 := h37
  try simp only [dp] at p37
  have hk : k < 3 := by omega
  refine zk (zx (zS (zB (T2 ?_))))
  refine zq (Qt_build_arr (hlist (zeroV 32)).toArray Tryz.underlying32 rfl rfl rfl) rfl ?_
  refine ze rfl (Ef_allocN (fun b13 => ?_))
  refine zN (zs rfl rfl (?_))
  refine TX (zS (T2 ?_))
  refine Qai rfl rfl (TX (zB ?_))
  refine T_loop [14, 41, 42, 43, 44, 45, 46, 47, 48, 49, 50, 51, 52, 53, 54] [14] (fun us H' => ∃ (j : Nat), us = [.int .i64 (j : Int)] ∧ blk b13 (.cells (hlist (hfirst (hashV sl (561 + 32 * k)) j)).toArray 32 (0, 0)) :: blk b9 (.cells (hlist (upV sl (sl.getD 0 0).toNat (recV tl ((sl.drop 1).take 560)) k)).toArray 32 (0, 0)) :: blk b3 (.cells (hlist root).toArray 32 (0, 0)) :: H = H' ∧ j ≤ 32) (fun us => match us with | .int _ i :: _ => 32 - i.toNat | _ => 0) ⟨0, rfl, rfl, by omega⟩ (fun w hw => by rw [hfirst_zero]; exact SB w hw) ?_
  rintro τ1 _ _  ⟨j, rfl, rfl, hj0⟩ _
  refine zS (T2 ?_)
  refine Qmi rfl rfl (zq (Qt_lss rfl rfl) rfl (TX (zC rfl (fun h42 => ?_) (fun h42 => ?_))))
  ·
   have p42 := h42
   try simp only [dp] at p42
   have hj : j < 32 := by omega
   have hgb : (bytesV sl)[561 + 32 * k + j]? = some (.int .u8 ((hashV sl (561 + 32 * k))[j].toNat : Int)) := by rw [hash_get sl (561 + 32 * k) j hj (by omega)]; exact bytes_get _ _ (by omega)
   refine zk (zx (zS (zB (zR ?_))))
   refine Qmi rfl rfl (Qms rfl rfl (Qmi rfl rfl (zq (Qt_mul rfl rfl (by omega) (by omega)) rfl ?_)))
   rw [show (32 : Int) * (k : Int) = ((32 * k : Nat) : Int) from by omega]
   refine zq (Qt_add rfl rfl (by omega) (by omega)) rfl ?_
   rw [show (561 : Int) + ((32 * k : Nat) : Int) = ((561 + 32 * k : Nat) : Int) from by omega]
   refine Qmi rfl rfl (zq (Qt_add rfl rfl (by omega) (by omega)) rfl ?_)
   rw [show ((561 + 32 * k : Nat) : Int) + (j : Int) = ((561 + 32 * k + j : Nat) : Int) from by omega]
   refine zq (Qt_indexR rfl rfl (by omega) (by simp; omega)) rfl (zq (Qt_loadR (.int .u8 ((hashV sl (561 + 32 * k))[j].toNat : Int)) rfl (hgb)) rfl ?_)
   have hput : Put (hlist (hfirst (hashV sl (561 + 32 * k)) j)).toArray (0 + (j : Int).toNat * 1) (.int .u8 ((hashV sl (561 + 32 * k))[j].toNat : Int)) (hlist (hfirst (hashV sl (561 + 32 * k)) (j + 1))).toArray := by have := putAtH (h := (hfirst (hashV sl (561 + 32 * k)) j)) (m := 0 + (j : Int).toNat * 1) (i := j) (c := (hashV sl (561 + 32 * k))[j]) (by simp) hj; rwa [hfirst_set _ _ hj] at this
   refine zq (Qt_indexAddr_arr (sz := 1) rfl rfl Tryz.underlying32 rfl rfl (by omega) (by omega)) rfl ?_
   refine zN (Ef_store1 (.int .u8 _) rfl rfl (?_))
   refine zz (X_block (zx (zR ?_)))
   refine Qmi rfl rfl (zq (Qt_add rfl rfl (by omega) (by omega)) rfl (Qai rfl rfl (zz ?_)))
   apply X_loop
   case ha => exact (by repeat (first | with_reducible exact agree_refl | refine agree_upd rfl ?_ | refine agree_mix rfl ?_ | refine agree_setAll rfl ?_))
   case hI => exact ⟨j + 1, rfl, rfl, by omega⟩
   case hm => exact by show 32 - (j + 1 : Int).toNat < 32 - (j : Int).toNat; omega
   case hH => exact SB
  have p42 := h42
  try simp only [dp] at p42
  have hj : j = 32 := by omega
  subst hj
  rw [hfirst_all]
  refine zY (zG (zW (zE (zx (zS (T2 ?_))))))
  refine Qmi rfl rfl (zq (Qt_val (Qt_rem rfl rfl (by decide)) (congrArg (Value.int .i64) (show (((sl.getD 0 0).toNat / 2 ^ k : Nat) : Int).tmod 2 = (((sl.getD 0 0).toNat / 2 ^ k % 2 : Nat) : Int) from rfl))) rfl (zq (Qt_eql rfl rfl) rfl (TX (zC rfl (fun h57 => ?_) (fun h57 => ?_)))))
  ·
   have p57 := h57
   try simp only [dp] at p57
   have hev : (sl.getD 0 0).toNat / 2 ^ k % 2 = 0 := by omega
   refine zR (zq (zn rfl rfl) rfl (zq (zn rfl rfl) rfl ?_))
   refine ze rfl (zc (rPair_c (x := (upV sl (sl.getD 0 0).toNat (recV tl ((sl.drop 1).take 560)) k)) (y := (hashV sl (561 + 32 * k)))) rfl (fun x60 => ?_))
   rw [← upV_even sl (sl.getD 0 0).toNat (recV tl ((sl.drop 1).take 560)) k hev]
   refine zN (zs rfl rfl (?_))
   refine TX (zR ?_)
   refine Qmi rfl rfl (zq (Qt_val (Qt_quo rfl rfl (by decide)) (congrArg (Value.int .i64) (half_up (sl.getD 0 0).toNat k (by omega)))) rfl (Qai rfl rfl (zz (X_block (zx (zR ?_))))))
   refine Qmi rfl rfl (zq (Qt_add rfl rfl (by omega) (by omega)) rfl (Qai rfl rfl (zz ?_)))
   apply X_loop
   case ha => exact (by repeat (first | with_reducible exact agree_refl | refine agree_upd rfl ?_ | refine agree_mix rfl ?_ | refine agree_setAll rfl ?_))
   case hI => exact ⟨k + 1, rfl, rfl, by omega⟩
   case hm => exact by show 3 - (k + 1 : Int).toNat < 3 - (k : Int).toNat; omega
   case hH => exact SB
  have p57 := h57
  try simp only [dp] at p57
  have hev : ¬ (sl.getD 0 0).toNat / 2 ^ k % 2 = 0 := by omega
  refine zR (zq (zn rfl rfl) rfl (zq (zn rfl rfl) rfl ?_))
  refine ze rfl (zc (rPair_c (x := (hashV sl (561 + 32 * k))) (y := (upV sl (sl.getD 0 0).toNat (recV tl ((sl.drop 1).take 560)) k))) rfl (fun x63 => ?_))
  rw [← upV_odd sl (sl.getD 0 0).toNat (recV tl ((sl.drop 1).take 560)) k hev]
  refine zN (zs rfl rfl (?_))
  refine TX (zR ?_)
  refine Qmi rfl rfl (zq (Qt_val (Qt_quo rfl rfl (by decide)) (congrArg (Value.int .i64) (half_up (sl.getD 0 0).toNat k (by omega)))) rfl (Qai rfl rfl (zz (X_block (zx (zR ?_))))))
  refine Qmi rfl rfl (zq (Qt_add rfl rfl (by omega) (by omega)) rfl (Qai rfl rfl (zz ?_)))
  apply X_loop
  case ha => exact (by repeat (first | with_reducible exact agree_refl | refine agree_upd rfl ?_ | refine agree_mix rfl ?_ | refine agree_setAll rfl ?_))
  case hI => exact ⟨k + 1, rfl, rfl, by omega⟩
  case hm => exact by show 3 - (k + 1 : Int).toNat < 3 - (k : Int).toNat; omega
  case hH => exact SB
 have p37 := h37
 try simp only [dp] at p37
 have hk3 : k = 3 := by omega
 subst hk3
 refine zY (zG (zW (zE (zx (zS (T2 ?_))))))
 refine zq (zn rfl rfl) rfl (zq (zn rfl rfl) rfl (zq (Qt_agg_neq rfl rfl (by kernel_rfl)) rfl (TX (zC rfl (fun h68 => ?_) (fun h68 => ?_)))))
 ·
  have p68 := h68
  try simp only [dp] at p68
  have hve : verV root tl sl = (0, 5) := by unfold verV; rw [if_neg (by omega), if_pos (by simpa using h68)]
  refine T2 (Qai rfl rfl (Qai rfl rfl (TX (zQ (zr ?_)))))
  rw [hve]
  exact zX () [_, _] Tryz.results160 ⟨rfl, rfl, trivial⟩ rfl SB
 have p68 := h68
 try simp only [dp] at p68
 have hve : verV root tl sl = (((sl.getD 0 0).toNat : Int), 0) := by unfold verV; rw [if_neg (by omega), if_neg (by simpa using h68)]
 refine S4 (Qmi rfl rfl (Qai rfl rfl (Qai rfl rfl (TX (zQ ?_)))))
 rw [hve]
 exact zX () [_, _] Tryz.results160 ⟨rfl, rfl, trivial⟩ rfl SB
end Go.Proofs.YtnijomppbgdmnaaGreat
