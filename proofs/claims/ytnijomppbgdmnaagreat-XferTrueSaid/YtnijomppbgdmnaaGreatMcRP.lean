/- Walks: tags. -/
import Derived.Test.YtnijomppbgdmnaaGreatSgP
import Derived.Test.YtnijomppbgdmnaaGreatRshRP
set_option linter.unusedSimpArgs false
set_option linter.unusedVariables false
namespace Go.Proofs.YtnijomppbgdmnaaGreat
section
open Go.RowKit Go.Sx
set_option maxRecDepth 100000
instance RdB.h32 {w0 : World} {H : List SA} {b T : Nat} {h : Vector UInt8 32} [hm : Mem w0 H b (.cells (hlist h).toArray T (0, 0))] : RdB w0 H (.slice (some ⟨b, 0, none⟩) h.toList.length 32) h.toList := by
 have := RdB.hash (o := 0) (n := 32) h hm inferInstance (by decide)
 rwa [Vector.length_toList]
instance RdB.h64 {w0 : World} {H : List SA} {b T : Nat} {h : Vector UInt8 64} [hm : Mem w0 H b (.cells (hlist h).toArray T (0, 0))] : RdB w0 H (.slice (some ⟨b, 0, none⟩) h.toList.length 64) h.toList := by
 have := RdB.hash (o := 0) (n := 64) h hm inferInstance (by decide)
 rwa [Vector.length_toList]
/-- A key, of at most a block. -/
def keyOf (key : List UInt8) : List UInt8 := if 64 < key.length then (sha key).toList else key
theorem keyOf_len (key : List UInt8) : (keyOf key).length ≤ 64 := by
 unfold keyOf; split
 · simp
 · omega
def fill64 (key : List UInt8) : Vector UInt8 64 := hover (zeroV 64) (keyOf key)
/-- The first bytes turned. -/
def turnV {n : Nat} (h : Vector UInt8 n) (x : UInt8) (i : Nat) : Vector UInt8 n := Vector.ofFn fun j => if j.val < i then h[j] ^^^ x else h[j]
theorem turnV_zero {n : Nat} (h : Vector UInt8 n) (x : UInt8) : turnV h x 0 = h := by
 apply Vector.ext; intro i hi; simp [turnV]
theorem turnV_at {n : Nat} (h : Vector UInt8 n) (x : UInt8) (i : Nat) (hi : i < n) : (turnV h x i)[i] = h[i] := by simp [turnV]
theorem turnV_set {n : Nat} (h : Vector UInt8 n) (x : UInt8) (i : Nat) (hi : i < n) : (turnV h x i).set i (h[i] ^^^ x) = turnV h x (i + 1) := by
 apply Vector.ext; intro j hj
 by_cases e : i = j
 · subst e; simp [turnV]
 · rw [Vector.getElem_set_ne _ _ e]
   simp only [turnV, Vector.getElem_ofFn, Fin.getElem_fin]
   by_cases h1 : j < i <;> simp [h1] <;> omega
theorem turnV_all {n : Nat} (h : Vector UInt8 n) (x : UInt8) : (turnV h x n).toList = h.toList.map (· ^^^ x) := by
 apply List.ext_getElem
 · simp
 · intro i h1 h2
   simp only [Vector.getElem_toList, List.getElem_map]
   simp only [Vector.length_toList] at h1
   simp [turnV, h1]
theorem xor_byte (a b : UInt8) : ((a.toNat ^^^ b.toNat : Nat) : Int) = ((a ^^^ b).toNat : Int) := by rw [UInt8.toNat_xor]
def turned (h : Vector UInt8 64) (x : UInt8) (l : List UInt8) : List UInt8 := h.toList.map (· ^^^ x) ++ l
theorem turned_len (h : Vector UInt8 64) (x : UInt8) (l : List UInt8) : (turned h x l).length = 64 + l.length := by simp [turned]
def tagOf (key text : List UInt8) : Vector UInt8 32 := sha (turned (fill64 key) 0x5c (sha (turned (fill64 key) 0x36 text)).toList)

attribute [local irreducible] sha fill64 turnV tagOf hover
set_option maxHeartbeats 1000000 in
theorem filled_c {w0 : World} {H : List SA} {a : Option Addr} {l : List UInt8} {c : Nat} [hr : RdB w0 H (.slice a l.length c) l] (hl : l.length ≤ 4294967000) :
 CT Tryz.prog w0 (H) 95 [.slice a l.length c] (α := Unit) (fun _ => .agg (hlist (fill64 l)).toArray) (fun _ => H) := by
 refine CT_intro Tryz.func95 rfl Tryz.ntmps95 rfl ?_
 refine T2 ?_
 refine ze rfl (Ef_allocN (fun b2 => ?_))
 refine T4 ?_
 refine ze rfl (Ef_allocN (fun b3 => ?_))
 refine TX (zS (T2 ?_))
 refine Qms rfl rfl (zq (zL rfl Tryz.underlying33) rfl (zq (Qt_gtr rfl rfl) rfl (TX (zC rfl (fun h7 => ?_) (fun h7 => ?_)))))
 ·
  have p7 := h7
  try simp only [dp] at p7
  have hfill : fill64 l = hover (zeroV 64) (sha l).toList := by rw [fill64, keyOf, if_pos (by omega)]
  refine T2 (Qms rfl rfl ?_)
  refine ze rfl (zc (sum_c hl) rfl (fun x9 => ?_))
  refine ze rfl (Ef_allocN (fun b4 => ?_))
  refine zN (zs rfl rfl (?_))
  refine TX (zR ?_)
  refine zq (Qt_val (Qt_slice_arr rfl Tryz.underlying32 rfl rfl) (show Value.slice _ 32 32 = Value.slice _ (sha l).toList.length 32 from by rw [Vector.length_toList])) rfl (Qas rfl rfl (T4 (zq (Qt_slice_arr rfl Tryz.underlying188 rfl rfl) rfl (Qms rfl rfl ?_))))
  refine ze rfl (Ef_copyH (l := (sha l).toList) (zeroV 64) rfl rfl (by simp) (fun k13 => ?_))
  refine T4 (zq (zn rfl rfl) rfl ?_)
  refine zN (zs rfl rfl (?_))
  refine TX (zQ ?_)
  exact zX () [_] Tryz.results95 ⟨⟨_, rfl, res_cellN rfl⟩, trivial⟩ (by rw [hfill]; rfl) SB
 have p7 := h7
 try simp only [dp] at p7
 have hfill : fill64 l = hover (zeroV 64) l := by rw [fill64, keyOf, if_neg (by omega)]
 refine S4 (zq (Qt_slice_arr rfl Tryz.underlying188 rfl rfl) rfl (Qms rfl rfl ?_))
 refine ze rfl (Ef_copyH (l := l) (zeroV 64) rfl rfl (by omega) (fun k13 => ?_))
 refine T4 (zq (zn rfl rfl) rfl ?_)
 refine zN (zs rfl rfl (?_))
 refine TX (zQ ?_)
 exact zX () [_] Tryz.results95 ⟨⟨_, rfl, res_cellN rfl⟩, trivial⟩ (by rw [hfill]; rfl) SB
set_option maxHeartbeats 1000000 in
theorem with_c {w0 : World} {H : List SA} {h : Vector UInt8 64} {x : UInt8} {a : Option Addr} {l : List UInt8} {c : Nat} [hr : RdB w0 H (.slice a l.length c) l] (hl : l.length ≤ 4294967000) :
 CT Tryz.prog w0 (H) 96 [.agg (hlist h).toArray, .int .u8 (x.toNat : Int), .slice a l.length c] (α := AC) (fun y => .slice y.a (turned h x l).length y.c) (fun y => row (.slice y.a (turned h x l).length y.c) 5 1 (bytesV (turned h x l)) :: H) := by
 refine CT_intro Tryz.func96 rfl Tryz.ntmps96 rfl ?_
 refine T2 ?_
 refine ze rfl (Ef_boxN rfl (fun b3 => ?_))
 refine Qas rfl rfl (TX (zS (T2 ?_)))
 refine Qmi rfl rfl (TX (zB ?_))
 refine T_loop [7, 8, 9, 10, 11, 12, 13, 14, 15, 16, 17] [8] (fun us H' => ∃ (i : Nat), us = [.int .i64 (i : Int)] ∧ blk b3 (.cells (hlist (turnV h x i)).toArray 188 (0, 0)) :: H = H' ∧ i ≤ 64) (fun us => match us with | .int _ i :: _ => 64 - i.toNat | _ => 0) ⟨0, rfl, rfl, by omega⟩ (fun w hw => by rw [turnV_zero]; exact SB w hw) ?_
 rintro τ0 _ _  ⟨i, rfl, rfl, hi0⟩ _
 refine T2 (zq (Qt_lss rfl rfl) rfl (TX (zS ?_)))
 refine zC rfl (fun h9 => ?_) (fun h9 => ?_)
 ·
  have p9 := h9
  try simp only [dp] at p9
  have hi : i < 64 := by omega
  have hcell : CellAt (hlist (turnV h x i)).toArray (0 + (i : Int).toNat * 1) (.int .u8 (h[i].toNat : Int)) := by have := cellAtH (h := turnV h x i) (m := 0 + (i : Int).toNat * 1) (i := i) (by simp) hi; rwa [turnV_at _ _ _ hi] at this
  refine zk (zx (zS (zB (T2 ?_))))
  refine Qmi rfl rfl (Qai rfl rfl (TX (zR ?_)))
  refine Qmi rfl rfl (zq (Qt_indexAddr_arr (sz := 1) rfl rfl Tryz.underlying188 rfl rfl (by omega) (by omega)) rfl (zq (zl rfl) rfl (zq (zm (.int .u8 _) rfl) rfl (zq (Qt_val (Qt_xorN rfl rfl rfl (h[i].toNat_lt) (x.toNat_lt)) (congrArg (Value.int .u8) (xor_byte _ _))) rfl ?_))))
  have hput : Put (hlist (turnV h x i)).toArray (0 + (i : Int).toNat * 1) (.int .u8 ((h[i] ^^^ x).toNat : Int)) (hlist (turnV h x (i + 1))).toArray := by have := putAtH (h := turnV h x i) (m := 0 + (i : Int).toNat * 1) (i := i) (c := h[i] ^^^ x) (by simp) hi; rwa [turnV_set _ _ _ hi] at this
  refine zq (Qt_indexAddr_arr (sz := 1) rfl rfl Tryz.underlying188 rfl rfl (by omega) (by omega)) rfl ?_
  refine zN (Ef_store1 (.int .u8 _) rfl rfl (?_))
  refine zz (X_block (zx (zR ?_)))
  refine zq (Qt_add rfl rfl (by omega) (by omega)) rfl (Qmi rfl rfl (zz ?_))
  apply X_loop
  case ha => exact (by repeat (first | with_reducible exact agree_refl | refine agree_upd rfl ?_ | refine agree_mix rfl ?_ | refine agree_setAll rfl ?_))
  case hI => exact ⟨i + 1, rfl, rfl, by omega⟩
  case hm => exact by show 64 - (i + 1 : Int).toNat < 64 - (i : Int).toNat; omega
  case hH => exact SB
 have p9 := h9
 try simp only [dp] at p9
 have hi : i = 64 := by omega
 subst hi
 refine zY (zG (zW (zE (zx (T2 ?_)))))
 refine ze rfl (Ef_slice0 (fun a18 c18 => ?_))
 refine zq (Qt_val (Qt_slice_arr rfl Tryz.underlying188 rfl rfl) (show Value.slice _ 64 64 = Value.slice _ (turnV h x 64).toList.length 64 from by rw [Vector.length_toList])) rfl ?_
 refine ze rfl (Ef_appendB (sv := .slice _ _ _) (xv := .slice _ _ _) rfl rfl (by simp) rfl (fun a20 c20 => ?_))
 refine Qms rfl rfl ?_
 refine ze rfl (Ef_appendB (sv := .slice _ _ _) (xv := .slice _ _ _) rfl rfl (by simp; omega) rfl (fun a22 c22 => ?_))
 rw [List.nil_append, turnV_all, show h.toList.map (· ^^^ x) ++ l = turned h x l from rfl]
 refine Qas rfl rfl (TX (zQ ?_))
 exact zX ⟨a22, c22⟩ [_] Tryz.results96 ⟨rfl, trivial⟩ rfl SB
set_option maxHeartbeats 1000000 in
theorem tag_c {w0 : World} {H : List SA} {a a2 : Option Addr} {key l : List UInt8} {c c2 : Nat} [hr : RdB w0 H (.slice a key.length c) key] [hr2 : RdB w0 H (.slice a2 l.length c2) l] (hk : key.length ≤ 4294967000) (hl : l.length ≤ 4294960000) :
 CT Tryz.prog w0 (H) 53 [.slice a key.length c, .slice a2 l.length c2] (α := Unit) (fun _ => .agg (hlist (tagOf key l)).toArray) (fun _ => H) := by
 refine CT_intro Tryz.func53 rfl Tryz.ntmps53 rfl ?_
 refine T2 ?_
 refine ze rfl (Ef_allocN (fun b4 => ?_))
 refine T4 (Qms rfl rfl ?_)
 refine ze rfl (zc (filled_c hk) rfl (fun x8 => ?_))
 refine ze rfl (Ef_allocN (fun b5 => ?_))
 refine zN (zs rfl rfl (?_))
 refine T4 (zq (zn rfl rfl) rfl (Qms rfl rfl ?_))
 refine ze rfl (zc (with_c (h := fill64 key) (x := 0x36) (l := l) (by omega)) rfl (fun x11 => ?_))
 refine ze rfl (zc (sum_c (l := turned (fill64 key) 0x36 l) (by rw [turned_len]; omega)) rfl (fun x12 => ?_))
 refine ze rfl (Ef_allocN (fun b6 => ?_))
 refine zN (zs rfl rfl (?_))
 refine TX (zS ?_)
 refine T_draw H [(1, true), (0, false), (2, false), (3, false), (4, false)] (by kernel_rfl) (by kernel_rfl) rfl (by kernel_rfl) SB (fun hns0 => ?_)
 refine zd hns0 rfl (Qt_val (Qt_slice_arr rfl Tryz.underlying32 rfl rfl) (show Value.slice _ 32 32 = Value.slice _ (sha (turned (fill64 key) 0x36 l)).toList.length 32 from by rw [Vector.length_toList])) rfl ?_
 refine DL_e rfl rfl (Ef_of_Qt (zn rfl rfl) (⟨SB, ?_⟩))
 refine DL_e rfl rfl (zc (with_c (h := fill64 key) (x := 0x5c) (l := (sha (turned (fill64 key) 0x36 l)).toList) (by simp)) rfl (fun x15 => ⟨SB, ?_⟩))
 refine DL_e rfl rfl (zc (sum_c (l := turned (fill64 key) 0x5c (sha (turned (fill64 key) 0x36 l)).toList) (by rw [turned_len]; simp)) rfl (fun x16 => ⟨SB, ?_⟩))
 refine DL_n rfl (zs rfl rfl (⟨SB, ?_⟩))
 refine DL_nil (zx (zQ ?_))
 exact zX () [_] Tryz.results53 ⟨⟨_, rfl, res_cellN rfl⟩, trivial⟩ (by unfold tagOf; rfl) SB
end
section
open Go.RowKit Go.Sx
set_option maxRecDepth 100000
set_option maxHeartbeats 1000000
theorem fillZ (key : List UInt8) (j : Nat) (h : (keyOf key).length + j = 64) : keyOf key ++ List.replicate j 0 = (fill64 key).toList := by
 rw [fill64, hover_list _ _ (keyOf_len key)]
 rw [show (zeroV 64).toList = List.replicate 64 0 from rfl, List.drop_replicate]
 congr 2; omega
theorem take_map (f : UInt8 → UInt8) (l : List UInt8) (i : Nat) (h : i < l.length) : (l.take i).map f ++ [f l[i]] = (l.take (i + 1)).map f := by
 rw [List.take_succ_eq_append_getElem h, List.map_append]; rfl
attribute [local irreducible] sha fill64 turnV tagOf hover keyOf
theorem rTag_c {w0 : World} {H : List SA} {a a2 : Option Addr} {key l : List UInt8} {c c2 : Nat} [hr : RdB w0 H (.slice a key.length c) key] [hr2 : RdB w0 H (.slice a2 l.length c2) l] (hk : key.length ≤ 4294967000) (hl : l.length ≤ 4294960000) :
 CT Tryz.prog w0 (H) 115 [.slice a key.length c, .slice a2 l.length c2] (α := Unit) (fun _ => .agg (hlist (tagOf key l)).toArray) (fun _ => H) := by
 refine CT_intro Tryz.func115 rfl Tryz.ntmps115 rfl (T2 (ze rfl (Ef_allocN (fun b4 => ?_))))
 refine T4 (Qas rfl rfl (TX (T_cut [5, 9, 10, 11, 12, 13, 14, 15, 16, 17, 18, 19] [5] (fun us H' => ∃ (a : Option Addr) (c : Nat), us = [.slice a (keyOf key).length c] ∧ row (.slice a (keyOf key).length c) 5 1 (bytesV (keyOf key)) :: blk b4 (.cells (hlist (zeroV 32)).toArray 32 (0, 0)) :: H = H') ?_ ?_)))
 ·
  refine T2 (Qms rfl rfl (zy (zL rfl Tryz.underlying33) (zy (Qt_gtr rfl rfl) (TX (zC rfl (fun h11 => ?_) (fun h11 => ?_))))))
  ·
   have p11 := cL h11
   have hk1 : keyOf key = (sha key).toList := by rw [keyOf, if_pos (by omega)]
   refine zR (Qms rfl rfl (Qms rfl rfl (ze rfl (zc (rSum_c hk) rfl (fun x14 => ?_)))))
   refine ze rfl (zc (rHash_c) rfl (fun x15 => ?_))
   refine ze rfl (Ef_appendB (sv := .slice _ _ _) (xv := .slice _ _ _) rfl rfl (by simp) rfl (fun a16 c16 => ?_))
   rw [List.nil_append]
   refine Qas rfl rfl (zz (X_cut _ zA (⟨_, _, by rw [hk1]; rfl, by rw [hk1]⟩) (SB)))
  have p11 := cL h11
  have hk1 : keyOf key = key := by rw [keyOf, if_neg (by omega)]
  refine zR (Qms rfl rfl (Qms rfl rfl (ze rfl (Ef_appendB (sv := .slice _ _ _) (xv := .slice _ _ _) rfl rfl (by simp; omega) rfl (fun a19 c19 => ?_)))))
  rw [List.nil_append]
  refine Qas rfl rfl (zz (X_cut _ zA (⟨_, _, by rw [hk1]; rfl, by rw [hk1]⟩) (SB)))
 rintro τc0 _ _ ⟨a1, c1, rfl, rfl⟩ _
 have hkl := keyOf_len key
 refine zS (zB ?_)
 refine T_loop [5, 20, 21, 22, 23, 24, 25] [5] (fun us H' => ∃ (j : Nat) (a : Option Addr) (c : Nat), us = [.slice a (keyOf key ++ List.replicate j 0).length c] ∧ row (.slice a (keyOf key ++ List.replicate j 0).length c) 5 1 (bytesV (keyOf key ++ List.replicate j 0)) :: blk b4 (.cells (hlist (zeroV 32)).toArray 32 (0, 0)) :: H = H' ∧ (keyOf key).length + j ≤ 64) (fun us => match us with | .slice _ n _ :: _ => 64 - n | _ => 0) ⟨0, a1, c1, by rw [List.replicate_zero, List.append_nil]; rfl, by rw [List.replicate_zero, List.append_nil], by omega⟩ SB ?_
 rintro τ0 _ _  ⟨j, a2, c2, rfl, rfl, hj⟩ _
 refine zS (T2 (Qms rfl rfl (zy (zL rfl Tryz.underlying33) (zy (Qt_lss rfl rfl) (TX (zC rfl (fun h22 => ?_) (fun h22 => ?_)))))))
 ·
  have p22 := cL h22
  have hj1 : (keyOf key).length + j < 64 := by simp only [List.length_append, List.length_replicate] at p22; omega
  refine zk (zx (zB (zR (Qms rfl rfl (ze rfl (Ef_slice1 (v := .int .u8 0) rfl (fun a24 c24 => ?_)))))))
  refine ze rfl (Ef_appendb (n := 0) (sv := .slice _ _ _) (xv := .slice _ _ _) rfl rfl (by decide) (by simp; omega) rfl (fun a25 c25 => ?_))
  rw [show u8Of 0 = 0 from rfl, List.append_assoc (keyOf key), ← List.replicate_succ']
  refine Qas rfl rfl (zz (X_block ?_))
  apply X_loop
  case ha => exact zA
  case hI => exact ⟨j + 1, _, _, rfl, rfl, by omega⟩
  case hm => exact by show 64 - (keyOf key ++ List.replicate (j + 1) 0).length < 64 - (keyOf key ++ List.replicate j 0).length; simp; omega
  case hH => exact SB
 have p22 := cL h22
 have hj1 : (keyOf key).length + j = 64 := by simp only [List.length_append, List.length_replicate] at p22; omega
 obtain ⟨K, hK⟩ : ∃ K, K = (fill64 key).toList := ⟨_, rfl⟩
 have hKl : K.length = 64 := by rw [hK]; simp
 rw [fillZ key j hj1, ← hK]
 refine zY (zG (zW (zE (zx (T2 (Qas rfl rfl (T4 (Qas rfl rfl (TX (zS (T2 (Qai rfl rfl (TX (zB ?_))))))))))))))
 refine T_loop [6, 7, 8, 26, 27, 28, 29, 30, 31, 32, 33, 34, 35, 36, 37, 38, 39, 40, 41, 42, 43, 44, 45] [8, 7, 6] (fun us H' => ∃ (i : Nat) (a : Option Addr) (c : Nat) (a' : Option Addr) (c' : Nat), us = [.int .i64 (i : Int), .slice a ((K.take i).map (· ^^^ 0x5c)).length c, .slice a' ((K.take i).map (· ^^^ 0x36)).length c'] ∧ row (.slice a ((K.take i).map (· ^^^ 0x5c)).length c) 5 1 (bytesV ((K.take i).map (· ^^^ 0x5c))) :: row (.slice a' ((K.take i).map (· ^^^ 0x36)).length c') 5 1 (bytesV ((K.take i).map (· ^^^ 0x36))) :: row (.slice a2 (K).length c2) 5 1 (bytesV (K)) :: blk b4 (.cells (hlist (zeroV 32)).toArray 32 (0, 0)) :: H = H' ∧ i ≤ 64) (fun us => match us with | .int _ i :: _ => 64 - i.toNat | _ => 0) ⟨0, none, 0, none, 0, by rw [List.take_zero]; rfl, by rw [List.take_zero]; rfl, by omega⟩ (fun w hw => (hw.addNilB 5).addNilB 5) ?_
 rintro τ1 _ _  ⟨i, a3, c3, a4, c4, rfl, rfl, hi0⟩ _
 refine zS (T2 (Qmi rfl rfl (zy (Qt_lss rfl rfl) (TX (zC rfl (fun h27 => ?_) (fun h27 => ?_))))))
 ·
  have p27 := cL h27
  have hi : i < 64 := by omega
  refine zk (zx (zS (zB (T2 (Qms rfl rfl (Qms rfl rfl (Qmi rfl rfl (zy (Qt_indexR rfl rfl (by omega) (by rw [bytesV_length]; omega)) (zy (Qt_loadR (.int .u8 (K[i].toNat : Int)) rfl (by rw [Int.toNat_natCast]; exact bytes_get _ _ (by omega))) (zy (Qt_val (Qt_xorN (b := 54) rfl rfl rfl (K[i].toNat_lt) (by decide)) (congrArg (Value.int .u8) (xor_byte K[i] 0x36))) (ze rfl (Ef_slice1 (v := .int .u8 ((K[i] ^^^ 0x36).toNat : Int)) rfl (fun a36 c36 => ?_)))))))))))))
  refine ze rfl (Ef_appendb (n := ((K[i] ^^^ 0x36).toNat : Int)) (sv := .slice _ _ _) (xv := .slice _ _ _) rfl rfl ⟨by omega, by have := (K[i] ^^^ 0x36).toNat_lt; omega⟩ (by simp; omega) rfl (fun a37 c37 => ?_))
  rw [u8Of_nat, take_map (· ^^^ 0x36) K i (by omega)]
  refine Qas rfl rfl (TX (zR (Qms rfl rfl (Qms rfl rfl (Qmi rfl rfl (zy (Qt_indexR rfl rfl (by omega) (by rw [bytesV_length]; omega)) (zy (Qt_loadR (.int .u8 (K[i].toNat : Int)) rfl (by rw [Int.toNat_natCast]; exact bytes_get _ _ (by omega))) (zy (Qt_val (Qt_xorN (b := 92) rfl rfl rfl (K[i].toNat_lt) (by decide)) (congrArg (Value.int .u8) (xor_byte K[i] 0x5c))) (ze rfl (Ef_slice1 (v := .int .u8 ((K[i] ^^^ 0x5c).toNat : Int)) rfl (fun a44 c44 => ?_)))))))))))
  refine ze rfl (Ef_appendb (n := ((K[i] ^^^ 0x5c).toNat : Int)) (sv := .slice _ _ _) (xv := .slice _ _ _) rfl rfl ⟨by omega, by have := (K[i] ^^^ 0x5c).toNat_lt; omega⟩ (by simp; omega) rfl (fun a45 c45 => ?_))
  rw [u8Of_nat, take_map (· ^^^ 0x5c) K i (by omega)]
  refine Qas rfl rfl (zz (X_block (zx (zR (Qmi rfl rfl (zy (zj rfl rfl) (Qai rfl rfl (zz ?_))))))))
  apply X_loop
  case ha => exact zA
  case hI => exact ⟨i + 1, _, _, _, _, rfl, rfl, by omega⟩
  case hm => exact by show 64 - (i + 1 : Int).toNat < 64 - (i : Int).toNat; omega
  case hH => exact SB
 have p27 := cL h27
 have et : K.take i = K := List.take_of_length_le (by omega)
 simp only [et]
 refine zY (zG (zW (zE (zx (T2 (Qms rfl rfl (Qms rfl rfl (ze rfl (Ef_appendB (sv := .slice _ _ _) (xv := .slice _ _ _) rfl rfl (by simp; omega) rfl (fun a48 c48 => ?_))))))))))
 rw [show K.map (· ^^^ 0x36) ++ l = (turned (fill64 key) 0x36 l) from by rw [hK]; rfl]
 refine Qas rfl rfl (T4 (Qms rfl rfl (Qms rfl rfl (ze rfl (zc (rSum_c (l := (turned (fill64 key) 0x36 l)) (by rw [turned_len]; omega)) rfl (fun x51 => ?_))))))
 refine ze rfl (zc (rHash_c) rfl (fun x52 => ?_))
 refine ze rfl (Ef_appendB (sv := .slice _ _ _) (xv := .slice _ _ _) rfl rfl (by simp; omega) rfl (fun a53 c53 => ?_))
 rw [show K.map (· ^^^ 0x5c) ++ (sha (turned (fill64 key) 0x36 l)).toList = turned (fill64 key) 0x5c (sha (turned (fill64 key) 0x36 l)).toList from by rw [hK]; rfl]
 refine Qas rfl rfl (T4 (Qms rfl rfl (ze rfl (zc (rSum_c (l := turned (fill64 key) 0x5c (sha (turned (fill64 key) 0x36 l)).toList) (by rw [turned_len]; simp)) rfl (fun x55 => ?_)))))
 refine zN (zs rfl rfl (TX (zQ ?_)))
 exact zX () [_] Tryz.results115 ⟨⟨_, rfl, res_cellN rfl⟩, trivial⟩ (by unfold tagOf; rfl) SB
end
section
open Go.RowKit Go.Sx
set_option maxRecDepth 100000

structure MsgD where
 kind : Int
 frm : Int
 view : Int
 reg : Int
 slot : Int
 hash : Vector UInt8 32
 body : List UInt8
 parts : List (List UInt8)
def MsgV.abs (v : MsgV) : MsgD := ⟨v.kind, v.frm, v.view, v.reg, v.slot, v.hash, v.body.l, v.parts.ls.map BS.l⟩
def withinB (n b : Int) : Bool := decide (0 ≤ n) && decide (n ≤ b)
theorem within_iff (n b : Int) : withinB n b = true ↔ 0 ≤ n ∧ n ≤ b := by simp [withinB]
theorem within_not (n b : Int) : withinB n b = false ↔ ¬ (0 ≤ n ∧ n ≤ b) := by rw [← within_iff]; simp
def formedM (m : MsgD) : Bool := decide (1 ≤ m.kind ∧ m.kind ≤ 12 ∧ 0 ≤ m.frm ∧ m.frm ≤ 15 ∧ 0 ≤ m.view ∧ m.view ≤ 60 ∧ 0 ≤ m.reg ∧ m.reg ≤ 40 ∧ 0 ≤ m.slot ∧ m.slot ≤ 60)
theorem formedM_iff (m : MsgD) : formedM m = true ↔ 1 ≤ m.kind ∧ m.kind ≤ 12 ∧ 0 ≤ m.frm ∧ m.frm ≤ 15 ∧ 0 ≤ m.view ∧ m.view ≤ 60 ∧ 0 ≤ m.reg ∧ m.reg ≤ 40 ∧ 0 ≤ m.slot ∧ m.slot ≤ 60 := by simp only [formedM, decide_eq_true_eq]
def w5 : Array Value := #[.int .i64 1, .int .i64 1, .int .i64 2, .int .i64 2, .int .i64 2]
theorem putWholeL {l l' : List Value} (h : l'.length = l.length) : Put l.toArray 0 (.agg l'.toArray) l'.toArray := by
 have := Put.mid [] l [] (cs := l.toArray) (o := 0) (n := l.length) (v := .agg l'.toArray) (by simp) rfl (by simp) (by simp [Value.cells, h])
 simpa [Value.cells] using this
instance putW5 : Put #[.int .i64 0, .int .i64 0, .int .i64 0, .int .i64 0, .int .i64 0] 0 (.agg w5) w5 := putWholeL (l := [.int .i64 0, .int .i64 0, .int .i64 0, .int .i64 0, .int .i64 0]) (l' := [.int .i64 1, .int .i64 1, .int .i64 2, .int .i64 2, .int .i64 2]) rfl
instance subW5 : SubAt w5 0 5 w5 := ⟨rfl⟩
instance cellsW5 : Cells w5 5 := ⟨rfl, by decide⟩
theorem fill5 (a b c d e : Int) : Instr.fill (fun i => some (i * 1, 1)) #[.int .i64 0, .int .i64 0, .int .i64 0, .int .i64 0, .int .i64 0] [(0, .int .i64 a), (1, .int .i64 b), (2, .int .i64 c), (3, .int .i64 d), (4, .int .i64 e)] = some #[.int .i64 a, .int .i64 b, .int .i64 c, .int .i64 d, .int .i64 e] := by
 rfl
end
section
open Go.RowKit Go.Sx
set_option maxRecDepth 100000
set_option maxHeartbeats 1000000
theorem wwithin_c {w0 : World} {H : List SA} {n b : Int} :
 CT Tryz.prog w0 (H) 142 [.int .i64 n, .int .i64 b] (α := Unit) (fun _ => .bool (withinB n b)) (fun _ => H) := by
 refine CT_intro Tryz.func142 rfl Tryz.ntmps142 rfl (T2 (Qab rfl rfl (T4 (Qmi rfl rfl (zy (Qt_geq rfl rfl) (Qmb rfl rfl (TL_split 7 rfl (fun h7 => ?_) (fun h7 => ?_))))))))
 ·
  have p7 := cL h7
  refine zt rfl rfl h7 (Qmi rfl rfl (zt rfl rfl h7 (Qmi rfl rfl (zt rfl rfl h7 (zy (Qt_leq rfl rfl) (zy (zT (.bool _) rfl h7 rfl) (Qab rfl rfl (TX (zQ ?_)))))))))
  exact zX () [.bool (withinB n b)] Tryz.results142 ⟨by refine congrArg Value.bool ?_; first | (simp_all [withinB]; done) | (simp_all [withinB]; omega), trivial⟩ rfl SB
 have p7 := cL h7
 refine zp rfl rfl h7 rfl (zp rfl rfl h7 rfl (zp rfl rfl h7 rfl (zy (zF (.bool _) rfl h7 rfl) (Qab rfl rfl (TX (zQ ?_))))))
 exact zX () [.bool (withinB n b)] Tryz.results142 ⟨by refine congrArg Value.bool ?_; first | (simp_all [withinB]; done) | (simp_all [withinB]; omega), trivial⟩ rfl SB
theorem wformed_c {w0 : World} {H : List SA} {m : MsgV} :
 CT Tryz.prog w0 (H) 90 [.agg m.cells] (α := Unit) (fun _ => .bool (formedM m.abs)) (fun _ => H) := by
 refine CT_intro Tryz.func90 rfl Tryz.ntmps90 rfl (T2 (ze rfl (Ef_boxN rfl (fun b1 => ?_))))
 refine Qab rfl rfl (T4 (zy (zf 0 rfl rfl) (zy (zl rfl) (zy (Qt_geq rfl rfl) (Qmb rfl rfl (TL_split 6 rfl (fun h6 => ?_) (fun h6 => ?_)))))))
 ·
  have p6 := cL h6
  refine zt rfl rfl h6 (zy (zf 0 rfl rfl) (zt rfl rfl h6 (zy (zl rfl) (zt rfl rfl h6 (zy (Qt_leq rfl rfl) (zy (zT (.bool _) rfl h6 rfl) (Qmb rfl rfl (TL_split 11 rfl (fun h11 => ?_) (fun h11 => ?_)))))))))
  ·
   have p11 := cL h11
   refine zt rfl rfl h11 (zy (zf 1 rfl rfl) (zt rfl rfl h11 (zy (zl rfl) (zt rfl rfl h11 (ze rfl (zc (wwithin_c) rfl (fun x14 => ?_)))))))
   refine zy (zT (.bool _) rfl h11 rfl) (Qmb rfl rfl (TL_split 16 rfl (fun h16 => ?_) (fun h16 => ?_)))
   ·
    have p16 := cL h16
    refine zt rfl rfl h16 (zy (zf 2 rfl rfl) (zt rfl rfl h16 (zy (zl rfl) (zt rfl rfl h16 (ze rfl (zc (wwithin_c) rfl (fun x19 => ?_)))))))
    refine zy (zT (.bool _) rfl h16 rfl) (Qmb rfl rfl (TL_split 21 rfl (fun h21 => ?_) (fun h21 => ?_)))
    ·
     have p21 := cL h21
     refine zt rfl rfl h21 (zy (zf 3 rfl rfl) (zt rfl rfl h21 (zy (zl rfl) (zt rfl rfl h21 (ze rfl (zc (wwithin_c) rfl (fun x24 => ?_)))))))
     refine zy (zT (.bool _) rfl h21 rfl) (Qmb rfl rfl (TL_split 26 rfl (fun h26 => ?_) (fun h26 => ?_)))
     ·
      have p26 := cL h26
      refine zt rfl rfl h26 (zy (zf 4 rfl rfl) (zt rfl rfl h26 (zy (zl rfl) (zt rfl rfl h26 (ze rfl (zc (wwithin_c) rfl (fun x29 => ?_)))))))
      refine zy (zT (.bool _) rfl h26 rfl) (Qab rfl rfl (TX (zQ (zX () [.bool (formedM m.abs)] Tryz.results90 ⟨(congrArg Value.bool ?_), trivial⟩ rfl SB))))
      rw [Bool.eq_iff_iff, formedM_iff]
      simp only [within_iff, within_not, MsgV.abs, decide_eq_true_eq, decide_eq_false_iff_not, Bool.not_eq_false, Bool.not_eq_true, Bool.false_eq_true, false_iff, not_and] at *
      first | omega | (constructor <;> (intros; omega))
     have p26 := cL h26
     refine zp rfl rfl h26 rfl (zp rfl rfl h26 rfl (zp rfl rfl h26 rfl (zy (zF (.bool _) rfl h26 rfl) (Qab rfl rfl (TX (zQ (zX () [.bool (formedM m.abs)] Tryz.results90 ⟨(congrArg Value.bool ?_), trivial⟩ rfl SB)))))))
     rw [Bool.eq_iff_iff, formedM_iff]
     simp only [within_iff, within_not, MsgV.abs, decide_eq_true_eq, decide_eq_false_iff_not, Bool.not_eq_false, Bool.not_eq_true, Bool.false_eq_true, false_iff, not_and] at *
     first | omega | (constructor <;> (intros; omega))
    have p21 := cL h21
    refine zp rfl rfl h21 rfl (zp rfl rfl h21 rfl (zp rfl rfl h21 rfl (zy (zF (.bool _) rfl h21 rfl) (Qmb rfl rfl (zo (zo (zo (zy (zF (.bool _) rfl rfl rfl) (Qab rfl rfl (TX (zQ (zX () [.bool (formedM m.abs)] Tryz.results90 ⟨(congrArg Value.bool ?_), trivial⟩ rfl SB))))))))))))
    rw [Bool.eq_iff_iff, formedM_iff]
    simp only [within_iff, within_not, MsgV.abs, decide_eq_true_eq, decide_eq_false_iff_not, Bool.not_eq_false, Bool.not_eq_true, Bool.false_eq_true, false_iff, not_and] at *
    first | omega | (constructor <;> (intros; omega))
   have p16 := cL h16
   refine zp rfl rfl h16 rfl (zp rfl rfl h16 rfl (zp rfl rfl h16 rfl (zy (zF (.bool _) rfl h16 rfl) (Qmb rfl rfl (zo (zo (zo (zy (zF (.bool _) rfl rfl rfl) (Qmb rfl rfl (zo (zo (zo (zy (zF (.bool _) rfl rfl rfl) (Qab rfl rfl (TX (zQ ?_))))))))))))))))
   refine zX () [.bool (formedM m.abs)] Tryz.results90 ⟨(congrArg Value.bool ?_), trivial⟩ rfl SB
   rw [Bool.eq_iff_iff, formedM_iff]
   simp only [within_iff, within_not, MsgV.abs, decide_eq_true_eq, decide_eq_false_iff_not, Bool.not_eq_false, Bool.not_eq_true, Bool.false_eq_true, false_iff, not_and] at *
   first | omega | (constructor <;> (intros; omega))
  have p11 := cL h11
  refine zp rfl rfl h11 rfl (zp rfl rfl h11 rfl (zp rfl rfl h11 rfl (zy (zF (.bool _) rfl h11 rfl) (Qmb rfl rfl (zo (zo (zo (zy (zF (.bool _) rfl rfl rfl) (Qmb rfl rfl (zo (zo (zo (zy (zF (.bool _) rfl rfl rfl) (Qmb rfl rfl (zo (zo (zo ?_)))))))))))))))))
  refine zy (zF (.bool _) rfl rfl rfl) (Qab rfl rfl (TX (zQ (zX () [.bool (formedM m.abs)] Tryz.results90 ⟨(congrArg Value.bool ?_), trivial⟩ rfl SB))))
  rw [Bool.eq_iff_iff, formedM_iff]
  simp only [within_iff, within_not, MsgV.abs, decide_eq_true_eq, decide_eq_false_iff_not, Bool.not_eq_false, Bool.not_eq_true, Bool.false_eq_true, false_iff, not_and] at *
  first | omega | (constructor <;> (intros; omega))
 have p6 := cL h6
 refine zp rfl rfl h6 rfl (zp rfl rfl h6 rfl (zp rfl rfl h6 rfl (zy (zF (.bool _) rfl h6 rfl) (Qmb rfl rfl (zo (zo (zo (zy (zF (.bool _) rfl rfl rfl) (Qmb rfl rfl (zo (zo (zo (zy (zF (.bool _) rfl rfl rfl) (Qmb rfl rfl (zo (zo (zo ?_)))))))))))))))))
 refine zy (zF (.bool _) rfl rfl rfl) (Qmb rfl rfl (zo (zo (zo (zy (zF (.bool _) rfl rfl rfl) (Qab rfl rfl (TX (zQ (zX () [.bool (formedM m.abs)] Tryz.results90 ⟨(congrArg Value.bool ?_), trivial⟩ rfl SB)))))))))
 rw [Bool.eq_iff_iff, formedM_iff]
 simp only [within_iff, within_not, MsgV.abs, decide_eq_true_eq, decide_eq_false_iff_not, Bool.not_eq_false, Bool.not_eq_true, Bool.false_eq_true, false_iff, not_and] at *
 first | omega | (constructor <;> (intros; omega))
theorem widths_c {w0 : World} {H : List SA}  :
 CT Tryz.prog w0 (H) 91 [] (α := Unit) (fun _ => .agg w5) (fun _ => H) := by
 refine CT_intro Tryz.func91 rfl Tryz.ntmps91 rfl (T2 (ze rfl (Ef_allocN (fun b0 => ?_))))
 refine T4 (zy (Qt_build_arr w5 Tryz.underlying182 rfl rfl (fill5 1 1 2 2 2)) (zN (zs rfl rfl (TX (zQ ?_)))))
 exact zX () [_] Tryz.results91 ⟨⟨_, rfl, res_cellN rfl⟩, trivial⟩ rfl SB
end
end Go.Proofs.YtnijomppbgdmnaaGreat
