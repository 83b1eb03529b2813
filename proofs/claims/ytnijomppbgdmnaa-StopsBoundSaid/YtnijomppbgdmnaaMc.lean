/- Walks: tags. -/
import Derived.Test.YtnijomppbgdmnaaRsh
namespace Go.Proofs.Ytnijomppbgdmnaa
open Go.RowKit Go.Sx
set_option maxRecDepth 100000
set_option linter.unusedSimpArgs false
set_option linter.unusedVariables false
instance RdB.h32 {w0 : World} {H : List SA} {b T : Nat} {h : Vector UInt8 32} [hm : Mem w0 H b (.cells (hlist h).toArray T (0, 0))] : RdB w0 H (.slice (some ⟨b, 0, none⟩) h.toList.length 32) h.toList := by
  have := RdB.hash (o := 0) (n := 32) h hm inferInstance (by decide)
  rwa [Vector.length_toList]
instance RdB.h64 {w0 : World} {H : List SA} {b T : Nat} {h : Vector UInt8 64} [hm : Mem w0 H b (.cells (hlist h).toArray T (0, 0))] : RdB w0 H (.slice (some ⟨b, 0, none⟩) h.toList.length 64) h.toList := by
  have := RdB.hash (o := 0) (n := 64) h hm inferInstance (by decide)
  rwa [Vector.length_toList]
/-- A key, of at most a block. -/
def keyOf (key : List UInt8) : List UInt8 := if 64 < key.length then (sha key).toList else key
theorem keyOf_len (key : List UInt8) : (keyOf key).length ≤ 64 := by
  unfold keyOf; split
  · simp
  · omega
def fill64 (key : List UInt8) : Vector UInt8 64 := hover (zeroV 64) (keyOf key)
/-- The first bytes turned. -/
def turnV {n : Nat} (h : Vector UInt8 n) (x : UInt8) (i : Nat) : Vector UInt8 n := Vector.ofFn fun j => if j.val < i then h[j] ^^^ x else h[j]
theorem turnV_zero {n : Nat} (h : Vector UInt8 n) (x : UInt8) : turnV h x 0 = h := by
  apply Vector.ext; intro i hi; simp [turnV]
theorem turnV_at {n : Nat} (h : Vector UInt8 n) (x : UInt8) (i : Nat) (hi : i < n) : (turnV h x i)[i] = h[i] := by simp [turnV]
theorem turnV_set {n : Nat} (h : Vector UInt8 n) (x : UInt8) (i : Nat) (hi : i < n) : (turnV h x i).set i (h[i] ^^^ x) = turnV h x (i + 1) := by
  apply Vector.ext; intro j hj
  by_cases e : i = j
  · subst e; simp [turnV]
  · rw [Vector.getElem_set_ne _ _ e]
    simp only [turnV, Vector.getElem_ofFn, Fin.getElem_fin]
    by_cases h1 : j < i <;> simp [h1] <;> omega
theorem turnV_all {n : Nat} (h : Vector UInt8 n) (x : UInt8) : (turnV h x n).toList = h.toList.map (· ^^^ x) := by
  apply List.ext_getElem
  · simp
  · intro i h1 h2
    simp only [Vector.getElem_toList, List.getElem_map]
    simp only [Vector.length_toList] at h1
    simp [turnV, h1]
theorem xor_byte (a b : UInt8) : ((a.toNat ^^^ b.toNat : Nat) : Int) = ((a ^^^ b).toNat : Int) := by rw [UInt8.toNat_xor]
def turned (h : Vector UInt8 64) (x : UInt8) (l : List UInt8) : List UInt8 := h.toList.map (· ^^^ x) ++ l
theorem turned_len (h : Vector UInt8 64) (x : UInt8) (l : List UInt8) : (turned h x l).length = 64 + l.length := by simp [turned]
def tagOf (key text : List UInt8) : Vector UInt8 32 := sha (turned (fill64 key) 0x5c (sha (turned (fill64 key) 0x36 text)).toList)

attribute [local irreducible] sha fill64 turnV tagOf hover
set_option maxHeartbeats 1000000 in
theorem filled_c {w0 : World} {H : List SA} {a : Option Addr} {l : List UInt8} {c : Nat} [hr : RdB w0 H (.slice a l.length c) l] (hl : l.length ≤ 4294967000) :
    CT Try.prog w0 (H) 41 [.slice a l.length c] (α := Unit) (fun _ => .agg (hlist (fill64 l)).toArray) (fun _ => H) := by
  refine CT_intro Try.func41 rfl Try.ntmps41 rfl ?_
  refine T_seq ?_
  refine T_region ?_
  refine TL_e rfl (Ef_allocN (fun b2 => ?_))
  refine TL_nil ?_
  refine X_then ?_
  refine T_seq ?_
  refine T_region ?_
  refine TL_e rfl (Ef_allocN (fun b3 => ?_))
  refine TL_nil ?_
  refine X_then ?_
  refine T_seq ?_
  refine T_seq ?_
  refine T_region ?_
  refine TL_q (Qt_move (.slice _ _ _) rfl) rfl ?_
  refine TL_q (Qt_len_slice rfl Try.underlying36) rfl ?_
  refine TL_q (Qt_gtr rfl rfl) rfl ?_
  refine TL_nil ?_
  refine X_then ?_
  refine T_cond rfl (fun h7 => ?_) (fun h7 => ?_)
  ·
    have p7 := h7
    try simp only [decide_eq_true_eq, decide_eq_false_iff_not, Bool.not_eq_true', Bool.not_eq_false', Option.isNone_iff_eq_none, ne_eq, Decidable.not_not, Int.not_lt, Int.not_le] at p7
    have hfill : fill64 l = hover (zeroV 64) (sha l).toList := by rw [fill64, keyOf, if_pos (by omega)]
    refine T_seq ?_
    refine T_region ?_
    refine TL_q (Qt_move (.slice _ _ _) rfl) rfl ?_
    refine TL_e rfl (Ef_call (sum_c hl) rfl (fun x9 => ?_))
    refine TL_e rfl (Ef_allocN (fun b4 => ?_))
    refine TL_n (Ef_storeN rfl rfl (?_))
    refine TL_nil ?_
    refine X_then ?_
    refine T_region ?_
    refine TL_q (Qt_val (Qt_slice_arr rfl Try.underlying35 rfl rfl) (show Value.slice _ 32 32 = Value.slice _ (sha l).toList.length 32 from by rw [Vector.length_toList])) rfl ?_
    refine TL_q (Qt_assign (.slice _ _ _) rfl) rfl ?_
    refine TL_nil ?_
    refine X_then ?_
    refine T_seq ?_
    refine T_region ?_
    refine TL_q (Qt_slice_arr rfl Try.underlying93 rfl rfl) rfl ?_
    refine TL_q (Qt_move (.slice _ _ _) rfl) rfl ?_
    refine TL_e rfl (Ef_copyH (l := (sha l).toList) (zeroV 64) rfl rfl (by simp) (fun k13 => ?_))
    refine TL_nil ?_
    refine X_then ?_
    refine T_seq ?_
    refine T_region ?_
    refine TL_q (Qt_loadN rfl rfl) rfl ?_
    refine TL_n (Ef_storeN rfl rfl (?_))
    refine TL_nil ?_
    refine X_then ?_
    refine T_ret ?_
    exact X_ret () [_] Try.results41 ⟨⟨_, rfl, res_cellN rfl⟩, trivial⟩ (by rw [hfill]; rfl) (Subs.st inferInstance)
  ·
    have p7 := h7
    try simp only [decide_eq_true_eq, decide_eq_false_iff_not, Bool.not_eq_true', Bool.not_eq_false', Option.isNone_iff_eq_none, ne_eq, Decidable.not_not, Int.not_lt, Int.not_le] at p7
    have hfill : fill64 l = hover (zeroV 64) l := by rw [fill64, keyOf, if_neg (by omega)]
    refine T_skip ?_
    refine X_then ?_
    refine T_seq ?_
    refine T_region ?_
    refine TL_q (Qt_slice_arr rfl Try.underlying93 rfl rfl) rfl ?_
    refine TL_q (Qt_move (.slice _ _ _) rfl) rfl ?_
    refine TL_e rfl (Ef_copyH (l := l) (zeroV 64) rfl rfl (by omega) (fun k13 => ?_))
    refine TL_nil ?_
    refine X_then ?_
    refine T_seq ?_
    refine T_region ?_
    refine TL_q (Qt_loadN rfl rfl) rfl ?_
    refine TL_n (Ef_storeN rfl rfl (?_))
    refine TL_nil ?_
    refine X_then ?_
    refine T_ret ?_
    exact X_ret () [_] Try.results41 ⟨⟨_, rfl, res_cellN rfl⟩, trivial⟩ (by rw [hfill]; rfl) (Subs.st inferInstance)
set_option maxHeartbeats 1000000 in
theorem with_c {w0 : World} {H : List SA} {h : Vector UInt8 64} {x : UInt8} {a : Option Addr} {l : List UInt8} {c : Nat} [hr : RdB w0 H (.slice a l.length c) l] (hl : l.length ≤ 4294967000) :
    CT Try.prog w0 (H) 42 [.agg (hlist h).toArray, .int .u8 (x.toNat : Int), .slice a l.length c] (α := AC) (fun y => .slice y.a (turned h x l).length y.c) (fun y => row (.slice y.a (turned h x l).length y.c) 5 1 (bytesV (turned h x l)) :: H) := by
  refine CT_intro Try.func42 rfl Try.ntmps42 rfl ?_
  refine T_seq ?_
  refine T_region ?_
  refine TL_e rfl (Ef_boxN rfl (fun b3 => ?_))
  refine TL_q (Qt_assign (.slice _ _ _) rfl) rfl ?_
  refine TL_nil ?_
  refine X_then ?_
  refine T_seq ?_
  refine T_seq ?_
  refine T_region ?_
  refine TL_q (Qt_move (.int .i64 _) rfl) rfl ?_
  refine TL_nil ?_
  refine X_then ?_
  refine T_block ?_
  refine T_loop [7, 8, 9, 10, 11, 12, 13, 14, 15, 16, 17] [8] (fun us H' => ∃ (i : Nat), us = [.int .i64 (i : Int)] ∧ blk b3 (.cells (hlist (turnV h x i)).toArray 93 (0, 0)) :: H = H' ∧ i ≤ 64) (fun us => match us with | .int _ i :: _ => 64 - i.toNat | _ => 0) ⟨0, rfl, rfl, by omega⟩ (fun w hw => by rw [turnV_zero]; exact Subs.st inferInstance w hw) ?_
  rintro τ0 _ _  ⟨i, rfl, rfl, hi0⟩ _
  refine T_seq ?_
  refine T_region ?_
  refine TL_q (Qt_lss rfl rfl) rfl ?_
  refine TL_nil ?_
  refine X_then ?_
  refine T_seq ?_
  refine T_cond rfl (fun h9 => ?_) (fun h9 => ?_)
  ·
    have p9 := h9
    try simp only [decide_eq_true_eq, decide_eq_false_iff_not, Bool.not_eq_true', Bool.not_eq_false', Option.isNone_iff_eq_none, ne_eq, Decidable.not_not, Int.not_lt, Int.not_le] at p9
    have hi : i < 64 := by omega
    have hcell : CellAt (hlist (turnV h x i)).toArray (0 + (i : Int).toNat * 1) (.int .u8 (h[i].toNat : Int)) := by have := cellAtH (h := turnV h x i) (m := 0 + (i : Int).toNat * 1) (i := i) (by simp) hi; rwa [turnV_at _ _ _ hi] at this
    refine T_skip ?_
    refine X_then ?_
    refine T_seq ?_
    refine T_block ?_
    refine T_seq ?_
    refine T_region ?_
    refine TL_q (Qt_move (.int .i64 _) rfl) rfl ?_
    refine TL_q (Qt_assign (.int .i64 _) rfl) rfl ?_
    refine TL_nil ?_
    refine X_then ?_
    refine T_region ?_
    refine TL_q (Qt_move (.int .i64 _) rfl) rfl ?_
    refine TL_q (Qt_indexAddr_arr (sz := 1) rfl rfl Try.underlying93 rfl rfl (by omega) (by omega)) rfl ?_
    refine TL_q (Qt_load1 rfl) rfl ?_
    refine TL_q (Qt_move (.int .u8 _) rfl) rfl ?_
    refine TL_q (Qt_val (Qt_xorN rfl rfl rfl (h[i].toNat_lt) (x.toNat_lt)) (congrArg (Value.int .u8) (xor_byte _ _))) rfl ?_
    have hput : Put (hlist (turnV h x i)).toArray (0 + (i : Int).toNat * 1) (.int .u8 ((h[i] ^^^ x).toNat : Int)) (hlist (turnV h x (i + 1))).toArray := by have := putAtH (h := turnV h x i) (m := 0 + (i : Int).toNat * 1) (i := i) (c := h[i] ^^^ x) (by simp) hi; rwa [turnV_set _ _ _ hi] at this
    refine TL_q (Qt_indexAddr_arr (sz := 1) rfl rfl Try.underlying93 rfl rfl (by omega) (by omega)) rfl ?_
    refine TL_n (Ef_store1 (.int .u8 _) rfl rfl (?_))
    refine TL_nil ?_
    refine X_block ?_
    refine X_then ?_
    refine T_region ?_
    first
      | refine TL_q (Qt_add rfl rfl (by omega) (by omega)) rfl ?_
      | refine TL_q (Qt_addw rfl rfl) rfl ?_
    refine TL_q (Qt_move (.int .i64 _) rfl) rfl ?_
    refine TL_nil ?_
    apply X_loop
    case ha => exact (by repeat (first | with_reducible exact agree_refl | refine agree_upd rfl ?_ | refine agree_mix rfl ?_ | refine agree_setAll rfl ?_))
    case hI => exact ⟨i + 1, rfl, rfl, by omega⟩
    case hm => exact by show 64 - (i + 1 : Int).toNat < 64 - (i : Int).toNat; omega
    case hH => exact (Subs.st inferInstance)
  ·
    have p9 := h9
    try simp only [decide_eq_true_eq, decide_eq_false_iff_not, Bool.not_eq_true', Bool.not_eq_false', Option.isNone_iff_eq_none, ne_eq, Decidable.not_not, Int.not_lt, Int.not_le] at p9
    have hi : i = 64 := by omega
    subst hi
    refine T_exit ?_
    refine X_then_exit ?_
    refine X_loop_exit ?_
    refine X_block_exit ?_
    refine X_then ?_
    refine T_seq ?_
    refine T_region ?_
    refine TL_e rfl (Ef_slice0 (fun a18 c18 => ?_))
    refine TL_q (Qt_val (Qt_slice_arr rfl Try.underlying93 rfl rfl) (show Value.slice _ 64 64 = Value.slice _ (turnV h x 64).toList.length 64 from by rw [Vector.length_toList])) rfl ?_
    refine TL_e rfl (Ef_appendB (sv := .slice _ _ _) (xv := .slice _ _ _) rfl rfl (by simp) rfl (fun a20 c20 => ?_))
    refine TL_q (Qt_move (.slice _ _ _) rfl) rfl ?_
    refine TL_e rfl (Ef_appendB (sv := .slice _ _ _) (xv := .slice _ _ _) rfl rfl (by simp; omega) rfl (fun a22 c22 => ?_))
    rw [List.nil_append, turnV_all, show h.toList.map (· ^^^ x) ++ l = turned h x l from rfl]
    refine TL_q (Qt_assign (.slice _ _ _) rfl) rfl ?_
    refine TL_nil ?_
    refine X_then ?_
    refine T_ret ?_
    exact X_ret ⟨a22, c22⟩ [_] Try.results42 ⟨rfl, trivial⟩ rfl (Subs.st inferInstance)
set_option maxHeartbeats 1000000 in
theorem tag_c {w0 : World} {H : List SA} {a a2 : Option Addr} {key l : List UInt8} {c c2 : Nat} [hr : RdB w0 H (.slice a key.length c) key] [hr2 : RdB w0 H (.slice a2 l.length c2) l] (hk : key.length ≤ 4294967000) (hl : l.length ≤ 4294960000) :
    CT Try.prog w0 (H) 20 [.slice a key.length c, .slice a2 l.length c2] (α := Unit) (fun _ => .agg (hlist (tagOf key l)).toArray) (fun _ => H) := by
  refine CT_intro Try.func20 rfl Try.ntmps20 rfl ?_
  refine T_seq ?_
  refine T_region ?_
  refine TL_e rfl (Ef_allocN (fun b4 => ?_))
  refine TL_nil ?_
  refine X_then ?_
  refine T_seq ?_
  refine T_region ?_
  refine TL_q (Qt_move (.slice _ _ _) rfl) rfl ?_
  refine TL_e rfl (Ef_call (filled_c hk) rfl (fun x8 => ?_))
  refine TL_e rfl (Ef_allocN (fun b5 => ?_))
  refine TL_n (Ef_storeN rfl rfl (?_))
  refine TL_nil ?_
  refine X_then ?_
  refine T_seq ?_
  refine T_region ?_
  refine TL_q (Qt_loadN rfl rfl) rfl ?_
  refine TL_q (Qt_move (.slice _ _ _) rfl) rfl ?_
  refine TL_e rfl (Ef_call (with_c (h := fill64 key) (x := 0x36) (l := l) (by omega)) rfl (fun x11 => ?_))
  refine TL_e rfl (Ef_call (sum_c (l := turned (fill64 key) 0x36 l) (by rw [turned_len]; omega)) rfl (fun x12 => ?_))
  refine TL_e rfl (Ef_allocN (fun b6 => ?_))
  refine TL_n (Ef_storeN rfl rfl (?_))
  refine TL_nil ?_
  refine X_then ?_
  refine T_seq ?_
  refine T_draw H [(1, true), (0, false), (2, false), (3, false), (4, false)] (by kernel_rfl) (by kernel_rfl) rfl (by kernel_rfl) (Subs.st inferInstance) (fun hns0 => ?_)
  refine DL_q hns0 rfl (Qt_val (Qt_slice_arr rfl Try.underlying35 rfl rfl) (show Value.slice _ 32 32 = Value.slice _ (sha (turned (fill64 key) 0x36 l)).toList.length 32 from by rw [Vector.length_toList])) rfl ?_
  refine DL_e rfl rfl (Ef_of_Qt (Qt_loadN rfl rfl) (⟨(Subs.st inferInstance), ?_⟩))
  refine DL_e rfl rfl (Ef_call (with_c (h := fill64 key) (x := 0x5c) (l := (sha (turned (fill64 key) 0x36 l)).toList) (by simp)) rfl (fun x15 => ⟨(Subs.st inferInstance), ?_⟩))
  refine DL_e rfl rfl (Ef_call (sum_c (l := turned (fill64 key) 0x5c (sha (turned (fill64 key) 0x36 l)).toList) (by rw [turned_len]; simp)) rfl (fun x16 => ⟨(Subs.st inferInstance), ?_⟩))
  refine DL_n rfl (Ef_storeN rfl rfl (⟨(Subs.st inferInstance), ?_⟩))
  refine DL_nil ?_
  refine X_then ?_
  refine T_ret ?_
  exact X_ret () [_] Try.results20 ⟨⟨_, rfl, res_cellN rfl⟩, trivial⟩ (by unfold tagOf; rfl) (Subs.st inferInstance)
end Go.Proofs.Ytnijomppbgdmnaa
