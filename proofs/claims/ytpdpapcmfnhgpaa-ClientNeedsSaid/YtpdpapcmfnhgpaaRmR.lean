/- Walks: the reference on tags. -/
import Derived.Test.YtpdpapcmfnhgpaaMcR
namespace Go.Proofs.Ytpdpapcmfnhgpaa
open Go.RowKit Go.Sx
set_option maxRecDepth 100000
set_option linter.unusedSimpArgs false
set_option linter.unusedVariables false
theorem fillZ (key : List UInt8) (j : Nat) (h : (keyOf key).length + j = 64) : keyOf key ++ List.replicate j 0 = (fill64 key).toList := by
  rw [fill64, hover_list _ _ (keyOf_len key)]
  rw [show (zeroV 64).toList = List.replicate 64 0 from rfl, List.drop_replicate]
  congr 2; omega
theorem take_map (f : UInt8 → UInt8) (l : List UInt8) (i : Nat) (h : i < l.length) : (l.take i).map f ++ [f l[i]] = (l.take (i + 1)).map f := by
  rw [List.take_succ_eq_append_getElem h, List.map_append]; rfl
attribute [local irreducible] sha fill64 turnV tagOf hover keyOf
set_option maxHeartbeats 1000000 in
theorem rTag_c {w0 : World} {H : List SA} {a a2 : Option Addr} {key l : List UInt8} {c c2 : Nat} [hr : RdB w0 H (.slice a key.length c) key] [hr2 : RdB w0 H (.slice a2 l.length c2) l] (hk : key.length ≤ 4294967000) (hl : l.length ≤ 4294960000) :
    CT Try.prog w0 (H) 112 [.slice a key.length c, .slice a2 l.length c2] (α := Unit) (fun _ => .agg (hlist (tagOf key l)).toArray) (fun _ => H) := by
  refine CT_intro Try.func112 rfl Try.ntmps112 rfl ?_
  refine T_seq ?_
  refine T_region ?_
  refine TL_e rfl (Ef_allocN (fun b4 => ?_))
  refine TL_nil ?_
  refine X_then ?_
  refine T_seq ?_
  refine T_region ?_
  refine TL_q (Qt_assign (.slice _ _ _) rfl) rfl ?_
  refine TL_nil ?_
  refine X_then ?_
  refine T_cut [5, 9, 10, 11, 12, 13, 14, 15, 16, 17, 18, 19] [5] (fun us H' => ∃ (a : Option Addr) (c : Nat), us = [.slice a (keyOf key).length c] ∧ row (.slice a (keyOf key).length c) 5 1 (bytesV (keyOf key)) :: blk b4 (.cells (hlist (zeroV 32)).toArray 36 (0, 0)) :: H = H') ?_ ?_
  ·
    refine T_seq ?_
    refine T_region ?_
    refine TL_q (Qt_move (.slice _ _ _) rfl) rfl ?_
    refine TL_q (Qt_len_slice rfl Try.underlying37) rfl ?_
    refine TL_q (Qt_gtr rfl rfl) rfl ?_
    refine TL_nil ?_
    refine X_then ?_
    refine T_cond rfl (fun h11 => ?_) (fun h11 => ?_)
    ·
      have p11 := h11
      try simp only [decide_eq_true_eq, decide_eq_false_iff_not, Bool.not_eq_true', Bool.not_eq_false', Option.isNone_iff_eq_none, ne_eq, Decidable.not_not, Int.not_lt, Int.not_le] at p11
      have hk1 : keyOf key = (sha key).toList := by rw [keyOf, if_pos (by omega)]
      refine T_region ?_
      refine TL_q (Qt_move (.slice _ _ _) rfl) rfl ?_
      refine TL_q (Qt_move (.slice _ _ _) rfl) rfl ?_
      refine TL_e rfl (Ef_call (rSum_c hk) rfl (fun x14 => ?_))
      refine TL_e rfl (Ef_call (rHash_c) rfl (fun x15 => ?_))
      refine TL_e rfl (Ef_appendB (sv := .slice _ _ _) (xv := .slice _ _ _) rfl rfl (by simp) rfl (fun a16 c16 => ?_))
      rw [List.nil_append]
      refine TL_q (Qt_assign (.slice _ _ _) rfl) rfl ?_
      refine TL_nil ?_
      refine X_cut _ (by repeat (first | with_reducible exact agree_refl | refine agree_upd rfl ?_ | refine agree_mix rfl ?_ | refine agree_setAll rfl ?_)) (⟨_, _, by rw [hk1]; rfl, by rw [hk1]⟩) ((Subs.st inferInstance))
    ·
      have p11 := h11
      try simp only [decide_eq_true_eq, decide_eq_false_iff_not, Bool.not_eq_true', Bool.not_eq_false', Option.isNone_iff_eq_none, ne_eq, Decidable.not_not, Int.not_lt, Int.not_le] at p11
      have hk1 : keyOf key = key := by rw [keyOf, if_neg (by omega)]
      refine T_region ?_
      refine TL_q (Qt_move (.slice _ _ _) rfl) rfl ?_
      refine TL_q (Qt_move (.slice _ _ _) rfl) rfl ?_
      refine TL_e rfl (Ef_appendB (sv := .slice _ _ _) (xv := .slice _ _ _) rfl rfl (by simp; omega) rfl (fun a19 c19 => ?_))
      rw [List.nil_append]
      refine TL_q (Qt_assign (.slice _ _ _) rfl) rfl ?_
      refine TL_nil ?_
      refine X_cut _ (by repeat (first | with_reducible exact agree_refl | refine agree_upd rfl ?_ | refine agree_mix rfl ?_ | refine agree_setAll rfl ?_)) (⟨_, _, by rw [hk1]; rfl, by rw [hk1]⟩) ((Subs.st inferInstance))
  ·
    rintro τc0 _ _ ⟨a1, c1, rfl, rfl⟩ _
    have hkl := keyOf_len key
    refine T_seq ?_
    refine T_block ?_
    refine T_loop [5, 20, 21, 22, 23, 24, 25] [5] (fun us H' => ∃ (j : Nat) (a : Option Addr) (c : Nat), us = [.slice a (keyOf key ++ List.replicate j 0).length c] ∧ row (.slice a (keyOf key ++ List.replicate j 0).length c) 5 1 (bytesV (keyOf key ++ List.replicate j 0)) :: blk b4 (.cells (hlist (zeroV 32)).toArray 36 (0, 0)) :: H = H' ∧ (keyOf key).length + j ≤ 64) (fun us => match us with | .slice _ n _ :: _ => 64 - n | _ => 0) ⟨0, a1, c1, by rw [List.replicate_zero, List.append_nil]; rfl, by rw [List.replicate_zero, List.append_nil], by omega⟩ (Subs.st inferInstance) ?_
    rintro τ0 _ _  ⟨j, a2, c2, rfl, rfl, hj⟩ _
    refine T_seq ?_
    refine T_seq ?_
    refine T_region ?_
    refine TL_q (Qt_move (.slice _ _ _) rfl) rfl ?_
    refine TL_q (Qt_len_slice rfl Try.underlying37) rfl ?_
    refine TL_q (Qt_lss rfl rfl) rfl ?_
    refine TL_nil ?_
    refine X_then ?_
    refine T_cond rfl (fun h22 => ?_) (fun h22 => ?_)
    ·
      have p22 := h22
      try simp only [decide_eq_true_eq, decide_eq_false_iff_not, Bool.not_eq_true', Bool.not_eq_false', Option.isNone_iff_eq_none, ne_eq, Decidable.not_not, Int.not_lt, Int.not_le] at p22
      have hj1 : (keyOf key).length + j < 64 := by simp only [List.length_append, List.length_replicate] at p22; omega
      refine T_skip ?_
      refine X_then ?_
      refine T_block ?_
      refine T_region ?_
      refine TL_q (Qt_move (.slice _ _ _) rfl) rfl ?_
      refine TL_e rfl (Ef_slice1 (v := .int .u8 0) rfl (fun a24 c24 => ?_))
      refine TL_e rfl (Ef_appendb (n := 0) (sv := .slice _ _ _) (xv := .slice _ _ _) rfl rfl (by decide) (by simp; omega) rfl (fun a25 c25 => ?_))
      rw [show u8Of 0 = 0 from rfl, List.append_assoc (keyOf key), ← List.replicate_succ']
      refine TL_q (Qt_assign (.slice _ _ _) rfl) rfl ?_
      refine TL_nil ?_
      refine X_block ?_
      apply X_loop
      case ha => exact (by repeat (first | with_reducible exact agree_refl | refine agree_upd rfl ?_ | refine agree_mix rfl ?_ | refine agree_setAll rfl ?_))
      case hI => exact ⟨j + 1, _, _, rfl, rfl, by omega⟩
      case hm => exact by show 64 - (keyOf key ++ List.replicate (j + 1) 0).length < 64 - (keyOf key ++ List.replicate j 0).length; simp; omega
      case hH => exact (Subs.st inferInstance)
    ·
      have p22 := h22
      try simp only [decide_eq_true_eq, decide_eq_false_iff_not, Bool.not_eq_true', Bool.not_eq_false', Option.isNone_iff_eq_none, ne_eq, Decidable.not_not, Int.not_lt, Int.not_le] at p22
      have hj1 : (keyOf key).length + j = 64 := by simp only [List.length_append, List.length_replicate] at p22; omega
      obtain ⟨K, hK⟩ : ∃ K, K = (fill64 key).toList := ⟨_, rfl⟩
      have hKl : K.length = 64 := by rw [hK]; simp
      rw [fillZ key j hj1, ← hK]
      refine T_exit ?_
      refine X_then_exit ?_
      refine X_loop_exit ?_
      refine X_block_exit ?_
      refine X_then ?_
      refine T_seq ?_
      refine T_region ?_
      refine TL_q (Qt_assign (.slice _ _ _) rfl) rfl ?_
      refine TL_nil ?_
      refine X_then ?_
      refine T_seq ?_
      refine T_region ?_
      refine TL_q (Qt_assign (.slice _ _ _) rfl) rfl ?_
      refine TL_nil ?_
      refine X_then ?_
      refine T_seq ?_
      refine T_seq ?_
      refine T_region ?_
      refine TL_q (Qt_assign (.int .i64 _) rfl) rfl ?_
      refine TL_nil ?_
      refine X_then ?_
      refine T_block ?_
      refine T_loop [6, 7, 8, 26, 27, 28, 29, 30, 31, 32, 33, 34, 35, 36, 37, 38, 39, 40, 41, 42, 43, 44, 45] [8, 7, 6] (fun us H' => ∃ (i : Nat) (a : Option Addr) (c : Nat) (a' : Option Addr) (c' : Nat), us = [.int .i64 (i : Int), .slice a ((K.take i).map (· ^^^ 0x5c)).length c, .slice a' ((K.take i).map (· ^^^ 0x36)).length c'] ∧ row (.slice a ((K.take i).map (· ^^^ 0x5c)).length c) 5 1 (bytesV ((K.take i).map (· ^^^ 0x5c))) :: row (.slice a' ((K.take i).map (· ^^^ 0x36)).length c') 5 1 (bytesV ((K.take i).map (· ^^^ 0x36))) :: row (.slice a2 (K).length c2) 5 1 (bytesV (K)) :: blk b4 (.cells (hlist (zeroV 32)).toArray 36 (0, 0)) :: H = H' ∧ i ≤ 64) (fun us => match us with | .int _ i :: _ => 64 - i.toNat | _ => 0) ⟨0, none, 0, none, 0, by rw [List.take_zero]; rfl, by rw [List.take_zero]; rfl, by omega⟩ (fun w hw => (hw.addNilB 5).addNilB 5) ?_
      rintro τ1 _ _  ⟨i, a3, c3, a4, c4, rfl, rfl, hi0⟩ _
      refine T_seq ?_
      refine T_seq ?_
      refine T_region ?_
      refine TL_q (Qt_move (.int .i64 _) rfl) rfl ?_
      refine TL_q (Qt_lss rfl rfl) rfl ?_
      refine TL_nil ?_
      refine X_then ?_
      refine T_cond rfl (fun h27 => ?_) (fun h27 => ?_)
      ·
        have p27 := h27
        try simp only [decide_eq_true_eq, decide_eq_false_iff_not, Bool.not_eq_true', Bool.not_eq_false', Option.isNone_iff_eq_none, ne_eq, Decidable.not_not, Int.not_lt, Int.not_le] at p27
        have hi : i < 64 := by omega
        refine T_skip ?_
        refine X_then ?_
        refine T_seq ?_
        refine T_block ?_
        refine T_seq ?_
        refine T_region ?_
        refine TL_q (Qt_move (.slice _ _ _) rfl) rfl ?_
        refine TL_q (Qt_move (.slice _ _ _) rfl) rfl ?_
        refine TL_q (Qt_move (.int .i64 _) rfl) rfl ?_
        refine TL_q (Qt_indexR rfl rfl (by omega) (by rw [bytesV_length]; omega)) rfl ?_
        refine TL_q (Qt_loadR (.int .u8 (K[i].toNat : Int)) rfl (by rw [Int.toNat_natCast]; exact bytes_get _ _ (by omega))) rfl ?_
        refine TL_q (Qt_val (Qt_xorN (b := 54) rfl rfl rfl (K[i].toNat_lt) (by decide)) (congrArg (Value.int .u8) (xor_byte K[i] 0x36))) rfl ?_
        refine TL_e rfl (Ef_slice1 (v := .int .u8 ((K[i] ^^^ 0x36).toNat : Int)) rfl (fun a36 c36 => ?_))
        refine TL_e rfl (Ef_appendb (n := ((K[i] ^^^ 0x36).toNat : Int)) (sv := .slice _ _ _) (xv := .slice _ _ _) rfl rfl ⟨by omega, by have := (K[i] ^^^ 0x36).toNat_lt; omega⟩ (by simp; omega) rfl (fun a37 c37 => ?_))
        rw [u8Of_nat, take_map (· ^^^ 0x36) K i (by omega)]
        refine TL_q (Qt_assign (.slice _ _ _) rfl) rfl ?_
        refine TL_nil ?_
        refine X_then ?_
        refine T_region ?_
        refine TL_q (Qt_move (.slice _ _ _) rfl) rfl ?_
        refine TL_q (Qt_move (.slice _ _ _) rfl) rfl ?_
        refine TL_q (Qt_move (.int .i64 _) rfl) rfl ?_
        refine TL_q (Qt_indexR rfl rfl (by omega) (by rw [bytesV_length]; omega)) rfl ?_
        refine TL_q (Qt_loadR (.int .u8 (K[i].toNat : Int)) rfl (by rw [Int.toNat_natCast]; exact bytes_get _ _ (by omega))) rfl ?_
        refine TL_q (Qt_val (Qt_xorN (b := 92) rfl rfl rfl (K[i].toNat_lt) (by decide)) (congrArg (Value.int .u8) (xor_byte K[i] 0x5c))) rfl ?_
        refine TL_e rfl (Ef_slice1 (v := .int .u8 ((K[i] ^^^ 0x5c).toNat : Int)) rfl (fun a44 c44 => ?_))
        refine TL_e rfl (Ef_appendb (n := ((K[i] ^^^ 0x5c).toNat : Int)) (sv := .slice _ _ _) (xv := .slice _ _ _) rfl rfl ⟨by omega, by have := (K[i] ^^^ 0x5c).toNat_lt; omega⟩ (by simp; omega) rfl (fun a45 c45 => ?_))
        rw [u8Of_nat, take_map (· ^^^ 0x5c) K i (by omega)]
        refine TL_q (Qt_assign (.slice _ _ _) rfl) rfl ?_
        refine TL_nil ?_
        refine X_block ?_
        refine X_then ?_
        refine T_region ?_
        refine TL_q (Qt_move (.int .i64 _) rfl) rfl ?_
        first
          | refine TL_q (Qt_add rfl rfl (by omega) (by omega)) rfl ?_
          | refine TL_q (Qt_addw rfl rfl) rfl ?_
        refine TL_q (Qt_assign (.int .i64 _) rfl) rfl ?_
        refine TL_nil ?_
        apply X_loop
        case ha => exact (by repeat (first | with_reducible exact agree_refl | refine agree_upd rfl ?_ | refine agree_mix rfl ?_ | refine agree_setAll rfl ?_))
        case hI => exact ⟨i + 1, _, _, _, _, rfl, rfl, by omega⟩
        case hm => exact by show 64 - (i + 1 : Int).toNat < 64 - (i : Int).toNat; omega
        case hH => exact (Subs.st inferInstance)
      ·
        have p27 := h27
        try simp only [decide_eq_true_eq, decide_eq_false_iff_not, Bool.not_eq_true', Bool.not_eq_false', Option.isNone_iff_eq_none, ne_eq, Decidable.not_not, Int.not_lt, Int.not_le] at p27
        have et : K.take i = K := List.take_of_length_le (by omega)
        simp only [et]
        refine T_exit ?_
        refine X_then_exit ?_
        refine X_loop_exit ?_
        refine X_block_exit ?_
        refine X_then ?_
        refine T_seq ?_
        refine T_region ?_
        refine TL_q (Qt_move (.slice _ _ _) rfl) rfl ?_
        refine TL_q (Qt_move (.slice _ _ _) rfl) rfl ?_
        refine TL_e rfl (Ef_appendB (sv := .slice _ _ _) (xv := .slice _ _ _) rfl rfl (by simp; omega) rfl (fun a48 c48 => ?_))
        rw [show K.map (· ^^^ 0x36) ++ l = (turned (fill64 key) 0x36 l) from by rw [hK]; rfl]
        refine TL_q (Qt_assign (.slice _ _ _) rfl) rfl ?_
        refine TL_nil ?_
        refine X_then ?_
        refine T_seq ?_
        refine T_region ?_
        refine TL_q (Qt_move (.slice _ _ _) rfl) rfl ?_
        refine TL_q (Qt_move (.slice _ _ _) rfl) rfl ?_
        refine TL_e rfl (Ef_call (rSum_c (l := (turned (fill64 key) 0x36 l)) (by rw [turned_len]; omega)) rfl (fun x51 => ?_))
        refine TL_e rfl (Ef_call (rHash_c) rfl (fun x52 => ?_))
        refine TL_e rfl (Ef_appendB (sv := .slice _ _ _) (xv := .slice _ _ _) rfl rfl (by simp; omega) rfl (fun a53 c53 => ?_))
        rw [show K.map (· ^^^ 0x5c) ++ (sha (turned (fill64 key) 0x36 l)).toList = turned (fill64 key) 0x5c (sha (turned (fill64 key) 0x36 l)).toList from by rw [hK]; rfl]
        refine TL_q (Qt_assign (.slice _ _ _) rfl) rfl ?_
        refine TL_nil ?_
        refine X_then ?_
        refine T_seq ?_
        refine T_region ?_
        refine TL_q (Qt_move (.slice _ _ _) rfl) rfl ?_
        refine TL_e rfl (Ef_call (rSum_c (l := turned (fill64 key) 0x5c (sha (turned (fill64 key) 0x36 l)).toList) (by rw [turned_len]; simp)) rfl (fun x55 => ?_))
        refine TL_n (Ef_storeN rfl rfl (?_))
        refine TL_nil ?_
        refine X_then ?_
        refine T_ret ?_
        exact X_ret () [_] Try.results112 ⟨⟨_, rfl, res_cellN rfl⟩, trivial⟩ (by unfold tagOf; rfl) (Subs.st inferInstance)
end Go.Proofs.Ytpdpapcmfnhgpaa
