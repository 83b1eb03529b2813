/- Walks: the reference that gets a message of bytes. -/
import Derived.Test.YtgjkgdjjolnhdaaDoorRr
import Derived.Test.YtgjkgdjjolnhdaaDoorLp
import Derived.Test.YtgjkgdjjolnhdaaDoorTz
import Derived.Test.YtgjkgdjjolnhdaaDoorMs
namespace Go.Proofs.YtgjkgdjjolnhdaaDoor
open Go.RowKit Go.Sx
set_option maxRecDepth 100000
set_option linter.unusedSimpArgs false
set_option linter.unusedVariables false
theorem be_one {l : List UInt8} {o : Nat} (h : o < l.length) : be l o 1 = (l[o].toNat : Int) := by
 have e : (l.drop o).take 1 = [l[o]] := by rw [List.drop_eq_getElem_cons h]; rfl
 simp [be, e, beN]
theorem rd2 {l : List UInt8} {o : Nat} (h : o + 2 ≤ l.length) : ((rdFixed (l.drop o) ((2 : Nat) : Int)).2.1 : Int) = be l o 2 := by rw [rdFixed_ok rfl (by simp; omega)]; rfl
theorem hashAt_get {l : List UInt8} {i : Nat} (hi : i < 32) (h : 8 + i < l.length) : l[8 + i].toNat = (hashAt l)[i].toNat := by
 have e : (l.drop (8 + i)).take 1 = [l[8 + i]] := by rw [List.drop_eq_getElem_cons h]; rfl
 rw [← hashAt_byte hi h, e]
 simp [beN]
theorem be_lt2 (l : List UInt8) (o : Nat) : 0 ≤ be l o 2 ∧ be l o 2 < 65536 := by
 have h := beN_lt ((l.drop o).take 2)
 have h2 : (256 : Nat) ^ ((l.drop o).take 2).length ≤ 256 ^ 2 := Nat.pow_le_pow_right (by decide) (by simp; omega)
 have h3 : (256 : Nat) ^ 2 = 65536 := by decide
 unfold be
 omega
theorem rpt_err {l : List UInt8} (h : (rdCount l 16).1 ≠ 0) : (partsR l).1 = (rdCount l 16).1 := by rw [partsR, if_pos h]
attribute [local irreducible] beN rdText rdCount rdFixed partsR prs be hashAt

set_option maxHeartbeats 1000000 in
theorem rGetM_c {w0 : World} {H : List SA} {a0 : Option Addr} {l : List UInt8} {c0 : Nat} [hr : RdB w0 H (.slice a0 l.length c0) l] (hl : l.length ≤ 4294967296) :
 CT Tryd.prog w0 (H) 85 [.slice a0 l.length c0] (α := MsgV × List Nat) (fun y => .agg (MGotV.mk y.1 (getM l).1).cells) (fun y => pu (y.1.abs = (getM l).2) :: dat y.2 (Deep.leads y.1) :: H) := by
 refine CT_intro Tryd.func85 rfl Tryd.ntmps85 rfl ?_
 refine T_seq ?_
 refine T_region ?_
 refine TL_e rfl (Ef_allocN (fun b2 => ?_))
 refine TL_nil ?_
 refine X_then ?_
 refine T_seq ?_
 refine T_seq ?_
 refine T_region ?_
 refine TL_q (Qt_move (.slice _ _ _) rfl) rfl ?_
 refine TL_q (Qt_len_slice rfl Tryd.underlying27) rfl ?_
 refine TL_q (Qt_gtr rfl rfl) rfl ?_
 refine TL_nil ?_
 refine X_then ?_
 refine T_cond rfl (fun h12 => ?_) (fun h12 => ?_)
 ·
  have p12 := h12
  try simp only [decide_eq_true_eq, decide_eq_false_iff_not, Bool.not_eq_true', Bool.not_eq_false', Option.isNone_iff_eq_none, ne_eq, Decidable.not_not, Int.not_lt, Int.not_le] at p12
  refine T_seq ?_
  refine T_region ?_
  refine TL_q (Qt_build [(1, (.int .i64 _))] rfl (by kernel_rfl)) rfl ?_
  refine TL_n (Ef_storeN rfl rfl (?_))
  refine TL_nil ?_
  refine X_then ?_
  refine T_ret ?_
  refine X_then_ret ?_
  have e : getM l = (4, .zero) := getM_full (by omega)
  exact X_ret (MsgV.zero, []) [_] Tryd.results85 ⟨⟨_, rfl, res_cellN rfl⟩, trivial⟩ (by rw [e]; rfl) (fun w hw => (St.datMsgZero (Subs.st inferInstance w hw : St w0 H w)).addPure (by rw [e]; rfl))
 ·
  have p12 := h12
  try simp only [decide_eq_true_eq, decide_eq_false_iff_not, Bool.not_eq_true', Bool.not_eq_false', Option.isNone_iff_eq_none, ne_eq, Decidable.not_not, Int.not_lt, Int.not_le] at p12
  have h65 : ¬ 65504 < l.length := by omega
  refine T_skip ?_
  refine X_then ?_
  refine T_seq ?_
  refine T_seq ?_
  refine T_region ?_
  refine TL_q (Qt_move (.slice _ _ _) rfl) rfl ?_
  refine TL_q (Qt_len_slice rfl Tryd.underlying27) rfl ?_
  refine TL_q (Qt_lss rfl rfl) rfl ?_
  refine TL_nil ?_
  refine X_then ?_
  refine T_cond rfl (fun h16 => ?_) (fun h16 => ?_)
  ·
   have p16 := h16
   try simp only [decide_eq_true_eq, decide_eq_false_iff_not, Bool.not_eq_true', Bool.not_eq_false', Option.isNone_iff_eq_none, ne_eq, Decidable.not_not, Int.not_lt, Int.not_le] at p16
   refine T_seq ?_
   refine T_region ?_
   refine TL_q (Qt_build [(1, (.int .i64 _))] rfl (by kernel_rfl)) rfl ?_
   refine TL_n (Ef_storeN rfl rfl (?_))
   refine TL_nil ?_
   refine X_then ?_
   refine T_ret ?_
   refine X_then_ret ?_
   have e : getM l = (1, .zero) := by have hx := msgR_short (l := l) (by omega); rw [getM_bad h65 (by rw [hx]; first | assumption | decide | omega), hx]
   exact X_ret (MsgV.zero, []) [_] Tryd.results85 ⟨⟨_, rfl, res_cellN rfl⟩, trivial⟩ (by rw [e]; rfl) (fun w hw => (St.datMsgZero (Subs.st inferInstance w hw : St w0 H w)).addPure (by rw [e]; rfl))
  ·
   have p16 := h16
   try simp only [decide_eq_true_eq, decide_eq_false_iff_not, Bool.not_eq_true', Bool.not_eq_false', Option.isNone_iff_eq_none, ne_eq, Decidable.not_not, Int.not_lt, Int.not_le] at p16
   have h40 : ¬ l.length < 40 := by omega
   refine T_skip ?_
   refine X_then ?_
   refine T_seq ?_
   refine T_draw (blk b2 (.cells (MGotV.mk MsgV.zero 0).cells 104 (0, 0)) :: H) [(0, true), (1, true), (2, true), (3, true), (4, true), (5, true), (6, true), (7, true), (8, true), (9, false), (10, false)] (by kernel_rfl) (by kernel_rfl) rfl (by kernel_rfl) (Subs.st inferInstance) (fun hns0 => ?_)
   refine DL_q hns0 rfl (Qt_move (.slice _ _ _) rfl) rfl ?_
   refine DL_q hns0 rfl (Qt_indexR rfl rfl (by omega) (by simp; omega)) rfl ?_
   refine DL_q hns0 rfl (Qt_loadR (.int .u8 (l[0].toNat : Int)) rfl (bytes_get l 0 (by omega))) rfl ?_
   refine DL_q hns0 rfl (Qt_val (Qt_conv_i64 rfl rfl Tryd.underlying3 (by omega) (by have := l[0].toNat_lt; omega)) (congrArg (Value.int .i64) (be_one (l := l) (o := 0) (by omega)).symm)) rfl ?_
   refine DL_q hns0 rfl (Qt_move (.slice _ _ _) rfl) rfl ?_
   refine DL_q hns0 rfl (Qt_indexR rfl rfl (by omega) (by simp; omega)) rfl ?_
   refine DL_q hns0 rfl (Qt_loadR (.int .u8 (l[1].toNat : Int)) rfl (bytes_get l 1 (by omega))) rfl ?_
   refine DL_q hns0 rfl (Qt_val (Qt_conv_i64 rfl rfl Tryd.underlying3 (by omega) (by have := l[1].toNat_lt; omega)) (congrArg (Value.int .i64) (be_one (l := l) (o := 0 + 1) (by omega)).symm)) rfl ?_
   refine DL_q hns0 rfl (Qt_build [(0, (.int .i64 _)), (1, (.int .i64 _))] rfl (by kernel_rfl)) rfl ?_
   refine DL_e rfl rfl (Ef_allocN (fun b3 => ⟨(Subs.st inferInstance), ?_⟩))
   refine DL_n rfl (Ef_storeN rfl rfl (⟨(Subs.st inferInstance), ?_⟩))
   refine DL_nil ?_
   refine X_then ?_
   refine T_seq ?_
   refine T_region ?_
   refine TL_q (Qt_move (.slice _ _ _) rfl) rfl ?_
   refine TL_e rfl (Ef_call (rReadFixed_c (k := 2) (n := ((2 : Nat) : Int)) (by omega) hl) rfl (fun x28 => ?_))
   refine TL_q (Qt_field1 (ft := 112) rfl rfl) rfl ?_
   refine TL_q (Qt_val (Qt_conv_i64 rfl rfl Tryd.underlying3 (by rw [rd2 (by omega)]; have := be_lt2 l 2; omega) (by rw [rd2 (by omega)]; have := be_lt2 l 2; omega)) (congrArg (Value.int .i64) (rd2 (l := l) (o := 2) (by omega)))) rfl ?_
   refine TL_q (Qt_fieldAddr 2 rfl rfl) rfl ?_
   refine TL_n (Ef_store1 (.int .i64 _) rfl rfl (?_))
   refine TL_nil ?_
   refine X_then ?_
   refine T_seq ?_
   refine T_region ?_
   refine TL_q (Qt_move (.slice _ _ _) rfl) rfl ?_
   refine TL_e rfl (Ef_call (rReadFixed_c (k := 4) (n := ((2 : Nat) : Int)) (by omega) hl) rfl (fun x33 => ?_))
   refine TL_q (Qt_field1 (ft := 112) rfl rfl) rfl ?_
   refine TL_q (Qt_val (Qt_conv_i64 rfl rfl Tryd.underlying3 (by rw [rd2 (by omega)]; have := be_lt2 l 4; omega) (by rw [rd2 (by omega)]; have := be_lt2 l 4; omega)) (congrArg (Value.int .i64) (rd2 (l := l) (o := 4) (by omega)))) rfl ?_
   refine TL_q (Qt_fieldAddr 3 rfl rfl) rfl ?_
   refine TL_n (Ef_store1 (.int .i64 _) rfl rfl (?_))
   refine TL_nil ?_
   refine X_then ?_
   refine T_seq ?_
   refine T_region ?_
   refine TL_q (Qt_move (.slice _ _ _) rfl) rfl ?_
   refine TL_e rfl (Ef_call (rReadFixed_c (k := 6) (n := ((2 : Nat) : Int)) (by omega) hl) rfl (fun x38 => ?_))
   refine TL_q (Qt_field1 (ft := 112) rfl rfl) rfl ?_
   refine TL_q (Qt_val (Qt_conv_i64 rfl rfl Tryd.underlying3 (by rw [rd2 (by omega)]; have := be_lt2 l 6; omega) (by rw [rd2 (by omega)]; have := be_lt2 l 6; omega)) (congrArg (Value.int .i64) (rd2 (l := l) (o := 6) (by omega)))) rfl ?_
   refine TL_q (Qt_fieldAddr 4 rfl rfl) rfl ?_
   refine TL_n (Ef_store1 (.int .i64 _) rfl rfl (?_))
   refine TL_nil ?_
   refine X_then ?_
   refine T_seq ?_
   refine T_seq ?_
   refine T_region ?_
   refine TL_q (Qt_assign (.int .i64 _) rfl) rfl ?_
   refine TL_nil ?_
   refine X_then ?_
   refine T_block ?_
   refine T_loop [4, 42, 43, 44, 45, 46, 47, 48, 49, 50, 51, 52, 53] [4] (fun us H' => ∃ (i : Nat), us = [.int .i64 (i : Int)] ∧ blk b3 (.cells (MsgV.mk (be l 0 1) (be l (0 + 1) 1) (be l (0 + 1 + 1) 2) (be l (0 + 1 + 1 + 2) 2) (be l (0 + 1 + 1 + 2 + 2) 2) (hvec (hashAt l) i) ⟨none, 0, []⟩ ⟨none, 0, []⟩).cells 30 (0, 0)) :: blk b2 (.cells (MGotV.mk MsgV.zero 0).cells 104 (0, 0)) :: H = H' ∧ i ≤ 32) (fun us => match us with | .int _ i :: _ => 32 - i.toNat | _ => 0) ⟨0, rfl, rfl, by omega⟩ (fun w hw => by
    rw [hvec_zero]
    exact (Subs.st inferInstance w hw : St w0 (blk b3 (.cells (MsgV.mk (be l 0 1) (be l (0 + 1) 1) (be l (0 + 1 + 1) 2) (be l (0 + 1 + 1 + 2) 2) (be l (0 + 1 + 1 + 2 + 2) 2) (zeroV 32) ⟨none, 0, []⟩ ⟨none, 0, []⟩).cells 30 (0, 0)) :: blk b2 (.cells (MGotV.mk MsgV.zero 0).cells 104 (0, 0)) :: H) w)) ?_
   rintro τ0 _ _  ⟨i, rfl, rfl, hi0⟩ _
   refine T_seq ?_
   refine T_seq ?_
   refine T_region ?_
   refine TL_q (Qt_move (.int .i64 _) rfl) rfl ?_
   refine TL_q (Qt_lss rfl rfl) rfl ?_
   refine TL_nil ?_
   refine X_then ?_
   refine T_cond rfl (fun h43 => ?_) (fun h43 => ?_)
   ·
    have p43 := h43
    try simp only [decide_eq_true_eq, decide_eq_false_iff_not, Bool.not_eq_true', Bool.not_eq_false', Option.isNone_iff_eq_none, ne_eq, Decidable.not_not, Int.not_lt, Int.not_le] at p43
    have hi : i < 32 := by omega
    refine T_skip ?_
    refine X_then ?_
    refine T_seq ?_
    refine T_block ?_
    refine T_region ?_
    refine TL_q (Qt_move (.int .i64 _) rfl) rfl ?_
    refine TL_q (Qt_move (.slice _ _ _) rfl) rfl ?_
    refine TL_q (Qt_move (.int .i64 _) rfl) rfl ?_
    first
     | refine TL_q (Qt_add rfl rfl (by omega) (by omega)) rfl ?_
     | refine TL_q (Qt_addw rfl rfl) rfl ?_
    refine TL_q (Qt_indexR rfl rfl (by omega) (by simp; omega)) rfl ?_
    refine TL_q (Qt_loadR (.int .u8 (l[8 + i].toNat : Int)) rfl (bytes_get l (8 + i) (by omega))) rfl ?_
    have hby := hashAt_get (l := l) hi (by omega)
    rw [hby]
    refine TL_q (Qt_fieldAddr 5 rfl rfl) rfl ?_
    refine TL_q (Qt_indexAddr_arr (sz := 1) rfl rfl Tryd.underlying26 rfl rfl (by omega) (by omega)) rfl ?_
    have hput : Put ((MsgV.mk (be l 0 1) (be l (0 + 1) 1) (be l (0 + 1 + 1) 2) (be l (0 + 1 + 1 + 2) 2) (be l (0 + 1 + 1 + 2 + 2) 2) (hvec (hashAt l) i) ⟨none, 0, []⟩ ⟨none, 0, []⟩)).cells (5 + (i : Int).toNat * 1) (.int .u8 ((hashAt l)[i].toNat : Int)) ((MsgV.mk (be l 0 1) (be l (0 + 1) 1) (be l (0 + 1 + 1) 2) (be l (0 + 1 + 1 + 2) 2) (be l (0 + 1 + 1 + 2 + 2) 2) (hvec (hashAt l) (i + 1)) ⟨none, 0, []⟩ ⟨none, 0, []⟩)).cells := by
     have h1 := MsgV.putHash (MsgV.mk (be l 0 1) (be l (0 + 1) 1) (be l (0 + 1 + 1) 2) (be l (0 + 1 + 1 + 2) 2) (be l (0 + 1 + 1 + 2 + 2) 2) (hvec (hashAt l) i) ⟨none, 0, []⟩ ⟨none, 0, []⟩) i hi (hashAt l)[i]
     rw [show ({ (MsgV.mk (be l 0 1) (be l (0 + 1) 1) (be l (0 + 1 + 1) 2) (be l (0 + 1 + 1 + 2) 2) (be l (0 + 1 + 1 + 2 + 2) 2) (hvec (hashAt l) i) ⟨none, 0, []⟩ ⟨none, 0, []⟩) with hash := (hvec (hashAt l) i).set i (hashAt l)[i] } : MsgV) = (MsgV.mk (be l 0 1) (be l (0 + 1) 1) (be l (0 + 1 + 1) 2) (be l (0 + 1 + 1 + 2) 2) (be l (0 + 1 + 1 + 2 + 2) 2) (hvec (hashAt l) (i + 1)) ⟨none, 0, []⟩ ⟨none, 0, []⟩) from by rw [← hvec_set (hashAt l) i hi]] at h1
     rw [show 5 + (i : Int).toNat * 1 = 5 + i from by simp]; exact h1
    refine TL_n (Ef_store1 (.int .u8 _) rfl rfl (?_))
    refine TL_nil ?_
    refine X_block ?_
    refine X_then ?_
    refine T_region ?_
    refine TL_q (Qt_move (.int .i64 _) rfl) rfl ?_
    first
     | refine TL_q (Qt_add rfl rfl (by omega) (by omega)) rfl ?_
     | refine TL_q (Qt_addw rfl rfl) rfl ?_
    refine TL_q (Qt_assign (.int .i64 _) rfl) rfl ?_
    refine TL_nil ?_
    apply X_loop
    case ha => exact (by repeat (first | with_reducible exact agree_refl | refine agree_upd rfl ?_ | refine agree_mix rfl ?_ | refine agree_setAll rfl ?_))
    case hI => exact ⟨i + 1, rfl, rfl, by omega⟩
    case hm => exact by show 32 - (i + 1 : Int).toNat < 32 - (i : Int).toNat; omega
    case hH => exact (Subs.st inferInstance)
   ·
    have p43 := h43
    try simp only [decide_eq_true_eq, decide_eq_false_iff_not, Bool.not_eq_true', Bool.not_eq_false', Option.isNone_iff_eq_none, ne_eq, Decidable.not_not, Int.not_lt, Int.not_le] at p43
    have hi : i = 32 := by omega
    subst hi
    rw [hvec_all]
    refine T_exit ?_
    refine X_then_exit ?_
    refine X_loop_exit ?_
    refine X_block_exit ?_
    refine X_then ?_
    refine T_seq ?_
    refine T_region ?_
    refine TL_q (Qt_move (.slice _ _ _) rfl) rfl ?_
    refine TL_e rfl (Ef_call (rReadText_c (k := 8 + 32) (m := 65536) (by omega) hl (by decide) (by decide)) rfl (fun x55 => ?_))
    rw [show rdText (l.drop (8 + 32)) 65536 = bodyR l from rfl]
    have hbb : (bodyR l).2.2 ≤ (l.drop (8 + 32)).length := (rdText_bound (l.drop (8 + 32)) 65536).1
    rw [List.length_drop] at hbb
    have hkb : 8 + 32 + (bodyR l).2.2 ≤ l.length := by omega
    refine TL_e rfl (Ef_allocN (fun b5 => ?_))
    refine TL_n (Ef_storeN rfl rfl (?_))
    refine TL_nil ?_
    refine X_then ?_
    refine T_seq ?_
    refine T_seq ?_
    refine T_region ?_
    refine TL_q (Qt_fieldAddr 3 rfl rfl) rfl ?_
    refine TL_q (Qt_load1 rfl) rfl ?_
    refine TL_q (Qt_neq rfl rfl) rfl ?_
    refine TL_nil ?_
    refine X_then ?_
    refine T_cond rfl (fun h58 => ?_) (fun h58 => ?_)
    ·
     have p58 := h58
     try simp only [decide_eq_true_eq, decide_eq_false_iff_not, Bool.not_eq_true', Bool.not_eq_false', Option.isNone_iff_eq_none, ne_eq, Decidable.not_not, Int.not_lt, Int.not_le] at p58
     refine T_seq ?_
     refine T_region ?_
     refine TL_q (Qt_fieldAddr 3 rfl rfl) rfl ?_
     refine TL_q (Qt_load1 rfl) rfl ?_
     refine TL_q (Qt_build [(1, (.int .i64 _))] rfl (by kernel_rfl)) rfl ?_
     refine TL_n (Ef_storeN rfl rfl (?_))
     refine TL_nil ?_
     refine X_then ?_
     refine T_ret ?_
     refine X_then_ret ?_
     have e : getM l = ((bodyR l).1, .zero) := by have hx := msgR_body h40 (by omega); rw [getM_bad h65 (by rw [hx]; first | assumption | decide | omega), hx]
     exact X_ret (MsgV.zero, []) [_] Tryd.results85 ⟨⟨_, rfl, res_cellN rfl⟩, trivial⟩ (by rw [e]; rfl) (fun w hw => (St.datMsgZero (Subs.st inferInstance w hw : St w0 H w)).addPure (by rw [e]; rfl))
    ·
     have p58 := h58
     try simp only [decide_eq_true_eq, decide_eq_false_iff_not, Bool.not_eq_true', Bool.not_eq_false', Option.isNone_iff_eq_none, ne_eq, Decidable.not_not, Int.not_lt, Int.not_le] at p58
     have hbz : (bodyR l).1 = 0 := by omega
     refine T_skip ?_
     refine X_then ?_
     refine T_seq ?_
     refine T_region ?_
     refine TL_q (Qt_fieldAddr 1 rfl rfl) rfl ?_
     refine TL_q (Qt_load1 rfl) rfl ?_
     refine TL_q (Qt_fieldAddr 37 rfl rfl) rfl ?_
     refine TL_n (Ef_store1 (.slice _ _ _) rfl rfl (?_))
     refine TL_nil ?_
     refine X_then ?_
     refine T_seq ?_
     refine T_region ?_
     refine TL_q (Qt_fieldAddr 2 rfl rfl) rfl ?_
     refine TL_q (Qt_load1 rfl) rfl ?_
     refine TL_q (Qt_val (Qt_add rfl rfl (by omega) (by omega)) (congrArg (Value.int .i64) (show (40 : Int) + ((bodyR l).2.2 : Int) = ((8 + 32 + (bodyR l).2.2 : Nat) : Int) from by omega))) rfl ?_
     refine TL_q (Qt_assign (.int .i64 _) rfl) rfl ?_
     refine TL_nil ?_
     refine X_then ?_
     refine T_seq ?_
     refine T_region ?_
     refine TL_q (Qt_move (.slice _ _ _) rfl) rfl ?_
     refine TL_q (Qt_move (.int .i64 _) rfl) rfl ?_
     refine TL_e rfl (Ef_call (rReadCount_c (k := 8 + 32 + (bodyR l).2.2) (m := 16) hkb hl (by decide) (by decide)) rfl (fun x70 => ?_))
     have hcb := (rdCount_bound (l.drop (8 + 32 + (bodyR l).2.2)) 16).2.1
     rw [List.length_drop] at hcb
     refine TL_e rfl (Ef_allocN (fun b7 => ?_))
     refine TL_n (Ef_storeN rfl rfl (?_))
     refine TL_nil ?_
     refine X_then ?_
     refine T_seq ?_
     refine T_seq ?_
     refine T_region ?_
     refine TL_q (Qt_fieldAddr 3 rfl rfl) rfl ?_
     refine TL_q (Qt_load1 rfl) rfl ?_
     refine TL_q (Qt_neq rfl rfl) rfl ?_
     refine TL_nil ?_
     refine X_then ?_
     refine T_cond rfl (fun h73 => ?_) (fun h73 => ?_)
     ·
      have p73 := h73
      try simp only [decide_eq_true_eq, decide_eq_false_iff_not, Bool.not_eq_true', Bool.not_eq_false', Option.isNone_iff_eq_none, ne_eq, Decidable.not_not, Int.not_lt, Int.not_le] at p73
      refine T_seq ?_
      refine T_region ?_
      refine TL_q (Qt_fieldAddr 3 rfl rfl) rfl ?_
      refine TL_q (Qt_load1 rfl) rfl ?_
      refine TL_q (Qt_build [(1, (.int .i64 _))] rfl (by kernel_rfl)) rfl ?_
      refine TL_n (Ef_storeN rfl rfl (?_))
      refine TL_nil ?_
      refine X_then ?_
      refine T_ret ?_
      refine X_then_ret ?_
      have e : getM l = ((rdCount (l.drop (8 + 32 + (bodyR l).2.2)) 16).1, .zero) := by have hy : (restR l).1 = (rdCount (l.drop (8 + 32 + (bodyR l).2.2)) 16).1 := rpt_err (by omega); have hx := msgR_rest h40 hbz (by rw [hy]; omega); rw [getM_bad h65 (by rw [hx]; show (restR l).1 ≠ 0; rw [hy]; omega), hx, hy]
      exact X_ret (MsgV.zero, []) [_] Tryd.results85 ⟨⟨_, rfl, res_cellN rfl⟩, trivial⟩ (by rw [e]; rfl) (fun w hw => (St.datMsgZero (Subs.st inferInstance w hw : St w0 H w)).addPure (by rw [e]; rfl))
     ·
      have p73 := h73
      try simp only [decide_eq_true_eq, decide_eq_false_iff_not, Bool.not_eq_true', Bool.not_eq_false', Option.isNone_iff_eq_none, ne_eq, Decidable.not_not, Int.not_lt, Int.not_le] at p73
      have hcz : (rdCount (l.drop (8 + 32 + (bodyR l).2.2)) 16).1 = 0 := by omega
      have hn16 : (rdCount (l.drop (8 + 32 + (bodyR l).2.2)) 16).2.1 ≤ 16 := by have := (rdCount_ok hcz).2.1; rw [← (rdCount_ok hcz).1] at this; omega
      refine T_skip ?_
      refine X_then ?_
      refine T_seq ?_
      refine T_region ?_
      refine TL_q (Qt_move (.int .i64 _) rfl) rfl ?_
      refine TL_q (Qt_fieldAddr 2 rfl rfl) rfl ?_
      refine TL_q (Qt_load1 rfl) rfl ?_
      refine TL_q (Qt_val (Qt_add rfl rfl (by omega) (by omega)) (congrArg (Value.int .i64) (show ((8 + 32 + (bodyR l).2.2 : Nat) : Int) + ((rdCount (l.drop (8 + 32 + (bodyR l).2.2)) 16).2.2 : Int) = (((8 + 32 + (bodyR l).2.2 + (rdCount (l.drop (8 + 32 + (bodyR l).2.2)) 16).2.2) : Nat) : Int) from by omega))) rfl ?_
      refine TL_q (Qt_assign (.int .i64 _) rfl) rfl ?_
      refine TL_nil ?_
      refine X_then ?_
      refine T_seq ?_
      refine T_seq ?_
      refine T_region ?_
      refine TL_q (Qt_assign (.int .i64 _) rfl) rfl ?_
      refine TL_nil ?_
      refine X_then ?_
      refine T_block ?_
      refine T_loop [6, 8, 9, 81, 82, 83, 84, 85, 86, 87, 88, 89, 90, 91, 92, 93, 94, 95, 96, 97, 98, 99, 100, 101, 102, 103, 104, 105, 106, 107] [8, 6] (fun us H' => ∃ (i : Nat) (q : Nat) (a : Option Addr) (c : Nat) (ts : List BS) (fp : List Nat), us = [.int .i64 (i : Int), .int .i64 (q : Int)] ∧ row (.slice a (ts).length c) 27 1 ((ts).map BS.val) :: eachA fp ts :: row (.slice x55.a (bodyR l).2.1.length x55.c) 5 1 (bytesV (bodyR l).2.1) :: blk b3 (.cells (MsgV.mk (be l 0 1) (be l (0 + 1) 1) (be l (0 + 1 + 1) 2) (be l (0 + 1 + 1 + 2) 2) (be l (0 + 1 + 1 + 2 + 2) 2) (hashAt l) ⟨x55.a, x55.c, (bodyR l).2.1⟩ ⟨a, c, ts⟩).cells 30 (0, 0)) :: blk b2 (.cells (MGotV.mk MsgV.zero 0).cells 104 (0, 0)) :: blk b5 (.cells (GotV.mk 0 ⟨x55.a, x55.c, (bodyR l).2.1⟩ ((bodyR l).2.2 : Int) (bodyR l).1).cells 149 (0, 0)) :: blk b7 (.cells (GotV.mk ((rdCount (l.drop (8 + 32 + (bodyR l).2.2)) 16).2.1 : Int) ⟨none, 0, []⟩ ((rdCount (l.drop (8 + 32 + (bodyR l).2.2)) 16).2.2 : Int) (rdCount (l.drop (8 + 32 + (bodyR l).2.2)) 16).1).cells 149 (0, 0)) :: H = H' ∧ i ≤ (rdCount (l.drop (8 + 32 + (bodyR l).2.2)) 16).2.1 ∧ (PrsAt l (rdCount (l.drop (8 + 32 + (bodyR l).2.2)) 16).2.1 i ((rdCount (l.drop (8 + 32 + (bodyR l).2.2)) 16).2.1 - i) (ts.map BS.l) (8 + 32 + (bodyR l).2.2 + (rdCount (l.drop (8 + 32 + (bodyR l).2.2)) 16).2.2) q) ∧ (q ≤ l.length) ∧ ((8 + 32 + (bodyR l).2.2 + (rdCount (l.drop (8 + 32 + (bodyR l).2.2)) 16).2.2) ≤ q) ∧ (ts.length = i)) (fun us => match us with | .int _ i :: _ => (rdCount (l.drop (8 + 32 + (bodyR l).2.2)) 16).2.1 - i.toNat | _ => 0) ⟨0, (8 + 32 + (bodyR l).2.2 + (rdCount (l.drop (8 + 32 + (bodyR l).2.2)) 16).2.2), none, 0, [], [], rfl, rfl, by omega, PrsAt.start, by omega, Nat.le_refl _, rfl⟩ (fun w hw => by
       have h0 : St w0 (row (.slice x55.a (bodyR l).2.1.length x55.c) 5 1 (bytesV (bodyR l).2.1) :: blk b3 (.cells (MsgV.mk (be l 0 1) (be l (0 + 1) 1) (be l (0 + 1 + 1) 2) (be l (0 + 1 + 1 + 2) 2) (be l (0 + 1 + 1 + 2 + 2) 2) (hashAt l) ⟨x55.a, x55.c, (bodyR l).2.1⟩ ⟨none, 0, []⟩).cells 30 (0, 0)) :: blk b2 (.cells (MGotV.mk MsgV.zero 0).cells 104 (0, 0)) :: blk b5 (.cells (GotV.mk 0 ⟨x55.a, x55.c, (bodyR l).2.1⟩ ((bodyR l).2.2 : Int) (bodyR l).1).cells 149 (0, 0)) :: blk b7 (.cells (GotV.mk ((rdCount (l.drop (8 + 32 + (bodyR l).2.2)) 16).2.1 : Int) ⟨none, 0, []⟩ ((rdCount (l.drop (8 + 32 + (bodyR l).2.2)) 16).2.2 : Int) (rdCount (l.drop (8 + 32 + (bodyR l).2.2)) 16).1).cells 149 (0, 0)) :: H) w := Subs.st inferInstance w hw
       exact (h0.eachNil).addNil 27 1) ?_
      rintro τ1 _ _  ⟨i, q, a, c, ts, fp, rfl, rfl, hi0, hp, hql, hkq, hll⟩ _
      refine T_seq ?_
      refine T_seq ?_
      refine T_region ?_
      refine TL_q (Qt_move (.int .i64 _) rfl) rfl ?_
      refine TL_q (Qt_fieldAddr 0 rfl rfl) rfl ?_
      refine TL_q (Qt_load1 rfl) rfl ?_
      refine TL_q (Qt_conv_i64 rfl rfl Tryd.underlying3 (by omega) (by omega)) rfl ?_
      refine TL_q (Qt_lss rfl rfl) rfl ?_
      refine TL_nil ?_
      refine X_then ?_
      refine T_cond rfl (fun h85 => ?_) (fun h85 => ?_)
      ·
       have p85 := h85
       try simp only [decide_eq_true_eq, decide_eq_false_iff_not, Bool.not_eq_true', Bool.not_eq_false', Option.isNone_iff_eq_none, ne_eq, Decidable.not_not, Int.not_lt, Int.not_le] at p85
       have hik : i < (rdCount (l.drop (8 + 32 + (bodyR l).2.2)) 16).2.1 := by omega
       obtain ⟨r, hr2⟩ : ∃ r, (rdCount (l.drop (8 + 32 + (bodyR l).2.2)) 16).2.1 - i = r + 1 := ⟨(rdCount (l.drop (8 + 32 + (bodyR l).2.2)) 16).2.1 - i - 1, by omega⟩
       rw [hr2] at hp
       refine T_skip ?_
       refine X_then ?_
       refine T_seq ?_
       refine T_block ?_
       refine T_seq ?_
       refine T_region ?_
       refine TL_q (Qt_move (.slice _ _ _) rfl) rfl ?_
       refine TL_q (Qt_move (.int .i64 _) rfl) rfl ?_
       refine TL_e rfl (Ef_call (rReadText_c (k := q) (m := 65536) hql hl (by decide) (by decide)) rfl (fun x90 => ?_))
       have htb := (rdText_bound (l.drop q) 65536).1
       rw [List.length_drop] at htb
       refine TL_e rfl (Ef_allocN (fun b9 => ?_))
       refine TL_n (Ef_storeN rfl rfl (?_))
       refine TL_nil ?_
       refine X_then ?_
       refine T_seq ?_
       refine T_seq ?_
       refine T_region ?_
       refine TL_q (Qt_fieldAddr 3 rfl rfl) rfl ?_
       refine TL_q (Qt_load1 rfl) rfl ?_
       refine TL_q (Qt_neq rfl rfl) rfl ?_
       refine TL_nil ?_
       refine X_then ?_
       refine T_cond rfl (fun h93 => ?_) (fun h93 => ?_)
       ·
        have p93 := h93
        try simp only [decide_eq_true_eq, decide_eq_false_iff_not, Bool.not_eq_true', Bool.not_eq_false', Option.isNone_iff_eq_none, ne_eq, Decidable.not_not, Int.not_lt, Int.not_le] at p93
        refine T_seq ?_
        refine T_region ?_
        refine TL_q (Qt_fieldAddr 3 rfl rfl) rfl ?_
        refine TL_q (Qt_load1 rfl) rfl ?_
        refine TL_q (Qt_build [(1, (.int .i64 _))] rfl (by kernel_rfl)) rfl ?_
        refine TL_n (Ef_storeN rfl rfl (?_))
        refine TL_nil ?_
        refine X_then ?_
        refine T_ret ?_
        refine X_then_ret ?_
        refine X_block_ret ?_
        refine X_then_ret ?_
        refine X_loop_ret ?_
        refine X_block_ret ?_
        refine X_then_ret ?_
        have e : getM l = ((rdText (l.drop q) 65536).1, .zero) := by have hb := hp.bad (by omega : (rdText (l.drop q) 65536).1 ≠ 0); have hy : (restR l).1 = (rdText (l.drop q) 65536).1 := (by rw [restR, partsR, if_neg (by omega), if_pos (by rw [List.drop_drop, hb]; omega), List.drop_drop, hb]); have hx := msgR_rest h40 hbz (by rw [hy]; omega); rw [getM_bad h65 (by rw [hx]; show (restR l).1 ≠ 0; rw [hy]; omega), hx, hy]
        exact X_ret (MsgV.zero, []) [_] Tryd.results85 ⟨⟨_, rfl, res_cellN rfl⟩, trivial⟩ (by rw [e]; rfl) (fun w hw => (St.datMsgZero (Subs.st inferInstance w hw : St w0 H w)).addPure (by rw [e]; rfl))
       ·
        have p93 := h93
        try simp only [decide_eq_true_eq, decide_eq_false_iff_not, Bool.not_eq_true', Bool.not_eq_false', Option.isNone_iff_eq_none, ne_eq, Decidable.not_not, Int.not_lt, Int.not_le] at p93
        have het : (rdText (l.drop q) 65536).1 = 0 := by omega
        refine T_skip ?_
        refine X_then ?_
        refine T_seq ?_
        refine T_region ?_
        refine TL_q (Qt_fieldAddr 38 rfl rfl) rfl ?_
        refine TL_q (Qt_load1 rfl) rfl ?_
        refine TL_q (Qt_fieldAddr 1 rfl rfl) rfl ?_
        refine TL_q (Qt_load1 rfl) rfl ?_
        refine TL_e rfl (Ef_slice1 (v := .slice _ _ _) rfl (fun a101 c101 => ?_))
        refine TL_e rfl (Ef_appendP (sv := .slice _ _ _) (xv := .slice _ _ _) ⟨x90.a, x90.c, (rdText (l.drop q) 65536).2.1⟩ rfl rfl (by omega) rfl (fun a102 c102 => ?_))
        refine TL_q (Qt_fieldAddr 38 rfl rfl) rfl ?_
        refine TL_n (Ef_store1 (.slice _ _ _) rfl rfl (?_))
        refine TL_nil ?_
        refine X_then ?_
        refine T_region ?_
        refine TL_q (Qt_move (.int .i64 _) rfl) rfl ?_
        refine TL_q (Qt_fieldAddr 2 rfl rfl) rfl ?_
        refine TL_q (Qt_load1 rfl) rfl ?_
        first
         | refine TL_q (Qt_add rfl rfl (by omega) (by omega)) rfl ?_
         | refine TL_q (Qt_addw rfl rfl) rfl ?_
        refine TL_q (Qt_assign (.int .i64 _) rfl) rfl ?_
        refine TL_nil ?_
        refine X_block ?_
        refine X_then ?_
        refine T_region ?_
        refine TL_q (Qt_move (.int .i64 _) rfl) rfl ?_
        first
         | refine TL_q (Qt_add rfl rfl (by omega) (by omega)) rfl ?_
         | refine TL_q (Qt_addw rfl rfl) rfl ?_
        refine TL_q (Qt_assign (.int .i64 _) rfl) rfl ?_
        refine TL_nil ?_
        apply X_loop
        case ha => exact (by repeat (first | with_reducible exact agree_refl | refine agree_upd rfl ?_ | refine agree_mix rfl ?_ | refine agree_setAll rfl ?_))
        case hI => exact ⟨i + 1, q + (rdText (l.drop q) 65536).2.2, a102, c102, ts ++ [⟨x90.a, x90.c, (rdText (l.drop q) 65536).2.1⟩], rowFp (.slice x90.a (rdText (l.drop q) 65536).2.1.length x90.c) ++ fp, rfl, rfl, by omega, by rw [show (rdCount (l.drop (8 + 32 + (bodyR l).2.2)) 16).2.1 - (i + 1) = r from by omega, List.map_append]; exact hp.step hkq het, by omega, by omega, by simp [hll]⟩
        case hm => exact by show (rdCount (l.drop (8 + 32 + (bodyR l).2.2)) 16).2.1 - (i + 1 : Int).toNat < (rdCount (l.drop (8 + 32 + (bodyR l).2.2)) 16).2.1 - (i : Int).toNat; omega
        case hH => exact fun w hw => eachUnder (Subs.st inferInstance w hw : St w0 (row (.slice a102 (ts ++ [(⟨x90.a, x90.c, (rdText (l.drop q) 65536).2.1⟩ : BS)]).length c102) 27 1 ((ts ++ [(⟨x90.a, x90.c, (rdText (l.drop q) 65536).2.1⟩ : BS)]).map BS.val) :: row (BS.val ⟨x90.a, x90.c, (rdText (l.drop q) 65536).2.1⟩) 5 1 (bytesV (BS.l ⟨x90.a, x90.c, (rdText (l.drop q) 65536).2.1⟩)) :: eachA fp ts :: row (.slice x55.a (bodyR l).2.1.length x55.c) 5 1 (bytesV (bodyR l).2.1) :: blk b3 (.cells (MsgV.mk (be l 0 1) (be l (0 + 1) 1) (be l (0 + 1 + 1) 2) (be l (0 + 1 + 1 + 2) 2) (be l (0 + 1 + 1 + 2 + 2) 2) (hashAt l) ⟨x55.a, x55.c, (bodyR l).2.1⟩ ⟨a102, c102, ts ++ [⟨x90.a, x90.c, (rdText (l.drop q) 65536).2.1⟩]⟩).cells 30 (0, 0)) :: blk b2 (.cells (MGotV.mk MsgV.zero 0).cells 104 (0, 0)) :: blk b5 (.cells (GotV.mk 0 ⟨x55.a, x55.c, (bodyR l).2.1⟩ ((bodyR l).2.2 : Int) (bodyR l).1).cells 149 (0, 0)) :: blk b7 (.cells (GotV.mk ((rdCount (l.drop (8 + 32 + (bodyR l).2.2)) 16).2.1 : Int) ⟨none, 0, []⟩ ((rdCount (l.drop (8 + 32 + (bodyR l).2.2)) 16).2.2 : Int) (rdCount (l.drop (8 + 32 + (bodyR l).2.2)) 16).1).cells 149 (0, 0)) :: H) w)
      ·
       have p85 := h85
       try simp only [decide_eq_true_eq, decide_eq_false_iff_not, Bool.not_eq_true', Bool.not_eq_false', Option.isNone_iff_eq_none, ne_eq, Decidable.not_not, Int.not_lt, Int.not_le] at p85
       have hi : i = (rdCount (l.drop (8 + 32 + (bodyR l).2.2)) 16).2.1 := by omega
       rw [hi, Nat.sub_self] at hp
       have hd := hp.done
       have hrx : restR l = (0, ts.map BS.l, (rdCount (l.drop (8 + 32 + (bodyR l).2.2)) 16).2.2 + (q - (8 + 32 + (bodyR l).2.2 + (rdCount (l.drop (8 + 32 + (bodyR l).2.2)) 16).2.2))) := by rw [restR, partsR, if_neg (by omega), List.drop_drop, hd]; rfl
       have hrz : (restR l).1 = 0 := by rw [hrx]
       have hqe : q = 8 + 32 + (bodyR l).2.2 + (restR l).2.2 := by rw [hrx]; show q = 8 + 32 + (bodyR l).2.2 + ((rdCount (l.drop (8 + 32 + (bodyR l).2.2)) 16).2.2 + (q - (8 + 32 + (bodyR l).2.2 + (rdCount (l.drop (8 + 32 + (bodyR l).2.2)) 16).2.2))); omega
       have h411 : (restR l).2.1 = ts.map BS.l := by rw [hrx]
       have hab : ((MsgV.mk (be l 0 1) (be l (0 + 1) 1) (be l (0 + 1 + 1) 2) (be l (0 + 1 + 1 + 2) 2) (be l (0 + 1 + 1 + 2 + 2) 2) (hashAt l) ⟨x55.a, x55.c, (bodyR l).2.1⟩ ⟨a, c, ts⟩)).abs = readM l := by simp only [MsgV.abs, readM, h411]
       refine T_exit ?_
       refine X_then_exit ?_
       refine X_loop_exit ?_
       refine X_block_exit ?_
       refine X_then ?_
       refine T_seq ?_
       refine T_seq ?_
       refine T_region ?_
       refine TL_q (Qt_move (.int .i64 _) rfl) rfl ?_
       refine TL_q (Qt_move (.slice _ _ _) rfl) rfl ?_
       refine TL_q (Qt_len_slice rfl Tryd.underlying27) rfl ?_
       refine TL_q (Qt_lss rfl rfl) rfl ?_
       refine TL_nil ?_
       refine X_then ?_
       refine T_cond rfl (fun h111 => ?_) (fun h111 => ?_)
       ·
        have p111 := h111
        try simp only [decide_eq_true_eq, decide_eq_false_iff_not, Bool.not_eq_true', Bool.not_eq_false', Option.isNone_iff_eq_none, ne_eq, Decidable.not_not, Int.not_lt, Int.not_le] at p111
        refine T_seq ?_
        refine T_region ?_
        refine TL_q (Qt_build [(1, (.int .i64 _))] rfl (by kernel_rfl)) rfl ?_
        refine TL_n (Ef_storeN rfl rfl (?_))
        refine TL_nil ?_
        refine X_then ?_
        refine T_ret ?_
        refine X_then_ret ?_
        have e : getM l = (2, .zero) := by have hx := msgR_more h40 hbz hrz (by omega); rw [getM_bad h65 (by rw [hx]; first | assumption | decide | omega), hx]
        exact X_ret (MsgV.zero, []) [_] Tryd.results85 ⟨⟨_, rfl, res_cellN rfl⟩, trivial⟩ (by rw [e]; rfl) (fun w hw => (St.datMsgZero (Subs.st inferInstance w hw : St w0 H w)).addPure (by rw [e]; rfl))
       ·
        have p111 := h111
        try simp only [decide_eq_true_eq, decide_eq_false_iff_not, Bool.not_eq_true', Bool.not_eq_false', Option.isNone_iff_eq_none, ne_eq, Decidable.not_not, Int.not_lt, Int.not_le] at p111
        have hm : ¬ 8 + 32 + (bodyR l).2.2 + (restR l).2.2 < l.length := by omega
        refine T_skip ?_
        refine X_then ?_
        refine T_seq ?_
        refine T_seq ?_
        refine T_region ?_
        refine TL_q (Qt_loadN rfl rfl) rfl ?_
        refine TL_e rfl (Ef_call (rNumbers_c (m := (MsgV.mk (be l 0 1) (be l (0 + 1) 1) (be l (0 + 1 + 1) 2) (be l (0 + 1 + 1 + 2) 2) (be l (0 + 1 + 1 + 2 + 2) 2) (hashAt l) ⟨x55.a, x55.c, (bodyR l).2.1⟩ ⟨a, c, ts⟩))) rfl (fun x114 => ?_))
        refine TL_q (Qt_not rfl) rfl ?_
        refine TL_nil ?_
        refine X_then ?_
        refine T_cond rfl (fun h115 => ?_) (fun h115 => ?_)
        ·
         have p115 := h115
         try simp only [decide_eq_true_eq, decide_eq_false_iff_not, Bool.not_eq_true', Bool.not_eq_false', Option.isNone_iff_eq_none, ne_eq, Decidable.not_not, Int.not_lt, Int.not_le] at p115
         refine T_seq ?_
         refine T_region ?_
         refine TL_q (Qt_build [(1, (.int .i64 _))] rfl (by kernel_rfl)) rfl ?_
         refine TL_n (Ef_storeN rfl rfl (?_))
         refine TL_nil ?_
         refine X_then ?_
         refine T_ret ?_
         refine X_then_ret ?_
         have e : getM l = (15, .zero) := by have hx : msgR l = (15, .zero) := (by rw [msgR_end h40 hbz hrz hm, if_neg (by rw [← hab]; simpa using h115)]); rw [getM_bad h65 (by rw [hx]; decide), hx]
         exact X_ret (MsgV.zero, []) [_] Tryd.results85 ⟨⟨_, rfl, res_cellN rfl⟩, trivial⟩ (by rw [e]; rfl) (fun w hw => (St.datMsgZero (Subs.st inferInstance w hw : St w0 H w)).addPure (by rw [e]; rfl))
        ·
         have p115 := h115
         try simp only [decide_eq_true_eq, decide_eq_false_iff_not, Bool.not_eq_true', Bool.not_eq_false', Option.isNone_iff_eq_none, ne_eq, Decidable.not_not, Int.not_lt, Int.not_le] at p115
         refine T_skip ?_
         refine X_then ?_
         refine T_seq ?_
         refine T_region ?_
         refine TL_q (Qt_loadN rfl rfl) rfl ?_
         refine TL_q (Qt_build [(0, (.agg _))] rfl (by kernel_rfl)) rfl ?_
         refine TL_n (Ef_storeN rfl rfl (?_))
         refine TL_nil ?_
         refine X_then ?_
         refine T_ret ?_
         have hx : msgR l = (0, ((MsgV.mk (be l 0 1) (be l (0 + 1) 1) (be l (0 + 1 + 1) 2) (be l (0 + 1 + 1 + 2) 2) (be l (0 + 1 + 1 + 2 + 2) 2) (hashAt l) ⟨x55.a, x55.c, (bodyR l).2.1⟩ ⟨a, c, ts⟩)).abs) := by rw [msgR_end h40 hbz hrz hm, hab, if_pos (by rw [← hab]; simpa using h115)]
         have e : getM l = (0, ((MsgV.mk (be l 0 1) (be l (0 + 1) 1) (be l (0 + 1 + 1) 2) (be l (0 + 1 + 1 + 2) 2) (be l (0 + 1 + 1 + 2 + 2) 2) (hashAt l) ⟨x55.a, x55.c, (bodyR l).2.1⟩ ⟨a, c, ts⟩)).abs) := getM_good h65 hx
         refine X_conv (fun w hw => St.datMsg (m := (MsgV.mk (be l 0 1) (be l (0 + 1) 1) (be l (0 + 1 + 1) 2) (be l (0 + 1 + 1 + 2) 2) (be l (0 + 1 + 1 + 2 + 2) 2) (hashAt l) ⟨x55.a, x55.c, (bodyR l).2.1⟩ ⟨a, c, ts⟩)) (fp := fp) (e := 27) (e2 := 5) (H := blk b2 (.cells (MGotV.mk (MsgV.mk (be l 0 1) (be l (0 + 1) 1) (be l (0 + 1 + 1) 2) (be l (0 + 1 + 1 + 2) 2) (be l (0 + 1 + 1 + 2 + 2) 2) (hashAt l) ⟨x55.a, x55.c, (bodyR l).2.1⟩ ⟨a, c, ts⟩) 0).cells 104 (0, 0)) :: H) (Subs.st inferInstance w hw)) (fun fp2 => ?_)
         exact X_ret ((MsgV.mk (be l 0 1) (be l (0 + 1) 1) (be l (0 + 1 + 1) 2) (be l (0 + 1 + 1 + 2) 2) (be l (0 + 1 + 1 + 2 + 2) 2) (hashAt l) ⟨x55.a, x55.c, (bodyR l).2.1⟩ ⟨a, c, ts⟩), fp2) [_] Tryd.results85 ⟨⟨_, rfl, res_cellN rfl⟩, trivial⟩ (by rw [e]; rfl) (fun w hw => (Subs.st inferInstance w hw : St w0 (dat fp2 (Deep.leads (MsgV.mk (be l 0 1) (be l (0 + 1) 1) (be l (0 + 1 + 1) 2) (be l (0 + 1 + 1 + 2) 2) (be l (0 + 1 + 1 + 2 + 2) 2) (hashAt l) ⟨x55.a, x55.c, (bodyR l).2.1⟩ ⟨a, c, ts⟩)) :: H) w).addPure (by rw [e]))
end Go.Proofs.YtgjkgdjjolnhdaaDoor
