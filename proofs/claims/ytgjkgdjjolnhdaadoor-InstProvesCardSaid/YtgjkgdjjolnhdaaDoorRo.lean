/- Walks: the references that open sealed messages. -/
import Derived.Test.YtgjkgdjjolnhdaaDoorRg
import Derived.Test.YtgjkgdjjolnhdaaDoorOo
import Derived.Test.YtgjkgdjjolnhdaaDoorMr
import Derived.Test.YtgjkgdjjolnhdaaDoorRm
namespace Go.Proofs.YtgjkgdjjolnhdaaDoor
open Go.RowKit Go.Sx
set_option maxRecDepth 100000
set_option linter.unusedSimpArgs false
set_option linter.unusedVariables false
theorem getM_err {l : List UInt8} (h : (getM l).1 ≠ 0) : (getM l).2 = .zero := by
 unfold getM at h ⊢
 split
 · rfl
 · split
   · rfl
   · rename_i h1 h2; rw [if_neg h1, if_neg h2] at h; exact absurd h h2
theorem tag_eq {t : Vector UInt8 32} {l : List UInt8} (hl : l.length = 32) : t.toList = l ↔ t = vec32 l := by
 constructor
 · intro h; rw [← h, vec32_toList]
 · intro h; rw [h, vec32_list l hl]
attribute [local irreducible] getM tagOf openK
set_option maxHeartbeats 1000000 in
theorem rOpen_c {w0 : World} {H : List SA} {k : KeysV} [rk : RdC w0 H (.slice k.seals.a k.seals.ls.length k.seals.c) 1 (k.seals.ls.map BS.val)] [rke : RdE w0 H k.seals.ls] (hkl : ∀ x ∈ k.seals.ls, x.l.length ≤ 4294967000) {a : Option Addr} {l : List UInt8} {c : Nat} [hr : RdB w0 H (.slice a l.length c) l] (hl : l.length ≤ 4294960000) :
 CT Tryd.prog w0 (H) 73 [.agg k.cells, .slice a l.length c] (α := MsgV × List Nat) (fun y => .agg (MGotV.mk y.1 (openK (k.seals.ls.map BS.l) l).1).cells) (fun y => pu (y.1.abs = (openK (k.seals.ls.map BS.l) l).2) :: dat y.2 (Deep.leads y.1) :: H) := by
 refine CT_intro Tryd.func73 rfl Tryd.ntmps73 rfl ?_
 refine T_seq ?_
 refine T_region ?_
 refine TL_e rfl (Ef_boxN rfl (fun b2 => ?_))
 refine TL_e rfl (Ef_allocN (fun b4 => ?_))
 refine TL_nil ?_
 refine X_then ?_
 refine T_seq ?_
 refine T_seq ?_
 refine T_region ?_
 refine TL_q (Qt_move (.slice _ _ _) rfl) rfl ?_
 refine TL_q (Qt_len_slice rfl Tryd.underlying27) rfl ?_
 refine TL_q (Qt_lss rfl rfl) rfl ?_
 refine TL_nil ?_
 refine X_then ?_
 refine T_cond rfl (fun h10 => ?_) (fun h10 => ?_)
 ·
  have p10 := h10
  try simp only [decide_eq_true_eq, decide_eq_false_iff_not, Bool.not_eq_true', Bool.not_eq_false', Option.isNone_iff_eq_none, ne_eq, Decidable.not_not, Int.not_lt, Int.not_le] at p10
  refine T_seq ?_
  refine T_region ?_
  refine TL_q (Qt_build [(1, (.int .i64 _))] rfl (by kernel_rfl)) rfl ?_
  refine TL_n (Ef_storeN rfl rfl (?_))
  refine TL_nil ?_
  refine X_then ?_
  refine T_ret ?_
  refine X_then_ret ?_
  have e := openK_1 (K := (k.seals.ls.map BS.l)) (l := l) (by omega)
  exact X_ret (MsgV.zero, []) [_] Tryd.results73 ⟨⟨_, rfl, res_cellN rfl⟩, trivial⟩ (by rw [e]; rfl) (fun w hw => (St.datMsgZero (Subs.st inferInstance w hw : St w0 H w)).addPure (by rw [e]; rfl))
 ·
  have p10 := h10
  try simp only [decide_eq_true_eq, decide_eq_false_iff_not, Bool.not_eq_true', Bool.not_eq_false', Option.isNone_iff_eq_none, ne_eq, Decidable.not_not, Int.not_lt, Int.not_le] at p10
  have h32 : ¬ l.length < 32 := by omega
  refine T_skip ?_
  refine X_then ?_
  refine T_seq ?_
  refine T_region ?_
  refine TL_q (Qt_move (.slice _ _ _) rfl) rfl ?_
  refine TL_q (Qt_len_slice rfl Tryd.underlying27) rfl ?_
  first
   | refine TL_q (Qt_sub rfl rfl (by omega) (by omega)) rfl ?_
   | refine TL_q (Qt_subw rfl rfl) rfl ?_
  refine TL_q (Qt_assign (.int .i64 _) rfl) rfl ?_
  refine TL_nil ?_
  refine X_then ?_
  refine T_seq ?_
  refine T_region ?_
  refine TL_q (Qt_move (.slice _ _ _) rfl) rfl ?_
  refine TL_q (Qt_move (.int .i64 _) rfl) rfl ?_
  refine TL_q (Qt_sliceB_h (l.length - 32) rfl (by refine congrArg (Value.int .i64) ?_; omega) (by omega)) rfl ?_
  refine TL_e rfl (Ef_call (rGetM_c (l := (l.take (l.length - 32))) (by simp; omega)) rfl (fun x18 => ?_))
  refine TL_pure (fun h18 => ?_)
  have hfrm : x18.1.frm = (getM (l.take (l.length - 32))).2.frm := congrArg MsgD.frm h18
  refine TL_e rfl (Ef_allocN (fun b6 => ?_))
  refine TL_n (Ef_storeN rfl rfl (?_))
  refine TL_nil ?_
  refine X_then ?_
  refine T_seq ?_
  refine T_seq ?_
  refine T_region ?_
  refine TL_q (Qt_fieldAddr 39 rfl rfl) rfl ?_
  refine TL_q (Qt_load1 rfl) rfl ?_
  refine TL_q (Qt_neq rfl rfl) rfl ?_
  refine TL_nil ?_
  refine X_then ?_
  refine T_cond rfl (fun h21 => ?_) (fun h21 => ?_)
  ·
   have p21 := h21
   try simp only [decide_eq_true_eq, decide_eq_false_iff_not, Bool.not_eq_true', Bool.not_eq_false', Option.isNone_iff_eq_none, ne_eq, Decidable.not_not, Int.not_lt, Int.not_le] at p21
   refine T_seq ?_
   refine T_region ?_
   refine TL_q (Qt_loadN rfl rfl) rfl ?_
   refine TL_n (Ef_storeN rfl rfl (?_))
   refine TL_nil ?_
   refine X_then ?_
   refine T_ret ?_
   refine X_then_ret ?_
   have e := openK_e (K := (k.seals.ls.map BS.l)) h32 (by omega)
   exact X_ret x18 [_] Tryd.results73 ⟨⟨_, rfl, res_cellN rfl⟩, trivial⟩ (by rw [e]; first | rfl | (rw [hz]; rfl)) (fun w hw => (Subs.st inferInstance w hw : St w0 (dat x18.2 (Deep.leads x18.1) :: H) w).addPure (by rw [e]; exact h18.trans (getM_err (by omega))))
  ·
   have p21 := h21
   try simp only [decide_eq_true_eq, decide_eq_false_iff_not, Bool.not_eq_true', Bool.not_eq_false', Option.isNone_iff_eq_none, ne_eq, Decidable.not_not, Int.not_lt, Int.not_le] at p21
   have hz : (getM (l.take (l.length - 32))).1 = 0 := by omega
   refine T_skip ?_
   refine X_then ?_
   refine T_seq ?_
   refine T_seq ?_
   refine T_region ?_
   refine TL_q (Qt_fieldAddr 0 rfl rfl) rfl ?_
   refine TL_q (Qt_fieldAddr 1 rfl rfl) rfl ?_
   refine TL_q (Qt_load1 rfl) rfl ?_
   refine TL_q (Qt_fieldAddr 0 rfl rfl) rfl ?_
   refine TL_q (Qt_load1 rfl) rfl ?_
   refine TL_q (Qt_len_slice rfl Tryd.underlying28) rfl ?_
   refine TL_q (Qt_geq rfl rfl) rfl ?_
   refine TL_nil ?_
   refine X_then ?_
   refine T_cond rfl (fun h29 => ?_) (fun h29 => ?_)
   ·
    have p29 := h29
    try simp only [decide_eq_true_eq, decide_eq_false_iff_not, Bool.not_eq_true', Bool.not_eq_false', Option.isNone_iff_eq_none, ne_eq, Decidable.not_not, Int.not_lt, Int.not_le] at p29
    refine T_seq ?_
    refine T_region ?_
    refine TL_q (Qt_build [(1, (.int .i64 _))] rfl (by kernel_rfl)) rfl ?_
    refine TL_n (Ef_storeN rfl rfl (?_))
    refine TL_nil ?_
    refine X_then ?_
    refine T_ret ?_
    refine X_then_ret ?_
    have e := openK_6 (K := (k.seals.ls.map BS.l)) h32 hz (by rw [List.length_map]; omega)
    exact X_ret (MsgV.zero, []) [_] Tryd.results73 ⟨⟨_, rfl, res_cellN rfl⟩, trivial⟩ (by rw [e]; rfl) (fun w hw => (St.datMsgZero (Subs.st inferInstance w hw : St w0 H w)).addPure (by rw [e]; rfl))
   ·
    have p29 := h29
    try simp only [decide_eq_true_eq, decide_eq_false_iff_not, Bool.not_eq_true', Bool.not_eq_false', Option.isNone_iff_eq_none, ne_eq, Decidable.not_not, Int.not_lt, Int.not_le] at p29
    have hfr := frm_range (getM_formed hz)
    have hlt : ¬ (k.seals.ls.length : Int) ≤ (getM (l.take (l.length - 32))).2.frm := by omega
    have hk : x18.1.frm.toNat < k.seals.ls.length := by omega
    have : RdB w0 H (.slice k.seals.ls[x18.1.frm.toNat].a k.seals.ls[x18.1.frm.toNat].l.length k.seals.ls[x18.1.frm.toNat].c) k.seals.ls[x18.1.frm.toNat].l := rke.get (List.getElem_mem hk)
    have hkl1 := hkl _ (List.getElem_mem hk)
    have ht := openK_t (K := (k.seals.ls.map BS.l)) h32 hz (by rw [List.length_map]; exact hlt)
    rw [← hfrm, keys_get hk] at ht
    refine T_skip ?_
    refine X_then ?_
    refine T_seq ?_
    refine T_drawF (blk b6 (.cells (MGotV.mk x18.1 (getM (l.take (l.length - 32))).1).cells 104 (0, 0)) :: blk b2 (.cells k.cells 38 (0, 0)) :: H) (by kernel_rfl) (Subs.st inferInstance) ?_
    refine DLF_q (i := 0) (by kernel_rfl) rfl (by kernel_rfl) (by kernel_rfl) (Qt_fieldAddr 0 rfl rfl) rfl ?_
    refine DLF_q (i := 1) (by kernel_rfl) rfl (by kernel_rfl) (by kernel_rfl) (Qt_load1 rfl) rfl ?_
    refine DLF_q (i := 2) (by kernel_rfl) rfl (by kernel_rfl) (by kernel_rfl) (Qt_fieldAddr 0 rfl rfl) rfl ?_
    refine DLF_q (i := 3) (by kernel_rfl) rfl (by kernel_rfl) (by kernel_rfl) (Qt_fieldAddr 1 rfl rfl) rfl ?_
    refine DLF_q (i := 4) (by kernel_rfl) rfl (by kernel_rfl) (by kernel_rfl) (Qt_load1 rfl) rfl ?_
    refine DLF_q (i := 5) (by kernel_rfl) rfl (by kernel_rfl) (by kernel_rfl) (Qt_indexR rfl (show _ = Value.int .i64 x18.1.frm from rfl) (show 0 ≤ x18.1.frm by omega) (by show x18.1.frm < ((k.seals.ls.map BS.val).length : Int); rw [List.length_map]; omega)) rfl ?_
    refine DLF_q (i := 6) (by kernel_rfl) rfl (by kernel_rfl) (by kernel_rfl) (Qt_loadR (.slice _ _ _) rfl (vals_get _ _ hk)) rfl ?_
    refine DLF_q (i := 7) (by kernel_rfl) rfl (by kernel_rfl) (by kernel_rfl) (Qt_move (.slice _ _ _) rfl) rfl ?_
    refine DLF_q (i := 8) (by kernel_rfl) rfl (by kernel_rfl) (by kernel_rfl) (Qt_move (.int .i64 _) rfl) rfl ?_
    refine DLF_q (i := 9) (by kernel_rfl) rfl (by kernel_rfl) (by kernel_rfl) (Qt_sliceB_h (l.length - 32) rfl (by refine congrArg (Value.int .i64) ?_; omega) (by omega)) rfl ?_
    refine DLF_2 (i := 10) (j := 11) (by kernel_rfl) ?_ ?_
    ·
     refine DLS_e rfl rfl (Ef_call (rTag_c (l := (l.take (l.length - 32))) (by omega) (by simp; omega)) rfl (fun x41 => ⟨(Subs.st inferInstance), ?_⟩))
     obtain ⟨tv, htv⟩ : ∃ tv, tv = tagOf k.seals.ls[x18.1.frm.toNat].l (l.take (l.length - 32)) := ⟨_, rfl⟩
     rw [← htv]
     refine DLF_1 (i := 11) (by kernel_rfl) ?_
     refine DLS_e rfl rfl (Ef_allocN (fun b7 => ⟨(Subs.st inferInstance), ?_⟩))
     refine DLF_1 (i := 12) (by kernel_rfl) ?_
     refine DLS_n rfl (Ef_storeN rfl rfl (⟨(Subs.st inferInstance), ?_⟩))
     refine DLF_nil (by kernel_rfl) ?_
     refine X_then ?_
     refine T_seq ?_
     refine T_seq ?_
     refine T_draw (blk b7 (.cells (hlist tv).toArray 26 (0, 0)) :: H) [(0, true), (2, true), (3, true), (4, true), (1, false), (5, false), (6, true)] (by kernel_rfl) (by kernel_rfl) rfl (by kernel_rfl) (Subs.st inferInstance) (fun hns0 => ?_)
     refine DL_q hns0 rfl (Qt_loadN rfl rfl) rfl ?_
     refine DL_q hns0 rfl (Qt_move (.slice _ _ _) rfl) rfl ?_
     refine DL_q hns0 rfl (Qt_move (.int .i64 _) rfl) rfl ?_
     refine DL_q hns0 rfl (Qt_sliceB_l (l.length - 32) rfl (by refine congrArg (Value.int .i64) ?_; omega) (by omega)) rfl ?_
     refine DL_e rfl rfl (Ef_call (rHash_c) rfl (fun x43 => ⟨(Subs.st inferInstance), ?_⟩))
     refine DL_e rfl rfl (Ef_call (same_c (by simp)) rfl (fun x47 => ⟨(Subs.st inferInstance), ?_⟩))
     refine DL_q hns0 rfl (Qt_not rfl) rfl ?_
     refine DL_nil ?_
     refine X_then ?_
     refine T_cond rfl (fun h48 => ?_) (fun h48 => ?_)
     ·
      have p48 := h48
      try simp only [decide_eq_true_eq, decide_eq_false_iff_not, Bool.not_eq_true', Bool.not_eq_false', Option.isNone_iff_eq_none, ne_eq, Decidable.not_not, Int.not_lt, Int.not_le] at p48
      have hne : tv ≠ vec32 (l.drop (l.length - 32)) := fun h => by have h2 := (tag_eq (by rw [List.length_drop]; omega)).2 h; simp [h2] at h48
      rw [htv] at hne
      rw [if_pos hne] at ht
      refine T_seq ?_
      refine T_region ?_
      refine TL_q (Qt_build [(1, (.int .i64 _))] rfl (by kernel_rfl)) rfl ?_
      refine TL_n (Ef_storeN rfl rfl (?_))
      refine TL_nil ?_
      refine X_then ?_
      refine T_ret ?_
      refine X_then_ret ?_
      have e := ht
      exact X_ret (MsgV.zero, []) [_] Tryd.results73 ⟨⟨_, rfl, res_cellN rfl⟩, trivial⟩ (by rw [e]; rfl) (fun w hw => (St.datMsgZero (Subs.st inferInstance w hw : St w0 H w)).addPure (by rw [e]; rfl))
     ·
      have p48 := h48
      try simp only [decide_eq_true_eq, decide_eq_false_iff_not, Bool.not_eq_true', Bool.not_eq_false', Option.isNone_iff_eq_none, ne_eq, Decidable.not_not, Int.not_lt, Int.not_le] at p48
      have heq : tv = vec32 (l.drop (l.length - 32)) := (tag_eq (by rw [List.length_drop]; omega)).1 (by simpa using h48)
      rw [htv] at heq
      rw [if_neg (by rw [heq]; simp)] at ht
      refine T_skip ?_
      refine X_then ?_
      refine T_seq ?_
      refine T_region ?_
      refine TL_q (Qt_loadN rfl rfl) rfl ?_
      refine TL_n (Ef_storeN rfl rfl (?_))
      refine TL_nil ?_
      refine X_then ?_
      refine T_ret ?_
      have e := ht
      exact X_ret x18 [_] Tryd.results73 ⟨⟨_, rfl, res_cellN rfl⟩, trivial⟩ (by rw [e]; first | rfl | (rw [hz]; rfl)) (fun w hw => (Subs.st inferInstance w hw : St w0 (dat x18.2 (Deep.leads x18.1) :: H) w).addPure (by rw [e]; exact h18))
    ·
     refine DLS_e rfl rfl (Ef_allocN (fun b7 => ⟨(Subs.st inferInstance), ?_⟩))
     refine DLF_1 (i := 10) (by kernel_rfl) ?_
     refine DLS_e rfl rfl (Ef_call (rTag_c (l := (l.take (l.length - 32))) (by omega) (by simp; omega)) rfl (fun x41 => ⟨(Subs.st inferInstance), ?_⟩))
     obtain ⟨tv, htv⟩ : ∃ tv, tv = tagOf k.seals.ls[x18.1.frm.toNat].l (l.take (l.length - 32)) := ⟨_, rfl⟩
     rw [← htv]
     refine DLF_1 (i := 12) (by kernel_rfl) ?_
     refine DLS_n rfl (Ef_storeN rfl rfl (⟨(Subs.st inferInstance), ?_⟩))
     refine DLF_nil (by kernel_rfl) ?_
     refine X_then ?_
     refine T_seq ?_
     refine T_seq ?_
     refine T_draw (blk b7 (.cells (hlist tv).toArray 26 (0, 0)) :: H) [(0, true), (2, true), (3, true), (4, true), (1, false), (5, false), (6, true)] (by kernel_rfl) (by kernel_rfl) rfl (by kernel_rfl) (Subs.st inferInstance) (fun hns1 => ?_)
     refine DL_q hns1 rfl (Qt_loadN rfl rfl) rfl ?_
     refine DL_q hns1 rfl (Qt_move (.slice _ _ _) rfl) rfl ?_
     refine DL_q hns1 rfl (Qt_move (.int .i64 _) rfl) rfl ?_
     refine DL_q hns1 rfl (Qt_sliceB_l (l.length - 32) rfl (by refine congrArg (Value.int .i64) ?_; omega) (by omega)) rfl ?_
     refine DL_e rfl rfl (Ef_call (rHash_c) rfl (fun x43 => ⟨(Subs.st inferInstance), ?_⟩))
     refine DL_e rfl rfl (Ef_call (same_c (by simp)) rfl (fun x47 => ⟨(Subs.st inferInstance), ?_⟩))
     refine DL_q hns1 rfl (Qt_not rfl) rfl ?_
     refine DL_nil ?_
     refine X_then ?_
     refine T_cond rfl (fun h48 => ?_) (fun h48 => ?_)
     ·
      have p48 := h48
      try simp only [decide_eq_true_eq, decide_eq_false_iff_not, Bool.not_eq_true', Bool.not_eq_false', Option.isNone_iff_eq_none, ne_eq, Decidable.not_not, Int.not_lt, Int.not_le] at p48
      have hne : tv ≠ vec32 (l.drop (l.length - 32)) := fun h => by have h2 := (tag_eq (by rw [List.length_drop]; omega)).2 h; simp [h2] at h48
      rw [htv] at hne
      rw [if_pos hne] at ht
      refine T_seq ?_
      refine T_region ?_
      refine TL_q (Qt_build [(1, (.int .i64 _))] rfl (by kernel_rfl)) rfl ?_
      refine TL_n (Ef_storeN rfl rfl (?_))
      refine TL_nil ?_
      refine X_then ?_
      refine T_ret ?_
      refine X_then_ret ?_
      have e := ht
      exact X_ret (MsgV.zero, []) [_] Tryd.results73 ⟨⟨_, rfl, res_cellN rfl⟩, trivial⟩ (by rw [e]; rfl) (fun w hw => (St.datMsgZero (Subs.st inferInstance w hw : St w0 H w)).addPure (by rw [e]; rfl))
     ·
      have p48 := h48
      try simp only [decide_eq_true_eq, decide_eq_false_iff_not, Bool.not_eq_true', Bool.not_eq_false', Option.isNone_iff_eq_none, ne_eq, Decidable.not_not, Int.not_lt, Int.not_le] at p48
      have heq : tv = vec32 (l.drop (l.length - 32)) := (tag_eq (by rw [List.length_drop]; omega)).1 (by simpa using h48)
      rw [htv] at heq
      rw [if_neg (by rw [heq]; simp)] at ht
      refine T_skip ?_
      refine X_then ?_
      refine T_seq ?_
      refine T_region ?_
      refine TL_q (Qt_loadN rfl rfl) rfl ?_
      refine TL_n (Ef_storeN rfl rfl (?_))
      refine TL_nil ?_
      refine X_then ?_
      refine T_ret ?_
      have e := ht
      exact X_ret x18 [_] Tryd.results73 ⟨⟨_, rfl, res_cellN rfl⟩, trivial⟩ (by rw [e]; first | rfl | (rw [hz]; rfl)) (fun w hw => (Subs.st inferInstance w hw : St w0 (dat x18.2 (Deep.leads x18.1) :: H) w).addPure (by rw [e]; exact h18))
theorem rOpenF_c {w0 : World} {H : List SA} {sa : Option Addr} {sc : Nat} {ls : List BS} {rt : Sl} [rk : RdC w0 H (.slice sa ls.length sc) 1 (ls.map BS.val)] [rke : RdE w0 H ls] (hkl : ∀ x ∈ ls, x.l.length ≤ 4294967000) {a : Option Addr} {l : List UInt8} {c : Nat} [hr : RdB w0 H (.slice a l.length c) l] (hl : l.length ≤ 4294960000) :
 CT Tryd.prog w0 H 73 [.agg (KeysV.mk ⟨sa, sc, ls⟩ rt).cells, .slice a l.length c] (α := MsgV × List Nat) (fun y => .agg (MGotV.mk y.1 (openK (ls.map BS.l) l).1).cells) (fun y => pu (y.1.abs = (openK (ls.map BS.l) l).2) :: dat y.2 (Deep.leads y.1) :: H) :=
 rOpen_c (k := ⟨⟨sa, sc, ls⟩, rt⟩) (rk := rk) (rke := rke) hkl hl
set_option maxHeartbeats 1000000 in
theorem rOpenOf_c {w0 : World} {H : List SA} {num : Int} {mk : Nat} (hmk : mk < 65536) {sa : Option Addr} {sc : Nat} {ls : List BS} {rt : Sl} [rk : RdC w0 H (.slice sa ls.length sc) 1 (ls.map BS.val)] [rke : RdE w0 H ls] (hkl : ∀ x ∈ ls, x.l.length ≤ 4294967000) {a : Option Addr} {l : List UInt8} {c : Nat} [hr : RdB w0 H (.slice a l.length c) l] (hl : l.length ≤ 4294960000) :
 CT Tryd.prog w0 (H) 58 [.agg (KeysV.mk ⟨sa, sc, ls⟩ rt).cells, .agg (ViewV.mk num (mk : Int)).cells, .slice a l.length c] (α := MsgV × List Nat) (fun y => .agg (MGotV.mk y.1 (openOfK (ls.map BS.l) mk l).1).cells) (fun y => pu (y.1.abs = (openOfK (ls.map BS.l) mk l).2) :: dat y.2 (Deep.leads y.1) :: H) := by
 refine CT_intro Tryd.func58 rfl Tryd.ntmps58 rfl ?_
 refine T_seq ?_
 refine T_region ?_
 refine TL_e rfl (Ef_boxN rfl (fun b3 => ?_))
 refine TL_e rfl (Ef_boxN rfl (fun b4 => ?_))
 refine TL_e rfl (Ef_allocN (fun b6 => ?_))
 refine TL_nil ?_
 refine X_then ?_
 refine T_seq ?_
 refine T_region ?_
 refine TL_q (Qt_loadN rfl rfl) rfl ?_
 refine TL_q (Qt_move (.slice _ _ _) rfl) rfl ?_
 refine TL_e rfl (Ef_call (rOpenF_c (sa := sa) (sc := sc) (ls := ls) (rt := rt) hkl hl) rfl (fun x10 => ?_))
 refine TL_pure (fun hx => ?_)
 have hfr : x10.1.frm = (openK (ls.map BS.l) l).2.frm := congrArg MsgD.frm hx
 refine TL_e rfl (Ef_allocN (fun b7 => ?_))
 refine TL_n (Ef_storeN rfl rfl (?_))
 refine TL_nil ?_
 refine X_then ?_
 refine T_seq ?_
 refine T_seq ?_
 refine T_region ?_
 refine TL_q (Qt_fieldAddr 39 rfl rfl) rfl ?_
 refine TL_q (Qt_load1 rfl) rfl ?_
 refine TL_q (Qt_eql rfl rfl) rfl ?_
 refine TL_q (Qt_move (.bool _) rfl) rfl ?_
 refine TL_split 14 rfl (fun h14 => ?_) (fun h14 => ?_)
 ·
  have p14 := h14
  try simp only [decide_eq_true_eq, decide_eq_false_iff_not, Bool.not_eq_true', Bool.not_eq_false', Option.isNone_iff_eq_none, ne_eq, Decidable.not_not, Int.not_lt, Int.not_le] at p14
  refine TL_take rfl rfl h14 ?_
  refine TL_q (Qt_loadN rfl rfl) rfl ?_
  refine TL_take rfl rfl h14 ?_
  refine TL_q (Qt_fieldAddr 0 rfl rfl) rfl ?_
  refine TL_take rfl rfl h14 ?_
  refine TL_q (Qt_fieldAddr 1 rfl rfl) rfl ?_
  refine TL_take rfl rfl h14 ?_
  refine TL_q (Qt_load1 rfl) rfl ?_
  refine TL_take rfl rfl h14 ?_
  refine TL_e rfl (Ef_call (rHas_c (num := num) hmk) rfl (fun x19 => ?_))
  refine TL_take rfl rfl h14 ?_
  refine TL_q (Qt_not rfl) rfl ?_
  refine TL_q (Qt_pick_t (.bool _) rfl h14 rfl) rfl ?_
  refine TL_nil ?_
  refine X_then ?_
  refine T_cond rfl (fun h21 => ?_) (fun h21 => ?_)
  ·
   have p21 := h21
   try simp only [decide_eq_true_eq, decide_eq_false_iff_not, Bool.not_eq_true', Bool.not_eq_false', Option.isNone_iff_eq_none, ne_eq, Decidable.not_not, Int.not_lt, Int.not_le] at p21
   refine T_seq ?_
   refine T_region ?_
   refine TL_q (Qt_build [(1, (.int .i64 _))] rfl (by kernel_rfl)) rfl ?_
   refine TL_n (Ef_storeN rfl rfl (?_))
   refine TL_nil ?_
   refine X_then ?_
   refine T_ret ?_
   refine X_then_ret ?_
   have e : openOfK (ls.map BS.l) mk l = (6, .zero) := if_pos ⟨by first | (simp_all; done) | (simp_all; omega), by rw [← hfr]; simp_all⟩
   exact X_ret (MsgV.zero, []) [_] Tryd.results58 ⟨⟨_, rfl, res_cellN rfl⟩, trivial⟩ (by rw [e]; rfl) (fun w hw => (St.datMsgZero (Subs.st inferInstance w hw : St w0 H w)).addPure (by rw [e]; rfl))
  ·
   have p21 := h21
   try simp only [decide_eq_true_eq, decide_eq_false_iff_not, Bool.not_eq_true', Bool.not_eq_false', Option.isNone_iff_eq_none, ne_eq, Decidable.not_not, Int.not_lt, Int.not_le] at p21
   refine T_skip ?_
   refine X_then ?_
   refine T_seq ?_
   refine T_region ?_
   refine TL_q (Qt_loadN rfl rfl) rfl ?_
   refine TL_n (Ef_storeN rfl rfl (?_))
   refine TL_nil ?_
   refine X_then ?_
   refine T_ret ?_
   have e : openOfK (ls.map BS.l) mk l = openK (ls.map BS.l) l := if_neg (by rintro ⟨h1, h2⟩; rw [← hfr] at h2; simp_all)
   exact X_ret x10 [_] Tryd.results58 ⟨⟨_, rfl, res_cellN rfl⟩, trivial⟩ (by rw [e]; rfl) (fun w hw => (Subs.st inferInstance w hw : St w0 (dat x10.2 (Deep.leads x10.1) :: H) w).addPure (by rw [e]; exact hx))
 ·
  have p14 := h14
  try simp only [decide_eq_true_eq, decide_eq_false_iff_not, Bool.not_eq_true', Bool.not_eq_false', Option.isNone_iff_eq_none, ne_eq, Decidable.not_not, Int.not_lt, Int.not_le] at p14
  refine TL_pass rfl rfl h14 rfl ?_
  refine TL_pass rfl rfl h14 rfl ?_
  refine TL_pass rfl rfl h14 rfl ?_
  refine TL_pass rfl rfl h14 rfl ?_
  refine TL_pass rfl rfl h14 rfl ?_
  refine TL_pass rfl rfl h14 rfl ?_
  refine TL_q (Qt_pick_f (.bool _) rfl h14 rfl) rfl ?_
  refine TL_nil ?_
  refine X_then ?_
  refine T_cond_false rfl rfl ?_
  refine T_skip ?_
  refine X_then ?_
  refine T_seq ?_
  refine T_region ?_
  refine TL_q (Qt_loadN rfl rfl) rfl ?_
  refine TL_n (Ef_storeN rfl rfl (?_))
  refine TL_nil ?_
  refine X_then ?_
  refine T_ret ?_
  have e : openOfK (ls.map BS.l) mk l = openK (ls.map BS.l) l := if_neg (by rintro ⟨h1, h2⟩; rw [← hfr] at h2; simp_all)
  exact X_ret x10 [_] Tryd.results58 ⟨⟨_, rfl, res_cellN rfl⟩, trivial⟩ (by rw [e]; rfl) (fun w hw => (Subs.st inferInstance w hw : St w0 (dat x10.2 (Deep.leads x10.1) :: H) w).addPure (by rw [e]; exact hx))
end Go.Proofs.YtgjkgdjjolnhdaaDoor
