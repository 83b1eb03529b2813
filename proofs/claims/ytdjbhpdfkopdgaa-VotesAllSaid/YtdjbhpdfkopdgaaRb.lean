/- Walks: the references on votes: bytes, Put. -/
import Derived.Test.YtdjbhpdfkopdgaaRa
namespace Go.Proofs.Ytdjbhpdfkopdgaa
open Go.RowKit Go.Sx
set_option maxRecDepth 100000
set_option linter.unusedSimpArgs false
set_option linter.unusedVariables false
theorem sum_texts : ∀ (l : List (List UInt8)), sumLen l ≤ (texts l).length
  | [] => by simp [sumLen, texts]
  | x :: l => by
    have h := sum_texts l
    have e1 : sumLen (x :: l) = x.length + sumLen l := by simp [sumLen]
    have e2 : texts (x :: l) = textB x ++ texts l := by simp [texts]
    rw [e1, e2, List.length_append, textB, List.length_append]
    omega
theorem told_ge (v : VoteD) : v.batch.length + sumLen v.cert ≤ (told v).length := by
  have h := sum_texts v.cert
  simp only [told, head, textB, List.length_append]
  omega
theorem putV_ref (v : VoteD) : putV v = if 16 < v.cert.length then ([], 4) else if 65536 < (told v).length then ([], 4) else if formedB v then (told v, 0) else ([], 15) := by
  have h := told_ge v
  unfold putV
  split
  · rfl
  · split
    · rw [if_pos (by omega)]
    · rfl
theorem told_len (v : VoteD) (h : SmallV v) (hc : v.cert.length ≤ 16) (k : Nat) : (head v ++ texts (v.cert.take k)).length ≤ 2000000 := by
  have h1 := head_length v h.1 h.2.1
  have h2 := texts_length 100000 (v.cert.take k) (fun x hx => h.2.2 x (List.mem_of_mem_take hx)) (by decide)
  have h3 : (v.cert.take k).length ≤ 16 := by simp; omega
  have h4 := Nat.mul_le_mul_right (10 + 100000) h3
  rw [List.length_append]; omega

set_option maxHeartbeats 1000000 in
theorem rBytes_c {w0 : World} {H : List SA} {v : VoteV} [rbv : RdB w0 H (.slice v.batch.a v.batch.l.length v.batch.c) v.batch.l] [rcv : RdC w0 H (.slice v.cert.a v.cert.ls.length v.cert.c) 1 (v.cert.ls.map BS.val)] [rev : RdE w0 H v.cert.ls] (hs : SmallV v.abs) (hc16 : v.cert.ls.length ≤ 16) :
    CT Try.prog w0 (H) 38 [.agg v.cells] (α := AC) (fun y => .slice y.a (told v.abs).length y.c) (fun y => row (.slice y.a (told v.abs).length y.c) 5 1 (bytesV (told v.abs)) :: H) := by
  refine CT_intro Try.func38 rfl Try.ntmps38 rfl ?_
  refine T_seq ?_
  refine T_region ?_
  refine TL_e rfl (Ef_boxN rfl (fun b1 => ?_))
  refine TL_q (Qt_assign (.slice _ _ _) rfl) rfl ?_
  refine TL_nil ?_
  refine X_then ?_
  refine T_seq ?_
  refine T_region ?_
  refine TL_q (Qt_assign (.slice _ _ _) rfl) rfl ?_
  refine TL_nil ?_
  refine X_then ?_
  refine T_seq ?_
  refine T_region ?_
  have hb1 := hs.batch
  refine TL_q (Qt_move (.slice _ _ _) rfl) rfl ?_
  refine TL_q (Qt_fieldAddr 0 rfl rfl) rfl ?_
  refine TL_q (Qt_load1 rfl) rfl ?_
  refine TL_q (Qt_conv rfl rfl Try.underlying75) rfl ?_
  refine TL_e rfl (Ef_call (rFixed_c (u64_range v.kind).1 (u64_range v.kind).2) rfl (fun x9 => ?_))
  refine TL_e rfl (Ef_appendB (sv := .slice _ _ _) (xv := .slice _ _ _) rfl rfl (by simp [fixedR_1, fixed_length]) rfl (fun a10 c10 => ?_))
  rw [List.nil_append, fixedR_1, show fixed (u64 v.kind).toNat 1 = pre3 v.abs 0 from rfl]
  refine TL_drop (row (.slice a10 (pre3 v.abs 0).length c10) 5 1 (bytesV (pre3 v.abs 0)) :: blk b1 (.cells v.cells 27 (0, 0)) :: H) ?_
  refine TL_q (Qt_assign (.slice _ _ _) rfl) rfl ?_
  refine TL_nil ?_
  refine X_then ?_
  refine T_seq ?_
  refine T_region ?_
  refine TL_q (Qt_move (.slice _ _ _) rfl) rfl ?_
  refine TL_q (Qt_fieldAddr 1 rfl rfl) rfl ?_
  refine TL_q (Qt_load1 rfl) rfl ?_
  refine TL_q (Qt_conv rfl rfl Try.underlying75) rfl ?_
  refine TL_e rfl (Ef_call (rFixed_c (u64_range v.view).1 (u64_range v.view).2) rfl (fun x15 => ?_))
  refine TL_e rfl (Ef_appendB (sv := .slice _ _ _) (xv := .slice _ _ _) rfl rfl (by simp [fixedR_2, fixed_length, pre3_length]) rfl (fun a16 c16 => ?_))
  rw [fixedR_2, show pre3 v.abs 0 ++ fixed (u64 v.view).toNat 2 = pre3 v.abs 1 from rfl]
  refine TL_drop (row (.slice a16 (pre3 v.abs 1).length c16) 5 1 (bytesV (pre3 v.abs 1)) :: blk b1 (.cells v.cells 27 (0, 0)) :: H) ?_
  refine TL_q (Qt_assign (.slice _ _ _) rfl) rfl ?_
  refine TL_nil ?_
  refine X_then ?_
  refine T_seq ?_
  refine T_region ?_
  refine TL_q (Qt_move (.slice _ _ _) rfl) rfl ?_
  refine TL_q (Qt_fieldAddr 2 rfl rfl) rfl ?_
  refine TL_q (Qt_load1 rfl) rfl ?_
  refine TL_q (Qt_conv rfl rfl Try.underlying75) rfl ?_
  refine TL_e rfl (Ef_call (rFixed_c (u64_range v.reg).1 (u64_range v.reg).2) rfl (fun x21 => ?_))
  refine TL_e rfl (Ef_appendB (sv := .slice _ _ _) (xv := .slice _ _ _) rfl rfl (by simp [fixedR_2, fixed_length, pre3_length]) rfl (fun a22 c22 => ?_))
  rw [fixedR_2, show pre3 v.abs 1 ++ fixed (u64 v.reg).toNat 2 = pre3 v.abs 2 from rfl]
  refine TL_drop (row (.slice a22 (pre3 v.abs 2).length c22) 5 1 (bytesV (pre3 v.abs 2)) :: blk b1 (.cells v.cells 27 (0, 0)) :: H) ?_
  refine TL_q (Qt_assign (.slice _ _ _) rfl) rfl ?_
  refine TL_nil ?_
  refine X_then ?_
  refine T_seq ?_
  refine T_region ?_
  refine TL_q (Qt_move (.slice _ _ _) rfl) rfl ?_
  refine TL_q (Qt_fieldAddr 3 rfl rfl) rfl ?_
  refine TL_q (Qt_load1 rfl) rfl ?_
  refine TL_q (Qt_conv rfl rfl Try.underlying75) rfl ?_
  refine TL_e rfl (Ef_call (rFixed_c (u64_range v.slot).1 (u64_range v.slot).2) rfl (fun x27 => ?_))
  refine TL_e rfl (Ef_appendB (sv := .slice _ _ _) (xv := .slice _ _ _) rfl rfl (by simp [fixedR_2, fixed_length, pre3_length]) rfl (fun a28 c28 => ?_))
  rw [fixedR_2, show pre3 v.abs 2 ++ fixed (u64 v.slot).toNat 2 = pre3 v.abs 3 from rfl]
  refine TL_drop (row (.slice a28 (pre3 v.abs 3).length c28) 5 1 (bytesV (pre3 v.abs 3)) :: blk b1 (.cells v.cells 27 (0, 0)) :: H) ?_
  refine TL_q (Qt_assign (.slice _ _ _) rfl) rfl ?_
  refine TL_nil ?_
  refine X_then ?_
  refine T_seq ?_
  refine T_region ?_
  refine TL_q (Qt_move (.slice _ _ _) rfl) rfl ?_
  refine TL_q (Qt_fieldAddr 4 rfl rfl) rfl ?_
  refine TL_q (Qt_loadN rfl rfl) rfl ?_
  refine TL_e rfl (Ef_call (rHash_c) rfl (fun x32 => ?_))
  refine TL_e rfl (Ef_appendB (sv := .slice _ _ _) (xv := .slice _ _ _) rfl rfl (by simp [pre3_length]) rfl (fun a33 c33 => ?_))
  refine TL_q (Qt_assign (.slice _ _ _) rfl) rfl ?_
  refine TL_nil ?_
  refine X_then ?_
  refine T_seq ?_
  refine T_region ?_
  refine TL_q (Qt_move (.slice _ _ _) rfl) rfl ?_
  refine TL_q (Qt_fieldAddr 36 rfl rfl) rfl ?_
  refine TL_q (Qt_load1 rfl) rfl ?_
  refine TL_e rfl (Ef_call (rText_c (by omega)) rfl (fun x37 => ?_))
  refine TL_e rfl (Ef_appendB (sv := .slice _ _ _) (xv := .slice _ _ _) rfl rfl (by have := textB_length v.batch.l (by omega); simp [pre3_length]; omega) rfl (fun a38 c38 => ?_))
  refine TL_q (Qt_assign (.slice _ _ _) rfl) rfl ?_
  refine TL_nil ?_
  refine X_then ?_
  refine T_seq ?_
  refine T_region ?_
  refine TL_q (Qt_move (.slice _ _ _) rfl) rfl ?_
  refine TL_q (Qt_fieldAddr 37 rfl rfl) rfl ?_
  refine TL_q (Qt_load1 rfl) rfl ?_
  refine TL_q (Qt_len_slice rfl Try.underlying25) rfl ?_
  refine TL_q (Qt_conv_u64 rfl rfl Try.underlying75 (by omega) (by omega)) rfl ?_
  refine TL_e rfl (Ef_call (rPacked_c (x := (v.cert.ls.length : Int)) (by omega) (by omega)) rfl (fun x44 => ?_))
  rw [show (v.cert.ls.length : Int).toNat = v.abs.cert.length from by simp [VoteV.abs]]
  refine TL_e rfl (Ef_appendB (sv := .slice _ _ _) (xv := .slice _ _ _) rfl rfl (by have h1 := textB_length v.batch.l (by omega); have h2 := packed_length_le v.abs.cert.length (by rw [certs_len]; omega); simp [pre3_length]; omega) rfl (fun a45 c45 => ?_))
  rw [show pre3 v.abs 3 ++ v.hash.toList ++ textB v.batch.l ++ packed v.abs.cert.length = head v.abs from rfl]
  refine TL_q (Qt_assign (.slice _ _ _) rfl) rfl ?_
  refine TL_nil ?_
  refine X_then ?_
  refine T_seq ?_
  refine T_seq ?_
  refine T_region ?_
  refine TL_q (Qt_assign (.int .i64 _) rfl) rfl ?_
  refine TL_nil ?_
  refine X_then ?_
  refine T_block ?_
  have hcert := certs_len v
  refine T_loop [3, 4, 46, 47, 48, 49, 50, 51, 52, 53, 54, 55, 56, 57, 58, 59, 60] [4, 3] (fun us H' => ∃ (k : Nat) (a : Option Addr) (c : Nat), us = [.int .i64 (k : Int), .slice a (head v.abs ++ texts (v.abs.cert.take k)).length c] ∧ H' = row (.slice a (head v.abs ++ texts (v.abs.cert.take k)).length c) 5 1 (bytesV (head v.abs ++ texts (v.abs.cert.take k))) :: blk b1 (.cells v.cells 27 (0, 0)) :: H ∧ k ≤ v.cert.ls.length) (fun us => match us with | .int _ i :: _ => v.cert.ls.length - i.toNat | _ => 0) ⟨0, a45, c45, by rw [List.take_zero, show texts [] = [] from rfl, List.append_nil]; rfl, by rw [List.take_zero, show texts [] = [] from rfl, List.append_nil], by omega⟩ (Subs.st inferInstance) ?_
  rintro τ0 _ _  ⟨k, a1, c1, rfl, rfl, hk0⟩ _
  refine T_seq ?_
  refine T_seq ?_
  refine T_region ?_
  refine TL_q (Qt_move (.int .i64 _) rfl) rfl ?_
  refine TL_q (Qt_fieldAddr 37 rfl rfl) rfl ?_
  refine TL_q (Qt_load1 rfl) rfl ?_
  refine TL_q (Qt_len_slice rfl Try.underlying25) rfl ?_
  refine TL_q (Qt_lss rfl rfl) rfl ?_
  refine TL_nil ?_
  refine X_then ?_
  refine T_cond rfl (fun h50 => ?_) (fun h50 => ?_)
  ·
    have p50 := h50
    try simp only [decide_eq_true_eq, decide_eq_false_iff_not, Bool.not_eq_true', Bool.not_eq_false', Option.isNone_iff_eq_none, ne_eq, Decidable.not_not, Int.not_lt, Int.not_le] at p50
    have hk : k < v.cert.ls.length := by omega
    have hmem : v.cert.ls[k] ∈ v.cert.ls := List.getElem_mem hk
    have rbk : RdB w0 H (.slice v.cert.ls[k].a v.cert.ls[k].l.length v.cert.ls[k].c) v.cert.ls[k].l := rev.get hmem
    have hsnoc : texts (v.abs.cert.take (k + 1)) = texts (v.abs.cert.take k) ++ textB v.cert.ls[k].l := by rw [take_get _ _ (by rw [certs_len]; exact hk), texts_snoc]; simp [VoteV.abs]
    refine T_skip ?_
    refine X_then ?_
    refine T_seq ?_
    refine T_block ?_
    refine T_region ?_
    refine TL_q (Qt_move (.slice _ _ _) rfl) rfl ?_
    refine TL_q (Qt_fieldAddr 37 rfl rfl) rfl ?_
    refine TL_q (Qt_load1 rfl) rfl ?_
    refine TL_q (Qt_move (.int .i64 _) rfl) rfl ?_
    refine TL_q (Qt_indexR rfl rfl (by omega) (by simp; omega)) rfl ?_
    refine TL_q (Qt_loadR (.slice _ _ _) rfl (vals_get _ _ hk)) rfl ?_
    refine TL_e rfl (Ef_call (rText_c (by have := hs.each _ hmem; omega)) rfl (fun x59 => ?_))
    refine TL_e rfl (Ef_appendB (sv := .slice _ _ _) (xv := .slice _ _ _) rfl rfl (by have h1 := told_len v.abs hs (by rw [certs_len]; exact hc16) k; have h2 := textB_length v.cert.ls[k].l (by have := hs.each _ hmem; omega); have h3 := hs.each _ hmem; omega) rfl (fun a60 c60 => ?_))
    rw [show head v.abs ++ texts (v.abs.cert.take k) ++ textB v.cert.ls[k].l = head v.abs ++ texts (v.abs.cert.take (k + 1)) from by rw [hsnoc, List.append_assoc]]
    refine TL_q (Qt_assign (.slice _ _ _) rfl) rfl ?_
    refine TL_nil ?_
    refine X_block ?_
    refine X_then ?_
    refine T_region ?_
    refine TL_q (Qt_move (.int .i64 _) rfl) rfl ?_
    first
      | refine TL_q (Qt_add rfl rfl (by omega) (by omega)) rfl ?_
      | refine TL_q (Qt_addw rfl rfl) rfl ?_
    refine TL_q (Qt_assign (.int .i64 _) rfl) rfl ?_
    refine TL_nil ?_
    refine X_loop _ (by repeat (first | with_reducible exact agree_refl | refine agree_upd rfl ?_ | refine agree_mix rfl ?_ | refine agree_setAll rfl ?_)) (⟨k + 1, a60, c60, rfl, rfl, by omega⟩) (by show v.cert.ls.length - (k + 1 : Int).toNat < v.cert.ls.length - (k : Int).toNat; omega) ((Subs.st inferInstance))
  ·
    have p50 := h50
    try simp only [decide_eq_true_eq, decide_eq_false_iff_not, Bool.not_eq_true', Bool.not_eq_false', Option.isNone_iff_eq_none, ne_eq, Decidable.not_not, Int.not_lt, Int.not_le] at p50
    have et : v.abs.cert.take k = v.abs.cert := List.take_of_length_le (by rw [certs_len]; omega)
    simp only [et]
    rw [show head v.abs ++ texts v.abs.cert = told v.abs from rfl]
    refine T_exit ?_
    refine X_then_exit ?_
    refine X_loop_exit ?_
    refine X_block_exit ?_
    refine X_then ?_
    refine T_seq ?_
    refine T_region ?_
    refine TL_q (Qt_move (.slice _ _ _) rfl) rfl ?_
    refine TL_q (Qt_assign (.slice _ _ _) rfl) rfl ?_
    refine TL_nil ?_
    refine X_then ?_
    refine T_ret ?_
    exact X_ret ⟨a1, c1⟩ [_] Try.results38 ⟨rfl, trivial⟩ rfl (Subs.st inferInstance)
set_option maxHeartbeats 1000000 in
theorem rPut_c {w0 : World} {H : List SA} {v : VoteV} [rbv : RdB w0 H (.slice v.batch.a v.batch.l.length v.batch.c) v.batch.l] [rcv : RdC w0 H (.slice v.cert.a v.cert.ls.length v.cert.c) 1 (v.cert.ls.map BS.val)] [rev : RdE w0 H v.cert.ls] (hs : SmallV v.abs) :
    CT Try.prog w0 (H) 22 [.agg v.cells] (α := AC) (fun y => .tuple #[.slice y.a (putV v.abs).1.length y.c, .int .i64 (putV v.abs).2]) (fun y => row (.slice y.a (putV v.abs).1.length y.c) 5 1 (bytesV (putV v.abs).1) :: H) := by
  refine CT_intro Try.func22 rfl Try.ntmps22 rfl ?_
  refine T_seq ?_
  refine T_region ?_
  refine TL_e rfl (Ef_boxN rfl (fun b1 => ?_))
  refine TL_q (Qt_assign (.slice _ _ _) rfl) rfl ?_
  refine TL_q (Qt_assign (.int .i64 _) rfl) rfl ?_
  refine TL_nil ?_
  refine X_then ?_
  refine T_seq ?_
  refine T_seq ?_
  refine T_region ?_
  refine TL_q (Qt_fieldAddr 37 rfl rfl) rfl ?_
  refine TL_q (Qt_load1 rfl) rfl ?_
  refine TL_q (Qt_len_slice rfl Try.underlying25) rfl ?_
  refine TL_q (Qt_gtr rfl rfl) rfl ?_
  refine TL_nil ?_
  refine X_then ?_
  refine T_cond rfl (fun h8 => ?_) (fun h8 => ?_)
  ·
    have p8 := h8
    try simp only [decide_eq_true_eq, decide_eq_false_iff_not, Bool.not_eq_true', Bool.not_eq_false', Option.isNone_iff_eq_none, ne_eq, Decidable.not_not, Int.not_lt, Int.not_le] at p8
    refine T_seq ?_
    refine T_region ?_
    refine TL_q (Qt_assign (.slice _ _ _) rfl) rfl ?_
    refine TL_q (Qt_assign (.int .i64 _) rfl) rfl ?_
    refine TL_nil ?_
    refine X_then ?_
    refine T_ret ?_
    refine X_then_ret ?_
    have e : putV v.abs = ([], 4) := by rw [putV_ref]; rw [if_pos (by rw [certs_len]; omega)]
    simp only [e]
    exact X_ret ⟨none, 0⟩ [_, _] Try.results22 ⟨rfl, rfl, trivial⟩ rfl (fun w hw => (Subs.st inferInstance w hw : St w0 H w).addNilB 5)
  ·
    have p8 := h8
    try simp only [decide_eq_true_eq, decide_eq_false_iff_not, Bool.not_eq_true', Bool.not_eq_false', Option.isNone_iff_eq_none, ne_eq, Decidable.not_not, Int.not_lt, Int.not_le] at p8
    have p8b : ¬ 16 < v.abs.cert.length := by rw [certs_len]; omega
    refine T_skip ?_
    refine X_then ?_
    refine T_seq ?_
    refine T_region ?_
    refine TL_q (Qt_loadN rfl rfl) rfl ?_
    refine TL_e rfl (Ef_call (rBytes_c hs (by omega)) rfl (fun x10 => ?_))
    refine TL_q (Qt_assign (.slice _ _ _) rfl) rfl ?_
    refine TL_nil ?_
    refine X_then ?_
    refine T_seq ?_
    refine T_seq ?_
    refine T_region ?_
    refine TL_q (Qt_move (.slice _ _ _) rfl) rfl ?_
    refine TL_q (Qt_len_slice rfl Try.underlying24) rfl ?_
    refine TL_q (Qt_gtr rfl rfl) rfl ?_
    refine TL_nil ?_
    refine X_then ?_
    refine T_cond rfl (fun h13 => ?_) (fun h13 => ?_)
    ·
      have p13 := h13
      try simp only [decide_eq_true_eq, decide_eq_false_iff_not, Bool.not_eq_true', Bool.not_eq_false', Option.isNone_iff_eq_none, ne_eq, Decidable.not_not, Int.not_lt, Int.not_le] at p13
      refine T_seq ?_
      refine T_region ?_
      refine TL_q (Qt_assign (.slice _ _ _) rfl) rfl ?_
      refine TL_q (Qt_assign (.int .i64 _) rfl) rfl ?_
      refine TL_nil ?_
      refine X_then ?_
      refine T_ret ?_
      refine X_then_ret ?_
      have e : putV v.abs = ([], 4) := by rw [putV_ref]; rw [if_neg p8b, if_pos (by omega)]
      simp only [e]
      exact X_ret ⟨none, 0⟩ [_, _] Try.results22 ⟨rfl, rfl, trivial⟩ rfl (fun w hw => (Subs.st inferInstance w hw : St w0 H w).addNilB 5)
    ·
      have p13 := h13
      try simp only [decide_eq_true_eq, decide_eq_false_iff_not, Bool.not_eq_true', Bool.not_eq_false', Option.isNone_iff_eq_none, ne_eq, Decidable.not_not, Int.not_lt, Int.not_le] at p13
      have p13b : ¬ 65536 < (told v.abs).length := by omega
      refine T_skip ?_
      refine X_then ?_
      refine T_seq ?_
      refine T_seq ?_
      refine T_region ?_
      refine TL_q (Qt_loadN rfl rfl) rfl ?_
      refine TL_e rfl (Ef_call (parts_c) rfl (fun x15 => ?_))
      refine TL_q (Qt_not rfl) rfl ?_
      refine TL_nil ?_
      refine X_then ?_
      refine T_cond rfl (fun h16 => ?_) (fun h16 => ?_)
      ·
        have p16 := h16
        try simp only [decide_eq_true_eq, decide_eq_false_iff_not, Bool.not_eq_true', Bool.not_eq_false', Option.isNone_iff_eq_none, ne_eq, Decidable.not_not, Int.not_lt, Int.not_le] at p16
        refine T_seq ?_
        refine T_region ?_
        refine TL_q (Qt_assign (.slice _ _ _) rfl) rfl ?_
        refine TL_q (Qt_assign (.int .i64 _) rfl) rfl ?_
        refine TL_nil ?_
        refine X_then ?_
        refine T_ret ?_
        refine X_then_ret ?_
        have e : putV v.abs = ([], 15) := by rw [putV_ref]; rw [if_neg p8b, if_neg p13b, if_neg (by simpa using h16)]
        simp only [e]
        exact X_ret ⟨none, 0⟩ [_, _] Try.results22 ⟨rfl, rfl, trivial⟩ rfl (fun w hw => (Subs.st inferInstance w hw : St w0 H w).addNilB 5)
      ·
        have p16 := h16
        try simp only [decide_eq_true_eq, decide_eq_false_iff_not, Bool.not_eq_true', Bool.not_eq_false', Option.isNone_iff_eq_none, ne_eq, Decidable.not_not, Int.not_lt, Int.not_le] at p16
        refine T_skip ?_
        refine X_then ?_
        refine T_seq ?_
        refine T_region ?_
        refine TL_q (Qt_move (.slice _ _ _) rfl) rfl ?_
        refine TL_q (Qt_assign (.slice _ _ _) rfl) rfl ?_
        refine TL_q (Qt_assign (.int .i64 _) rfl) rfl ?_
        refine TL_nil ?_
        refine X_then ?_
        refine T_ret ?_
        have e : putV v.abs = (told v.abs, 0) := by rw [putV_ref]; rw [if_neg p8b, if_neg p13b, if_pos (by simpa using h16)]
        simp only [e]
        exact X_ret ⟨x10.a, x10.c⟩ [_, _] Try.results22 ⟨rfl, rfl, trivial⟩ rfl (Subs.st inferInstance)
end Go.Proofs.Ytdjbhpdfkopdgaa
