/- Walks: the references on batches. -/
import Derived.Test.YtnijomppbgdmnaaGreatSgP
import Derived.Test.YtnijomppbgdmnaaGreatXtRP
namespace Go.Proofs.YtnijomppbgdmnaaGreat
open Go.RowKit Go.Sx
set_option maxRecDepth 100000
set_option linter.unusedSimpArgs false
set_option linter.unusedVariables false
theorem reqs_len : ∀ ls : List ReqV, (ls.flatMap ReqV.list).length = ls.length * 7
 | [] => rfl
 | x :: l => by rw [List.flatMap_cons, List.length_append, ReqV.list_len, reqs_len l, List.length_cons]; omega
theorem reqs_pos {ls : List ReqV} {i : Nat} (h : i < ls.length) : 0 < (ls.flatMap ReqV.list).length := by rw [reqs_len]; omega
theorem req_client (ls : List ReqV) (i : Nat) (h : i < ls.length) : (ls.flatMap ReqV.list)[i * 7 + 0]? = some (.int .i64 ls[i].client) := by rw [flat_get ReqV.list 7 ReqV.list_len ls i 0 h (by decide)]; rfl
theorem req_seq (ls : List ReqV) (i : Nat) (h : i < ls.length) : (ls.flatMap ReqV.list)[i * 7 + 1]? = some (.int .i64 ls[i].seq) := by rw [flat_get ReqV.list 7 ReqV.list_len ls i 1 h (by decide)]; rfl
attribute [local irreducible] sha putFixed verV textQ getG rdText formedQ
set_option maxHeartbeats 1000000 in
theorem rFormedBatch_c {w0 : World} {H : List SA} {a : Option Addr} {c : Nat} {ls : List ReqV} [hr : RdC w0 H (.slice a ls.length c) 7 (ls.flatMap ReqV.list)] (hn : ls.length ≤ 100) :
 CT Tryz.prog w0 (H) 158 [.slice a ls.length c] (α := Unit) (fun _ => .bool (fbB (ls.map ReqV.abs))) (fun _ => H) := by
 refine CT_intro Tryz.func158 rfl Tryz.ntmps158 rfl ?_
 refine T2 (Qab rfl rfl (TX (zS (T2 ?_))))
 refine Qms rfl rfl (zq (zL rfl Tryz.underlying149) rfl (zq (Qt_lss rfl rfl) rfl (Qmb rfl rfl ?_)))
 refine TL_split 8 rfl (fun h8 => ?_) (fun h8 => ?_)
 ·
  have p8 := h8
  try simp only [dp] at p8
  refine zp rfl rfl h8 rfl (zp rfl rfl h8 rfl (zp rfl rfl h8 rfl (zq (zT (.bool _) rfl h8 rfl) rfl (TX (T_cond_true rfl rfl ?_)))))
  refine T2 (Qab rfl rfl (TX (zQ (zr ?_))))
  have e : fbB (ls.map ReqV.abs) = false := by rw [fbB_P, List.length_map, decide_eq_false (by omega), Bool.and_false]
  rw [e]
  exact zX () [_] Tryz.results158 ⟨rfl, trivial⟩ rfl SB
 have p8 := h8
 try simp only [dp] at p8
 refine zt rfl rfl h8 (Qms rfl rfl (zt rfl rfl h8 (zq (zL rfl Tryz.underlying149) rfl (zt rfl rfl h8 (zq (Qt_gtr rfl rfl) rfl ?_)))))
 refine zq (zF (.bool _) rfl h8 rfl) rfl (TX (zC rfl (fun h12 => ?_) (fun h12 => ?_)))
 ·
  have p12 := h12
  try simp only [dp] at p12
  refine T2 (Qab rfl rfl (TX (zQ (zr ?_))))
  have e : fbB (ls.map ReqV.abs) = false := by rw [fbB_P, List.length_map, decide_eq_false (by omega), Bool.and_false]
  rw [e]
  exact zX () [_] Tryz.results158 ⟨rfl, trivial⟩ rfl SB
 have p12 := h12
 try simp only [dp] at p12
 refine zk (zx (zS (T2 ?_)))
 refine Qai rfl rfl (TX (zB ?_))
 refine T_loop [2, 3, 4, 13, 14, 15, 16, 17, 18, 19, 20, 21, 22, 23, 24, 25, 26, 27, 28, 29, 30, 31, 32, 33, 34, 35, 36, 37, 38, 39, 40, 41, 42, 43, 44, 45, 46, 47, 48, 49, 50, 51, 52, 53] [3] (fun us H' => ∃ (k : Nat), us = [.int .i64 (k : Int)] ∧ H = H' ∧ k ≤ ls.length ∧ (okP [] (ls.map ReqV.abs) = okP ((ls.map ReqV.abs).take k) ((ls.map ReqV.abs).drop k))) (fun us => match us with | .int _ i :: _ => ls.length - i.toNat | _ => 0) ⟨0, rfl, rfl, by omega, rfl⟩ SB ?_
 rintro τ0 _ _  ⟨k, rfl, rfl, hk0, hi⟩ _
 refine zS (T2 ?_)
 refine Qmi rfl rfl (Qms rfl rfl (zq (zL rfl Tryz.underlying149) rfl (zq (Qt_lss rfl rfl) rfl (TX (zC rfl (fun h16 => ?_) (fun h16 => ?_))))))
 ·
  have p16 := h16
  try simp only [dp] at p16
  have hk : k < ls.length := by omega
  have hst := okP_step (ls.map ReqV.abs) k (by simpa using hk)
  have hgk : ((ls.map ReqV.abs)[k]'(by simpa using hk)) = ls[k].abs := by simp
  rw [hgk] at hst
  refine zk (zx (zS (zB (zS (T2 ?_)))))
  refine Qms rfl rfl (Qmi rfl rfl (zq (Qt_indexN rfl rfl (by omega) (by omega)) rfl (zq (Qt_val (Qt_loadRN 7 ls[k].list rfl (flat_slice _ 7 ReqV.list_len ls k hk) (ReqV.list_len _) (by decide)) (show Value.agg ls[k].list.toArray = Value.agg ls[k].cells from rfl)) rfl ?_)))
  refine ze rfl (zc (rFormed_c (r := ls[k])) rfl (fun x23 => ?_))
  refine zq (Qt_not rfl) rfl (TX (zC rfl (fun h24 => ?_) (fun h24 => ?_)))
  ·
   have p24 := h24
   try simp only [dp] at p24
   refine T2 (Qab rfl rfl (TX (zQ (zr (zb (zr (X_loop_ret (zb (zr ?_)))))))))
   have e : fbB (ls.map ReqV.abs) = false := by rw [fbB_P, hi, hst, show formedQ ls[k].abs = false from by simpa using p24]; rfl
   rw [e]
   exact zX () [_] Tryz.results158 ⟨rfl, trivial⟩ rfl SB
  have p24 := h24
  try simp only [dp] at p24
  have hfk : formedQ ls[k].abs = true := by simpa using p24
  refine S4 (Qai rfl rfl (TX (zB ?_)))
  refine T_loop [2, 4, 25, 26, 27, 28, 29, 30, 31, 32, 33, 34, 35, 36, 37, 38, 39, 40, 41, 42, 43, 44, 45, 46, 47, 48, 49, 50, 51, 52, 53] [4] (fun us H' => ∃ (j : Nat), us = [.int .i64 (j : Int)] ∧ H = H' ∧ j ≤ k ∧ (pbad ((ls.map ReqV.abs).take j) ls[k].abs = false)) (fun us => match us with | .int _ i :: _ => k - i.toNat | _ => 0) ⟨0, rfl, rfl, by omega, rfl⟩ SB ?_
  rintro τ1 _ _  ⟨j, rfl, rfl, hj0, hb⟩ _
  refine zS (T2 ?_)
  refine Qmi rfl rfl (Qmi rfl rfl (zq (Qt_lss rfl rfl) rfl (TX (zC rfl (fun h27 => ?_) (fun h27 => ?_)))))
  ·
   have p27 := h27
   try simp only [dp] at p27
   have hj : j < k := by omega
   have hjl : j < ls.length := by omega
   have hgj : ((ls.map ReqV.abs)[j]'(by simpa using hjl)) = ls[j].abs := by simp
   have hps := pbad_step (ls.map ReqV.abs) j (by simpa using hjl) ls[k].abs
   rw [hgj, hb, Bool.false_or] at hps
   refine zk (zx (zS (zB (zS ?_))))
   refine T_draw H [(0, true), (1, true), (2, true), (3, true), (4, true), (5, true), (6, true), (7, true), (8, true), (9, true), (10, true), (11, true), (12, true), (13, true), (14, true), (15, true), (16, true), (17, true), (18, true), (19, true), (20, true), (21, true), (22, true), (23, true)] (by kernel_rfl) (by kernel_rfl) rfl (by kernel_rfl) SB (fun hns0 => ?_)
   refine zd hns0 rfl (zm (.slice _ _ _) rfl) rfl (zd hns0 rfl (zm (.int .i64 _) rfl) rfl (zd hns0 rfl (Qt_indexN rfl rfl (by omega) (by omega)) rfl (zd hns0 rfl (Qt_fieldR rfl 7 (reqs_pos hjl)) rfl (zd hns0 rfl (Qt_loadRs 7 (.int .i64 ls[j].client) rfl (req_client ls j hjl)) rfl (zd hns0 rfl (zm (.slice _ _ _) rfl) rfl ?_)))))
   refine zd hns0 rfl (zm (.int .i64 _) rfl) rfl (zd hns0 rfl (Qt_indexN rfl rfl (by omega) (by omega)) rfl (zd hns0 rfl (Qt_fieldR rfl 7 (reqs_pos hk)) rfl (zd hns0 rfl (Qt_loadRs 7 (.int .i64 ls[k].client) rfl (req_client ls k hk)) rfl (zd hns0 rfl (Qt_eql rfl rfl) rfl (zd hns0 rfl (zm (.bool _) rfl) rfl ?_)))))
   refine DL_split 41 rfl (fun h41 => ?_) (fun h41 => ?_)
   ·
    have p41 := h41
    try simp only [dp] at p41
    refine DL_qg hns0 rfl rfl rfl h41 (zm (.slice _ _ _) rfl) rfl ?_
    refine DL_qg hns0 rfl rfl rfl h41 (zm (.int .i64 _) rfl) rfl ?_
    refine DL_qg hns0 rfl rfl rfl h41 (Qt_indexN rfl rfl (by omega) (by omega)) rfl ?_
    refine DL_qg hns0 rfl rfl rfl h41 (Qt_fieldR rfl 7 (reqs_pos hjl)) rfl ?_
    refine DL_qg hns0 rfl rfl rfl h41 (Qt_loadRs 7 (.int .i64 ls[j].seq) rfl (req_seq ls j hjl)) rfl ?_
    refine DL_qg hns0 rfl rfl rfl h41 (zm (.slice _ _ _) rfl) rfl ?_
    refine DL_qg hns0 rfl rfl rfl h41 (zm (.int .i64 _) rfl) rfl ?_
    refine DL_qg hns0 rfl rfl rfl h41 (Qt_indexN rfl rfl (by omega) (by omega)) rfl ?_
    refine DL_qg hns0 rfl rfl rfl h41 (Qt_fieldR rfl 7 (reqs_pos hk)) rfl ?_
    refine DL_qg hns0 rfl rfl rfl h41 (Qt_loadRs 7 (.int .i64 ls[k].seq) rfl (req_seq ls k hk)) rfl ?_
    refine DL_qg hns0 rfl rfl rfl h41 (Qt_geq rfl rfl) rfl ?_
    refine zd hns0 rfl (zT (.bool _) rfl h41 rfl) rfl (DL_nil (zx (zC rfl (fun h53 => ?_) (fun h53 => ?_))))
    ·
     have p53 := h53
     try simp only [dp] at p53
     refine T2 (Qab rfl rfl (TX (zQ (zb (zr (X_loop_ret (zb (zb (zr (X_loop_ret (zb (zr ?_))))))))))))
     have hm : pbad ((ls.map ReqV.abs).take k) ls[k].abs = true := pbad_more (ls.map ReqV.abs) j k hj (by rw [List.length_map]; omega) _ (by rw [hgj]; exact ⟨show ls[j].client = ls[k].client by omega, show ls[k].seq ≤ ls[j].seq by omega⟩)
     have e : fbB (ls.map ReqV.abs) = false := by rw [fbB_P, hi, hst, hfk, hm]; rfl
     rw [e]
     exact zX () [_] Tryz.results158 ⟨rfl, trivial⟩ rfl SB
    have p53 := h53
    try simp only [dp] at p53
    refine zk (X_block (zx (zR ?_)))
    refine Qmi rfl rfl (zq (Qt_add rfl rfl (by omega) (by omega)) rfl (Qai rfl rfl (zz ?_)))
    apply X_loop
    case ha => exact (by repeat (first | with_reducible exact agree_refl | refine agree_upd rfl ?_ | refine agree_mix rfl ?_ | refine agree_setAll rfl ?_))
    case hI => exact ⟨j + 1, rfl, rfl, by omega, by rw [hps]; exact decide_eq_false (by rintro ⟨h1, h2⟩; dsimp only [ReqV.abs] at h1 h2; omega)⟩
    case hm => exact by show k - (j + 1 : Int).toNat < k - (j : Int).toNat; omega
    case hH => exact SB
   have p41 := h41
   try simp only [dp] at p41
   refine DL_pass hns0 rfl rfl rfl h41 rfl (DL_pass hns0 rfl rfl rfl h41 rfl (DL_pass hns0 rfl rfl rfl h41 rfl (DL_pass hns0 rfl rfl rfl h41 rfl (DL_pass hns0 rfl rfl rfl h41 rfl (DL_pass hns0 rfl rfl rfl h41 rfl ?_)))))
   refine DL_pass hns0 rfl rfl rfl h41 rfl (DL_pass hns0 rfl rfl rfl h41 rfl (DL_pass hns0 rfl rfl rfl h41 rfl (DL_pass hns0 rfl rfl rfl h41 rfl (DL_pass hns0 rfl rfl rfl h41 rfl (zd hns0 rfl (zF (.bool _) rfl h41 rfl) rfl ?_)))))
   refine DL_nil (zx (T_cond_false rfl rfl (zk (X_block (zx (zR ?_))))))
   refine Qmi rfl rfl (zq (Qt_add rfl rfl (by omega) (by omega)) rfl (Qai rfl rfl (zz ?_)))
   apply X_loop
   case ha => exact (by repeat (first | with_reducible exact agree_refl | refine agree_upd rfl ?_ | refine agree_mix rfl ?_ | refine agree_setAll rfl ?_))
   case hI => exact ⟨j + 1, rfl, rfl, by omega, by rw [hps]; exact decide_eq_false (by rintro ⟨h1, h2⟩; dsimp only [ReqV.abs] at h1 h2; omega)⟩
   case hm => exact by show k - (j + 1 : Int).toNat < k - (j : Int).toNat; omega
   case hH => exact SB
  have p27 := h27
  try simp only [dp] at p27
  have hjk : j = k := by omega
  rw [hjk] at hb
  refine zY (zG (zW (zE (X_block (zx (zR ?_))))))
  refine Qmi rfl rfl (zq (Qt_add rfl rfl (by omega) (by omega)) rfl (Qai rfl rfl (zz ?_)))
  apply X_loop
  case ha => exact (by repeat (first | with_reducible exact agree_refl | refine agree_upd rfl ?_ | refine agree_mix rfl ?_ | refine agree_setAll rfl ?_))
  case hI => exact ⟨k + 1, rfl, rfl, by omega, by rw [hi, hst, hfk, hb]; rfl⟩
  case hm => exact by show ls.length - (k + 1 : Int).toNat < ls.length - (k : Int).toNat; omega
  case hH => exact SB
 have p16 := h16
 try simp only [dp] at p16
 have hkn : k = ls.length := by omega
 have hok : okP [] (ls.map ReqV.abs) = true := by rw [hi, List.drop_of_length_le (by simp; omega)]; rfl
 refine zY (zG (zW (zE (zx (T2 ?_)))))
 refine Qab rfl rfl (TX (zQ ?_))
 have e : fbB (ls.map ReqV.abs) = true := by rw [fbB_P, hok, List.length_map, decide_eq_true (by omega)]; rfl
 rw [e]
 exact zX () [_] Tryz.results158 ⟨rfl, trivial⟩ rfl SB
set_option maxHeartbeats 1000000 in
theorem rGetBatch_c {w0 : World} {H : List SA} {a : Option Addr} {l : List UInt8} {c : Nat} [hr : RdB w0 H (.slice a l.length c) l] (hl : l.length ≤ 4294967296) :
 CT Tryz.prog w0 (H) 119 [.slice a l.length c] (α := (AC × List ReqV) × List Nat) (fun y => .tuple #[.slice y.1.1.a y.1.2.length y.1.1.c, .int .i64 (batchG l).1]) (fun y => pu (y.1.2.map ReqV.abs = (batchG l).2 ∧ (∀ x ∈ y.1.2, Sig64 x.op.a ∧ Sig64 x.op.b) ∧ y.1.2.length ≤ 4) :: row (.slice y.1.1.a (y.1.2).length y.1.1.c) 200 7 ((y.1.2).flatMap ReqV.list) :: dat y.2 ⟨(y.1.2).map ReqV.sig, [], []⟩ :: H) := by
 refine CT_intro Tryz.func119 rfl Tryz.ntmps119 rfl ?_
 refine T2 (Qas rfl rfl (Qai rfl rfl (T4 (Qms rfl rfl ?_))))
 refine ze rfl (zc (rReadCount_c (k := 0) (m := 4) (by omega) hl (by decide) (by decide)) rfl (fun x11 => ?_))
 rw [List.drop_zero]
 obtain ⟨hb1, hb2, hb3⟩ := rdCount_bound l 4
 refine ze rfl (Ef_allocN (fun b4 => ?_))
 refine zN (zs rfl rfl (?_))
 refine TX (zS (T2 ?_))
 refine zq (zf 3 rfl rfl) rfl (zq (zl rfl) rfl (zq (Qt_neq rfl rfl) rfl (TX (zC rfl (fun h14 => ?_) (fun h14 => ?_)))))
 ·
  have p14 := h14
  try simp only [dp] at p14
  refine zS (T_draw (blk b4 (.cells (GotV.mk ((rdCount l 4).2.1 : Int) ⟨none, 0, []⟩ ((rdCount l 4).2.2 : Int) (rdCount l 4).1).cells 123 (0, 0)) :: H) [(0, true), (1, true), (2, true), (3, true)] (by kernel_rfl) (by kernel_rfl) rfl (by kernel_rfl) SB (fun hns0 => ?_))
  refine zd hns0 rfl (zf 3 rfl rfl) rfl (zd hns0 rfl (zl rfl) rfl (zd hns0 rfl (za (.slice _ _ _) rfl) rfl (zd hns0 rfl (za (.int .i64 _) rfl) rfl (DL_nil (zx (zQ (zr ?_)))))))
  have e : batchG l = ((rdCount l 4).1, []) := by
   unfold batchG; rw [if_pos p14]
  simp only [e]
  exact zX ((⟨none, 0⟩, []), []) [_, _] Tryz.results119 ⟨rfl, rfl, trivial⟩ rfl (fun w hw => by
   have h0 : St w0 H w := SB w hw
   exact St.addPure (h0.datNil.addNil 200 7) ⟨rfl, fun x hx => (by cases hx), Nat.zero_le _⟩)
 have p14 := h14
 try simp only [dp] at p14
 have hc0 : (rdCount l 4).1 = 0 := by omega
 have hc4 := (rdCount_ok hc0).2.1
 rw [← show rdCount l 4 = rdPacked l from (rdCount_ok hc0).1] at hc4
 refine S4 (zq (zf 2 rfl rfl) rfl (zq (zl rfl) rfl (Qai rfl rfl (T4 (Qas rfl rfl ?_)))))
 refine TX (zS (T2 ?_))
 refine Qai rfl rfl (TX (zB ?_))
 refine T_loop [2, 3, 5, 6, 7, 8, 9, 19, 20, 21, 22, 23, 24, 25, 26, 27, 28, 29, 30, 31, 32, 33, 34, 35, 36, 37, 38, 39, 40, 41, 42, 43, 44, 45, 46, 47, 48, 49, 50] [7, 5, 6] (fun us H' => ∃ (k : Nat) (q : Nat) (a7 : Option Addr) (c7 : Nat) (ls : List ReqV) (fp : List Nat), us = [.int .i64 (k : Int), .int .i64 (q : Int), .slice a7 ls.length c7] ∧ row (.slice a7 (ls).length c7) 200 7 ((ls).flatMap ReqV.list) :: dat fp ⟨(ls).map ReqV.sig, [], []⟩ :: blk b4 (.cells (GotV.mk ((rdCount l 4).2.1 : Int) ⟨none, 0, []⟩ ((rdCount l 4).2.2 : Int) (rdCount l 4).1).cells 123 (0, 0)) :: H = H' ∧ k ≤ (rdCount l 4).2.1 ∧ ((itA l (rdCount l 4).2.2 (rdCount l 4).2.1 []) = itA l q ((rdCount l 4).2.1 - k) (ls.map ReqV.abs)) ∧ (ls.length = k) ∧ (q ≤ l.length) ∧ (∀ x ∈ ls, Sig64 x.op.a ∧ Sig64 x.op.b)) (fun us => match us with | .int _ i :: _ => (rdCount l 4).2.1 - i.toNat | _ => 0) ⟨0, (rdCount l 4).2.2, none, 0, [], [], rfl, rfl, by omega, rfl, rfl, hb2, fun x hx => by cases hx⟩ (fun w hw => by
  have h0 : St w0 (blk b4 (.cells (GotV.mk ((rdCount l 4).2.1 : Int) ⟨none, 0, []⟩ ((rdCount l 4).2.2 : Int) (rdCount l 4).1).cells 123 (0, 0)) :: H) w := SB w hw
  exact (h0.datNil).addNil 200 7) ?_
 rintro τ0 _ _  ⟨k, q, a7, c7, ls, fp, rfl, rfl, hk0, hi, hll, hq, hsg⟩ _
 refine zS (T2 ?_)
 refine Qmi rfl rfl (zq (zf 0 rfl rfl) rfl (zq (zl rfl) rfl (zq (Qt_conv_i64 rfl rfl Tryz.underlying3 (by omega) (by omega)) rfl (zq (Qt_lss rfl rfl) rfl (TX ?_)))))
 refine zC rfl (fun h23 => ?_) (fun h23 => ?_)
 ·
  have p23 := h23
  try simp only [dp] at p23
  have hk : k < (rdCount l 4).2.1 := by omega
  rw [show (rdCount l 4).2.1 - k = ((rdCount l 4).2.1 - (k + 1)) + 1 from by omega] at hi
  refine zk (zx (zS (zB (T2 ?_))))
  refine Qms rfl rfl (Qmi rfl rfl ?_)
  refine ze rfl (zc (rReadText_c (k := q) (m := 2000) hq hl (by decide) (by decide)) rfl (fun x28 => ?_))
  obtain ⟨ht1, ht2⟩ := rdText_bound (l.drop q) 2000
  rw [List.length_drop] at ht1 ht2
  refine ze rfl (Ef_allocN (fun b8 => ?_))
  refine zN (zs rfl rfl (?_))
  refine TX (zS (T2 ?_))
  refine zq (zf 3 rfl rfl) rfl (zq (zl rfl) rfl (zq (Qt_neq rfl rfl) rfl (TX (zC rfl (fun h31 => ?_) (fun h31 => ?_)))))
  ·
   have p31 := h31
   try simp only [dp] at p31
   rw [itA_bad1 p31] at hi
   refine zS (T_draw (blk b8 (.cells (GotV.mk 0 ⟨x28.a, x28.c, (rdText (l.drop q) 2000).2.1⟩ ((rdText (l.drop q) 2000).2.2 : Int) (rdText (l.drop q) 2000).1).cells 123 (0, 0)) :: H) [(0, true), (1, true), (2, true), (3, true)] (by kernel_rfl) (by kernel_rfl) rfl (by kernel_rfl) SB (fun hns1 => ?_))
   refine zd hns1 rfl (zf 3 rfl rfl) rfl (zd hns1 rfl (zl rfl) rfl (zd hns1 rfl (za (.slice _ _ _) rfl) rfl (zd hns1 rfl (za (.int .i64 _) rfl) rfl (DL_nil (zx (zQ (zr (zb (zr (X_loop_ret (zb (zr ?_))))))))))))
   have e : batchG l = ((rdText (l.drop q) 2000).1, []) := by
    unfold batchG; rw [if_neg (by omega), if_pos (by rw [hi]; exact p31), hi]
   simp only [e]
   exact zX ((⟨none, 0⟩, []), []) [_, _] Tryz.results119 ⟨rfl, rfl, trivial⟩ rfl (fun w hw => by
    have h0 : St w0 H w := SB w hw
    exact St.addPure (h0.datNil.addNil 200 7) ⟨rfl, fun x hx => (by cases hx), Nat.zero_le _⟩)
  have p31 := h31
  try simp only [dp] at p31
  refine S4 (Qmi rfl rfl (zq (zf 2 rfl rfl) rfl (zq (zl rfl) rfl (zq (Qt_add rfl rfl (by omega) (by omega)) rfl ?_))))
  rw [show (q : Int) + (((rdText (l.drop q) 2000).2.2 : Nat) : Int) = ((q + (rdText (l.drop q) 2000).2.2 : Nat) : Int) from by omega]
  refine Qai rfl rfl (T4 (zq (zf 1 rfl rfl) rfl (zq (zl rfl) rfl ?_)))
  refine ze rfl (zc (rGetQ_c (a := x28.a) (l := (rdText (l.drop q) 2000).2.1) (c := x28.c) (by omega)) rfl (fun x40 => ?_))
  refine TL_pure (fun h40 => ?_)
  have hys := getG_sig (rdText (l.drop q) 2000).2.1
  rw [← h40] at hys
  refine ze rfl (Ef_allocN (fun b9 => ?_))
  refine zN (zs rfl rfl (?_))
  refine TX (zS (T2 ?_))
  refine zq (zf 7 rfl rfl) rfl (zq (zl rfl) rfl (zq (Qt_neq rfl rfl) rfl (TX (zC rfl (fun h43 => ?_) (fun h43 => ?_)))))
  ·
   have p43 := h43
   try simp only [dp] at p43
   rw [itA_bad2 (by omega) p43] at hi
   refine zS (T_draw (blk b9 (.cells (QGotV.mk x40 (getG (rdText (l.drop q) 2000).2.1).1).cells 261 (0, 0)) :: H) [(0, true), (1, true), (2, true), (3, true)] (by kernel_rfl) (by kernel_rfl) rfl (by kernel_rfl) SB (fun hns2 => ?_))
   refine zd hns2 rfl (zf 7 rfl rfl) rfl (zd hns2 rfl (zl rfl) rfl (zd hns2 rfl (za (.slice _ _ _) rfl) rfl (zd hns2 rfl (za (.int .i64 _) rfl) rfl (DL_nil (zx (zQ (zr (zb (zr (X_loop_ret (zb (zr ?_))))))))))))
   have e : batchG l = ((getG (rdText (l.drop q) 2000).2.1).1, []) := by
    unfold batchG; rw [if_neg (by omega), if_pos (by rw [hi]; exact p43), hi]
   simp only [e]
   exact zX ((⟨none, 0⟩, []), []) [_, _] Tryz.results119 ⟨rfl, rfl, trivial⟩ rfl (fun w hw => by
    have h0 : St w0 H w := SB w hw
    exact St.addPure (h0.datNil.addNil 200 7) ⟨rfl, fun x hx => (by cases hx), Nat.zero_le _⟩)
  have p43 := h43
  try simp only [dp] at p43
  rw [itA_ok (by omega) (by omega), ← h40] at hi
  refine zk (zx (zR ?_))
  refine Qms rfl rfl (zq (zf 0 rfl rfl) rfl (zq (zn rfl rfl) rfl ?_))
  refine ze rfl (Ef_sliceN (m := ([x40] : List ReqV).length) [.agg (x40).cells] (([x40] : List ReqV).flatMap ReqV.list) rfl rfl rfl rfl (by simp [Value.cells, ReqV.size]) rfl rfl (fun a49 c49 => ?_))
  refine ze rfl (Ef_appendS ReqV.list (sv := .slice _ _ _) (xv := .slice _ _ _) (xs := ls) (ys := [x40]) ReqV.list_len ReqV.list_one rfl rfl (by simp; omega) rfl rfl (fun a50 c50 => ?_))
  refine Qas rfl rfl (zz (X_block (zx (zR ?_))))
  refine Qmi rfl rfl (zq (Qt_add rfl rfl (by omega) (by omega)) rfl (Qai rfl rfl (zz ?_)))
  apply X_loop
  case ha => exact (by repeat (first | with_reducible exact agree_refl | refine agree_upd rfl ?_ | refine agree_mix rfl ?_ | refine agree_setAll rfl ?_))
  case hI => exact ⟨k + 1, _, a50, c50, ls ++ [x40], (fp ++ (rowFp (.slice x40.sig.a x40.sig.l.length x40.sig.c))), rfl, rfl, by omega, by rw [hi, List.map_append]; rfl, by simp [hll], by omega, fun x hx => by rcases List.mem_append.1 hx with h | h; exact hsg x h; rw [List.mem_singleton.1 h]; exact hys⟩
  case hm => exact by show (rdCount l 4).2.1 - (k + 1 : Int).toNat < (rdCount l 4).2.1 - (k : Int).toNat; omega
  case hH => exact (fun w hw => by
   have h1 : St w0 (row (.slice x40.sig.a x40.sig.l.length x40.sig.c) 5 1 (bytesV x40.sig.l) :: dat fp ⟨(ls).map ReqV.sig, [], []⟩ :: row (.slice a50 (ls ++ [x40]).length c50) 200 7 ((ls ++ [x40]).flatMap ReqV.list) :: blk b4 (.cells (GotV.mk ((rdCount l 4).2.1 : Int) ⟨none, 0, []⟩ ((rdCount l 4).2.2 : Int) (rdCount l 4).1).cells 123 (0, 0)) :: H) w := SB w hw
   have h3 : St w0 (dat fp ⟨(ls).map ReqV.sig, [], []⟩ :: dat (rowFp (.slice x40.sig.a x40.sig.l.length x40.sig.c)) ⟨[x40.sig], [], []⟩ :: row (.slice a50 (ls ++ [x40]).length c50) 200 7 ((ls ++ [x40]).flatMap ReqV.list) :: blk b4 (.cells (GotV.mk ((rdCount l 4).2.1 : Int) ⟨none, 0, []⟩ ((rdCount l 4).2.2 : Int) (rdCount l 4).1).cells 123 (0, 0)) :: H) w := Subs.st inferInstance w h1.datB
   have h4 : St w0 (dat (fp ++ (rowFp (.slice x40.sig.a x40.sig.l.length x40.sig.c))) ⟨(ls ++ [x40]).map ReqV.sig, [], []⟩ :: row (.slice a50 (ls ++ [x40]).length c50) 200 7 ((ls ++ [x40]).flatMap ReqV.list) :: blk b4 (.cells (GotV.mk ((rdCount l 4).2.1 : Int) ⟨none, 0, []⟩ ((rdCount l 4).2.2 : Int) (rdCount l 4).1).cells 123 (0, 0)) :: H) w := by
    rw [List.map_append]; exact h3.datAdd
   exact Subs.st inferInstance w h4)
 have p23 := h23
 try simp only [dp] at p23
 have hkn : k = (rdCount l 4).2.1 := by omega
 rw [hkn, Nat.sub_self] at hi
 have hie : (itA l (rdCount l 4).2.2 (rdCount l 4).2.1 []) = (0, ls.map ReqV.abs, q) := hi
 refine zY (zG (zW (zE (zx (zS (T2 ?_))))))
 refine Qmi rfl rfl (Qms rfl rfl (zq (zL rfl Tryz.underlying33) rfl (zq (Qt_lss rfl rfl) rfl (TX (zC rfl (fun h54 => ?_) (fun h54 => ?_))))))
 ·
  have p54 := h54
  try simp only [dp] at p54
  refine T2 (Qas rfl rfl (Qai rfl rfl (TX (zQ (zr ?_)))))
  have e : batchG l = (2, []) := by
   unfold batchG; rw [if_neg (by omega), if_neg (by rw [hie]; simp), if_pos (by rw [hie]; show q < l.length; omega)]
  simp only [e]
  exact zX ((⟨none, 0⟩, []), []) [_, _] Tryz.results119 ⟨rfl, rfl, trivial⟩ rfl (fun w hw => by
   have h0 : St w0 H w := SB w hw
   exact St.addPure (h0.datNil.addNil 200 7) ⟨rfl, fun x hx => (by cases hx), Nat.zero_le _⟩)
 have p54 := h54
 try simp only [dp] at p54
 refine zk (zx (zS (T2 ?_)))
 refine Qms rfl rfl ?_
 refine ze rfl (zc (rFormedBatch_c (ls := ls) (by omega)) rfl (fun x56 => ?_))
 refine zq (Qt_not rfl) rfl (TX (zC rfl (fun h57 => ?_) (fun h57 => ?_)))
 ·
  have p57 := h57
  try simp only [dp] at p57
  refine T2 (Qas rfl rfl (Qai rfl rfl (TX (zQ (zr ?_)))))
  have e : batchG l = (15, []) := by
   unfold batchG; rw [if_neg (by omega), if_neg (by rw [hie]; simp), if_neg (by rw [hie]; show ¬ q < l.length; omega), if_pos (by rw [hie]; simpa using h57)]
  simp only [e]
  exact zX ((⟨none, 0⟩, []), []) [_, _] Tryz.results119 ⟨rfl, rfl, trivial⟩ rfl (fun w hw => by
   have h0 : St w0 H w := SB w hw
   exact St.addPure (h0.datNil.addNil 200 7) ⟨rfl, fun x hx => (by cases hx), Nat.zero_le _⟩)
 have p57 := h57
 try simp only [dp] at p57
 refine S4 (Qms rfl rfl (Qas rfl rfl (Qai rfl rfl (TX (zQ ?_)))))
 have e : batchG l = (0, ls.map ReqV.abs) := by
  unfold batchG; rw [if_neg (by omega), if_neg (by rw [hie]; simp), if_neg (by rw [hie]; show ¬ q < l.length; omega), if_neg (by rw [hie]; simpa using h57), hie]
 rw [e]
 exact zX ((⟨a7, c7⟩, ls), fp) [_, _] Tryz.results119 ⟨rfl, rfl, trivial⟩ rfl (fun w hw => (SB w hw : St w0 (row (.slice a7 (ls).length c7) 200 7 ((ls).flatMap ReqV.list) :: dat fp ⟨(ls).map ReqV.sig, [], []⟩ :: H) w).addPure ⟨rfl, hsg, by show ls.length ≤ 4; omega⟩)
set_option maxHeartbeats 1000000 in
theorem rCheckQ_c {w0 : World} {H : List SA} {sa : Option Addr} {sc : Nat} {ks : List BS} {ra : Option Addr} {rc : Nat} {rs : List (Vector UInt8 32)} [hrr : RdC w0 H (.slice ra rs.length rc) 32 (rs.flatMap hlist)] (hrs : rs.length ≤ 1000) {r : ReqV} (ha : Sig64 r.op.a) (hb : Sig64 r.op.b) [hsg : RdB w0 H (.slice r.sig.a r.sig.l.length r.sig.c) r.sig.l] :
 CT Tryz.prog w0 (H) 120 [.agg (KeysV.mk ⟨sa, sc, ks⟩ ⟨ra, rs.length, rc⟩).cells, .agg r.cells] (α := Unit) (fun _ => .int .i64 (chkQ rs r.abs)) (fun _ => H) := by
 refine CT_intro Tryz.func120 rfl Tryz.ntmps120 rfl ?_
 refine T2 ?_
 refine ze rfl (Ef_boxN rfl (fun b2 => ?_))
 refine ze rfl (Ef_boxN rfl (fun b3 => ?_))
 refine Qai rfl rfl (TX (zS (T2 ?_)))
 refine zq (zn rfl rfl) rfl ?_
 refine ze rfl (zc (rFormed_c (r := r)) rfl (fun x8 => ?_))
 refine zq (Qt_not rfl) rfl (TX (zC rfl (fun h9 => ?_) (fun h9 => ?_)))
 ·
  have p9 := h9
  try simp only [dp] at p9
  refine T2 (Qai rfl rfl (TX (zQ (zr ?_))))
  have e : chkQ rs r.abs = 15 := by
   unfold chkQ; rw [if_pos (by simpa using h9)]
  rw [e]
  exact zX () [_] Tryz.results120 ⟨rfl, trivial⟩ rfl SB
 have p9 := h9
 try simp only [dp] at p9
 have hfq : formedQ r.abs = true := by simpa using h9
 refine zk (zx (zS (T2 ?_)))
 refine zq (zf 0 rfl rfl) rfl (zq (zl rfl) rfl (zq (zf 1 rfl rfl) rfl (zq (zl rfl) rfl (zq (zL rfl Tryz.underlying25) rfl (zq (Qt_geq rfl rfl) rfl ?_)))))
 refine TX (zC rfl (fun h15 => ?_) (fun h15 => ?_))
 ·
  have p15 := h15
  try simp only [dp] at p15
  refine T2 (Qai rfl rfl (TX (zQ (zr ?_))))
  have e : chkQ rs r.abs = 6 := by
   unfold chkQ; rw [if_neg (by simpa using h9), if_pos (by show (rs.length : Int) ≤ r.client; omega)]
  rw [e]
  exact zX () [_] Tryz.results120 ⟨rfl, trivial⟩ rfl SB
 have p15 := h15
 try simp only [dp] at p15
 have hc0 := formedQ_client hfq
 have hsq : 1 ≤ r.seq ∧ r.seq ≤ 8 := formedQ_seq hfq
 have hw : IntKind.i64.wrap (r.seq - 1) = r.seq - 1 := by simp [IntKind.wrap, IntKind.bits, IntKind.signed]; omega
 obtain ⟨n, hcn⟩ := Int.eq_ofNat_of_zero_le (show 0 ≤ r.client from hc0)
 have hn : n < rs.length := by omega
 have hgd : rs.getD r.abs.client.toNat default = rs[n] := by
  show rs.getD r.client.toNat default = rs[n]
  rw [hcn, Int.toNat_natCast, List.getD_eq_getElem?_getD, List.getElem?_eq_getElem hn]; rfl
 refine zk (zx (zS ?_))
 refine T_draw (blk b2 (.cells (KeysV.mk ⟨sa, sc, ks⟩ ⟨ra, rs.length, rc⟩).cells 40 (0, 0)) :: blk b3 (.cells r.cells 200 (0, 0)) :: H) [(0, true), (1, true), (2, true), (3, true), (4, true), (5, true), (6, true), (8, true), (9, true), (7, false), (10, false), (11, true), (12, true), (13, true), (14, true), (15, true)] (by kernel_rfl) (by kernel_rfl) rfl (by kernel_rfl) SB (fun hns0 => ?_)
 refine zd hns0 rfl (zf 1 rfl rfl) rfl (zd hns0 rfl (zl rfl) rfl (zd hns0 rfl (zf 0 rfl rfl) rfl (zd hns0 rfl (zl rfl) rfl (zd hns0 rfl (Qt_indexN rfl (show Value.int .i64 r.client = .int .i64 (n : Int) from by rw [hcn]) (by omega) (by simp; omega)) rfl (zd hns0 rfl (Qt_loadRN 32 (hlist rs[n]) rfl (flat_slice _ 32 hl32 rs n hn) (hl32 _) (by decide)) rfl ?_)))))
 refine zd hns0 rfl (zn rfl rfl) rfl (zd hns0 rfl (zf 6 rfl rfl) rfl (zd hns0 rfl (zl rfl) rfl ?_))
 refine DL_e rfl rfl (zc (rTextQ_c (r := r) hfq ha hb) rfl (fun x24 => ⟨SB, ?_⟩))
 refine DL_e rfl rfl (zc (rVerify_c (root := rs[n]) (tl := textQ r.abs) (by have := textQ_len (r := r.abs) ha hb; omega) (sl := r.sig.l)) rfl (fun x27 => ⟨SB, ?_⟩))
 refine zd hns0 rfl (zm (.tuple _) rfl) rfl (zd hns0 rfl (Qt_extract rfl) rfl (zd hns0 rfl (Qt_extract rfl) rfl (zd hns0 rfl (za (.int .i64 _) rfl) rfl (zd hns0 rfl (za (.int .i64 _) rfl) rfl (DL_nil ?_)))))
 refine zx (zS (T2 ?_))
 refine Qmi rfl rfl (zq (Qt_neq rfl rfl) rfl (TX (zC rfl (fun h31 => ?_) (fun h31 => ?_))))
 ·
  have p31 := h31
  try simp only [dp] at p31
  refine T2 (Qmi rfl rfl (Qai rfl rfl (TX (zQ (zr ?_)))))
  have e : chkQ rs r.abs = (verV rs[n] (textQ r.abs) r.sig.l).2 := by
   unfold chkQ; rw [if_neg (by simpa using h9), if_neg (by show ¬ (rs.length : Int) ≤ r.client; omega), hgd, show r.abs.sig = r.sig.l from rfl, show r.abs.seq = r.seq from rfl, if_pos p31]
  rw [e]
  exact zX () [_] Tryz.results120 ⟨rfl, trivial⟩ rfl SB
 have p31 := h31
 try simp only [dp] at p31
 refine zk (zx (zS (T2 ?_)))
 refine Qmi rfl rfl (zq (zf 1 rfl rfl) rfl (zq (zl rfl) rfl (zq (Qt_sub rfl rfl (by omega) (by omega)) rfl (zq (Qt_neq rfl rfl) rfl (TX ?_)))))
 refine zC rfl (fun h37 => ?_) (fun h37 => ?_)
 ·
  have p37 := h37
  try simp only [dp] at p37
  refine T2 (Qai rfl rfl (TX (zQ (zr ?_))))
  have e : chkQ rs r.abs = 5 := by
   unfold chkQ; rw [if_neg (by simpa using h9), if_neg (by show ¬ (rs.length : Int) ≤ r.client; omega), hgd, show r.abs.sig = r.sig.l from rfl, show r.abs.seq = r.seq from rfl, if_neg (fun hh => hh p31), if_pos p37]
  rw [e]
  exact zX () [_] Tryz.results120 ⟨rfl, trivial⟩ rfl SB
 have p37 := h37
 try simp only [dp] at p37
 refine S4 (Qai rfl rfl (TX (zQ ?_)))
 have e : chkQ rs r.abs = 0 := by
  unfold chkQ; rw [if_neg (by simpa using h9), if_neg (by show ¬ (rs.length : Int) ≤ r.client; omega), hgd, show r.abs.sig = r.sig.l from rfl, show r.abs.seq = r.seq from rfl, if_neg (fun hh => hh p31), if_neg (fun hh => hh p37)]
 rw [e]
 exact zX () [_] Tryz.results120 ⟨rfl, trivial⟩ rfl SB
set_option maxHeartbeats 1000000 in
theorem rCheckBatch_c {w0 : World} {H : List SA} {sa : Option Addr} {sc : Nat} {ks : List BS} {ra : Option Addr} {rc : Nat} {rs : List (Vector UInt8 32)} [hrr : RdC w0 H (.slice ra rs.length rc) 32 (rs.flatMap hlist)] (hrs : rs.length ≤ 1000) {a : Option Addr} {l : List UInt8} {c : Nat} [hr : RdB w0 H (.slice a l.length c) l] (hl : l.length ≤ 4294967296) :
 CT Tryz.prog w0 (H) 74 [.agg (KeysV.mk ⟨sa, sc, ks⟩ ⟨ra, rs.length, rc⟩).cells, .slice a l.length c] (α := Sl) (fun y => .tuple #[.slice y.a y.n y.c, .int .i64 (cbE rs l)]) (fun _ => H) := by
 refine CT_intro Tryz.func74 rfl Tryz.ntmps74 rfl ?_
 refine T2 ?_
 refine ze rfl (Ef_boxN rfl (fun b2 => ?_))
 refine Qas rfl rfl (Qai rfl rfl (T4 (Qms rfl rfl ?_)))
 refine ze rfl (zc (rGetBatch_c hl) rfl (fun x11 => ?_))
 refine TL_pure (fun h11 => ?_)
 obtain ⟨h11, hx11, hl11⟩ := h11
 refine zq (zm (.tuple _) rfl) rfl (zq (Qt_extract rfl) rfl (zq (Qt_extract rfl) rfl (Qas rfl rfl (Qai rfl rfl (TX (zS (T2 ?_)))))))
 refine Qmi rfl rfl (zq (Qt_neq rfl rfl) rfl (TX (zC rfl (fun h15 => ?_) (fun h15 => ?_))))
 ·
  have p15 := h15
  try simp only [dp] at p15
  refine T2 (Qmi rfl rfl (Qas rfl rfl (Qai rfl rfl (TX (zQ (zr ?_))))))
  have e : cbE rs l = (batchG l).1 := by
   exact if_pos p15
  rw [e]
  exact zX (⟨none, 0, 0⟩ : Sl) [_, _] Tryz.results74 ⟨rfl, rfl, trivial⟩ rfl SB
 have p15 := h15
 try simp only [dp] at p15
 have hb0 : (batchG l).1 = 0 := by omega
 refine zk (zx (zS (T2 ?_)))
 refine Qai rfl rfl (TX (zB ?_))
 refine T_loop [4, 5, 7, 8, 17, 18, 19, 20, 21, 22, 23, 24, 25, 26, 27, 28, 29, 30, 31] [8] (fun us H' => ∃ (k : Nat), us = [.int .i64 (k : Int)] ∧ row (.slice x11.1.1.a (x11.1.2).length x11.1.1.c) 200 7 ((x11.1.2).flatMap ReqV.list) :: dat x11.2 ⟨(x11.1.2).map ReqV.sig, [], []⟩ :: blk b2 (.cells (KeysV.mk ⟨sa, sc, ks⟩ ⟨ra, rs.length, rc⟩).cells 40 (0, 0)) :: H = H' ∧ k ≤ x11.1.2.length ∧ (firstE rs (x11.1.2.map ReqV.abs) = firstE rs ((x11.1.2.map ReqV.abs).drop k))) (fun us => match us with | .int _ i :: _ => x11.1.2.length - i.toNat | _ => 0) ⟨0, rfl, rfl, by omega, rfl⟩ SB ?_
 rintro τ0 _ _  ⟨k, rfl, rfl, hk0, hi⟩ _
 refine zS (T2 ?_)
 refine Qmi rfl rfl (Qms rfl rfl (zq (zL rfl Tryz.underlying149) rfl (zq (Qt_lss rfl rfl) rfl (TX (zC rfl (fun h20 => ?_) (fun h20 => ?_))))))
 ·
  have p20 := h20
  try simp only [dp] at p20
  have hk : k < x11.1.2.length := by omega
  have hst := firstE_step rs (x11.1.2.map ReqV.abs) k (by simpa using hk)
  have hgk : ((x11.1.2.map ReqV.abs)[k]'(by simpa using hk)) = x11.1.2[k].abs := by simp
  rw [hgk] at hst
  refine zk (zx (zS (zB (zS ?_))))
  refine T_draw (row (.slice x11.1.1.a (x11.1.2).length x11.1.1.c) 200 7 ((x11.1.2).flatMap ReqV.list) :: dat x11.2 ⟨(x11.1.2).map ReqV.sig, [], []⟩ :: blk b2 (.cells (KeysV.mk ⟨sa, sc, ks⟩ ⟨ra, rs.length, rc⟩).cells 40 (0, 0)) :: H) [(0, true), (1, true), (2, true), (3, true), (4, true), (5, false), (6, true)] (by kernel_rfl) (by kernel_rfl) rfl (by kernel_rfl) SB (fun hns0 => ?_)
  refine zd hns0 rfl (zn rfl rfl) rfl (zd hns0 rfl (zm (.slice _ _ _) rfl) rfl (zd hns0 rfl (zm (.int .i64 _) rfl) rfl (zd hns0 rfl (Qt_indexN rfl rfl (by omega) (by simp; omega)) rfl (zd hns0 rfl (Qt_val (Qt_loadRN 7 x11.1.2[k].list rfl (flat_slice _ 7 ReqV.list_len x11.1.2 k hk) (ReqV.list_len _) (by decide)) (show Value.agg x11.1.2[k].list.toArray = Value.agg x11.1.2[k].cells from rfl)) rfl ?_))))
  have : RdB w0 (dat x11.2 ⟨(x11.1.2).map ReqV.sig, [], []⟩ :: blk b2 (.cells (KeysV.mk ⟨sa, sc, ks⟩ ⟨ra, rs.length, rc⟩).cells 40 (0, 0)) :: H) (.slice x11.1.2[k].sig.a x11.1.2[k].sig.l.length x11.1.2[k].sig.c) x11.1.2[k].sig.l := (RdE.own2 : RdE w0 _ (x11.1.2.map ReqV.sig)).get (List.mem_map.2 ⟨_, List.getElem_mem hk, rfl⟩)
  refine DL_e rfl rfl (zc (rCheckQ_c (sa := sa) (sc := sc) (ks := ks) (rc := rc) (rs := rs) hrs (r := x11.1.2[k]) (hx11 _ (List.getElem_mem hk)).1 (hx11 _ (List.getElem_mem hk)).2) rfl (fun x28 => ⟨SB, ?_⟩))
  refine zd hns0 rfl (za (.int .i64 _) rfl) rfl (DL_nil (zx (T2 ?_)))
  refine Qmi rfl rfl (zq (Qt_neq rfl rfl) rfl (TX (zC rfl (fun h30 => ?_) (fun h30 => ?_))))
  ·
   have p30 := h30
   try simp only [dp] at p30
   rw [if_pos p30] at hst
   refine T2 (Qmi rfl rfl (Qas rfl rfl (Qai rfl rfl (TX (zQ (zb (zr (X_loop_ret (zb (zr ?_))))))))))
   have e : cbE rs l = chkQ rs x11.1.2[k].abs := by
    unfold cbE; rw [if_neg (by omega), ← h11, hi, hst]
   rw [e]
   exact zX (⟨none, 0, 0⟩ : Sl) [_, _] Tryz.results74 ⟨rfl, rfl, trivial⟩ rfl SB
  have p30 := h30
  try simp only [dp] at p30
  rw [if_neg (by omega)] at hst
  refine zk (X_block (zx (zR ?_)))
  refine Qmi rfl rfl (zq (Qt_add rfl rfl (by omega) (by omega)) rfl (Qai rfl rfl (zz ?_)))
  apply X_loop
  case ha => exact (by repeat (first | with_reducible exact agree_refl | refine agree_upd rfl ?_ | refine agree_mix rfl ?_ | refine agree_setAll rfl ?_))
  case hI => exact ⟨k + 1, rfl, rfl, by omega, by rw [hi, hst]⟩
  case hm => exact by show x11.1.2.length - (k + 1 : Int).toNat < x11.1.2.length - (k : Int).toNat; omega
  case hH => exact SB
 have p20 := h20
 try simp only [dp] at p20
 have hkn : k = x11.1.2.length := by omega
 refine zY (zG (zW (zE (zx (T2 ?_)))))
 refine Qms rfl rfl (Qas rfl rfl (Qai rfl rfl (TX (zQ ?_))))
 have e : cbE rs l = 0 := by
  unfold cbE; rw [if_neg (by omega), ← h11, hi, hkn, List.drop_of_length_le (by simp)]; rfl
 rw [e]
 exact zX (⟨x11.1.1.a, x11.1.2.length, x11.1.1.c⟩ : Sl) [_, _] Tryz.results74 ⟨rfl, rfl, trivial⟩ rfl SB
end Go.Proofs.YtnijomppbgdmnaaGreat
