/- Walks: the reference on marks, on the best world. -/
import Derived.Test.YtnijomppbgdmnaaGreatSgP
import Derived.Test.YtnijomppbgdmnaaGreatYkRP
import Derived.Test.YtnijomppbgdmnaaGreatSesRP
set_option linter.unusedSimpArgs false
set_option linter.unusedVariables false
namespace Go.Proofs.YtnijomppbgdmnaaGreat
section
open Go.RowKit Go.Sx
set_option maxRecDepth 100000
def trip (m : MsgV) : MkD := (m.frm, m.slot, m.hash)
theorem msg_pos {ms : List MsgV} {i : Nat} (hi : i < ms.length) : 0 < (ms.flatMap MsgV.list).length := flat_pos _ 39 MsgV.list_len (by decide) ms hi
theorem msg_frm (ms : List MsgV) (i : Nat) (hi : i < ms.length) : (ms.flatMap MsgV.list)[i * 39 + 1]? = some (.int .i64 ms[i].frm) := by rw [flat_get MsgV.list 39 MsgV.list_len ms i 1 hi (by decide)]; rfl
theorem msg_slot (ms : List MsgV) (i : Nat) (hi : i < ms.length) : (ms.flatMap MsgV.list)[i * 39 + 4]? = some (.int .i64 ms[i].slot) := by rw [flat_get MsgV.list 39 MsgV.list_len ms i 4 hi (by decide)]; rfl
theorem msg_hash (ms : List MsgV) (i : Nat) (hi : i < ms.length) : ((ms.flatMap MsgV.list).drop (i * 39 + 5)).take 32 = hlist ms[i].hash := by
 rw [flat_part MsgV.list 39 MsgV.list_len ms i hi 5 32 (by decide)]
 show (hlist ms[i].hash ++ _).take 32 = _
 rw [List.take_append_of_le_length (by simp)]
 exact List.take_of_length_le (by simp)
structure RMX where
 ma : Option Addr
 mc : Nat
 ms : List MsgV
 e : Int
theorem cnt_succ (ms : List MsgV) (w : WorldV) (k : Nat) (hk : k < ms.length) : cntM ((ms.take (k + 1)).map trip) w = cntM ((ms.take k).map trip) w + (if ms[k].slot = w.slot ∧ ms[k].hash = digW w then 1 else 0) := by
 unfold cntM
 rw [List.take_succ_eq_append_getElem hk, List.map_append, List.filter_append, List.length_append]
 congr 1
 by_cases h : ms[k].slot = w.slot ∧ ms[k].hash = digW w
 · rw [if_pos h, List.map_singleton, List.filter_cons_of_pos (show hitM w.slot (digW w) (trip ms[k]) = true from decide_eq_true h)]; rfl
 · rw [if_neg h, List.map_singleton, List.filter_cons_of_neg (show ¬ hitM w.slot (digW w) (trip ms[k]) = true from fun hx => h (of_decide_eq_true hx))]; rfl
theorem cnt_le (ms : List MsgV) (w : WorldV) (k : Nat) (hk : k ≤ ms.length) : cntM ((ms.take k).map trip) w ≤ k := by
 unfold cntM
 refine Nat.le_trans (List.length_filter_le _ _) ?_
 rw [List.length_map, List.length_take]; omega
theorem markM_len {K : List (List UInt8)} {mk : Nat} {had : Int} {M : List MkD} {l : List UInt8} : (markM K mk had M l).length ≤ M.length + 1 := by
 unfold markM
 repeat' split
 all_goals first | omega | (rw [List.length_append]; exact Nat.le_refl _)
attribute [local irreducible] openOfK someV digW sizeV faultsV
set_option maxHeartbeats 1000000 in
theorem rMarkX_c {w0 : World} {H : List SA} {p : Nat} {num : Int} {mk : Nat} (hmk : mk < 65536) {had : Int} {fl : Sl} {ma : Option Addr} {mc : Nat} {ms : List MsgV} (hms : ms.length ≤ 1000) {sa : Option Addr} {sc : Nat} {ls : List BS} [rk : RdC w0 H (.slice sa ls.length sc) 1 (ls.map BS.val)] [rke : RdE w0 H ls] (hkl : ∀ x ∈ ls, x.l.length ≤ 4294967000) {ra : Option Addr} {rq : Nat} {rs : List (Vector UInt8 32)} {a : Option Addr} {l : List UInt8} {c : Nat} [hr : RdB w0 H (.slice a l.length c) l] (hl : l.length ≤ 4294960000) :
 CT Tryz.prog w0 (blk p (.cells (RFetchV.mk (KeysV.mk ⟨sa, sc, ls⟩ ⟨ra, rs.length, rq⟩) (ViewV.mk num (mk : Int)) had ⟨ma, ms.length, mc⟩ fl).cells 55 (0, 0)) :: row (.slice ma (ms).length mc) 82 39 ((ms).flatMap MsgV.list) :: H) 18 [.pointer (some ⟨p, 0, none⟩), .slice a l.length c] (α := RMX) (fun y => .int .i64 y.e) (fun y => pu (y.ms.map trip = (markM (ls.map BS.l) mk had (ms.map trip) l)) :: blk p (.cells (RFetchV.mk (KeysV.mk ⟨sa, sc, ls⟩ ⟨ra, rs.length, rq⟩) (ViewV.mk num (mk : Int)) had ⟨y.ma, y.ms.length, y.mc⟩ fl).cells 55 (0, 0)) :: row (.slice y.ma (y.ms).length y.mc) 82 39 ((y.ms).flatMap MsgV.list) :: H) := by
 refine CT_intro Tryz.func18 rfl Tryz.ntmps18 rfl ?_
 refine T2 (Qai rfl rfl (TX (T_cut [5, 7, 8, 9, 10, 11, 12, 13, 14, 15, 16] [5] (fun us H' => ∃ (b5 : Nat) (x16 : MsgV × List Nat), us = [.pointer (some ⟨b5, 0, none⟩)] ∧ blk b5 (.cells (MGotV.mk x16.1 (openOfK (ls.map BS.l) mk l).1).cells 98 (0, 0)) :: blk p (.cells (RFetchV.mk (KeysV.mk ⟨sa, sc, ls⟩ ⟨ra, rs.length, rq⟩) (ViewV.mk num (mk : Int)) had ⟨ma, ms.length, mc⟩ fl).cells 55 (0, 0)) :: row (.slice ma (ms).length mc) 82 39 ((ms).flatMap MsgV.list) :: H = H' ∧ x16.1.abs = (openOfK (ls.map BS.l) mk l).2) ?_ ?_)))
 ·
  refine T_drawF (blk p (.cells (RFetchV.mk (KeysV.mk ⟨sa, sc, ls⟩ ⟨ra, rs.length, rq⟩) (ViewV.mk num (mk : Int)) had ⟨ma, ms.length, mc⟩ fl).cells 55 (0, 0)) :: H) (by kernel_rfl) SB (DLF_q (i := 0) (by kernel_rfl) rfl (by kernel_rfl) (by kernel_rfl) (zm (.pointer _) rfl) rfl (DLF_q (i := 1) (by kernel_rfl) rfl (by kernel_rfl) (by kernel_rfl) (Qt_nilCheck rfl) rfl (DLF_q (i := 2) (by kernel_rfl) rfl (by kernel_rfl) (by kernel_rfl) (zf 0 rfl rfl) rfl (DLF_q (i := 3) (by kernel_rfl) rfl (by kernel_rfl) (by kernel_rfl) (zn rfl rfl) rfl (DLF_q (i := 4) (by kernel_rfl) rfl (by kernel_rfl) (by kernel_rfl) (zm (.pointer _) rfl) rfl ?_)))))
  refine DLF_q (i := 5) (by kernel_rfl) rfl (by kernel_rfl) (by kernel_rfl) (Qt_nilCheck rfl) rfl (DLF_q (i := 6) (by kernel_rfl) rfl (by kernel_rfl) (by kernel_rfl) (zf 2 rfl rfl) rfl (DLF_q (i := 7) (by kernel_rfl) rfl (by kernel_rfl) (by kernel_rfl) (zn rfl rfl) rfl (DLF_q (i := 8) (by kernel_rfl) rfl (by kernel_rfl) (by kernel_rfl) (zm (.slice _ _ _) rfl) rfl ?_)))
  refine DLF_2 (i := 9) (j := 10) (by kernel_rfl) ?_ ?_
  ·
   refine DLS_e rfl rfl (zc (rOpenOf_c (num := num) (mk := mk) hmk (sa := sa) (sc := sc) (ls := ls) (rt := ⟨ra, rs.length, rq⟩) hkl (a := a) (l := l) (c := c) (hr := inferInstance) hl) rfl (fun x16 => ⟨SB, ?_⟩))
   refine DLF_pure (fun h16 => ?_)
   refine DLF_1 (i := 10) (by kernel_rfl) ?_
   refine DLS_e rfl rfl (Ef_allocN (fun b5 => ⟨SB, ?_⟩))
   refine DLF_1 (i := 11) (by kernel_rfl) ?_
   refine DLS_n rfl (zs rfl rfl (⟨SB, ?_⟩))
   refine DLF_nil (by kernel_rfl) ?_
   refine X_cut _ (by repeat (first | with_reducible exact agree_refl | refine agree_upd rfl ?_ | refine agree_mix rfl ?_ | refine agree_setAll rfl ?_)) (⟨b5, x16, rfl, rfl, h16⟩) (SB)
  refine DLS_e rfl rfl (Ef_allocN (fun b5 => ⟨SB, ?_⟩))
  refine DLF_1 (i := 9) (by kernel_rfl) ?_
  refine DLS_e rfl rfl (zc (rOpenOf_c (num := num) (mk := mk) hmk (sa := sa) (sc := sc) (ls := ls) (rt := ⟨ra, rs.length, rq⟩) hkl (a := a) (l := l) (c := c) (hr := inferInstance) hl) rfl (fun x16 => ⟨SB, ?_⟩))
  refine DLF_pure (fun h16 => ?_)
  refine DLF_1 (i := 11) (by kernel_rfl) ?_
  refine DLS_n rfl (zs rfl rfl (⟨SB, ?_⟩))
  refine DLF_nil (by kernel_rfl) ?_
  refine X_cut _ (by repeat (first | with_reducible exact agree_refl | refine agree_upd rfl ?_ | refine agree_mix rfl ?_ | refine agree_setAll rfl ?_)) (⟨b5, x16, rfl, rfl, h16⟩) (SB)
 rintro τc0 _ _ ⟨b5, x16, rfl, rfl, h16⟩ _
 have hkd : x16.1.kind = (openOfK (ls.map BS.l) mk l).2.kind := congrArg MsgD.kind h16
 have hsl : x16.1.slot = (openOfK (ls.map BS.l) mk l).2.slot := congrArg MsgD.slot h16
 have hhs : x16.1.hash = (openOfK (ls.map BS.l) mk l).2.hash := congrArg MsgD.hash h16
 have hfr : x16.1.frm = (openOfK (ls.map BS.l) mk l).2.frm := congrArg MsgD.frm h16
 refine zS (T2 ?_)
 refine zq (zf 39 rfl rfl) rfl (zq (zl rfl) rfl (zq (Qt_neq rfl rfl) rfl (TX (zC rfl (fun h19 => ?_) (fun h19 => ?_)))))
 ·
  have p19 := h19
  try simp only [dp] at p19
  refine T2 (zq (zf 39 rfl rfl) rfl (zq (zl rfl) rfl (Qai rfl rfl (TX (zQ (zr ?_))))))
  have e : (markM (ls.map BS.l) mk had (ms.map trip) l) = (ms.map trip) := by unfold markM; rw [if_pos (by simpa using h19)]
  exact zX (⟨ma, mc, ms, (openOfK (ls.map BS.l) mk l).1⟩ : RMX) [_] Tryz.results18 ⟨rfl, trivial⟩ rfl (fun w hw => (SB w hw : St w0 (blk p (.cells (RFetchV.mk (KeysV.mk ⟨sa, sc, ls⟩ ⟨ra, rs.length, rq⟩) (ViewV.mk num (mk : Int)) had ⟨ma, ms.length, mc⟩ fl).cells 55 (0, 0)) :: row (.slice ma (ms).length mc) 82 39 ((ms).flatMap MsgV.list) :: H) w).addPure e.symm)
 have p19 := h19
 try simp only [dp] at p19
 have hz : (openOfK (ls.map BS.l) mk l).1 = 0 := by simpa using h19
 refine zk (zx (zS (T2 ?_)))
 refine zq (zf 0 rfl rfl) rfl (zq (zf 0 rfl rfl) rfl (zq (zl rfl) rfl (zq (Qt_neq rfl rfl) rfl (TX (zC rfl (fun h25 => ?_) (fun h25 => ?_))))))
 ·
  have p25 := h25
  try simp only [dp] at p25
  refine T2 (Qai rfl rfl (TX (zQ (zr ?_))))
  have e : (markM (ls.map BS.l) mk had (ms.map trip) l) = (ms.map trip) := by unfold markM; rw [if_neg (by omega), if_pos (by rw [← hkd]; simpa using h25)]
  exact zX (⟨ma, mc, ms, 15⟩ : RMX) [_] Tryz.results18 ⟨rfl, trivial⟩ rfl (fun w hw => (SB w hw : St w0 (blk p (.cells (RFetchV.mk (KeysV.mk ⟨sa, sc, ls⟩ ⟨ra, rs.length, rq⟩) (ViewV.mk num (mk : Int)) had ⟨ma, ms.length, mc⟩ fl).cells 55 (0, 0)) :: row (.slice ma (ms).length mc) 82 39 ((ms).flatMap MsgV.list) :: H) w).addPure e.symm)
 have p25 := h25
 try simp only [dp] at p25
 have hk10 : (openOfK (ls.map BS.l) mk l).2.kind = 10 := by rw [← hkd]; simpa using h25
 refine zk (zx (zS (zS ?_)))
 refine T_draw (blk b5 (.cells (MGotV.mk x16.1 (openOfK (ls.map BS.l) mk l).1).cells 98 (0, 0)) :: blk p (.cells (RFetchV.mk (KeysV.mk ⟨sa, sc, ls⟩ ⟨ra, rs.length, rq⟩) (ViewV.mk num (mk : Int)) had ⟨ma, ms.length, mc⟩ fl).cells 55 (0, 0)) :: H) [(0, true), (1, true), (2, true), (3, true), (4, true), (5, true), (6, true), (7, true)] (by kernel_rfl) (by kernel_rfl) rfl (by kernel_rfl) SB (fun hns1 => ?_)
 refine zd hns1 rfl (zf 0 rfl rfl) rfl (zd hns1 rfl (zf 4 rfl rfl) rfl (zd hns1 rfl (zl rfl) rfl (zd hns1 rfl (zm (.pointer _) rfl) rfl (zd hns1 rfl (Qt_nilCheck rfl) rfl (zd hns1 rfl (zf 4 rfl rfl) rfl ?_)))))
 refine zd hns1 rfl (zl rfl) rfl (zd hns1 rfl (Qt_leq rfl rfl) rfl (DL_nil (zx (zC rfl (fun h33 => ?_) (fun h33 => ?_)))))
 ·
  have p33 := h33
  try simp only [dp] at p33
  refine T2 (Qai rfl rfl (TX (zQ (zr ?_))))
  have e : (markM (ls.map BS.l) mk had (ms.map trip) l) = (ms.map trip) := by unfold markM; rw [if_neg (by omega), if_neg (by omega), if_pos (by rw [← hsl]; omega)]
  exact zX (⟨ma, mc, ms, 7⟩ : RMX) [_] Tryz.results18 ⟨rfl, trivial⟩ rfl (fun w hw => (SB w hw : St w0 (blk p (.cells (RFetchV.mk (KeysV.mk ⟨sa, sc, ls⟩ ⟨ra, rs.length, rq⟩) (ViewV.mk num (mk : Int)) had ⟨ma, ms.length, mc⟩ fl).cells 55 (0, 0)) :: row (.slice ma (ms).length mc) 82 39 ((ms).flatMap MsgV.list) :: H) w).addPure e.symm)
 have p33 := h33
 try simp only [dp] at p33
 have hhd : ¬ (openOfK (ls.map BS.l) mk l).2.slot ≤ had := by rw [← hsl]; omega
 refine zk (zx (zS (T2 ?_)))
 refine Qai rfl rfl (TX (zB ?_))
 refine T_loop [4, 6, 34, 35, 36, 37, 38, 39, 40, 41, 42, 43, 44, 45, 46, 47, 48, 49, 50, 51, 52, 53, 54, 55, 56, 57, 58, 59, 60, 61, 62, 63, 64, 65, 66, 67, 68] [6] (fun us H' => ∃ (k : Nat), us = [.int .i64 (k : Int)] ∧ blk b5 (.cells (MGotV.mk x16.1 (openOfK (ls.map BS.l) mk l).1).cells 98 (0, 0)) :: blk p (.cells (RFetchV.mk (KeysV.mk ⟨sa, sc, ls⟩ ⟨ra, rs.length, rq⟩) (ViewV.mk num (mk : Int)) had ⟨ma, ms.length, mc⟩ fl).cells 55 (0, 0)) :: row (.slice ma (ms).length mc) 82 39 ((ms).flatMap MsgV.list) :: H = H' ∧ k ≤ ms.length ∧ (∀ (j : Nat) (hj : j < ms.length), j < k → ¬ (ms[j].frm = x16.1.frm ∧ ms[j].slot = x16.1.slot))) (fun us => match us with | .int _ i :: _ => ms.length - i.toNat | _ => 0) ⟨0, rfl, rfl, by omega, fun j hj h => by omega⟩ SB ?_
 rintro τ0 _ _  ⟨k, rfl, rfl, hk0, hno⟩ _
 refine zS (T2 ?_)
 refine Qmi rfl rfl (zq (zm (.pointer _) rfl) rfl (zq (Qt_nilCheck rfl) rfl (zq (zf 5 rfl rfl) rfl (zq (zl rfl) rfl (zq (zL rfl Tryz.underlying52) rfl ?_)))))
 refine zq (Qt_lss rfl rfl) rfl (TX (zC rfl (fun h40 => ?_) (fun h40 => ?_)))
 ·
  have p40 := h40
  try simp only [dp] at p40
  have hk : k < ms.length := by omega
  refine zk (zx (zS (zB (zS ?_))))
  refine T_draw (blk b5 (.cells (MGotV.mk x16.1 (openOfK (ls.map BS.l) mk l).1).cells 98 (0, 0)) :: blk p (.cells (RFetchV.mk (KeysV.mk ⟨sa, sc, ls⟩ ⟨ra, rs.length, rq⟩) (ViewV.mk num (mk : Int)) had ⟨ma, ms.length, mc⟩ fl).cells 55 (0, 0)) :: row (.slice ma (ms).length mc) 82 39 ((ms).flatMap MsgV.list) :: H) [(0, true), (1, true), (2, true), (3, true), (4, true), (5, true), (6, true), (7, true), (8, true), (9, true), (10, true), (11, true), (12, true), (13, true), (14, true), (15, true), (16, true), (17, true), (18, true), (19, true), (20, true), (21, true), (22, true), (23, true), (24, true), (25, true)] (by kernel_rfl) (by kernel_rfl) rfl (by kernel_rfl) SB (fun hns2 => ?_)
  refine zd hns2 rfl (zm (.pointer _) rfl) rfl (zd hns2 rfl (Qt_nilCheck rfl) rfl (zd hns2 rfl (zf 5 rfl rfl) rfl (zd hns2 rfl (zl rfl) rfl (zd hns2 rfl (zm (.int .i64 _) rfl) rfl (zd hns2 rfl (Qt_indexN rfl rfl (by omega) (by omega)) rfl ?_)))))
  refine zd hns2 rfl (Qt_fieldR rfl 39 (msg_pos hk)) rfl (zd hns2 rfl (Qt_loadRs 39 (.int .i64 ms[k].frm) rfl (msg_frm ms k hk)) rfl (zd hns2 rfl (zf 0 rfl rfl) rfl (zd hns2 rfl (zf 1 rfl rfl) rfl (zd hns2 rfl (zl rfl) rfl (zd hns2 rfl (Qt_eql rfl rfl) rfl ?_)))))
  refine zd hns2 rfl (zm (.bool _) rfl) rfl ?_
  refine DL_split 55 rfl (fun h55 => ?_) (fun h55 => ?_)
  ·
   have p55 := h55
   try simp only [dp] at p55
   refine DL_qg hns2 rfl rfl rfl h55 (zm (.pointer _) rfl) rfl ?_
   refine DL_qg hns2 rfl rfl rfl h55 (Qt_nilCheck rfl) rfl ?_
   refine DL_qg hns2 rfl rfl rfl h55 (zf 5 rfl rfl) rfl ?_
   refine DL_qg hns2 rfl rfl rfl h55 (zl rfl) rfl ?_
   refine DL_qg hns2 rfl rfl rfl h55 (zm (.int .i64 _) rfl) rfl ?_
   refine DL_qg hns2 rfl rfl rfl h55 (Qt_indexN rfl rfl (by omega) (by omega)) rfl ?_
   refine DL_qg hns2 rfl rfl rfl h55 (Qt_fieldR rfl 39 (msg_pos hk)) rfl ?_
   refine DL_qg hns2 rfl rfl rfl h55 (Qt_loadRs 39 (.int .i64 ms[k].slot) rfl (msg_slot ms k hk)) rfl ?_
   refine DL_qg hns2 rfl rfl rfl h55 (zf 0 rfl rfl) rfl ?_
   refine DL_qg hns2 rfl rfl rfl h55 (zf 4 rfl rfl) rfl ?_
   refine DL_qg hns2 rfl rfl rfl h55 (zl rfl) rfl ?_
   refine DL_qg hns2 rfl rfl rfl h55 (Qt_eql rfl rfl) rfl ?_
   refine zd hns2 rfl (zT (.bool _) rfl h55 rfl) rfl (DL_nil (zx (zC rfl (fun h68 => ?_) (fun h68 => ?_))))
   ·
    have p68 := h68
    try simp only [dp] at p68
    have hany : (ms.map trip).any (fun x => decide (x.1 = (openOfK (ls.map BS.l) mk l).2.frm ∧ x.2.1 = (openOfK (ls.map BS.l) mk l).2.slot)) = true := List.any_eq_true.2 ⟨trip ms[k], List.mem_map.2 ⟨_, List.getElem_mem hk, rfl⟩, decide_eq_true ⟨by rw [← hfr]; show ms[k].frm = _; omega, by rw [← hsl]; show ms[k].slot = _; omega⟩⟩
    refine T2 (Qai rfl rfl (TX (zQ (zb (zr (X_loop_ret (zb (zr ?_))))))))
    have e : (markM (ls.map BS.l) mk had (ms.map trip) l) = (ms.map trip) := by unfold markM; rw [if_neg (by omega), if_neg (by omega), if_neg hhd, if_pos hany]
    exact zX (⟨ma, mc, ms, 7⟩ : RMX) [_] Tryz.results18 ⟨rfl, trivial⟩ rfl (fun w hw => (SB w hw : St w0 (blk p (.cells (RFetchV.mk (KeysV.mk ⟨sa, sc, ls⟩ ⟨ra, rs.length, rq⟩) (ViewV.mk num (mk : Int)) had ⟨ma, ms.length, mc⟩ fl).cells 55 (0, 0)) :: row (.slice ma (ms).length mc) 82 39 ((ms).flatMap MsgV.list) :: H) w).addPure e.symm)
   have p68 := h68
   try simp only [dp] at p68
   refine zk (X_block (zx (zR ?_)))
   refine Qmi rfl rfl (zq (Qt_add rfl rfl (by omega) (by omega)) rfl (Qai rfl rfl (zz ?_)))
   apply X_loop
   case ha => exact (by repeat (first | with_reducible exact agree_refl | refine agree_upd rfl ?_ | refine agree_mix rfl ?_ | refine agree_setAll rfl ?_))
   case hI => exact ⟨k + 1, rfl, rfl, by omega, fun j hj h => by rcases Nat.lt_or_ge j k with h1 | h1; exact hno j hj h1; obtain rfl : j = k := (by omega); omega⟩
   case hm => exact by show ms.length - (k + 1 : Int).toNat < ms.length - (k : Int).toNat; omega
   case hH => exact SB
  have p55 := h55
  try simp only [dp] at p55
  refine DL_pass hns2 rfl rfl rfl h55 rfl (DL_pass hns2 rfl rfl rfl h55 rfl (DL_pass hns2 rfl rfl rfl h55 rfl (DL_pass hns2 rfl rfl rfl h55 rfl (DL_pass hns2 rfl rfl rfl h55 rfl (DL_pass hns2 rfl rfl rfl h55 rfl ?_)))))
  refine DL_pass hns2 rfl rfl rfl h55 rfl (DL_pass hns2 rfl rfl rfl h55 rfl (DL_pass hns2 rfl rfl rfl h55 rfl (DL_pass hns2 rfl rfl rfl h55 rfl (DL_pass hns2 rfl rfl rfl h55 rfl (DL_pass hns2 rfl rfl rfl h55 rfl ?_)))))
  refine zd hns2 rfl (zF (.bool _) rfl h55 rfl) rfl (DL_nil (zx (T_cond_false rfl rfl (zk (X_block (zx (zR ?_)))))))
  refine Qmi rfl rfl (zq (Qt_add rfl rfl (by omega) (by omega)) rfl (Qai rfl rfl (zz ?_)))
  apply X_loop
  case ha => exact (by repeat (first | with_reducible exact agree_refl | refine agree_upd rfl ?_ | refine agree_mix rfl ?_ | refine agree_setAll rfl ?_))
  case hI => exact ⟨k + 1, rfl, rfl, by omega, fun j hj h => by rcases Nat.lt_or_ge j k with h1 | h1; exact hno j hj h1; obtain rfl : j = k := (by omega); omega⟩
  case hm => exact by show ms.length - (k + 1 : Int).toNat < ms.length - (k : Int).toNat; omega
  case hH => exact SB
 have p40 := h40
 try simp only [dp] at p40
 have hany : (ms.map trip).any (fun x => decide (x.1 = (openOfK (ls.map BS.l) mk l).2.frm ∧ x.2.1 = (openOfK (ls.map BS.l) mk l).2.slot)) = false := by
  rw [List.any_eq_false]; intro x hx; obtain ⟨y, hy, rfl⟩ := List.mem_map.1 hx; obtain ⟨j, hj, rfl⟩ := List.getElem_of_mem hy; have := hno j hj (by omega); rw [← hfr, ← hsl]; exact fun hx => this (of_decide_eq_true hx)
 refine zY (zG (zW (zE (zx (zS ?_)))))
 refine T_drawF (blk b5 (.cells (MGotV.mk x16.1 (openOfK (ls.map BS.l) mk l).1).cells 98 (0, 0)) :: H) (by kernel_rfl) SB (DLF_q (i := 0) (by kernel_rfl) rfl (by kernel_rfl) (by kernel_rfl) (zm (.pointer _) rfl) rfl (DLF_q (i := 1) (by kernel_rfl) rfl (by kernel_rfl) (by kernel_rfl) (zm (.pointer _) rfl) rfl (DLF_q (i := 2) (by kernel_rfl) rfl (by kernel_rfl) (by kernel_rfl) (Qt_nilCheck rfl) rfl (DLF_q (i := 3) (by kernel_rfl) rfl (by kernel_rfl) (by kernel_rfl) (zf 5 rfl rfl) rfl (DLF_q (i := 5) (by kernel_rfl) rfl (by kernel_rfl) (by kernel_rfl) (zf 0 rfl rfl) rfl ?_)))))
 refine DLF_q (i := 6) (by kernel_rfl) rfl (by kernel_rfl) (by kernel_rfl) (zn rfl rfl) rfl ?_
 refine DLF_2 (i := 4) (j := 7) (by kernel_rfl) ?_ ?_
 ·
  refine DLS_e rfl rfl (Ef_of_Qt (zl rfl) ⟨SB, ?_⟩)
  refine DLF_1 (i := 7) (by kernel_rfl) ?_
  refine DLS_e rfl rfl (Ef_sliceN (m := ([x16.1] : List MsgV).length) [.agg (x16.1).cells] (([x16.1] : List MsgV).flatMap MsgV.list) rfl rfl rfl rfl (by simp [Value.cells, MsgV.size]) rfl rfl (fun a76 c76 => ⟨SB, ?_⟩))
  refine DLF_1 (i := 8) (by kernel_rfl) ?_
  refine DLS_e rfl rfl (Ef_appendS MsgV.list (sv := .slice _ _ _) (xv := .slice _ _ _) (xs := ms) (ys := [x16.1]) MsgV.list_len MsgV.list_one rfl rfl (by simp; omega) rfl rfl (fun a77 c77 => ⟨SB, ?_⟩))
  refine DLF_q (i := 9) (by kernel_rfl) rfl (by kernel_rfl) (by kernel_rfl) (Qt_nilCheck rfl) rfl (DLF_q (i := 10) (by kernel_rfl) rfl (by kernel_rfl) (by kernel_rfl) (zf 5 rfl rfl) rfl ?_)
  refine DLF_1 (i := 11) (by kernel_rfl) ?_
  refine DLS_n rfl (Ef_store1 (.slice _ _ _) rfl rfl (⟨SB, ?_⟩))
  refine DLF_nil (by kernel_rfl) ?_
  refine zx (T2 ?_)
  refine Qai rfl rfl (TX (zQ ?_))
  have e : (markM (ls.map BS.l) mk had (ms.map trip) l) = (ms.map trip) ++ [trip x16.1] := by unfold markM; rw [if_neg (by omega), if_neg (by omega), if_neg hhd, if_neg (by rw [hany]; decide), ← hfr, ← hsl, ← hhs]; rfl
  exact zX (⟨a77, c77, ms ++ [x16.1], 0⟩ : RMX) [_] Tryz.results18 ⟨rfl, trivial⟩ rfl (fun w hw => (SB w hw : St w0 (blk p (.cells (RFetchV.mk (KeysV.mk ⟨sa, sc, ls⟩ ⟨ra, rs.length, rq⟩) (ViewV.mk num (mk : Int)) had ⟨a77, (ms ++ [x16.1]).length, c77⟩ fl).cells 55 (0, 0)) :: row (.slice a77 (ms ++ [x16.1]).length c77) 82 39 ((ms ++ [x16.1]).flatMap MsgV.list) :: H) w).addPure (by rw [e, List.map_append]; rfl))
 refine DLS_e rfl rfl (Ef_sliceN (m := ([x16.1] : List MsgV).length) [.agg (x16.1).cells] (([x16.1] : List MsgV).flatMap MsgV.list) rfl rfl rfl rfl (by simp [Value.cells, MsgV.size]) rfl rfl (fun a76 c76 => ⟨SB, ?_⟩))
 refine DLF_1 (i := 4) (by kernel_rfl) ?_
 refine DLS_e rfl rfl (Ef_of_Qt (zl rfl) ⟨SB, ?_⟩)
 refine DLF_1 (i := 8) (by kernel_rfl) ?_
 refine DLS_e rfl rfl (Ef_appendS MsgV.list (sv := .slice _ _ _) (xv := .slice _ _ _) (xs := ms) (ys := [x16.1]) MsgV.list_len MsgV.list_one rfl rfl (by simp; omega) rfl rfl (fun a77 c77 => ⟨SB, ?_⟩))
 refine DLF_q (i := 9) (by kernel_rfl) rfl (by kernel_rfl) (by kernel_rfl) (Qt_nilCheck rfl) rfl (DLF_q (i := 10) (by kernel_rfl) rfl (by kernel_rfl) (by kernel_rfl) (zf 5 rfl rfl) rfl ?_)
 refine DLF_1 (i := 11) (by kernel_rfl) ?_
 refine DLS_n rfl (Ef_store1 (.slice _ _ _) rfl rfl (⟨SB, ?_⟩))
 refine DLF_nil (by kernel_rfl) ?_
 refine zx (T2 ?_)
 refine Qai rfl rfl (TX (zQ ?_))
 have e : (markM (ls.map BS.l) mk had (ms.map trip) l) = (ms.map trip) ++ [trip x16.1] := by unfold markM; rw [if_neg (by omega), if_neg (by omega), if_neg hhd, if_neg (by rw [hany]; decide), ← hfr, ← hsl, ← hhs]; rfl
 exact zX (⟨a77, c77, ms ++ [x16.1], 0⟩ : RMX) [_] Tryz.results18 ⟨rfl, trivial⟩ rfl (fun w hw => (SB w hw : St w0 (blk p (.cells (RFetchV.mk (KeysV.mk ⟨sa, sc, ls⟩ ⟨ra, rs.length, rq⟩) (ViewV.mk num (mk : Int)) had ⟨a77, (ms ++ [x16.1]).length, c77⟩ fl).cells 55 (0, 0)) :: row (.slice a77 (ms ++ [x16.1]).length c77) 82 39 ((ms ++ [x16.1]).flatMap MsgV.list) :: H) w).addPure (by rw [e, List.map_append]; rfl))
set_option maxHeartbeats 1000000 in
theorem rMarked_c {w0 : World} {H : List SA} {p : Nat} {fk : KeysV} {fv : ViewV} {had : Int} {fl : Sl} {ma : Option Addr} {mc : Nat} {ms : List MsgV} [hm : Mem w0 H p (.cells (RFetchV.mk fk fv had ⟨ma, ms.length, mc⟩ fl).cells 55 (0, 0))] [hk : RdC w0 H (.slice ma ms.length mc) 39 (ms.flatMap MsgV.list)] (hms : ms.length ≤ 1000) {v : WorldV} (hg : GoodW v) :
 CT Tryz.prog w0 (H) 21 [.pointer (some ⟨p, 0, none⟩), .agg v.cells] (α := Unit) (fun _ => .int .i64 ((cntM (ms.map trip) v : Nat) : Int)) (fun _ => H) := by
 refine CT_intro Tryz.func21 rfl Tryz.ntmps21 rfl ?_
 refine T2 ?_
 refine ze rfl (Ef_boxN rfl (fun b3 => ?_))
 refine Qai rfl rfl (T4 (Qai rfl rfl (T4 (zq (zn rfl rfl) rfl ?_))))
 refine ze rfl (zc (rDigestW_c hg) rfl (fun x9 => ?_))
 refine ze rfl (Ef_allocN (fun b6 => ?_))
 refine zN (zs rfl rfl (?_))
 refine TX (zS (T2 ?_))
 refine Qai rfl rfl (TX (zB ?_))
 refine T_loop [5, 7, 10, 11, 12, 13, 14, 15, 16, 17, 18, 19, 20, 21, 22, 23, 24, 25, 26, 27, 28, 29, 30, 31, 32, 33, 34, 35, 36, 37, 38, 39, 40, 41, 42, 43] [7, 5] (fun us H' => ∃ (k : Nat), us = [.int .i64 (k : Int), .int .i64 ((cntM ((ms.take k).map trip) v : Nat) : Int)] ∧ blk b6 (.cells (hlist (digW v)).toArray 32 (0, 0)) :: blk b3 (.cells v.cells 67 (0, 0)) :: H = H' ∧ k ≤ ms.length) (fun us => match us with | .int _ i :: _ => ms.length - i.toNat | _ => 0) ⟨0, rfl, rfl, by omega⟩ SB ?_
 rintro τ0 _ _  ⟨k, rfl, rfl, hk0⟩ _
 refine zS (T2 ?_)
 refine Qmi rfl rfl (zq (zm (.pointer _) rfl) rfl (zq (Qt_nilCheck rfl) rfl (zq (zf 5 rfl rfl) rfl (zq (zl rfl) rfl (zq (zL rfl Tryz.underlying52) rfl ?_)))))
 refine zq (Qt_lss rfl rfl) rfl (TX (zC rfl (fun h16 => ?_) (fun h16 => ?_)))
 ·
  have p16 := h16
  try simp only [dp] at p16
  have hkk : k < ms.length := by omega
  have hsc := cnt_succ ms v k hkk
  have hcl := cnt_le ms v k (by omega)
  refine zk (zx (zS (zB (zS ?_))))
  refine T_draw (blk b3 (.cells v.cells 67 (0, 0)) :: blk b6 (.cells (hlist (digW v)).toArray 32 (0, 0)) :: H) [(0, true), (1, true), (2, true), (3, true), (4, true), (5, true), (6, true), (7, true), (8, true), (9, true), (10, true), (11, true), (12, true), (13, true), (14, true), (15, true), (16, true), (17, true), (18, true), (19, true), (20, true), (21, true), (22, true)] (by kernel_rfl) (by kernel_rfl) rfl (by kernel_rfl) SB (fun hns0 => ?_)
  refine zd hns0 rfl (zm (.pointer _) rfl) rfl (zd hns0 rfl (Qt_nilCheck rfl) rfl (zd hns0 rfl (zf 5 rfl rfl) rfl (zd hns0 rfl (zl rfl) rfl (zd hns0 rfl (zm (.int .i64 _) rfl) rfl (zd hns0 rfl (Qt_indexN rfl rfl (by omega) (by omega)) rfl ?_)))))
  refine zd hns0 rfl (Qt_fieldR rfl 39 (msg_pos hkk)) rfl (zd hns0 rfl (Qt_loadRs 39 (.int .i64 ms[k].slot) rfl (msg_slot ms k hkk)) rfl (zd hns0 rfl (zf 0 rfl rfl) rfl (zd hns0 rfl (zl rfl) rfl (zd hns0 rfl (Qt_eql rfl rfl) rfl (zd hns0 rfl (zm (.bool _) rfl) rfl ?_)))))
  refine DL_split 30 rfl (fun h30 => ?_) (fun h30 => ?_)
  ·
   have p30 := h30
   try simp only [dp] at p30
   refine DL_qg hns0 rfl rfl rfl h30 (zm (.pointer _) rfl) rfl ?_
   refine DL_qg hns0 rfl rfl rfl h30 (Qt_nilCheck rfl) rfl ?_
   refine DL_qg hns0 rfl rfl rfl h30 (zf 5 rfl rfl) rfl ?_
   refine DL_qg hns0 rfl rfl rfl h30 (zl rfl) rfl ?_
   refine DL_qg hns0 rfl rfl rfl h30 (zm (.int .i64 _) rfl) rfl ?_
   refine DL_qg hns0 rfl rfl rfl h30 (Qt_indexN rfl rfl (by omega) (by omega)) rfl ?_
   refine DL_qg hns0 rfl rfl rfl h30 (Qt_fieldR rfl 39 (msg_pos hkk)) rfl ?_
   refine DL_qg hns0 rfl rfl rfl h30 (Qt_loadRN 39 (hlist ms[k].hash) rfl (msg_hash ms k hkk) (by simp) (by decide)) rfl ?_
   refine DL_qg hns0 rfl rfl rfl h30 (zn rfl rfl) rfl ?_
   refine DL_qg hns0 rfl rfl rfl h30 (Qt_agg_eql rfl rfl (by kernel_rfl)) rfl ?_
   refine zd hns0 rfl (zT (.bool _) rfl h30 rfl) rfl (DL_nil (zx (zC rfl (fun h41 => ?_) (fun h41 => ?_))))
   ·
    have p41 := h41
    try simp only [dp] at p41
    have hyes : ms[k].slot = v.slot ∧ ms[k].hash = digW v := ⟨p30, p41⟩
    refine zR (Qmi rfl rfl (zq (Qt_add rfl rfl (by omega) (by omega)) rfl ?_))
    rw [show ((cntM ((ms.take k).map trip) v : Nat) : Int) + 1 = ((cntM ((ms.take (k + 1)).map trip) v : Nat) : Int) from by rw [hsc, if_pos hyes]; omega]
    refine Qai rfl rfl (zz (X_block (zx (zR ?_))))
    refine Qmi rfl rfl (zq (Qt_add rfl rfl (by omega) (by omega)) rfl (Qai rfl rfl (zz ?_)))
    apply X_loop
    case ha => exact (by repeat (first | with_reducible exact agree_refl | refine agree_upd rfl ?_ | refine agree_mix rfl ?_ | refine agree_setAll rfl ?_))
    case hI => exact (by first | exact ⟨k + 1, rfl, rfl, by omega⟩ | exact ⟨k + 1, by rw [hsc]; rfl, rfl, by omega⟩)
    case hm => exact by show ms.length - (k + 1 : Int).toNat < ms.length - (k : Int).toNat; omega
    case hH => exact SB
   have p41 := h41
   try simp only [dp] at p41
   have hnoo : ¬ (ms[k].slot = v.slot ∧ ms[k].hash = digW v) := fun h => p41 h.2
   rw [if_neg hnoo, Nat.add_zero] at hsc
   refine zk (X_block (zx (zR ?_)))
   refine Qmi rfl rfl (zq (Qt_add rfl rfl (by omega) (by omega)) rfl (Qai rfl rfl (zz ?_)))
   apply X_loop
   case ha => exact (by repeat (first | with_reducible exact agree_refl | refine agree_upd rfl ?_ | refine agree_mix rfl ?_ | refine agree_setAll rfl ?_))
   case hI => exact (by first | exact ⟨k + 1, rfl, rfl, by omega⟩ | exact ⟨k + 1, by rw [hsc]; rfl, rfl, by omega⟩)
   case hm => exact by show ms.length - (k + 1 : Int).toNat < ms.length - (k : Int).toNat; omega
   case hH => exact SB
  have p30 := h30
  try simp only [dp] at p30
  refine DL_pass hns0 rfl rfl rfl h30 rfl (DL_pass hns0 rfl rfl rfl h30 rfl (DL_pass hns0 rfl rfl rfl h30 rfl (DL_pass hns0 rfl rfl rfl h30 rfl (DL_pass hns0 rfl rfl rfl h30 rfl (DL_pass hns0 rfl rfl rfl h30 rfl ?_)))))
  refine DL_pass hns0 rfl rfl rfl h30 rfl (DL_pass hns0 rfl rfl rfl h30 rfl (DL_pass hns0 rfl rfl rfl h30 rfl (DL_pass hns0 rfl rfl rfl h30 rfl (zd hns0 rfl (zF (.bool _) rfl h30 rfl) rfl (DL_nil ?_)))))
  refine zx (T_cond_false rfl rfl ?_)
  have hnoo : ¬ (ms[k].slot = v.slot ∧ ms[k].hash = digW v) := fun h => p30 h.1
  rw [if_neg hnoo, Nat.add_zero] at hsc
  refine zk (X_block (zx (zR ?_)))
  refine Qmi rfl rfl (zq (Qt_add rfl rfl (by omega) (by omega)) rfl (Qai rfl rfl (zz ?_)))
  apply X_loop
  case ha => exact (by repeat (first | with_reducible exact agree_refl | refine agree_upd rfl ?_ | refine agree_mix rfl ?_ | refine agree_setAll rfl ?_))
  case hI => exact (by first | exact ⟨k + 1, rfl, rfl, by omega⟩ | exact ⟨k + 1, by rw [hsc]; rfl, rfl, by omega⟩)
  case hm => exact by show ms.length - (k + 1 : Int).toNat < ms.length - (k : Int).toNat; omega
  case hH => exact SB
 have p16 := h16
 try simp only [dp] at p16
 have hkn : k = ms.length := by omega
 have hfull : cntM ((ms.take ms.length).map trip) v = cntM (ms.map trip) v := by rw [List.take_length]
 rw [hkn, hfull]
 refine zY (zG (zW (zE (zx (T2 ?_)))))
 refine Qmi rfl rfl (Qai rfl rfl (TX (zQ ?_)))
 exact zX () [_] Tryz.results21 ⟨rfl, trivial⟩ rfl SB
set_option maxHeartbeats 1000000 in
theorem rSome_c {w0 : World} {H : List SA} {num : Int} {mk : Nat} (hmk : mk < 65536) :
 CT Tryz.prog w0 (H) 51 [.agg (ViewV.mk num (mk : Int)).cells] (α := Unit) (fun _ => .int .i64 (someV num mk : Int)) (fun _ => H) := by
 refine CT_intro Tryz.func51 rfl Tryz.ntmps51 rfl ?_
 refine T2 ?_
 refine ze rfl (Ef_boxN rfl (fun b1 => ?_))
 refine Qai rfl rfl (TX (zS (T2 ?_)))
 refine zq (zn rfl rfl) rfl ?_
 refine ze rfl (zc (rSize_c hmk) rfl (fun x4 => ?_))
 refine zq (Qt_eql rfl rfl) rfl (TX (zC rfl (fun h5 => ?_) (fun h5 => ?_)))
 ·
  have p5 := h5
  try simp only [dp] at p5
  refine T2 (Qai rfl rfl (TX (zQ (zr ?_))))
  have e : someV num mk = 0 := by unfold someV; rw [if_pos (by omega)]
  exact zX () [_] Tryz.results51 ⟨rfl, trivial⟩ (by rw [e]; rfl) SB
 have p5 := h5
 try simp only [dp] at p5
 refine S4 (zq (zn rfl rfl) rfl ?_)
 refine ze rfl (zc (rFaults_c hmk) rfl (fun x7 => ?_))
 have hsz := sizeV_le (num := num) hmk
 have hfa : faultsV num mk ≤ sizeV num mk := by unfold faultsV; omega
 refine zq (Qt_add rfl rfl (by omega) (by omega)) rfl (Qai rfl rfl (TX (zQ ?_)))
 have e : someV num mk = faultsV num mk + 1 := by unfold someV; rw [if_neg (by omega)]
 exact zX () [_] Tryz.results51 ⟨rfl, trivial⟩ (by rw [e]; rfl) SB
set_option maxHeartbeats 1000000 in
theorem rBest_c {w0 : World} {H : List SA} {p : Nat} {num : Int} {mk : Nat} (hmk : mk < 65536) {fk : KeysV} {had : Int} {ma : Option Addr} {mc : Nat} {ms : List MsgV} {la : Option Addr} {lc : Nat} {ks : List RKeptV} [hm : Mem w0 H p (.cells (RFetchV.mk fk (ViewV.mk num (mk : Int)) had ⟨ma, ms.length, mc⟩ ⟨la, ks.length, lc⟩).cells 55 (0, 0))] [hk : RdC w0 H (.slice ma ms.length mc) 39 (ms.flatMap MsgV.list)] (hms : ms.length ≤ 1000) [hl : RdC w0 H (.slice la ks.length lc) 103 (ks.flatMap RKeptV.list)] (hK : RKOK ks) (hno : ∀ k ∈ ks, ¬ Qual num mk (ms.map trip) k.w) :
 CT Tryz.prog w0 (H) 20 [.pointer (some ⟨p, 0, none⟩)] (α := Unit) (fun _ => .int .i64 (-1)) (fun _ => H) := by
 have hlen := hK.len
 refine CT_intro Tryz.func20 rfl Tryz.ntmps20 rfl ?_
 refine T2 (Qai rfl rfl (T4 (zq (zm (.pointer _) rfl) rfl (zq (Qt_nilCheck rfl) rfl (zq (zf 2 rfl rfl) rfl ?_)))))
 refine zq (zn rfl rfl) rfl ?_
 refine ze rfl (zc (rSome_c (num := num) hmk) rfl (fun x10 => ?_))
 refine Qai rfl rfl (T4 (Qai rfl rfl (TX (zS (T2 ?_)))))
 refine Qai rfl rfl (TX (zB ?_))
 refine T_loop [4, 5, 11, 12, 13, 14, 15, 16, 17, 18, 19, 20, 21, 22, 23, 24, 25, 26, 27, 28, 29, 30, 31, 32, 33, 34, 35, 36, 37, 38, 39, 40, 41, 42, 43, 44, 45, 46, 47, 48, 49, 50, 51, 52, 53, 54, 55, 56, 57, 58, 59] [5, 4] (fun us H' => ∃ (k : Nat), us = [.int .i64 (k : Int), .int .i64 (-1)] ∧ H = H' ∧ k ≤ ks.length) (fun us => match us with | .int _ i :: _ => ks.length - i.toNat | _ => 0) ⟨0, rfl, rfl, by omega⟩ SB ?_
 rintro τ0 _ _  ⟨k, rfl, rfl, hk0⟩ _
 refine zS (T2 ?_)
 refine Qmi rfl rfl (zq (zm (.pointer _) rfl) rfl (zq (Qt_nilCheck rfl) rfl (zq (zf 6 rfl rfl) rfl (zq (zl rfl) rfl (zq (zL rfl Tryz.underlying53) rfl ?_)))))
 refine zq (Qt_lss rfl rfl) rfl (TX (zC rfl (fun h17 => ?_) (fun h17 => ?_)))
 ·
  have p17 := h17
  try simp only [dp] at p17
  have hkk : k < ks.length := by omega
  refine zk (zx (zS (zB (zS (T2 ?_)))))
  refine Qmi rfl rfl (zq (Qt_eql rfl rfl) rfl (Qmb rfl rfl ?_))
  refine TL_split 22 rfl (fun h22 => ?_) (fun h22 => ?_)
  ·
   have p22 := h22
   try simp only [dp] at p22
   refine zp rfl rfl h22 rfl (zp rfl rfl h22 rfl (zp rfl rfl h22 rfl (zp rfl rfl h22 rfl (zp rfl rfl h22 rfl (zp rfl rfl h22 rfl ?_)))))
   refine zp rfl rfl h22 rfl (zp rfl rfl h22 rfl (zp rfl rfl h22 rfl (zp rfl rfl h22 rfl (zp rfl rfl h22 rfl (zp rfl rfl h22 rfl ?_)))))
   refine zq (zT (.bool _) rfl h22 rfl) rfl (TX (T_cond_true rfl rfl (zY (zG (zE (zx (zR ?_)))))))
   refine Qmi rfl rfl (zq (Qt_add rfl rfl (by omega) (by omega)) rfl (Qai rfl rfl (zz ?_)))
   apply X_loop
   case ha => exact (by repeat (first | with_reducible exact agree_refl | refine agree_upd rfl ?_ | refine agree_mix rfl ?_ | refine agree_setAll rfl ?_))
   case hI => exact ⟨k + 1, rfl, rfl, by omega⟩
   case hm => exact by show ks.length - (k + 1 : Int).toNat < ks.length - (k : Int).toNat; omega
   case hH => exact SB
  have p22 := h22
  try simp only [dp] at p22
  refine zt rfl rfl h22 (zq (zm (.pointer _) rfl) rfl (zt rfl rfl h22 (zq (zm (.pointer _) rfl) rfl (zt rfl rfl h22 (zq (Qt_nilCheck rfl) rfl ?_)))))
  refine zt rfl rfl h22 (zq (zf 6 rfl rfl) rfl (zt rfl rfl h22 (zq (zl rfl) rfl (zt rfl rfl h22 (Qmi rfl rfl ?_)))))
  refine zt rfl rfl h22 (zq (Qt_indexN rfl rfl (by omega) (by omega)) rfl (zt rfl rfl h22 (zq (Qt_fieldR rfl 103 (rkept_pos hkk)) rfl (zt rfl rfl h22 (zq (Qt_val (Qt_loadRN 103 ks[k].w.list rfl (rkept_w ks k hkk) (WorldV.list_len _) (by decide)) (show Value.agg ks[k].w.list.toArray = Value.agg ks[k].w.cells from rfl)) rfl ?_)))))
  refine zt rfl rfl h22 ?_
  refine ze rfl (zc (rMarked_c (p := p) (ms := ms) hms (hK.good _ (List.getElem_mem hkk))) rfl (fun x32 => ?_))
  refine zt rfl rfl h22 (Qmi rfl rfl (zt rfl rfl h22 (zq (Qt_lss rfl rfl) rfl (zq (zF (.bool _) rfl h22 rfl) rfl (TX ?_)))))
  refine zC rfl (fun h35 => ?_) (fun h35 => ?_)
  ·
   have p35 := h35
   try simp only [dp] at p35
   refine zY (zG (zE (zx (zR ?_))))
   refine Qmi rfl rfl (zq (Qt_add rfl rfl (by omega) (by omega)) rfl (Qai rfl rfl (zz ?_)))
   apply X_loop
   case ha => exact (by repeat (first | with_reducible exact agree_refl | refine agree_upd rfl ?_ | refine agree_mix rfl ?_ | refine agree_setAll rfl ?_))
   case hI => exact ⟨k + 1, rfl, rfl, by omega⟩
   case hm => exact by show ks.length - (k + 1 : Int).toNat < ks.length - (k : Int).toNat; omega
   case hH => exact SB
  have p35 := h35
  try simp only [dp] at p35
  exact absurd (show Qual num mk (ms.map trip) ks[k].w from ⟨by omega, by omega⟩) (hno _ (List.getElem_mem hkk))
 have p17 := h17
 try simp only [dp] at p17
 refine zY (zG (zW (zE (zx (T2 ?_)))))
 refine Qmi rfl rfl (Qai rfl rfl (TX (zQ ?_)))
 exact zX () [_] Tryz.results20 ⟨rfl, trivial⟩ rfl SB
end
section
open Go.RowKit Go.Sx
set_option maxRecDepth 100000
set_option maxHeartbeats 1000000
theorem eqZeroW {v : WorldV} (h : v = WorldV.zero) : ∀ w, (Op.equal 67 (.agg v.cells) (.agg WorldV.zero.cells)).run Tryz.prog w = .ok true w := by
 intro w
 subst h
 kernel_rfl
theorem openOf_nil (K : List (List UInt8)) (mk : Nat) : openOfK K mk [] = (1, .zero) := by
 have e : openK K [] = (1, .zero) := if_pos (by decide)
 unfold openOfK
 rw [e, if_neg (by rintro ⟨h, -⟩; cases h)]
theorem key16 {ls : List BS} (h : ls.map BS.l = keyT 16) : (∀ x ∈ ls, x.l.length ≤ 4294967000) ∧ ls.length ≤ 1000 := by
 refine ⟨(keyT_small h).2, ?_⟩
 have := (keyT_small h).1
 omega
/-- Bits of a mask below i. -/
def bitsB (mk i : Nat) : Nat := ((List.range i).filter fun j => mk.testBit j).length
theorem bits_le (mk i : Nat) : bitsB mk i ≤ i := by have h := List.length_filter_le (fun j => mk.testBit j) (List.range i); rwa [List.length_range] at h
theorem bits_step (mk i : Nat) : bitsB mk (i + 1) = bitsB mk i + (mk / 2 ^ i &&& 1) := by
 unfold bitsB
 rw [List.range_succ, List.filter_append, List.length_append, Nat.and_one_is_mod]
 congr 1
 have h := Nat.testBit_eq_decide_div_mod_eq (x := mk) (i := i)
 rcases Nat.mod_two_eq_zero_or_one (mk / 2 ^ i) with h1 | h1
 · rw [h1] at h ⊢
   rw [List.filter_cons_of_neg (by rw [h]; decide)]; rfl
 · rw [h1] at h ⊢
   rw [List.filter_cons_of_pos (by rw [h]; decide)]; rfl
theorem bits_16 {mk : Nat} (h : mk < 65536) : bitsB mk 16 = ones16 mk := (ones16_mem h).symm
theorem third {n : Nat} (h : n ≤ 16) : IntKind.i64.wrap (((n : Int) - 1).tdiv 3) = (((n - 1) / 3 : Nat) : Int) := by
 have h2 : ∀ m : Fin 17, IntKind.i64.wrap ((((m.1 : Nat) : Int) - 1).tdiv 3) = (((m.1 - 1) / 3 : Nat) : Int) := by decide
 exact h2 ⟨n, by omega⟩
theorem qual_iff {num : Int} {mk : Nat} {M : List MkD} {w : WorldV} : Qual num mk M w ↔ rightV num mk = true ∧ (ones16 mk - 1) / 3 < cntM M w := by
 unfold Qual someV faultsV sizeV
 by_cases h : rightV num mk = true
 · have h4 : 4 ≤ ones16 mk := by unfold rightV at h; exact (of_decide_eq_true h).2.2.1
   rw [if_pos h, if_neg (by omega)]
   constructor
   · rintro ⟨-, h2⟩; exact ⟨h, by omega⟩
   · rintro ⟨-, h2⟩; exact ⟨by omega, by omega⟩
 · rw [if_neg h, if_pos rfl]
   constructor
   · rintro ⟨h2, -⟩; exact absurd rfl h2
   · rintro ⟨h2, -⟩; exact absurd h2 h
theorem goodW3 {s : Int} : GoodW (WorldV.mk s 0 ⟨0, 0⟩ ⟨0, 0⟩ WorldV.zero.cs WorldV.zero.last) := ⟨⟨0, by decide, rfl⟩, ⟨0, by decide, rfl⟩, fun i hi => zeroW_good.cs i hi, fun i hi => zeroW_good.last i hi⟩
/-- Rounds of a fetch, on worlds and on marks. -/
def worldsF (K : List (List UInt8)) (rs : List (Vector UInt8 32)) (mk : Nat) (had : Int) (P : List (List UInt8)) : List WorldV := P.foldl (stepW K rs mk had) []
def marksF (K : List (List UInt8)) (mk : Nat) (had : Int) (P : List (List UInt8)) : List MkD := P.foldl (markM K mk had) []
theorem worlds_step {K : List (List UInt8)} {rs : List (Vector UInt8 32)} {mk : Nat} {had : Int} (P : List (List UInt8)) (k : Nat) (hk : k < P.length) : worldsF K rs mk had (P.take (k + 1)) = stepW K rs mk had (worldsF K rs mk had (P.take k)) P[k] := by
 unfold worldsF
 rw [List.take_succ_eq_append_getElem hk, List.foldl_append]; rfl
theorem marks_step {K : List (List UInt8)} {mk : Nat} {had : Int} (P : List (List UInt8)) (k : Nat) (hk : k < P.length) : marksF K mk had (P.take (k + 1)) = markM K mk had (marksF K mk had (P.take k)) P[k] := by
 unfold marksF
 rw [List.take_succ_eq_append_getElem hk, List.foldl_append]; rfl
theorem marks_len (K : List (List UInt8)) (mk : Nat) (had : Int) (P : List (List UInt8)) : (marksF K mk had P).length ≤ P.length := by
 suffices h : ∀ (P : List (List UInt8)) (M : List MkD), (P.foldl (markM K mk had) M).length ≤ M.length + P.length by simpa [marksF] using h P []
 intro P
 induction P with
 | nil => intro M; simp
 | cons p P ih => intro M; rw [List.foldl_cons]; have h1 := ih (markM K mk had M p); have h2 := markM_len (K := K) (mk := mk) (had := had) (M := M) (l := p); simp only [List.length_cons]; omega
theorem zero_is {H : List SA} {M : List MkD} {num : Int} {mk : Nat} {y : BestR} (h : BestP num mk M [] y) : y.is = false := by
 cases hy : y.is with
 | false => rfl
 | true => obtain ⟨k, hk, -⟩ := h.2 hy; cases hk
attribute [local irreducible] openOfK openK markM stepW digW sha worldB
theorem keys22_c {w0 : World} {H : List SA} {ask : AskX} :
 CT Tryz.prog w0 (H) 14 [.agg ask.cells] (α := (PS × List Nat)) (fun y => .agg (KeysV.mk ⟨y.1.a, y.1.c, y.1.ls⟩ ask.roots).cells) (fun y => pu (y.1.ls.map BS.l = keyT 16) :: dat y.2 (Deep.leads (PS.mk y.1.a y.1.c y.1.ls)) :: H) := by
 refine CT_intro Tryz.func14 rfl Tryz.ntmps14 rfl (T2 (ze rfl (Ef_boxN rfl (fun b1 => ?_))))
 refine ze rfl (Ef_allocN (fun b2 => ?_))
 refine T4 (zy (zf 3 rfl rfl) (zy (zl rfl) (zy (zw [(1, .slice _ _ _)] rfl) (ze rfl (Ef_allocN (fun b3 => ?_))))))
 refine zN (zs rfl rfl (TX (zS (T2 (Qmi rfl rfl (TX (zB ?_)))))))
 refine T_loop [4, 8, 9, 10, 11, 12, 13, 14, 15, 16, 17, 18, 19] [8] (fun us H' => ∃ (k : Nat) (a : Option Addr) (c : Nat) (ls : List BS) (fp : List Nat), us = [.int .i64 (k : Int)] ∧ row (.slice a (ls).length c) 33 1 ((ls).map BS.val) :: eachA fp ls :: blk b3 (.cells (KeysV.mk ⟨a, c, ls⟩ ask.roots).cells 40 (0, 0)) :: blk b1 (.cells ask.cells 47 (0, 0)) :: blk b2 (.cells KeysV.zero.cells 40 (0, 0)) :: H = H' ∧ k ≤ 16 ∧ (ls.map BS.l = keyT k) ∧ (ls.length = k)) (fun us => match us with | .int _ i :: _ => 16 - i.toNat | _ => 0) ⟨0, none, 0, [], [], rfl, rfl, by omega, rfl, rfl⟩ (fun w hw => by
  have h0 : St w0 (blk b3 (.cells (KeysV.mk ⟨none, 0, []⟩ ask.roots).cells 40 (0, 0)) :: blk b1 (.cells ask.cells 47 (0, 0)) :: blk b2 (.cells KeysV.zero.cells 40 (0, 0)) :: H) w := SB w hw
  exact (h0.eachNil).addNil 33 1) ?_
 rintro τ0 _ _  ⟨k, a, c, ls, fp, rfl, rfl, hk0, hls, hll⟩ _
 refine T2 (zy (Qt_lss rfl rfl) (TX (zS (zC rfl (fun h9 => ?_) (fun h9 => ?_)))))
 ·
  have p9 := cL h9
  refine zk (zx (zS (zB (T2 (Qmi rfl rfl (Qai rfl rfl (TX (zR (zy (zf 0 rfl rfl) (zy (zl rfl) (Qmi rfl rfl (zy (Qt_conv rfl rfl Tryz.underlying5) ?_))))))))))))
  rw [wrap_nat .u8 rfl (by show _ < 2 ^ 8; omega)]
  obtain ⟨u, hu⟩ : ∃ u : UInt8, u = UInt8.ofNat k := ⟨_, rfl⟩
  have hun : (k : Int) = (u.toNat : Int) := by rw [hu]; simp; omega
  refine ze rfl (Ef_sliceN (m := ([u] : List UInt8).length) [.int .u8 (k : Int)] (bytesV [u]) rfl rfl rfl (by rw [hun]; rfl) (by simp [Value.cells]) rfl rfl (fun a15 c15 => ?_))
  refine ze rfl (Ef_slice1 (v := .slice _ _ _) rfl (fun a16 c16 => ?_))
  refine ze rfl (Ef_appendP (sv := .slice _ _ _) (xv := .slice _ _ _) ⟨a15, c15, [u]⟩ rfl rfl (by omega) rfl (fun a17 c17 => ?_))
  refine zy (zf 0 rfl rfl) (zN (Ef_store1 (.slice _ _ _) rfl rfl (zz (X_block (zx (zR (zy (zj rfl rfl) (Qmi rfl rfl (zz ?_)))))))))
  apply X_loop
  case ha => exact zA
  case hI => exact ⟨k + 1, a17, c17, ls ++ [⟨a15, c15, [u]⟩], rowFp (.slice a15 ([u] : List UInt8).length c15) ++ fp, rfl, rfl, by omega, by rw [List.map_append, hls, keyT_succ, ← hu]; rfl, by simp [hll]⟩
  case hm => exact by show 16 - (k + 1 : Int).toNat < 16 - (k : Int).toNat; omega
  case hH => exact fun w hw => eachUnder (SB w hw : St w0 (row (.slice a17 (ls ++ [(⟨a15, c15, [u]⟩ : BS)]).length c17) 33 1 ((ls ++ [(⟨a15, c15, [u]⟩ : BS)]).map BS.val) :: row (BS.val ⟨a15, c15, [u]⟩) 5 1 (bytesV (BS.l ⟨a15, c15, [u]⟩)) :: eachA fp ls :: blk b3 (.cells (KeysV.mk ⟨a17, c17, ls ++ [⟨a15, c15, [u]⟩]⟩ ask.roots).cells 40 (0, 0)) :: blk b1 (.cells ask.cells 47 (0, 0)) :: blk b2 (.cells KeysV.zero.cells 40 (0, 0)) :: H) w)
 have p9 := cL h9
 have hk16 : k = 16 := by omega
 refine zY (zG (zW (zE (zx (T2 (zy (zn rfl rfl) (zN (zs rfl rfl (TX (zQ (X_conv (fun w hw => St.datPS (a := a) (c := c) (ls := ls) (fp := fp) (e := 33) (H := blk b2 (.cells (KeysV.mk ⟨a, c, ls⟩ ask.roots).cells 40 (0, 0)) :: H) (SB w hw)) (fun fp2 => ?_))))))))))))
 exact zX (⟨a, c, ls⟩, fp2) [_] Tryz.results14 ⟨⟨_, rfl, res_cellN rfl⟩, trivial⟩ rfl (fun w hw => (SB w hw : St w0 (dat fp2 (Deep.leads (PS.mk a c ls)) :: H) w).addPure (by rw [hls, hk16]))
theorem cloneH_c {w0 : World} {H : List SA} {ra : Option Addr} {hs : List (Vector UInt8 32)} {rc : Nat} [hr : RdC w0 H (.slice ra hs.length rc) 32 (hs.flatMap hlist)] (hn : hs.length ≤ 1000) :
 CT Tryz.prog w0 (H) 38 [.slice ra hs.length rc] (α := AC) (fun y => .slice y.a hs.length y.c) (fun y => row (.slice y.a hs.length y.c) 32 32 (hs.flatMap hlist) :: H) := by
 refine CT_intro Tryz.func38 rfl Tryz.ntmps38 rfl (T2 (Qas rfl rfl (TX (zS (T2 (Qms rfl rfl (zy (Qt_slice_nil rfl rfl Tryz.underlying25) (TX (zC rfl (fun h4 => ?_) (fun h4 => ?_))))))))))
 ·
  have p4 := cL h4
  refine T2 (Qas rfl rfl (TX (zQ (zr ?_))))
  subst p4
  refine X_know (fun w hw => CellsAt.none (hr.rd w hw)) (fun hnil => ?_)
  have hs0 : hs = [] := by have := flat_len (fun h : Vector UInt8 32 => hlist h) 32 hlist_length hs; rw [hnil] at this; simp at this; exact List.eq_nil_of_length_eq_zero (by omega)
  subst hs0
  exact zX ⟨none, 0⟩ [.slice none 0 0] Tryz.results38 ⟨rfl, trivial⟩ rfl (fun w hw => by
   have h2 : St w0 (row (.slice none 0 0) 32 32 [] :: H) w := (SB w hw : St w0 H w).addNil 32 32
   exact h2)
 have p4 := cL h4
 refine S4 (ze rfl (Ef_slice0 (fun a5 c5 => ?_)))
 refine Qms rfl rfl (ze rfl (Ef_appendS (fun h : Vector UInt8 32 => hlist h) (sv := .slice _ _ _) (xv := .slice _ _ _) (xs := []) (ys := hs) hlist_length hlist_one rfl rfl (by simp; omega) rfl rfl (fun a7 c7 => ?_)))
 simp only [List.nil_append]
 refine Qas rfl rfl (TX (zQ ?_))
 exact zX ⟨a7, c7⟩ [_] Tryz.results38 ⟨rfl, trivial⟩ rfl SB
theorem xnew_c {w0 : World} {H : List SA} {num : Int} {mk : Nat} {had : Int} {sa : Option Addr} {sc : Nat} {ls : List BS} {ra : Option Addr} {rc : Nat} {hs : List (Vector UInt8 32)} [rk : RdC w0 H (.slice sa ls.length sc) 1 (ls.map BS.val)] [rke : RdE w0 H ls] (hkl : ∀ x ∈ ls, x.l.length ≤ 4294967000) (hn : ls.length ≤ 1000) [hr : RdC w0 H (.slice ra hs.length rc) 32 (hs.flatMap hlist)] (hh : hs.length ≤ 1000) :
 CT Tryz.prog w0 (H) 13 [.agg (KeysV.mk ⟨sa, sc, ls⟩ ⟨ra, hs.length, rc⟩).cells, .agg (ViewV.mk num (mk : Int)).cells, .int .i64 had] (α := (Nat × Nat × Nat) × (PS × List Nat) × AC) (fun y => .pointer (some ⟨y.1.1, 0, none⟩)) (fun y => pu (y.2.1.1.ls.map BS.l = ls.map BS.l) :: blk y.1.1 (.cells (FetchV.mk (KeysV.mk ⟨y.2.1.1.a, y.2.1.1.c, y.2.1.1.ls⟩ ⟨y.2.2.a, hs.length, y.2.2.c⟩) (ViewV.mk num (mk : Int)) had (some y.1.2.1) (some y.1.2.2) ⟨none, 0, 0⟩).cells 111 (0, 0)) :: blk y.1.2.1 (mapO encKm encBo [] 0) :: blk y.1.2.2 (mapO encKt encU [] 0) :: dat y.2.1.2 (Deep.leads (PS.mk y.2.1.1.a y.2.1.1.c y.2.1.1.ls)) :: row (.slice y.2.2.a hs.length y.2.2.c) 32 32 (hs.flatMap hlist) :: H) := by
 refine CT_intro Tryz.func13 rfl Tryz.ntmps13 rfl (T2 (ze rfl (Ef_boxN rfl (fun b3 => ?_))))
 refine ze rfl (Ef_boxN rfl (fun b4 => ?_))
 refine zy (za (.pointer _) rfl) (TX (zS ?_))
 refine T_drawF (blk b3 (.cells (KeysV.mk ⟨sa, sc, ls⟩ ⟨ra, hs.length, rc⟩).cells 40 (0, 0)) :: H) (by kernel_rfl) SB (zI (i := 0) rfl (zf 0 rfl rfl) (zI (i := 1) rfl (zl rfl) (zI (i := 3) rfl (zf 1 rfl rfl) (zI (i := 4) rfl (zl rfl) ?_))))
 refine DLF_2 (i := 2) (j := 7) (by kernel_rfl) ?_ ?_
 ·
  refine DLS_e rfl rfl (zc (cloned_c (ls := ls) (fun x hx => by have := hkl x hx; omega) hn) rfl (fun x10 => ⟨SB, ?_⟩))
  refine DLF_pure (fun h10 => ?_)
  refine DLF_2 (i := 5) (j := 7) (by kernel_rfl) ?_ ?_
  ·
   refine DLS_e rfl rfl (zc (cloneH_c (hs := hs) hh) rfl (fun x13 => ⟨SB, ?_⟩))
   refine zI (i := 6) rfl (zw [(0, .slice _ _ _), (1, .slice _ _ _)] rfl) (zV (i := 7) (DLS_e rfl rfl (Ef_allocN (fun b7 => ⟨SB, ?_⟩))))
   refine zV (i := 8) (DLS_n rfl (zs rfl rfl (⟨SB, (DLF_nil (by kernel_rfl) (zx (T2 (zy (zn rfl rfl) (zy (zn rfl rfl) (Qmi rfl rfl (ze rfl (Ef_makeMap encKm encBo (fun r18 => ?_)))))))))⟩)))
   refine ze rfl (Ef_makeMap encKt encU (fun r19 => ?_))
   refine zy (zw [(0, (.agg _)), (1, (.agg _)), (2, (.int .i64 _)), (3, (.map _)), (4, (.map _))] rfl) (ze rfl (Ef_boxN rfl (fun b21 => ?_)))
   refine zy (za (.pointer _) rfl) (TX (zQ ?_))
   exact zX ((b21, r18, r19), (x10, x13)) [_] Tryz.results13 ⟨rfl, trivial⟩ rfl (fun w hw => (SB w hw : St w0 (blk b21 (.cells (FetchV.mk (KeysV.mk ⟨x10.1.a, x10.1.c, x10.1.ls⟩ ⟨x13.a, hs.length, x13.c⟩) (ViewV.mk num (mk : Int)) had (some r18) (some r19) ⟨none, 0, 0⟩).cells 111 (0, 0)) :: blk r18 (mapO encKm encBo [] 0) :: blk r19 (mapO encKt encU [] 0) :: dat x10.2 (Deep.leads (PS.mk x10.1.a x10.1.c x10.1.ls)) :: row (.slice x13.a hs.length x13.c) 32 32 (hs.flatMap hlist) :: H) w).addPure h10)
  refine DLS_e rfl rfl (Ef_allocN (fun b7 => ⟨SB, ?_⟩))
  refine zV (i := 5) (DLS_e rfl rfl (zc (cloneH_c (hs := hs) hh) rfl (fun x13 => ⟨SB, ?_⟩)))
  refine zI (i := 6) rfl (zw [(0, .slice _ _ _), (1, .slice _ _ _)] rfl) (zV (i := 8) (DLS_n rfl (zs rfl rfl (⟨SB, (DLF_nil (by kernel_rfl) (zx (T2 (zy (zn rfl rfl) (zy (zn rfl rfl) (Qmi rfl rfl (ze rfl (Ef_makeMap encKm encBo (fun r18 => ?_)))))))))⟩))))
  refine ze rfl (Ef_makeMap encKt encU (fun r19 => ?_))
  refine zy (zw [(0, (.agg _)), (1, (.agg _)), (2, (.int .i64 _)), (3, (.map _)), (4, (.map _))] rfl) (ze rfl (Ef_boxN rfl (fun b21 => ?_)))
  refine zy (za (.pointer _) rfl) (TX (zQ ?_))
  exact zX ((b21, r18, r19), (x10, x13)) [_] Tryz.results13 ⟨rfl, trivial⟩ rfl (fun w hw => (SB w hw : St w0 (blk b21 (.cells (FetchV.mk (KeysV.mk ⟨x10.1.a, x10.1.c, x10.1.ls⟩ ⟨x13.a, hs.length, x13.c⟩) (ViewV.mk num (mk : Int)) had (some r18) (some r19) ⟨none, 0, 0⟩).cells 111 (0, 0)) :: blk r18 (mapO encKm encBo [] 0) :: blk r19 (mapO encKt encU [] 0) :: dat x10.2 (Deep.leads (PS.mk x10.1.a x10.1.c x10.1.ls)) :: row (.slice x13.a hs.length x13.c) 32 32 (hs.flatMap hlist) :: H) w).addPure h10)
 refine DLS_e rfl rfl (Ef_allocN (fun b7 => ⟨SB, ?_⟩))
 refine zV (i := 2) (DLS_e rfl rfl (zc (cloned_c (ls := ls) (fun x hx => by have := hkl x hx; omega) hn) rfl (fun x10 => ⟨SB, ?_⟩)))
 refine DLF_pure (fun h10 => ?_)
 refine zV (i := 5) (DLS_e rfl rfl (zc (cloneH_c (hs := hs) hh) rfl (fun x13 => ⟨SB, ?_⟩)))
 refine zI (i := 6) rfl (zw [(0, .slice _ _ _), (1, .slice _ _ _)] rfl) (zV (i := 8) (DLS_n rfl (zs rfl rfl (⟨SB, (DLF_nil (by kernel_rfl) (zx (T2 (zy (zn rfl rfl) (zy (zn rfl rfl) (Qmi rfl rfl (ze rfl (Ef_makeMap encKm encBo (fun r18 => ?_)))))))))⟩))))
 refine ze rfl (Ef_makeMap encKt encU (fun r19 => ?_))
 refine zy (zw [(0, (.agg _)), (1, (.agg _)), (2, (.int .i64 _)), (3, (.map _)), (4, (.map _))] rfl) (ze rfl (Ef_boxN rfl (fun b21 => ?_)))
 refine zy (za (.pointer _) rfl) (TX (zQ ?_))
 exact zX ((b21, r18, r19), (x10, x13)) [_] Tryz.results13 ⟨rfl, trivial⟩ rfl (fun w hw => (SB w hw : St w0 (blk b21 (.cells (FetchV.mk (KeysV.mk ⟨x10.1.a, x10.1.c, x10.1.ls⟩ ⟨x13.a, hs.length, x13.c⟩) (ViewV.mk num (mk : Int)) had (some r18) (some r19) ⟨none, 0, 0⟩).cells 111 (0, 0)) :: blk r18 (mapO encKm encBo [] 0) :: blk r19 (mapO encKt encU [] 0) :: dat x10.2 (Deep.leads (PS.mk x10.1.a x10.1.c x10.1.ls)) :: row (.slice x13.a hs.length x13.c) 32 32 (hs.flatMap hlist) :: H) w).addPure h10)
theorem markShort_c {w0 : World} {H : List SA} {p : Nat} {sa : Option Addr} {sc : Nat} {ls : List BS} {rt : Sl} {num : Int} {mk : Nat} (hmk : mk < 65536) {had : Int} {mr wr : Option Nat} {fl : Sl} [hm : Mem w0 H p (.cells (FetchV.mk (KeysV.mk ⟨sa, sc, ls⟩ rt) (ViewV.mk num (mk : Int)) had mr wr fl).cells 111 (0, 0))] [rk : RdC w0 H (.slice sa ls.length sc) 1 (ls.map BS.val)] [rke : RdE w0 H ls] (hkl : ∀ x ∈ ls, x.l.length ≤ 4294967000) :
 CT Tryz.prog w0 (H) 17 [.pointer (some ⟨p, 0, none⟩), .slice none 0 0] (α := Unit) (fun _ => .int .i64 1) (fun _ => H) := by
 refine CT_intro Tryz.func17 rfl Tryz.ntmps17 rfl (T2 (Qai rfl rfl (TX (zS (T2 (zy (zm (.pointer _) rfl) (zy (Qt_ptr_nil rfl rfl Tryz.underlying48) (TX (T_cond_false rfl (by first | rfl | decide) (zk (zx (zS ?_))))))))))))
 refine T_drawF H (by kernel_rfl) SB (zI (i := 0) rfl (zm (.pointer _) rfl) (zI (i := 1) rfl (Qt_nilCheck rfl) (zI (i := 2) rfl (zf 0 rfl rfl) (zI (i := 3) rfl (zn rfl rfl) (zI (i := 4) rfl (zm (.pointer _) rfl) ?_)))))
 refine zI (i := 5) rfl (Qt_nilCheck rfl) (zI (i := 6) rfl (zf 2 rfl rfl) (zI (i := 7) rfl (zn rfl rfl) (zI (i := 8) rfl (zm (.slice _ _ _) rfl) (DLF_2 (i := 9) (j := 13) (by kernel_rfl) ?_ ?_))))
 ·
  refine DLS_e rfl rfl (zc (openOf_c (num := num) (mk := mk) hmk (sa := sa) (sc := sc) (ls := ls) (rt := rt) hkl (a := none) (l := []) (c := 0) (hr := RdB.nil') (by decide)) rfl (fun x20 => ⟨SB, ?_⟩))
  refine DLF_pure (fun h20 => ?_)
  rw [openOf_nil]
  refine zI (i := 10) rfl (zm (.tuple _) rfl) (zI (i := 11) rfl (Qt_extract rfl) (zI (i := 12) rfl (Qt_extract rfl) (zV (i := 13) (DLS_e rfl rfl (Ef_allocN (fun b5 => ⟨SB, ?_⟩))))))
  refine zV (i := 14) (DLS_n rfl (zs rfl rfl (⟨SB, (zI (i := 15) rfl (za (.int .i64 _) rfl) (DLF_nil (by kernel_rfl) (zx (T2 (zy (zf 1 rfl rfl) (zy (zl rfl) (zy (zf 4 rfl rfl) (zy (zl rfl) (zy (zw [(0, (.int .i64 _)), (1, (.int .i64 _))] rfl) ?_)))))))))⟩)))
  refine ze rfl (Ef_allocN (fun b7 => ?_))
  refine zN (zs rfl rfl (TX (zS (zB (T2 (Qmi rfl rfl (zy (Qt_neq rfl rfl) (Qab rfl rfl (TX (T_cond_true rfl (by first | rfl | decide) (T2 (Qmi rfl rfl (Qai rfl rfl (TX (zQ (zb (zr ?_)))))))))))))))))
  exact zX () [_] Tryz.results17 ⟨rfl, trivial⟩ rfl SB
 refine DLS_e rfl rfl (Ef_allocN (fun b5 => ⟨SB, ?_⟩))
 refine zV (i := 9) (DLS_e rfl rfl (zc (openOf_c (num := num) (mk := mk) hmk (sa := sa) (sc := sc) (ls := ls) (rt := rt) hkl (a := none) (l := []) (c := 0) (hr := RdB.nil') (by decide)) rfl (fun x20 => ⟨SB, ?_⟩)))
 refine DLF_pure (fun h20 => ?_)
 rw [openOf_nil]
 refine zI (i := 10) rfl (zm (.tuple _) rfl) (zI (i := 11) rfl (Qt_extract rfl) (zI (i := 12) rfl (Qt_extract rfl) (zV (i := 14) (DLS_n rfl (zs rfl rfl (⟨SB, (zI (i := 15) rfl (za (.int .i64 _) rfl) (DLF_nil (by kernel_rfl) (zx (T2 (zy (zf 1 rfl rfl) (zy (zl rfl) (zy (zf 4 rfl rfl) (zy (zl rfl) (zy (zw [(0, (.int .i64 _)), (1, (.int .i64 _))] rfl) ?_)))))))))⟩))))))
 refine ze rfl (Ef_allocN (fun b7 => ?_))
 refine zN (zs rfl rfl (TX (zS (zB (T2 (Qmi rfl rfl (zy (Qt_neq rfl rfl) (Qab rfl rfl (TX (T_cond_true rfl (by first | rfl | decide) (T2 (Qmi rfl rfl (Qai rfl rfl (TX (zQ (zb (zr ?_)))))))))))))))))
 exact zX () [_] Tryz.results17 ⟨rfl, trivial⟩ rfl SB
theorem mark22_c {w0 : World} {H : List SA} {fr : Int} {v : WorldV} (hg : GoodW v) :
 CT Tryz.prog w0 (H) 36 [.int .i64 fr, .agg v.cells] (α := Unit) (fun _ => .agg (MsgV.mk 10 fr v.view.num 0 v.slot (digW v) ⟨none, 0, []⟩ ⟨none, 0, []⟩).cells) (fun _ => H) := by
 refine CT_intro Tryz.func36 rfl Tryz.ntmps36 rfl (T2 (ze rfl (Ef_boxN rfl (fun b3 => ?_))))
 refine ze rfl (Ef_allocN (fun b4 => ?_))
 refine TX (zS (zD (blk b3 (.cells v.cells 67 (0, 0)) :: H) [(0, true), (1, true), (2, true), (3, true), (4, true), (5, true), (6, true), (7, false), (8, true), (9, false)] SB (fun hns0 => ?_)))
 refine zd hns0 rfl (zm (.int .i64 _) rfl) rfl (zd hns0 rfl (zf 2 rfl rfl) rfl (zd hns0 rfl (zf 2 rfl rfl) rfl (zd hns0 rfl (zl rfl) rfl (zd hns0 rfl (zf 0 rfl rfl) rfl (zd hns0 rfl (zl rfl) rfl (zd hns0 rfl (zn rfl rfl) rfl (DL_e rfl rfl (zc (digestW_c hg) rfl (fun x12 => ⟨SB, ?_⟩)))))))))
 refine zd hns0 rfl (zw [(0, (.int .i64 _)), (1, (.int .i64 _)), (2, (.int .i64 _)), (4, (.int .i64 _)), (5, (.agg _))] rfl) rfl (DL_n rfl (zs rfl rfl (⟨SB, (DL_nil (zx (zQ ?_)))⟩)))
 exact zX () [_] Tryz.results36 ⟨⟨_, rfl, res_cellN rfl⟩, trivial⟩ rfl SB
theorem wakes22_c {w0 : World} {H : List SA}  :
 CT Tryz.prog w0 (H) 11 [] (α := Unit) (fun _ => .bool true) (fun _ => H) := by
 refine CT_intro Tryz.func11 rfl Tryz.ntmps11 rfl (T2 (Qab rfl rfl (T4 (zy (zw [] rfl) (ze rfl (zc (keys22_c (ask := AskX.zero)) rfl (fun x7 => ?_)))))))
 refine TL_pure (fun h7 => ?_)
 refine zy (zw [(1, (.int .u16 _))] rfl) (ze rfl (zc (xnew_c (num := 0) (mk := 15) (had := 0) (sa := x7.1.a) (sc := x7.1.c) (ls := x7.1.ls) (ra := none) (rc := 0) (hs := []) (hr := ⟨fun w _ => cellsAt_nil w 32⟩) (key16 h7).1 (key16 h7).2 (by simp)) rfl (fun x9 => ?_)))
 refine TL_pure (fun h9 => ?_)
 refine zy (za (.pointer _) rfl) (T4 (zy (zm (.pointer _) rfl) (ze rfl (zc (bestX_c (p := x9.1.1) (r2 := x9.1.2.2) (d := 0) (num := 0) (mk := 15) (by decide) (ks := []) (M := []) (ts := []) (had := 0) (hk := ⟨fun w _ => cellsAt_nil w 135⟩) (fun t => rfl) IsX.nil.ok (KeptOK.nil 0) (fun _ h => by cases h) (fun _ h => by cases h) (fun _ h => by cases h)) rfl (fun x12 => ?_)))))
 refine TL_pure (fun h12 => ?_)
 have his : x12.is = false := zero_is (H := H) h12
 rw [his]
 refine zy (zm (.tuple _) rfl) (zy (Qt_extract rfl) (zy (Qt_extract rfl) (zy (Qt_extract rfl) (ze rfl (Ef_allocN (fun b2 => ?_))))))
 refine ze rfl (Ef_allocN (fun b3 => ?_))
 refine zN (zs rfl rfl (zN (zs rfl rfl (Qab rfl rfl (T4 (zy (zw [(0, (.int .i64 _))] rfl) (ze rfl (zc (mark22_c (fr := 2) (v := WorldV.mk 3 0 ⟨0, 0⟩ ⟨0, 0⟩ WorldV.zero.cs WorldV.zero.last) goodW3) rfl (fun x17 => ?_)))))))))
 refine ze rfl (Ef_allocN (fun b5 => ?_))
 refine zN (zs rfl rfl (T4 (Qmb rfl rfl (zy (Qt_not rfl) (Qmb rfl rfl (TL_split 20 rfl (fun h20 => ?_) (fun h20 => ?_)))))))
 ·
  have p20 := cL h20
  refine zt rfl rfl h20 (zy (zm (.pointer _) rfl) (zt rfl rfl h20 (ze rfl (zc (markShort_c (p := x9.1.1) (num := 0) (mk := 15) (by decide) (ls := x9.2.1.1.ls) (fun x hx => (keyT_small (h9.trans h7)).2 x hx)) rfl (fun x22 => ?_)))))
  refine zt rfl rfl h20 (zy (Qt_eql rfl rfl) (zy (zT (.bool _) rfl h20 rfl) (Qmb rfl rfl (TL_split 25 rfl (fun h25 => ?_) (fun h25 => ?_)))))
  ·
   have p25 := cL h25
   refine zt rfl rfl h25 (zy (zf 0 rfl rfl) (zt rfl rfl h25 (zy (zl rfl) (zt rfl rfl h25 (zy (Qt_eql rfl rfl) (zy (zT (.bool _) rfl h25 rfl) (Qmb rfl rfl (TL_split 30 rfl (fun h30 => ?_) (fun h30 => ?_)))))))))
   ·
    have p30 := cL h30
    refine zt rfl rfl h30 (zy (zf 1 rfl rfl) (zt rfl rfl h30 (zy (zl rfl) (zt rfl rfl h30 (zy (Qt_eql rfl rfl) (zy (zT (.bool _) rfl h30 rfl) (Qmb rfl rfl (TL_split 35 rfl (fun h35 => ?_) (fun h35 => ?_)))))))))
    ·
     have p35 := cL h35
     refine zt rfl rfl h35 (zy (zf 4 rfl rfl) (zt rfl rfl h35 (zy (zl rfl) (zt rfl rfl h35 (zy (Qt_eql rfl rfl) (zy (zT (.bool _) rfl h35 rfl) (Qab rfl rfl (TX (zQ ?_)))))))))
     exact zX () [.bool true] Tryz.results11 ⟨congrArg Value.bool (by decide), trivial⟩ rfl SB
    have p35 := cL h35
    exact absurd h35 (by decide)
   have p30 := cL h30
   exact absurd h30 (by decide)
  have p25 := cL h25
  exact absurd h25 (by decide)
 have p20 := cL h20
 exact absurd h20 (by decide)
theorem long22_c {w0 : World} {H : List SA} {pa : Option Addr} {pc : Nat} {ps : List BS} [pk : RdC w0 H (.slice pa ps.length pc) 1 (ps.map BS.val)] [pke : RdE w0 H ps] :
 CT Tryz.prog w0 (H) 12 [.slice pa ps.length pc] (α := Bool) (fun y => .bool y) (fun y => pu (y = false → ps.length ≤ 30 ∧ ∀ x ∈ ps, x.l.length ≤ 6000) :: H) := by
 refine CT_intro Tryz.func12 rfl Tryz.ntmps12 rfl (T2 (Qab rfl rfl (TX (zS (T2 (Qms rfl rfl (zy (zL rfl Tryz.underlying28) (zy (Qt_gtr rfl rfl) (TX (zC rfl (fun h6 => ?_) (fun h6 => ?_)))))))))))
 ·
  have p6 := cL h6
  refine T2 (Qab rfl rfl (TX (zQ (zr ?_))))
  exact zX true [_] Tryz.results12 ⟨rfl, trivial⟩ rfl (fun w hw => (SB w hw : St w0 H w).addPure (by simp))
 have p6 := cL h6
 refine zk (zx (zS (T2 (Qms rfl rfl (zy (zL rfl Tryz.underlying28) (Qmi rfl rfl (TX (zB ?_))))))))
 refine T_loop [2, 3, 9, 10, 11, 12, 13, 14, 15, 16, 17, 18] [9] (fun us H' => ∃ (k : Nat), us = [.int .i64 (k : Int)] ∧ H = H' ∧ k ≤ ps.length ∧ (∀ x ∈ ps.take k, x.l.length ≤ 6000)) (fun us => match us with | .int _ i :: _ => ps.length - i.toNat | _ => 0) ⟨0, rfl, rfl, by omega, by simp⟩ SB ?_
 rintro τ0 _ _  ⟨k, rfl, rfl, hk0, hall⟩ _
 refine T2 (zy (Qt_lss rfl rfl) (TX (zS (zC rfl (fun h10 => ?_) (fun h10 => ?_)))))
 ·
  have p10 := cL h10
  have hk : k < ps.length := by omega
  refine zk (zx (zS (zB (T2 (Qmi rfl rfl (Qai rfl rfl (T4 (Qms rfl rfl (Qmi rfl rfl (zy (Qt_indexR rfl rfl (by omega) (by simp; omega)) (zy (Qt_loadR (.slice _ _ _) rfl (vals_get _ _ hk)) (zy (zL rfl Tryz.underlying33) (zy (Qt_gtr rfl rfl) (TX (zC rfl (fun h17 => ?_) (fun h17 => ?_))))))))))))))))
  ·
   have p17 := cL h17
   refine T2 (Qab rfl rfl (TX (zQ (zb (zr (X_loop_ret (zb (zr ?_))))))))
   exact zX true [_] Tryz.results12 ⟨rfl, trivial⟩ rfl (fun w hw => (SB w hw : St w0 H w).addPure (by simp))
  have p17 := cL h17
  refine zk (X_block (zx (zR (zy (zj rfl rfl) (Qmi rfl rfl (zz ?_))))))
  apply X_loop
  case ha => exact zA
  case hI => exact ⟨k + 1, rfl, rfl, by omega, by rw [List.take_succ_eq_append_getElem hk]; intro x hx; rcases List.mem_append.1 hx with h | h; exact hall x h; rw [List.mem_singleton.1 h]; omega⟩
  case hm => exact by show ps.length - (k + 1 : Int).toNat < ps.length - (k : Int).toNat; omega
  case hH => exact SB
 have p10 := cL h10
 have hkn : k = ps.length := by omega
 refine zY (zG (zW (zE (zx (T2 (Qab rfl rfl (TX (zQ ?_))))))))
 exact zX false [_] Tryz.results12 ⟨rfl, trivial⟩ rfl (fun w hw => (SB w hw : St w0 H w).addPure (fun _ => ⟨by omega, by rw [hkn, List.take_length] at hall; exact hall⟩))
end
end Go.Proofs.YtnijomppbgdmnaaGreat
