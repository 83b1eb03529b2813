/- Walks: the reference on what is picked; the law CertsWho. -/
import Derived.Test.YtgjkgdjjolnhdaaDoorRw
import Derived.Test.YtgjkgdjjolnhdaaDoorCe
namespace Go.Proofs.YtgjkgdjjolnhdaaDoor
open Go.RowKit Go.Sx
set_option maxRecDepth 100000
set_option linter.unusedSimpArgs false
set_option linter.unusedVariables false
theorem pickP_cnt {K : List (List UInt8)} {num : Int} {mk : Nat} {m : MsgD} {i : Nat} {l : List UInt8} : pickP K num mk m i l = decide (cntI K num mk m l = (i : Int)) := by
  rw [Bool.eq_iff_iff, decide_eq_true_eq, cntI_eq, pickP, Bool.and_eq_true, decide_eq_true_eq]
  exact And.comm
theorem pickD_eq {K : List (List UInt8)} {num : Int} {mk : Nat} {m : MsgD} {P : List (List UInt8)} : pickD K num mk m P = ((List.range 16).filter fun i => (setD num m (P.map (opn K mk))).testBit i).map (pickE K num mk m P) := rfl
theorem pickE_at {K : List (List UInt8)} {num : Int} {mk : Nat} {m : MsgD} {P : List (List UInt8)} {i j : Nat} (hj : j < P.length) (h : cntI K num mk m P[j] = (i : Int)) (hno : ∀ (k : Nat) (hk : k < j), cntI K num mk m (P[k]'(Nat.lt_trans hk hj)) ≠ (i : Int)) : pickE K num mk m P i = P[j] := by
  have := find_at (p := pickP K num mk m i) hj (by rw [pickP_cnt, decide_eq_true_eq]; exact h) (fun k hk => by rw [pickP_cnt, decide_eq_false_iff_not]; exact hno k hk)
  rw [pickE, this]; rfl
theorem votes_at {K : List (List UInt8)} {num : Int} {mk : Nat} {m : MsgD} {P : List (List UInt8)} {i j : Nat} (hj : j < P.length) (h : cntI K num mk m P[j] = (i : Int)) : (setD num m (P.map (opn K mk))).testBit i = true := by
  rw [← votesI_bit, votesI, List.any_eq_true]
  exact ⟨P[j], List.getElem_mem hj, by simp [h]⟩
theorem votes_no {K : List (List UInt8)} {num : Int} {mk : Nat} {m : MsgD} {P : List (List UInt8)} {i : Nat} (h : ∀ (k : Nat) (hk : k < P.length), cntI K num mk m P[k] ≠ (i : Int)) : (setD num m (P.map (opn K mk))).testBit i = false := by
  rw [← votesI_bit, votesI, List.any_eq_false]
  intro l hl
  obtain ⟨k, hk, rfl⟩ := List.getElem_of_mem hl
  simpa using h k hk
attribute [local irreducible] openOfK openK getM tagOf popB bruijn cntI sealK keyT writD opn setD memK pickE pickD decidD longC
set_option maxHeartbeats 1000000 in
theorem rPick_c {w0 : World} {H : List SA} {num : Int} {mk : Nat} (hmk : mk < 65536) {sa : Option Addr} {sc : Nat} {ls : List BS} {rt : Sl} [rk : RdC w0 H (.slice sa ls.length sc) 1 (ls.map BS.val)] [rke : RdE w0 H ls] (hkl : ∀ x ∈ ls, x.l.length ≤ 4294967000) {a : Option Addr} {ps : List BS} {c : Nat} [hp : RdC w0 H (.slice a ps.length c) 1 (ps.map BS.val)] [hpe : RdE w0 H ps] (hps : ∀ x ∈ ps, x.l.length ≤ 4294960000) (hn : ps.length ≤ 1000) {m : MsgV} :
    CT Tryd.prog w0 (H) 20 [.agg (KeysV.mk ⟨sa, sc, ls⟩ rt).cells, .agg (ViewV.mk num (mk : Int)).cells, .agg m.cells, .slice a ps.length c] (α := AC × List BS) (fun y => .slice y.1.a y.2.length y.1.c) (fun y => pu (y.2.map BS.l = pickD (ls.map BS.l) num mk m.abs (ps.map BS.l) ∧ ∀ x ∈ y.2, x ∈ ps) :: row (.slice y.1.a (y.2).length y.1.c) 27 1 ((y.2).map BS.val) :: H) := by
  refine CT_intro Tryd.func20 rfl Tryd.ntmps20 rfl ?_
  refine T_seq ?_
  refine T_region ?_
  refine TL_e rfl (Ef_boxN rfl (fun b4 => ?_))
  refine TL_e rfl (Ef_boxN rfl (fun b5 => ?_))
  refine TL_e rfl (Ef_boxN rfl (fun b6 => ?_))
  refine TL_q (Qt_assign (.slice _ _ _) rfl) rfl ?_
  refine TL_nil ?_
  refine X_then ?_
  refine T_seq ?_
  refine T_region ?_
  refine TL_q (Qt_assign (.slice _ _ _) rfl) rfl ?_
  refine TL_nil ?_
  refine X_then ?_
  refine T_seq ?_
  refine T_seq ?_
  refine T_region ?_
  refine TL_q (Qt_assign (.int .i64 _) rfl) rfl ?_
  refine TL_nil ?_
  refine X_then ?_
  refine T_block ?_
  refine T_loop [9, 10, 11, 12, 13, 14, 15, 16, 17, 18, 19, 20, 21, 22, 23, 24, 25, 26, 27, 28, 29, 30, 31, 32, 33, 34, 35, 36, 37, 38] [10, 9] (fun us H' => ∃ (i : Nat) (a2 : Option Addr) (c2 : Nat) (os : List BS), us = [.int .i64 (i : Int), .slice a2 os.length c2] ∧ row (.slice a2 (os).length c2) 27 1 ((os).map BS.val) :: blk b4 (.cells (KeysV.mk ⟨sa, sc, ls⟩ rt).cells 38 (0, 0)) :: blk b5 (.cells (ViewV.mk num (mk : Int)).cells 24 (0, 0)) :: blk b6 (.cells m.cells 30 (0, 0)) :: H = H' ∧ i ≤ 16 ∧ (os.map BS.l = ((List.range i).filter fun i => (setD num m.abs ((ps.map BS.l).map (opn (ls.map BS.l) mk))).testBit i).map (pickE (ls.map BS.l) num mk m.abs (ps.map BS.l))) ∧ (∀ x ∈ os, x ∈ ps)) (fun us => match us with | .int _ i :: _ => 16 - i.toNat | _ => 0) ⟨0, none, 0, [], rfl, rfl, by omega, rfl, fun x h => by cases h⟩ (fun w hw => by
        have h0 : St w0 (blk b4 (.cells (KeysV.mk ⟨sa, sc, ls⟩ rt).cells 38 (0, 0)) :: blk b5 (.cells (ViewV.mk num (mk : Int)).cells 24 (0, 0)) :: blk b6 (.cells m.cells 30 (0, 0)) :: H) w := Subs.st inferInstance w hw
        exact h0.addNil 27 1) ?_
  rintro τ0 _ _  ⟨i, a2, c2, os, rfl, rfl, hi0, ho, hos⟩ _
  refine T_seq ?_
  refine T_seq ?_
  refine T_region ?_
  refine TL_q (Qt_move (.int .i64 _) rfl) rfl ?_
  refine TL_q (Qt_lss rfl rfl) rfl ?_
  refine TL_nil ?_
  refine X_then ?_
  refine T_cond rfl (fun h13 => ?_) (fun h13 => ?_)
  ·
    have p13 := h13
    try simp only [decide_eq_true_eq, decide_eq_false_iff_not, Bool.not_eq_true', Bool.not_eq_false', Option.isNone_iff_eq_none, ne_eq, Decidable.not_not, Int.not_lt, Int.not_le] at p13
    have hi16 : i < 16 := by omega
    refine T_skip ?_
    refine X_then ?_
    refine T_seq ?_
    refine T_block ?_
    refine T_seq ?_
    refine T_region ?_
    refine TL_q (Qt_assign (.int .i64 _) rfl) rfl ?_
    refine TL_nil ?_
    refine X_then ?_
    refine T_block ?_
    refine T_loop [9, 11, 16, 17, 18, 19, 20, 21, 22, 23, 24, 25, 26, 27, 28, 29, 30, 31, 32, 33, 34, 35, 36, 37, 38] [11, 9] (fun us H' => ∃ (j : Nat), us = [.int .i64 (j : Int), .slice a2 os.length c2] ∧ row (.slice a2 (os).length c2) 27 1 ((os).map BS.val) :: blk b4 (.cells (KeysV.mk ⟨sa, sc, ls⟩ rt).cells 38 (0, 0)) :: blk b5 (.cells (ViewV.mk num (mk : Int)).cells 24 (0, 0)) :: blk b6 (.cells m.cells 30 (0, 0)) :: H = H' ∧ j ≤ ps.length ∧ (∀ (k : Nat) (hk : k < ps.length), k < j → cntI (ls.map BS.l) num mk m.abs ps[k].l ≠ (i : Int))) (fun us => match us with | .int _ i :: _ => ps.length - i.toNat | _ => 0) ⟨0, rfl, rfl, by omega, fun k hk h => by omega⟩ (Subs.st inferInstance) ?_
    rintro τ1 _ _  ⟨j, rfl, rfl, hj0, hno⟩ _
    refine T_seq ?_
    refine T_seq ?_
    refine T_region ?_
    refine TL_q (Qt_move (.int .i64 _) rfl) rfl ?_
    refine TL_q (Qt_move (.slice _ _ _) rfl) rfl ?_
    refine TL_q (Qt_len_slice rfl Tryd.underlying28) rfl ?_
    refine TL_q (Qt_lss rfl rfl) rfl ?_
    refine TL_nil ?_
    refine X_then ?_
    refine T_cond rfl (fun h19 => ?_) (fun h19 => ?_)
    ·
      have p19 := h19
      try simp only [decide_eq_true_eq, decide_eq_false_iff_not, Bool.not_eq_true', Bool.not_eq_false', Option.isNone_iff_eq_none, ne_eq, Decidable.not_not, Int.not_lt, Int.not_le] at p19
      have hj : j < ps.length := by omega
      refine T_skip ?_
      refine X_then ?_
      refine T_seq ?_
      refine T_block ?_
      refine T_seq ?_
      refine T_draw (blk b4 (.cells (KeysV.mk ⟨sa, sc, ls⟩ rt).cells 38 (0, 0)) :: blk b5 (.cells (ViewV.mk num (mk : Int)).cells 24 (0, 0)) :: blk b6 (.cells m.cells 30 (0, 0)) :: H) [(0, true), (1, true), (2, true), (3, true), (4, true), (5, true), (6, true), (8, true), (7, false), (9, true)] (by kernel_rfl) (by kernel_rfl) rfl (by kernel_rfl) (Subs.st inferInstance) (fun hns0 => ?_)
      refine DL_q hns0 rfl (Qt_loadN rfl rfl) rfl ?_
      refine DL_q hns0 rfl (Qt_loadN rfl rfl) rfl ?_
      refine DL_q hns0 rfl (Qt_loadN rfl rfl) rfl ?_
      refine DL_q hns0 rfl (Qt_move (.slice _ _ _) rfl) rfl ?_
      refine DL_q hns0 rfl (Qt_move (.int .i64 _) rfl) rfl ?_
      refine DL_q hns0 rfl (Qt_indexR rfl rfl (by omega) (by simp; omega)) rfl ?_
      refine DL_q hns0 rfl (Qt_loadR (.slice _ _ _) rfl (vals_get _ _ hj)) rfl ?_
      refine DL_q hns0 rfl (Qt_move (.int .i64 _) rfl) rfl ?_
      have : RdB w0 H (.slice ps[j].a ps[j].l.length ps[j].c) ps[j].l := hpe.get (List.getElem_mem hj)
      refine DL_e rfl rfl (Ef_call (rCounts_c (num := num) hmk (sa := sa) (sc := sc) (ls := ls) (rt := rt) (m := m) (l := ps[j].l) hkl (hps _ (List.getElem_mem hj))) rfl (fun x29 => ⟨(Subs.st inferInstance), ?_⟩))
      refine DL_q hns0 rfl (Qt_eql rfl rfl) rfl ?_
      refine DL_nil ?_
      refine X_then ?_
      refine T_cond rfl (fun h31 => ?_) (fun h31 => ?_)
      ·
        have p31 := h31
        try simp only [decide_eq_true_eq, decide_eq_false_iff_not, Bool.not_eq_true', Bool.not_eq_false', Option.isNone_iff_eq_none, ne_eq, Decidable.not_not, Int.not_lt, Int.not_le] at p31
        have hstep := range_step (p := fun i => (setD num m.abs ((ps.map BS.l).map (opn (ls.map BS.l) mk))).testBit i) (k := i)
        have hcj : cntI (ls.map BS.l) num mk m.abs ((ps.map BS.l)[j]'(by simpa using hj)) = (i : Int) := by simpa using h31
        rw [if_pos (votes_at (by simpa using hj) hcj)] at hstep
        have hpe2 := pickE_at (by simpa using hj) hcj (fun k hk => by have hk2 : k < ps.length := (by omega); simpa using hno k hk2 hk)
        refine T_seq ?_
        refine T_region ?_
        refine TL_q (Qt_move (.slice _ _ _) rfl) rfl ?_
        refine TL_q (Qt_move (.slice _ _ _) rfl) rfl ?_
        refine TL_q (Qt_move (.int .i64 _) rfl) rfl ?_
        refine TL_q (Qt_indexR rfl rfl (by omega) (by simp; omega)) rfl ?_
        refine TL_q (Qt_loadR (.slice _ _ _) rfl (vals_get _ _ hj)) rfl ?_
        refine TL_e rfl (Ef_slice1 (v := .slice _ _ _) rfl (fun a37 c37 => ?_))
        refine TL_e rfl (Ef_appendP (sv := .slice _ _ _) (xv := .slice _ _ _) ⟨ps[j].a, ps[j].c, ps[j].l⟩ rfl rfl (by have h2 := congrArg List.length ho; rw [List.length_map, List.length_map] at h2; have := range_le (fun i => (setD num m.abs ((ps.map BS.l).map (opn (ls.map BS.l) mk))).testBit i) i; omega) rfl (fun a38 c38 => ?_))
        refine TL_q (Qt_assign (.slice _ _ _) rfl) rfl ?_
        refine TL_nil ?_
        refine X_then ?_
        refine T_exit ?_
        refine X_block_far rfl ?_
        refine X_then_exit ?_
        refine X_loop_exit ?_
        refine X_block_exit ?_
        refine X_block ?_
        refine X_then ?_
        refine T_region ?_
        refine TL_q (Qt_move (.int .i64 _) rfl) rfl ?_
        first
          | refine TL_q (Qt_add rfl rfl (by omega) (by omega)) rfl ?_
          | refine TL_q (Qt_addw rfl rfl) rfl ?_
        refine TL_q (Qt_assign (.int .i64 _) rfl) rfl ?_
        refine TL_nil ?_
        apply X_loop
        case ha => exact (by repeat (first | with_reducible exact agree_refl | refine agree_upd rfl ?_ | refine agree_mix rfl ?_ | refine agree_setAll rfl ?_))
        case hI => exact by first | exact ⟨i + 1, a38, c38, os ++ [⟨ps[j].a, ps[j].c, ps[j].l⟩], rfl, rfl, by omega, by rw [hstep, List.map_append, List.map_append, ho]; simp [hpe2], fun x hx => by rcases List.mem_append.1 hx with h | h; exact hos x h; (obtain rfl : x = ps[j] := (by simpa using h)); exact List.getElem_mem hj⟩ | exact ⟨i + 1, a2, c2, os, rfl, rfl, by omega, by rw [hstep, ho], hos⟩
        case hm => exact by show 16 - (i + 1 : Int).toNat < 16 - (i : Int).toNat; omega
        case hH => exact (Subs.st inferInstance)
      ·
        have p31 := h31
        try simp only [decide_eq_true_eq, decide_eq_false_iff_not, Bool.not_eq_true', Bool.not_eq_false', Option.isNone_iff_eq_none, ne_eq, Decidable.not_not, Int.not_lt, Int.not_le] at p31
        refine T_skip ?_
        refine X_block ?_
        refine X_then ?_
        refine T_region ?_
        refine TL_q (Qt_move (.int .i64 _) rfl) rfl ?_
        first
          | refine TL_q (Qt_add rfl rfl (by omega) (by omega)) rfl ?_
          | refine TL_q (Qt_addw rfl rfl) rfl ?_
        refine TL_q (Qt_assign (.int .i64 _) rfl) rfl ?_
        refine TL_nil ?_
        apply X_loop
        case ha => exact (by repeat (first | with_reducible exact agree_refl | refine agree_upd rfl ?_ | refine agree_mix rfl ?_ | refine agree_setAll rfl ?_))
        case hI => exact ⟨j + 1, rfl, rfl, by omega, fun k hk h => by rcases Nat.lt_or_ge k j with h1 | h1; exact hno k hk h1; obtain rfl : k = j := (by omega); simpa using h31⟩
        case hm => exact by show ps.length - (j + 1 : Int).toNat < ps.length - (j : Int).toNat; omega
        case hH => exact (Subs.st inferInstance)
    ·
      have p19 := h19
      try simp only [decide_eq_true_eq, decide_eq_false_iff_not, Bool.not_eq_true', Bool.not_eq_false', Option.isNone_iff_eq_none, ne_eq, Decidable.not_not, Int.not_lt, Int.not_le] at p19
      have hjl : j = ps.length := by omega
      have hstep := range_step (p := fun i => (setD num m.abs ((ps.map BS.l).map (opn (ls.map BS.l) mk))).testBit i) (k := i)
      rw [if_neg (by rw [votes_no (fun k hk => by have hk2 : k < ps.length := (by simpa using hk); simpa using hno k hk2 (by omega))]; decide), List.append_nil] at hstep
      refine T_exit ?_
      refine X_then_exit ?_
      refine X_loop_exit ?_
      refine X_block_exit ?_
      refine X_block ?_
      refine X_then ?_
      refine T_region ?_
      refine TL_q (Qt_move (.int .i64 _) rfl) rfl ?_
      first
        | refine TL_q (Qt_add rfl rfl (by omega) (by omega)) rfl ?_
        | refine TL_q (Qt_addw rfl rfl) rfl ?_
      refine TL_q (Qt_assign (.int .i64 _) rfl) rfl ?_
      refine TL_nil ?_
      apply X_loop
      case ha => exact (by repeat (first | with_reducible exact agree_refl | refine agree_upd rfl ?_ | refine agree_mix rfl ?_ | refine agree_setAll rfl ?_))
      case hI => exact by first | exact ⟨i + 1, a38, c38, os ++ [⟨ps[j].a, ps[j].c, ps[j].l⟩], rfl, rfl, by omega, by rw [hstep, List.map_append, List.map_append, ho]; simp [hpe2], fun x hx => by rcases List.mem_append.1 hx with h | h; exact hos x h; (obtain rfl : x = ps[j] := (by simpa using h)); exact List.getElem_mem hj⟩ | exact ⟨i + 1, a2, c2, os, rfl, rfl, by omega, by rw [hstep, ho], hos⟩
      case hm => exact by show 16 - (i + 1 : Int).toNat < 16 - (i : Int).toNat; omega
      case hH => exact (Subs.st inferInstance)
  ·
    have p13 := h13
    try simp only [decide_eq_true_eq, decide_eq_false_iff_not, Bool.not_eq_true', Bool.not_eq_false', Option.isNone_iff_eq_none, ne_eq, Decidable.not_not, Int.not_lt, Int.not_le] at p13
    have hi16 : i = 16 := by omega
    subst hi16
    refine T_exit ?_
    refine X_then_exit ?_
    refine X_loop_exit ?_
    refine X_block_exit ?_
    refine X_then ?_
    refine T_seq ?_
    refine T_region ?_
    refine TL_q (Qt_move (.slice _ _ _) rfl) rfl ?_
    refine TL_q (Qt_assign (.slice _ _ _) rfl) rfl ?_
    refine TL_nil ?_
    refine X_then ?_
    refine T_ret ?_
    exact X_ret (⟨a2, c2⟩, os) [_] Tryd.results20 ⟨rfl, trivial⟩ rfl (fun w hw => (Subs.st inferInstance w hw : St w0 (row (.slice a2 (os).length c2) 27 1 ((os).map BS.val) :: H) w).addPure ⟨ho.trans pickD_eq.symm, hos⟩)
set_option maxHeartbeats 1000000 in
theorem certsWho_c {w0 : World} {H : List SA} [G : Glob w0] {num : Int} {mk : Nat} (hmk : mk < 65536) {m : MsgV} {a : Option Addr} {ps : List BS} {c : Nat} [hp : RdC w0 H (.slice a ps.length c) 1 (ps.map BS.val)] [hpe : RdE w0 H ps] :
    CT Tryd.prog w0 (H) 5 [.agg (AskV.mk (ViewV.mk num (mk : Int)) m).cells, .slice a ps.length c] (α := Unit) (fun _ => .bool true) (fun _ => H) := by
  refine CT_intro Tryd.func5 rfl Tryd.ntmps5 rfl ?_
  refine T_seq ?_
  refine T_region ?_
  refine TL_e rfl (Ef_boxN rfl (fun b2 => ?_))
  refine TL_q (Qt_assign (.bool _) rfl) rfl ?_
  refine TL_nil ?_
  refine X_then ?_
  refine T_seq ?_
  refine T_seq ?_
  refine T_region ?_
  refine TL_e rfl (Ef_call (wakes17_c) rfl (fun x9 => ?_))
  refine TL_q (Qt_not rfl) rfl ?_
  refine TL_nil ?_
  refine X_then ?_
  refine T_cond rfl (fun h10 => ?_) (fun h10 => ?_)
  ·
    have p10 := h10
    try simp only [decide_eq_true_eq, decide_eq_false_iff_not, Bool.not_eq_true', Bool.not_eq_false', Option.isNone_iff_eq_none, ne_eq, Decidable.not_not, Int.not_lt, Int.not_le] at p10
    cases h10
  ·
    have p10 := h10
    try simp only [decide_eq_true_eq, decide_eq_false_iff_not, Bool.not_eq_true', Bool.not_eq_false', Option.isNone_iff_eq_none, ne_eq, Decidable.not_not, Int.not_lt, Int.not_le] at p10
    refine T_skip ?_
    refine X_then ?_
    refine T_seq ?_
    refine T_seq ?_
    refine T_region ?_
    refine TL_q (Qt_move (.slice _ _ _) rfl) rfl ?_
    refine TL_e rfl (Ef_call (long17_c (ps := ps)) rfl (fun x12 => ?_))
    refine TL_nil ?_
    refine X_then ?_
    refine T_cond rfl (fun h12 => ?_) (fun h12 => ?_)
    ·
      have p12 := h12
      try simp only [decide_eq_true_eq, decide_eq_false_iff_not, Bool.not_eq_true', Bool.not_eq_false', Option.isNone_iff_eq_none, ne_eq, Decidable.not_not, Int.not_lt, Int.not_le] at p12
      refine T_seq ?_
      refine T_region ?_
      refine TL_q (Qt_assign (.bool _) rfl) rfl ?_
      refine TL_nil ?_
      refine X_then ?_
      refine T_ret ?_
      refine X_then_ret ?_
      exact X_ret () [_] Tryd.results5 ⟨rfl, trivial⟩ rfl (Subs.st inferInstance)
    ·
      have p12 := h12
      try simp only [decide_eq_true_eq, decide_eq_false_iff_not, Bool.not_eq_true', Bool.not_eq_false', Option.isNone_iff_eq_none, ne_eq, Decidable.not_not, Int.not_lt, Int.not_le] at p12
      have hlp : longC (ps.map BS.l) = false := h12
      refine T_skip ?_
      refine X_then ?_
      refine T_seq ?_
      refine T_region ?_
      refine TL_e rfl (Ef_call (table17_c) rfl (fun x13 => ?_))
      refine TL_pure (fun hk13 => ?_)
      refine TL_e rfl (Ef_allocN (fun b5 => ?_))
      refine TL_n (Ef_storeN rfl rfl (?_))
      refine TL_nil ?_
      refine X_then ?_
      refine T_seq ?_
      refine T_draw (blk b2 (.cells (AskV.mk (ViewV.mk num (mk : Int)) m).cells 32 (0, 0)) :: blk b5 (.cells (KeysV.mk ⟨x13.1.a, x13.1.c, x13.1.ls⟩ ⟨none, 0, 0⟩).cells 38 (0, 0)) :: dat x13.2 (Deep.leads (PS.mk x13.1.a x13.1.c x13.1.ls)) :: H) [(0, true), (1, true), (2, true), (3, true), (4, true), (5, true), (7, true), (8, true), (9, true), (10, true), (11, true), (12, true), (6, false), (13, false), (14, true), (15, true)] (by kernel_rfl) (by kernel_rfl) rfl (by kernel_rfl) (Subs.st inferInstance) (fun hns0 => ?_)
      refine DL_q hns0 rfl (Qt_loadN rfl rfl) rfl ?_
      refine DL_q hns0 rfl (Qt_fieldAddr 0 rfl rfl) rfl ?_
      refine DL_q hns0 rfl (Qt_loadN rfl rfl) rfl ?_
      refine DL_q hns0 rfl (Qt_fieldAddr 2 rfl rfl) rfl ?_
      refine DL_q hns0 rfl (Qt_loadN rfl rfl) rfl ?_
      refine DL_q hns0 rfl (Qt_move (.slice _ _ _) rfl) rfl ?_
      refine DL_q hns0 rfl (Qt_loadN rfl rfl) rfl ?_
      refine DL_q hns0 rfl (Qt_fieldAddr 0 rfl rfl) rfl ?_
      refine DL_q hns0 rfl (Qt_loadN rfl rfl) rfl ?_
      refine DL_q hns0 rfl (Qt_fieldAddr 2 rfl rfl) rfl ?_
      refine DL_q hns0 rfl (Qt_loadN rfl rfl) rfl ?_
      refine DL_q hns0 rfl (Qt_move (.slice _ _ _) rfl) rfl ?_
      refine DL_e rfl rfl (Ef_call (who_c (num := num) hmk (sa := x13.1.a) (sc := x13.1.c) (ls := x13.1.ls) (rt := ⟨none, 0, 0⟩) (ps := ps) (keyT_small hk13).2 (fun x hx => by have := (longC_small hlp).2 x hx; omega) (by have := (longC_small hlp).1; omega) (m := m)) rfl (fun x20 => ⟨(Subs.st inferInstance), ?_⟩))
      obtain ⟨W, hW⟩ : ∃ W, W = (memK (setD num m.abs ((ps.map BS.l).map (opn (x13.1.ls.map BS.l) mk)))) := ⟨_, rfl⟩
      rw [← hW]
      have hWl : W.length ≤ 16 := hW ▸ memK_len _
      refine DL_e rfl rfl (Ef_call (rWho_c (num := num) hmk (sa := x13.1.a) (sc := x13.1.c) (ls := x13.1.ls) (rt := ⟨none, 0, 0⟩) (ps := ps) (keyT_small hk13).2 (fun x hx => by have := (longC_small hlp).2 x hx; omega) (by have := (longC_small hlp).1; omega) (m := m)) rfl (fun x27 => ⟨(Subs.st inferInstance), ?_⟩))
      rw [← hW]
      refine DL_q hns0 rfl (Qt_assign (.slice _ _ _) rfl) rfl ?_
      refine DL_q hns0 rfl (Qt_assign (.slice _ _ _) rfl) rfl ?_
      refine DL_nil ?_
      refine X_then ?_
      refine T_seq ?_
      refine T_seq ?_
      refine T_region ?_
      refine TL_q (Qt_move (.slice _ _ _) rfl) rfl ?_
      refine TL_q (Qt_len_slice rfl Tryd.underlying42) rfl ?_
      refine TL_q (Qt_move (.slice _ _ _) rfl) rfl ?_
      refine TL_q (Qt_len_slice rfl Tryd.underlying42) rfl ?_
      refine TL_q (Qt_neq rfl rfl) rfl ?_
      refine TL_nil ?_
      refine X_then ?_
      refine T_cond rfl (fun h32 => ?_) (fun h32 => ?_)
      ·
        have p32 := h32
        try simp only [decide_eq_true_eq, decide_eq_false_iff_not, Bool.not_eq_true', Bool.not_eq_false', Option.isNone_iff_eq_none, ne_eq, Decidable.not_not, Int.not_lt, Int.not_le] at p32
        exact absurd h32 (by simp)
      ·
        have p32 := h32
        try simp only [decide_eq_true_eq, decide_eq_false_iff_not, Bool.not_eq_true', Bool.not_eq_false', Option.isNone_iff_eq_none, ne_eq, Decidable.not_not, Int.not_lt, Int.not_le] at p32
        refine T_skip ?_
        refine X_then ?_
        refine T_seq ?_
        refine T_seq ?_
        refine T_region ?_
        refine TL_q (Qt_move (.slice _ _ _) rfl) rfl ?_
        refine TL_q (Qt_len_slice rfl Tryd.underlying42) rfl ?_
        refine TL_q (Qt_move (.int .i64 _) rfl) rfl ?_
        refine TL_nil ?_
        refine X_then ?_
        refine T_block ?_
        refine T_loop [4, 8, 35, 36, 37, 38, 39, 40, 41, 42, 43, 44, 45, 46, 47] [35] (fun us H' => ∃ (k : Nat), us = [.int .i64 (k : Int)] ∧ row (.slice x20.a W.length x20.c) 3 1 (W.flatMap encN) :: row (.slice x27.a W.length x27.c) 3 1 (W.flatMap encN) :: blk b2 (.cells (AskV.mk (ViewV.mk num (mk : Int)) m).cells 32 (0, 0)) :: blk b5 (.cells (KeysV.mk ⟨x13.1.a, x13.1.c, x13.1.ls⟩ ⟨none, 0, 0⟩).cells 38 (0, 0)) :: dat x13.2 (Deep.leads (PS.mk x13.1.a x13.1.c x13.1.ls)) :: H = H' ∧ k ≤ W.length) (fun us => match us with | .int _ i :: _ => W.length - i.toNat | _ => 0) ⟨0, rfl, rfl, by omega⟩ (Subs.st inferInstance) ?_
        rintro τ0 _ _  ⟨k, rfl, rfl, hk0⟩ _
        refine T_seq ?_
        refine T_region ?_
        refine TL_q (Qt_lss rfl rfl) rfl ?_
        refine TL_nil ?_
        refine X_then ?_
        refine T_seq ?_
        refine T_cond rfl (fun h36 => ?_) (fun h36 => ?_)
        ·
          have p36 := h36
          try simp only [decide_eq_true_eq, decide_eq_false_iff_not, Bool.not_eq_true', Bool.not_eq_false', Option.isNone_iff_eq_none, ne_eq, Decidable.not_not, Int.not_lt, Int.not_le] at p36
          have hk : k < W.length := by omega
          refine T_skip ?_
          refine X_then ?_
          refine T_seq ?_
          refine T_block ?_
          refine T_seq ?_
          refine T_region ?_
          refine TL_q (Qt_move (.int .i64 _) rfl) rfl ?_
          refine TL_q (Qt_assign (.int .i64 _) rfl) rfl ?_
          refine TL_nil ?_
          refine X_then ?_
          refine T_seq ?_
          refine T_draw (row (.slice x20.a W.length x20.c) 3 1 (W.flatMap encN) :: row (.slice x27.a W.length x27.c) 3 1 (W.flatMap encN) :: blk b2 (.cells (AskV.mk (ViewV.mk num (mk : Int)) m).cells 32 (0, 0)) :: blk b5 (.cells (KeysV.mk ⟨x13.1.a, x13.1.c, x13.1.ls⟩ ⟨none, 0, 0⟩).cells 38 (0, 0)) :: dat x13.2 (Deep.leads (PS.mk x13.1.a x13.1.c x13.1.ls)) :: H) [(0, true), (1, true), (2, true), (3, true), (4, true), (5, true), (6, true), (7, true), (8, true)] (by kernel_rfl) (by kernel_rfl) rfl (by kernel_rfl) (Subs.st inferInstance) (fun hns1 => ?_)
          refine DL_q hns1 rfl (Qt_move (.slice _ _ _) rfl) rfl ?_
          refine DL_q hns1 rfl (Qt_move (.int .i64 _) rfl) rfl ?_
          refine DL_q hns1 rfl (Qt_indexR rfl rfl (by omega) (by rw [encN_len]; omega)) rfl ?_
          refine DL_q hns1 rfl (Qt_loadR (.int .i64 (W[k] : Int)) rfl (encN_get _ k hk)) rfl ?_
          refine DL_q hns1 rfl (Qt_move (.slice _ _ _) rfl) rfl ?_
          refine DL_q hns1 rfl (Qt_move (.int .i64 _) rfl) rfl ?_
          refine DL_q hns1 rfl (Qt_indexR rfl rfl (by omega) (by rw [encN_len]; omega)) rfl ?_
          refine DL_q hns1 rfl (Qt_loadR (.int .i64 (W[k] : Int)) rfl (encN_get _ k hk)) rfl ?_
          refine DL_q hns1 rfl (Qt_neq rfl rfl) rfl ?_
          refine DL_nil ?_
          refine X_then ?_
          refine T_cond rfl (fun h46 => ?_) (fun h46 => ?_)
          ·
            have p46 := h46
            try simp only [decide_eq_true_eq, decide_eq_false_iff_not, Bool.not_eq_true', Bool.not_eq_false', Option.isNone_iff_eq_none, ne_eq, Decidable.not_not, Int.not_lt, Int.not_le] at p46
            exact absurd h46 (by simp)
          ·
            have p46 := h46
            try simp only [decide_eq_true_eq, decide_eq_false_iff_not, Bool.not_eq_true', Bool.not_eq_false', Option.isNone_iff_eq_none, ne_eq, Decidable.not_not, Int.not_lt, Int.not_le] at p46
            refine T_skip ?_
            refine X_block ?_
            refine X_then ?_
            refine T_region ?_
            first
              | refine TL_q (Qt_add rfl rfl (by omega) (by omega)) rfl ?_
              | refine TL_q (Qt_addw rfl rfl) rfl ?_
            refine TL_q (Qt_move (.int .i64 _) rfl) rfl ?_
            refine TL_nil ?_
            apply X_loop
            case ha => exact (by repeat (first | with_reducible exact agree_refl | refine agree_upd rfl ?_ | refine agree_mix rfl ?_ | refine agree_setAll rfl ?_))
            case hI => exact ⟨k + 1, rfl, rfl, by omega⟩
            case hm => exact by show W.length - (k + 1 : Int).toNat < W.length - (k : Int).toNat; omega
            case hH => exact (Subs.st inferInstance)
        ·
          have p36 := h36
          try simp only [decide_eq_true_eq, decide_eq_false_iff_not, Bool.not_eq_true', Bool.not_eq_false', Option.isNone_iff_eq_none, ne_eq, Decidable.not_not, Int.not_lt, Int.not_le] at p36
          refine T_exit ?_
          refine X_then_exit ?_
          refine X_loop_exit ?_
          refine X_block_exit ?_
          refine X_then ?_
          refine T_seq ?_
          refine T_draw (blk b2 (.cells (AskV.mk (ViewV.mk num (mk : Int)) m).cells 32 (0, 0)) :: blk b5 (.cells (KeysV.mk ⟨x13.1.a, x13.1.c, x13.1.ls⟩ ⟨none, 0, 0⟩).cells 38 (0, 0)) :: dat x13.2 (Deep.leads (PS.mk x13.1.a x13.1.c x13.1.ls)) :: H) [(0, true), (1, true), (2, true), (3, true), (4, true), (5, true), (7, true), (8, true), (9, true), (10, true), (11, true), (12, true), (6, false), (13, false), (14, false), (15, true)] (by kernel_rfl) (by kernel_rfl) rfl (by kernel_rfl) (Subs.st inferInstance) (fun hns2 => ?_)
          refine DL_q hns2 rfl (Qt_loadN rfl rfl) rfl ?_
          refine DL_q hns2 rfl (Qt_fieldAddr 0 rfl rfl) rfl ?_
          refine DL_q hns2 rfl (Qt_loadN rfl rfl) rfl ?_
          refine DL_q hns2 rfl (Qt_fieldAddr 2 rfl rfl) rfl ?_
          refine DL_q hns2 rfl (Qt_loadN rfl rfl) rfl ?_
          refine DL_q hns2 rfl (Qt_move (.slice _ _ _) rfl) rfl ?_
          refine DL_q hns2 rfl (Qt_loadN rfl rfl) rfl ?_
          refine DL_q hns2 rfl (Qt_fieldAddr 0 rfl rfl) rfl ?_
          refine DL_q hns2 rfl (Qt_loadN rfl rfl) rfl ?_
          refine DL_q hns2 rfl (Qt_fieldAddr 2 rfl rfl) rfl ?_
          refine DL_q hns2 rfl (Qt_loadN rfl rfl) rfl ?_
          refine DL_q hns2 rfl (Qt_move (.slice _ _ _) rfl) rfl ?_
          refine DL_e rfl rfl (Ef_call (pick_c (num := num) hmk (sa := x13.1.a) (sc := x13.1.c) (ls := x13.1.ls) (rt := ⟨none, 0, 0⟩) (ps := ps) (keyT_small hk13).2 (fun x hx => by have := (longC_small hlp).2 x hx; omega) (by have := (longC_small hlp).1; omega) (m := m)) rfl (fun x54 => ⟨(Subs.st inferInstance), ?_⟩))
          refine DL_pure (fun h54 => ?_)
          have hpl : x54.1.ls.length ≤ 16 := by have h := congrArg List.length h54; rw [List.length_map] at h; rw [h]; exact pickD_len
          have hpk : ∀ x ∈ x54.1.ls, x.l.length ≤ 400 := fun x hx => by obtain ⟨y, hy, he⟩ := List.mem_map.1 (pickD_sub _ (h54 ▸ List.mem_map.2 ⟨x, hx, rfl⟩)); have := (longC_small hlp).2 y hy; rw [← he]; exact this
          refine DL_e rfl rfl (Ef_call (rPick_c (num := num) hmk (sa := x13.1.a) (sc := x13.1.c) (ls := x13.1.ls) (rt := ⟨none, 0, 0⟩) (ps := ps) (keyT_small hk13).2 (fun x hx => by have := (longC_small hlp).2 x hx; omega) (by have := (longC_small hlp).1; omega) (m := m)) rfl (fun x61 => ⟨(Subs.st inferInstance), ?_⟩))
          refine DL_pure (fun h61 => ?_)
          have hre : RdE w0 H x61.2 := ⟨fun z hz w hw => hpe.rd z (h61.2 z hz) w hw⟩
          refine DL_e rfl rfl (Ef_call (sameParts_c (by omega) (fun x hx => by have := hpk x hx; omega)) rfl (fun x62 => ⟨(Subs.st inferInstance), ?_⟩))
          have heq : x54.1.ls.map BS.l = x61.2.map BS.l := h54.trans h61.1.symm
          refine DL_q hns2 rfl (Qt_assign (.bool _) rfl) rfl ?_
          refine DL_nil ?_
          refine X_then ?_
          refine T_ret ?_
          exact X_ret () [.bool true] Tryd.results5 ⟨by refine congrArg Value.bool ?_; simp [heq], trivial⟩ rfl (Subs.st inferInstance)
end Go.Proofs.YtgjkgdjjolnhdaaDoor
