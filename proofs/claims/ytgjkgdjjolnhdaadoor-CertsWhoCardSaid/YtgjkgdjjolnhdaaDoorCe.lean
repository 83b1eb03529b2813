/- Walks: the laws CertsMore, CertsLeast. -/
import Derived.Test.YtgjkgdjjolnhdaaDoorPk
namespace Go.Proofs.YtgjkgdjjolnhdaaDoor
open Go.RowKit Go.Sx
set_option maxRecDepth 100000
set_option linter.unusedSimpArgs false
set_option linter.unusedVariables false
theorem more_law {K : List (List UInt8)} {num : Int} {mk : Nat} {reg slot : Int} {h : Vector UInt8 32} {P Q : List (List UInt8)} (hw : writD K num mk reg slot h P = 0) (hs : ∀ l ∈ P, l ∈ Q) (hl : Q.length ≤ 16) :
    writD K num mk reg slot h Q = 0 ∧ writD K num mk reg slot h (pickD K num mk (wMsg 2 num reg slot h) Q) = 0 := by
  obtain ⟨h1, -, h3⟩ := writD_ok hw
  have he : enoughD num mk (wMsg 2 num reg slot h) (P.map (opn K mk)) = true := by rw [enoughD, decide_eq_true_eq, ones16_mem setP_lt]; exact h3
  have hq := enough_le (set_mono hs) he
  exact ⟨if_pos ⟨h1, hl, hq⟩, if_pos ⟨h1, pickD_len, enough_le pick_set hq⟩⟩
theorem decidD_err {K : List (List UInt8)} {num : Int} {mk : Nat} {slot : Int} {h : Vector UInt8 32} {P : List (List UInt8)} (he : (decidD K num mk slot h P).2 ≠ 0) : (decidD K num mk slot h P).1 = 0 := by
  unfold decidD at he ⊢
  split
  · rename_i h1
    rw [if_pos h1] at he
    split
    · rename_i h2; rw [h2] at he; exact absurd rfl he
    · rfl
  · rfl
theorem decidD_ok {K : List (List UInt8)} {num : Int} {mk : Nat} {slot : Int} {h : Vector UInt8 32} {P : List (List UInt8)} (he : (decidD K num mk slot h P).2 = 0) :
    rightV num mk = true ∧ P.length ≤ 16 ∧ ∃ r : Nat, r < 41 ∧ decidD K num mk slot h P = ((r : Int), 0) ∧ enoughD num mk (wMsg 3 num r slot h) (P.map (opn K mk)) = true ∧ ∀ i < r, enoughD num mk (wMsg 3 num i slot h) (P.map (opn K mk)) = false := by
  unfold decidD at he ⊢
  split at he
  · rename_i h1
    rw [if_pos h1]
    split at he
    · rename_i r h2
      rw [List.find?_eq_some_iff_getElem] at h2
      obtain ⟨h3, j, hj, hjr, h4⟩ := h2
      have hj41 : j < 41 := by simpa using hj
      have hjr' : j = r := by simpa using hjr
      subst hjr'
      exact ⟨h1.1, h1.2, j, hj41, rfl, h3, fun i hi => by simpa using h4 i hi⟩
    · cases he
  · cases he
theorem least_law {K : List (List UInt8)} {num : Int} {mk : Nat} {slot : Int} {h : Vector UInt8 32} {P : List (List UInt8)} {r : Nat} (hr : rightV num mk = true) (h41 : r < 41) (he : enoughD num mk (wMsg 3 num r slot h) (P.map (opn K mk)) = true) (hno : ∀ i < r, enoughD num mk (wMsg 3 num i slot h) (P.map (opn K mk)) = false) :
    decidD K num mk slot h (pickD K num mk (wMsg 3 num r slot h) P) = ((r : Int), 0) := by
  rw [decidD, if_pos ⟨hr, pickD_len⟩, find_range h41 (fun i hi => ?_) (enough_le pick_set he)]
  rw [Bool.eq_false_iff]
  intro hc
  have := enough_le (set_mono pickD_sub) hc
  rw [hno i hi] at this
  cases this
theorem decided2_c {w0 : World} {H : List SA} {num : Int} {mk : Nat} (hmk : mk < 65536) {sa : Option Addr} {sc : Nat} {ls : List BS} {rt : Sl} [rk : RdC w0 H (.slice sa ls.length sc) 1 (ls.map BS.val)] [rke : RdE w0 H ls] (hkl : ∀ x ∈ ls, x.l.length ≤ 4294967000) {a : Option Addr} {ps : List BS} {c : Nat} [hp : RdC w0 H (.slice a ps.length c) 1 (ps.map BS.val)] [hpe : RdE w0 H ps] (hps : ∀ x ∈ ps, x.l.length ≤ 4294960000) (hn : ps.length ≤ 1000) {slot : Int} {h : Vector UInt8 32} :
    CT Tryd.prog w0 H 21 [.agg (KeysV.mk ⟨sa, sc, ls⟩ rt).cells, .agg (ViewV.mk num (mk : Int)).cells, .int .i64 slot, .agg (hlist h).toArray, .slice a ps.length c] (α := Int × Int) (fun y => .tuple #[.int .i64 y.1, .int .i64 y.2]) (fun y => pu (y = decidD (ls.map BS.l) num mk slot h (ps.map BS.l)) :: H) :=
  fun w hw => (decided_c hmk hkl hps hn (num := num) (slot := slot) (h := h) (rt := rt) (sa := sa) (sc := sc) (ls := ls) (a := a) (c := c) (ps := ps) w hw).mono fun e w' ⟨x, he, hs⟩ => ⟨_, he, hs.addPure rfl⟩
attribute [local irreducible] sealK openOfK keyT writD opn setD memK pickE pickD decidD longC

set_option maxHeartbeats 1000000 in
theorem certsMore_c {w0 : World} {H : List SA} [G : Glob w0] {num : Int} {mk : Nat} (hmk : mk < 65536) {m : MsgV} {a : Option Addr} {ps : List BS} {c : Nat} [hp : RdC w0 H (.slice a ps.length c) 1 (ps.map BS.val)] [hpe : RdE w0 H ps] {a2 : Option Addr} {qs : List BS} {c2 : Nat} [hq : RdC w0 H (.slice a2 qs.length c2) 1 (qs.map BS.val)] [hqe : RdE w0 H qs] :
    CT Tryd.prog w0 (H) 4 [.agg (AskV.mk (ViewV.mk num (mk : Int)) m).cells, .slice a ps.length c, .slice a2 qs.length c2] (α := Unit) (fun _ => .bool true) (fun _ => H) := by
  refine CT_intro Tryd.func4 rfl Tryd.ntmps4 rfl ?_
  refine T_seq ?_
  refine T_region ?_
  refine TL_e rfl (Ef_boxN rfl (fun b3 => ?_))
  refine TL_q (Qt_assign (.bool _) rfl) rfl ?_
  refine TL_nil ?_
  refine X_then ?_
  refine T_seq ?_
  refine T_seq ?_
  refine T_region ?_
  refine TL_e rfl (Ef_call (wakes17_c) rfl (fun x10 => ?_))
  refine TL_q (Qt_not rfl) rfl ?_
  refine TL_nil ?_
  refine X_then ?_
  refine T_cond rfl (fun h11 => ?_) (fun h11 => ?_)
  ·
    have p11 := h11
    try simp only [decide_eq_true_eq, decide_eq_false_iff_not, Bool.not_eq_true', Bool.not_eq_false', Option.isNone_iff_eq_none, ne_eq, Decidable.not_not, Int.not_lt, Int.not_le] at p11
    cases h11
  ·
    have p11 := h11
    try simp only [decide_eq_true_eq, decide_eq_false_iff_not, Bool.not_eq_true', Bool.not_eq_false', Option.isNone_iff_eq_none, ne_eq, Decidable.not_not, Int.not_lt, Int.not_le] at p11
    refine T_skip ?_
    refine X_then ?_
    refine T_seq ?_
    refine T_seq ?_
    refine T_region ?_
    refine TL_q (Qt_move (.slice _ _ _) rfl) rfl ?_
    refine TL_e rfl (Ef_call (long17_c (ps := ps)) rfl (fun x13 => ?_))
    refine TL_q (Qt_move (.bool _) rfl) rfl ?_
    refine TL_split 14 rfl (fun h14 => ?_) (fun h14 => ?_)
    ·
      have p14 := h14
      try simp only [decide_eq_true_eq, decide_eq_false_iff_not, Bool.not_eq_true', Bool.not_eq_false', Option.isNone_iff_eq_none, ne_eq, Decidable.not_not, Int.not_lt, Int.not_le] at p14
      refine TL_pass rfl rfl h14 rfl ?_
      refine TL_pass rfl rfl h14 rfl ?_
      refine TL_q (Qt_pick_t (.bool _) rfl h14 rfl) rfl ?_
      refine TL_nil ?_
      refine X_then ?_
      refine T_cond_true rfl rfl ?_
      refine T_seq ?_
      refine T_region ?_
      refine TL_q (Qt_assign (.bool _) rfl) rfl ?_
      refine TL_nil ?_
      refine X_then ?_
      refine T_ret ?_
      refine X_then_ret ?_
      exact X_ret () [_] Tryd.results4 ⟨rfl, trivial⟩ rfl (Subs.st inferInstance)
    ·
      have p14 := h14
      try simp only [decide_eq_true_eq, decide_eq_false_iff_not, Bool.not_eq_true', Bool.not_eq_false', Option.isNone_iff_eq_none, ne_eq, Decidable.not_not, Int.not_lt, Int.not_le] at p14
      have hlp : longC (ps.map BS.l) = false := h14
      have hp24 := (longC_small hlp).1
      refine TL_take rfl rfl h14 ?_
      refine TL_q (Qt_move (.slice _ _ _) rfl) rfl ?_
      refine TL_take rfl rfl h14 ?_
      refine TL_e rfl (Ef_call (long17_c (ps := qs)) rfl (fun x16 => ?_))
      refine TL_q (Qt_pick_f (.bool _) rfl h14 rfl) rfl ?_
      refine TL_nil ?_
      refine X_then ?_
      refine T_cond rfl (fun h17 => ?_) (fun h17 => ?_)
      ·
        have p17 := h17
        try simp only [decide_eq_true_eq, decide_eq_false_iff_not, Bool.not_eq_true', Bool.not_eq_false', Option.isNone_iff_eq_none, ne_eq, Decidable.not_not, Int.not_lt, Int.not_le] at p17
        refine T_seq ?_
        refine T_region ?_
        refine TL_q (Qt_assign (.bool _) rfl) rfl ?_
        refine TL_nil ?_
        refine X_then ?_
        refine T_ret ?_
        refine X_then_ret ?_
        exact X_ret () [_] Tryd.results4 ⟨rfl, trivial⟩ rfl (Subs.st inferInstance)
      ·
        have p17 := h17
        try simp only [decide_eq_true_eq, decide_eq_false_iff_not, Bool.not_eq_true', Bool.not_eq_false', Option.isNone_iff_eq_none, ne_eq, Decidable.not_not, Int.not_lt, Int.not_le] at p17
        have hlq : longC (qs.map BS.l) = false := h17
        have hq24 := (longC_small hlq).1
        refine T_skip ?_
        refine X_then ?_
        refine T_seq ?_
        refine T_region ?_
        refine TL_e rfl (Ef_call (table17_c) rfl (fun x18 => ?_))
        refine TL_pure (fun hk18 => ?_)
        refine TL_e rfl (Ef_allocN (fun b7 => ?_))
        refine TL_n (Ef_storeN rfl rfl (?_))
        refine TL_nil ?_
        refine X_then ?_
        refine T_seq ?_
        refine T_seq ?_
        refine T_region ?_
        refine TL_q (Qt_loadN rfl rfl) rfl ?_
        refine TL_q (Qt_fieldAddr 0 rfl rfl) rfl ?_
        refine TL_q (Qt_loadN rfl rfl) rfl ?_
        refine TL_q (Qt_fieldAddr 2 rfl rfl) rfl ?_
        refine TL_q (Qt_fieldAddr 5 rfl rfl) rfl ?_
        refine TL_q (Qt_load1 rfl) rfl ?_
        refine TL_q (Qt_fieldAddr 2 rfl rfl) rfl ?_
        refine TL_q (Qt_fieldAddr 6 rfl rfl) rfl ?_
        refine TL_q (Qt_load1 rfl) rfl ?_
        refine TL_q (Qt_fieldAddr 2 rfl rfl) rfl ?_
        refine TL_q (Qt_fieldAddr 7 rfl rfl) rfl ?_
        refine TL_q (Qt_loadN rfl rfl) rfl ?_
        refine TL_q (Qt_move (.slice _ _ _) rfl) rfl ?_
        refine TL_e rfl (Ef_call (written_c (num := num) hmk (sa := x18.1.a) (sc := x18.1.c) (ls := x18.1.ls) (rt := ⟨none, 0, 0⟩) (ps := ps) (keyT_small hk18).2 (fun x hx => by have := (longC_small hlp).2 x hx; omega) (by have := (longC_small hlp).1; omega) (reg := m.reg) (slot := m.slot) (h := m.hash)) rfl (fun x32 => ?_))
        refine TL_q (Qt_neq rfl rfl) rfl ?_
        refine TL_q (Qt_move (.bool _) rfl) rfl ?_
        refine TL_split 34 rfl (fun h34 => ?_) (fun h34 => ?_)
        ·
          have p34 := h34
          try simp only [decide_eq_true_eq, decide_eq_false_iff_not, Bool.not_eq_true', Bool.not_eq_false', Option.isNone_iff_eq_none, ne_eq, Decidable.not_not, Int.not_lt, Int.not_le] at p34
          refine TL_pass rfl rfl h34 rfl ?_
          refine TL_pass rfl rfl h34 rfl ?_
          refine TL_pass rfl rfl h34 rfl ?_
          refine TL_pass rfl rfl h34 rfl ?_
          refine TL_pass rfl rfl h34 rfl ?_
          refine TL_pass rfl rfl h34 rfl ?_
          refine TL_q (Qt_pick_t (.bool _) rfl h34 rfl) rfl ?_
          refine TL_nil ?_
          refine X_then ?_
          refine T_cond_true rfl rfl ?_
          refine T_seq ?_
          refine T_region ?_
          refine TL_q (Qt_assign (.bool _) rfl) rfl ?_
          refine TL_nil ?_
          refine X_then ?_
          refine T_ret ?_
          refine X_then_ret ?_
          exact X_ret () [_] Tryd.results4 ⟨rfl, trivial⟩ rfl (Subs.st inferInstance)
        ·
          have p34 := h34
          try simp only [decide_eq_true_eq, decide_eq_false_iff_not, Bool.not_eq_true', Bool.not_eq_false', Option.isNone_iff_eq_none, ne_eq, Decidable.not_not, Int.not_lt, Int.not_le] at p34
          have hw0 : writD (x18.1.ls.map BS.l) num mk m.reg m.slot m.hash (ps.map BS.l) = 0 := by simpa using h34
          refine TL_take rfl rfl h34 ?_
          refine TL_q (Qt_move (.slice _ _ _) rfl) rfl ?_
          refine TL_take rfl rfl h34 ?_
          refine TL_q (Qt_len_slice rfl Tryd.underlying28) rfl ?_
          refine TL_take rfl rfl h34 ?_
          refine TL_q (Qt_move (.slice _ _ _) rfl) rfl ?_
          refine TL_take rfl rfl h34 ?_
          refine TL_q (Qt_len_slice rfl Tryd.underlying28) rfl ?_
          refine TL_take rfl rfl h34 ?_
          first
            | refine TL_q (Qt_add rfl rfl (by omega) (by omega)) rfl ?_
            | refine TL_q (Qt_addw rfl rfl) rfl ?_
          refine TL_take rfl rfl h34 ?_
          refine TL_q (Qt_gtr rfl rfl) rfl ?_
          refine TL_q (Qt_pick_f (.bool _) rfl h34 rfl) rfl ?_
          refine TL_nil ?_
          refine X_then ?_
          refine T_cond rfl (fun h41 => ?_) (fun h41 => ?_)
          ·
            have p41 := h41
            try simp only [decide_eq_true_eq, decide_eq_false_iff_not, Bool.not_eq_true', Bool.not_eq_false', Option.isNone_iff_eq_none, ne_eq, Decidable.not_not, Int.not_lt, Int.not_le] at p41
            refine T_seq ?_
            refine T_region ?_
            refine TL_q (Qt_assign (.bool _) rfl) rfl ?_
            refine TL_nil ?_
            refine X_then ?_
            refine T_ret ?_
            refine X_then_ret ?_
            exact X_ret () [_] Tryd.results4 ⟨rfl, trivial⟩ rfl (Subs.st inferInstance)
          ·
            have p41 := h41
            try simp only [decide_eq_true_eq, decide_eq_false_iff_not, Bool.not_eq_true', Bool.not_eq_false', Option.isNone_iff_eq_none, ne_eq, Decidable.not_not, Int.not_lt, Int.not_le] at p41
            refine T_skip ?_
            refine X_then ?_
            refine T_seq ?_
            refine T_region ?_
            refine TL_e rfl (Ef_slice0 (fun a42 c42 => ?_))
            refine TL_q (Qt_move (.slice _ _ _) rfl) rfl ?_
            refine TL_conv (fun w hw => (show St w0 (row (.slice a42 ([] : List BS).length c42) 27 1 (([] : List BS).map BS.val) :: blk b7 (.cells (KeysV.mk ⟨x18.1.a, x18.1.c, x18.1.ls⟩ ⟨none, 0, 0⟩).cells 38 (0, 0)) :: dat x18.2 (Deep.leads (PS.mk x18.1.a x18.1.c x18.1.ls)) :: blk b3 (.cells (AskV.mk (ViewV.mk num (mk : Int)) m).cells 32 (0, 0)) :: H) w from (Subs.st inferInstance w hw : St w0 (row (.slice a42 0 c42) 27 1 [] :: blk b7 (.cells (KeysV.mk ⟨x18.1.a, x18.1.c, x18.1.ls⟩ ⟨none, 0, 0⟩).cells 38 (0, 0)) :: dat x18.2 (Deep.leads (PS.mk x18.1.a x18.1.c x18.1.ls)) :: blk b3 (.cells (AskV.mk (ViewV.mk num (mk : Int)) m).cells 32 (0, 0)) :: H) w))) ?_
            refine TL_e rfl (Ef_appendPS (sv := .slice a42 ([] : List BS).length c42) (xv := .slice _ _ _) (ls := []) (ys := qs) rfl rfl (by simp; omega) rfl (fun a44 c44 => ?_))
            refine TL_q (Qt_move (.slice _ _ _) rfl) rfl ?_
            refine TL_e rfl (Ef_appendPS (sv := .slice _ _ _) (xv := .slice _ _ _) (ls := [] ++ qs) (ys := ps) rfl rfl (by simp; omega) rfl (fun a46 c46 => ?_))
            refine TL_q (Qt_assign (.slice _ _ _) rfl) rfl ?_
            refine TL_nil ?_
            refine X_then ?_
            refine T_seq ?_
            refine T_region ?_
            refine TL_q (Qt_fieldAddr 0 rfl rfl) rfl ?_
            refine TL_q (Qt_fieldAddr 0 rfl rfl) rfl ?_
            refine TL_q (Qt_load1 rfl) rfl ?_
            refine TL_q (Qt_fieldAddr 2 rfl rfl) rfl ?_
            refine TL_q (Qt_fieldAddr 5 rfl rfl) rfl ?_
            refine TL_q (Qt_load1 rfl) rfl ?_
            refine TL_q (Qt_fieldAddr 2 rfl rfl) rfl ?_
            refine TL_q (Qt_fieldAddr 6 rfl rfl) rfl ?_
            refine TL_q (Qt_load1 rfl) rfl ?_
            refine TL_q (Qt_fieldAddr 2 rfl rfl) rfl ?_
            refine TL_q (Qt_fieldAddr 7 rfl rfl) rfl ?_
            refine TL_q (Qt_loadN rfl rfl) rfl ?_
            refine TL_q (Qt_build [(0, (.int .i64 _)), (2, (.int .i64 _)), (3, (.int .i64 _)), (4, (.int .i64 _)), (5, (.agg _))] rfl (by kernel_rfl)) rfl ?_
            refine TL_e rfl (Ef_allocN (fun b9 => ?_))
            refine TL_n (Ef_storeN rfl rfl (?_))
            refine TL_nil ?_
            refine X_then ?_
            refine T_seq ?_
            refine T_draw (blk b3 (.cells (AskV.mk (ViewV.mk num (mk : Int)) m).cells 32 (0, 0)) :: blk b7 (.cells (KeysV.mk ⟨x18.1.a, x18.1.c, x18.1.ls⟩ ⟨none, 0, 0⟩).cells 38 (0, 0)) :: blk b9 (.cells (MsgV.mk 2 0 num m.reg m.slot m.hash ⟨none, 0, []⟩ ⟨none, 0, []⟩).cells 30 (0, 0)) :: dat x18.2 (Deep.leads (PS.mk x18.1.a x18.1.c x18.1.ls)) :: row (.slice a46 (([] ++ qs ++ ps : List BS)).length c46) 27 1 ((([] ++ qs ++ ps : List BS)).map BS.val) :: H) [(0, true), (1, true), (2, true), (3, true), (4, true), (5, true), (6, true), (7, true), (8, true), (9, true), (10, true), (11, true), (12, true), (13, false), (14, true), (15, true), (16, true), (17, true), (18, true), (19, true), (20, true), (21, true), (22, true), (23, true), (24, true), (25, true), (26, true), (27, true), (28, true), (29, true), (30, true), (31, true), (32, true), (33, false), (34, false), (35, true), (36, true), (37, true)] (by kernel_rfl) (by kernel_rfl) rfl (by kernel_rfl) (Subs.st inferInstance) (fun hns0 => ?_)
            refine DL_q hns0 rfl (Qt_loadN rfl rfl) rfl ?_
            refine DL_q hns0 rfl (Qt_fieldAddr 0 rfl rfl) rfl ?_
            refine DL_q hns0 rfl (Qt_loadN rfl rfl) rfl ?_
            refine DL_q hns0 rfl (Qt_fieldAddr 2 rfl rfl) rfl ?_
            refine DL_q hns0 rfl (Qt_fieldAddr 5 rfl rfl) rfl ?_
            refine DL_q hns0 rfl (Qt_load1 rfl) rfl ?_
            refine DL_q hns0 rfl (Qt_fieldAddr 2 rfl rfl) rfl ?_
            refine DL_q hns0 rfl (Qt_fieldAddr 6 rfl rfl) rfl ?_
            refine DL_q hns0 rfl (Qt_load1 rfl) rfl ?_
            refine DL_q hns0 rfl (Qt_fieldAddr 2 rfl rfl) rfl ?_
            refine DL_q hns0 rfl (Qt_fieldAddr 7 rfl rfl) rfl ?_
            refine DL_q hns0 rfl (Qt_loadN rfl rfl) rfl ?_
            refine DL_q hns0 rfl (Qt_move (.slice _ _ _) rfl) rfl ?_
            have hal : ∀ x ∈ ([] ++ qs ++ ps : List BS), x.l.length ≤ 400 := fun x hx => by rcases List.mem_append.1 hx with h | h; exact (longC_small hlq).2 x (by simpa using h); exact (longC_small hlp).2 x h
            have hlen : ([] ++ qs ++ ps : List BS).length ≤ 16 := by simp; omega
            have hm := more_law (Q := ([] ++ qs ++ ps : List BS).map BS.l) hw0 (fun l hl => by obtain ⟨x, hx, rfl⟩ := List.mem_map.1 hl; exact List.mem_map.2 ⟨x, by simp [hx], rfl⟩) (by rw [List.length_map]; exact hlen)
            refine DL_e rfl rfl (Ef_call (written_c (num := num) hmk (sa := x18.1.a) (sc := x18.1.c) (ls := x18.1.ls) (rt := ⟨none, 0, 0⟩) (ps := ([] ++ qs ++ ps : List BS)) (keyT_small hk18).2 (fun x hx => by have := hal x hx; omega) (by omega) (reg := m.reg) (slot := m.slot) (h := m.hash)) rfl (fun x73 => ⟨(Subs.st inferInstance), ?_⟩))
            rw [hm.1]
            refine DL_q hns0 rfl (Qt_eql rfl rfl) rfl ?_
            refine DL_q hns0 rfl (Qt_move (.bool _) rfl) rfl ?_
            refine DL_split 75 rfl (fun h75 => ?_) (fun h75 => ?_)
            ·
              have p75 := h75
              try simp only [decide_eq_true_eq, decide_eq_false_iff_not, Bool.not_eq_true', Bool.not_eq_false', Option.isNone_iff_eq_none, ne_eq, Decidable.not_not, Int.not_lt, Int.not_le] at p75
              refine DL_qg hns0 rfl rfl rfl h75 (Qt_loadN rfl rfl) rfl ?_
              refine DL_qg hns0 rfl rfl rfl h75 (Qt_fieldAddr 0 rfl rfl) rfl ?_
              refine DL_qg hns0 rfl rfl rfl h75 (Qt_loadN rfl rfl) rfl ?_
              refine DL_qg hns0 rfl rfl rfl h75 (Qt_fieldAddr 2 rfl rfl) rfl ?_
              refine DL_qg hns0 rfl rfl rfl h75 (Qt_fieldAddr 5 rfl rfl) rfl ?_
              refine DL_qg hns0 rfl rfl rfl h75 (Qt_load1 rfl) rfl ?_
              refine DL_qg hns0 rfl rfl rfl h75 (Qt_fieldAddr 2 rfl rfl) rfl ?_
              refine DL_qg hns0 rfl rfl rfl h75 (Qt_fieldAddr 6 rfl rfl) rfl ?_
              refine DL_qg hns0 rfl rfl rfl h75 (Qt_load1 rfl) rfl ?_
              refine DL_qg hns0 rfl rfl rfl h75 (Qt_fieldAddr 2 rfl rfl) rfl ?_
              refine DL_qg hns0 rfl rfl rfl h75 (Qt_fieldAddr 7 rfl rfl) rfl ?_
              refine DL_qg hns0 rfl rfl rfl h75 (Qt_loadN rfl rfl) rfl ?_
              refine DL_qg hns0 rfl rfl rfl h75 (Qt_loadN rfl rfl) rfl ?_
              refine DL_qg hns0 rfl rfl rfl h75 (Qt_fieldAddr 0 rfl rfl) rfl ?_
              refine DL_qg hns0 rfl rfl rfl h75 (Qt_loadN rfl rfl) rfl ?_
              refine DL_qg hns0 rfl rfl rfl h75 (Qt_loadN rfl rfl) rfl ?_
              refine DL_qg hns0 rfl rfl rfl h75 (Qt_move (.slice _ _ _) rfl) rfl ?_
              refine DL_eg rfl rfl rfl h75 rfl (Ef_call (pick_c (num := num) hmk (sa := x18.1.a) (sc := x18.1.c) (ls := x18.1.ls) (rt := ⟨none, 0, 0⟩) (ps := ([] ++ qs ++ ps : List BS)) (keyT_small hk18).2 (fun x hx => by have := hal x hx; omega) (by omega) (m := ⟨2, 0, num, m.reg, m.slot, m.hash, ⟨none, 0, []⟩, ⟨none, 0, []⟩⟩)) rfl (fun x93 => ⟨(Subs.st inferInstance), ?_⟩))
              refine DL_pure (fun h93 => ?_)
              have hpk : ∀ x ∈ x93.1.ls, x.l.length ≤ 400 := fun x hx => by obtain ⟨y, hy, he⟩ := List.mem_map.1 (pickD_sub _ (h93 ▸ List.mem_map.2 ⟨x, hx, rfl⟩)); have := hal y hy; rw [← he]; exact this
              have hpl : x93.1.ls.length ≤ 16 := by have h := congrArg List.length h93; rw [List.length_map] at h; rw [h]; exact pickD_len
              refine DL_eg rfl rfl rfl h75 rfl (Ef_call (written_c (num := num) hmk (sa := x18.1.a) (sc := x18.1.c) (ls := x18.1.ls) (rt := ⟨none, 0, 0⟩) (ps := x93.1.ls) (keyT_small hk18).2 (fun x hx => by have := hpk x hx; omega) (by omega) (reg := m.reg) (slot := m.slot) (h := m.hash)) rfl (fun x94 => ⟨(Subs.st inferInstance), ?_⟩))
              have e94 : writD (x18.1.ls.map BS.l) num mk m.reg m.slot m.hash (x93.1.ls.map BS.l) = 0 := by rw [h93]; exact hm.2
              rw [e94]
              refine DL_qg hns0 rfl rfl rfl h75 (Qt_eql rfl rfl) rfl ?_
              refine DL_q hns0 rfl (Qt_pick_t (.bool _) rfl h75 rfl) rfl ?_
              refine DL_q hns0 rfl (Qt_assign (.bool _) rfl) rfl ?_
              refine DL_nil ?_
              refine X_then ?_
              refine T_ret ?_
              exact X_ret () [.bool true] Tryd.results4 ⟨by refine congrArg Value.bool ?_; decide, trivial⟩ rfl (Subs.st inferInstance)
            ·
              have p75 := h75
              try simp only [decide_eq_true_eq, decide_eq_false_iff_not, Bool.not_eq_true', Bool.not_eq_false', Option.isNone_iff_eq_none, ne_eq, Decidable.not_not, Int.not_lt, Int.not_le] at p75
              exact absurd h75 (by decide)
set_option maxHeartbeats 1000000 in
theorem certsLeast_c {w0 : World} {H : List SA} [G : Glob w0] {num : Int} {mk : Nat} (hmk : mk < 65536) {m : MsgV} {a : Option Addr} {ps : List BS} {c : Nat} [hp : RdC w0 H (.slice a ps.length c) 1 (ps.map BS.val)] [hpe : RdE w0 H ps] :
    CT Tryd.prog w0 (H) 6 [.agg (AskV.mk (ViewV.mk num (mk : Int)) m).cells, .slice a ps.length c] (α := Unit) (fun _ => .bool true) (fun _ => H) := by
  refine CT_intro Tryd.func6 rfl Tryd.ntmps6 rfl ?_
  refine T_seq ?_
  refine T_region ?_
  refine TL_e rfl (Ef_boxN rfl (fun b2 => ?_))
  refine TL_q (Qt_assign (.bool _) rfl) rfl ?_
  refine TL_nil ?_
  refine X_then ?_
  refine T_seq ?_
  refine T_seq ?_
  refine T_region ?_
  refine TL_e rfl (Ef_call (wakes17_c) rfl (fun x13 => ?_))
  refine TL_q (Qt_not rfl) rfl ?_
  refine TL_nil ?_
  refine X_then ?_
  refine T_cond rfl (fun h14 => ?_) (fun h14 => ?_)
  ·
    have p14 := h14
    try simp only [decide_eq_true_eq, decide_eq_false_iff_not, Bool.not_eq_true', Bool.not_eq_false', Option.isNone_iff_eq_none, ne_eq, Decidable.not_not, Int.not_lt, Int.not_le] at p14
    cases h14
  ·
    have p14 := h14
    try simp only [decide_eq_true_eq, decide_eq_false_iff_not, Bool.not_eq_true', Bool.not_eq_false', Option.isNone_iff_eq_none, ne_eq, Decidable.not_not, Int.not_lt, Int.not_le] at p14
    refine T_skip ?_
    refine X_then ?_
    refine T_seq ?_
    refine T_seq ?_
    refine T_region ?_
    refine TL_q (Qt_move (.slice _ _ _) rfl) rfl ?_
    refine TL_e rfl (Ef_call (long17_c (ps := ps)) rfl (fun x16 => ?_))
    refine TL_nil ?_
    refine X_then ?_
    refine T_cond rfl (fun h16 => ?_) (fun h16 => ?_)
    ·
      have p16 := h16
      try simp only [decide_eq_true_eq, decide_eq_false_iff_not, Bool.not_eq_true', Bool.not_eq_false', Option.isNone_iff_eq_none, ne_eq, Decidable.not_not, Int.not_lt, Int.not_le] at p16
      refine T_seq ?_
      refine T_region ?_
      refine TL_q (Qt_assign (.bool _) rfl) rfl ?_
      refine TL_nil ?_
      refine X_then ?_
      refine T_ret ?_
      refine X_then_ret ?_
      exact X_ret () [_] Tryd.results6 ⟨rfl, trivial⟩ rfl (Subs.st inferInstance)
    ·
      have p16 := h16
      try simp only [decide_eq_true_eq, decide_eq_false_iff_not, Bool.not_eq_true', Bool.not_eq_false', Option.isNone_iff_eq_none, ne_eq, Decidable.not_not, Int.not_lt, Int.not_le] at p16
      have hlp : longC (ps.map BS.l) = false := h16
      refine T_skip ?_
      refine X_then ?_
      refine T_seq ?_
      refine T_region ?_
      refine TL_e rfl (Ef_call (table17_c) rfl (fun x17 => ?_))
      refine TL_pure (fun hk17 => ?_)
      refine TL_e rfl (Ef_allocN (fun b5 => ?_))
      refine TL_n (Ef_storeN rfl rfl (?_))
      refine TL_nil ?_
      refine X_then ?_
      refine T_seq ?_
      refine T_region ?_
      refine TL_q (Qt_loadN rfl rfl) rfl ?_
      refine TL_q (Qt_fieldAddr 0 rfl rfl) rfl ?_
      refine TL_q (Qt_loadN rfl rfl) rfl ?_
      refine TL_q (Qt_fieldAddr 2 rfl rfl) rfl ?_
      refine TL_q (Qt_fieldAddr 6 rfl rfl) rfl ?_
      refine TL_q (Qt_load1 rfl) rfl ?_
      refine TL_q (Qt_fieldAddr 2 rfl rfl) rfl ?_
      refine TL_q (Qt_fieldAddr 7 rfl rfl) rfl ?_
      refine TL_q (Qt_loadN rfl rfl) rfl ?_
      refine TL_q (Qt_move (.slice _ _ _) rfl) rfl ?_
      refine TL_e rfl (Ef_call (decided2_c (num := num) hmk (sa := x17.1.a) (sc := x17.1.c) (ls := x17.1.ls) (rt := ⟨none, 0, 0⟩) (ps := ps) (keyT_small hk17).2 (fun x hx => by have := (longC_small hlp).2 x hx; omega) (by have := (longC_small hlp).1; omega) (slot := m.slot) (h := m.hash)) rfl (fun x29 => ?_))
      refine TL_pure (fun h29 => ?_)
      obtain ⟨r0, hr0⟩ : ∃ r0, r0 = x29.1 := ⟨_, rfl⟩
      refine TL_q (Qt_move (.tuple _) rfl) rfl ?_
      refine TL_q (Qt_val (Qt_extract rfl) (show Value.int .i64 x29.1 = Value.int .i64 r0 from by rw [hr0])) rfl ?_
      refine TL_q (Qt_extract rfl) rfl ?_
      refine TL_q (Qt_assign (.int .i64 _) rfl) rfl ?_
      refine TL_q (Qt_assign (.int .i64 _) rfl) rfl ?_
      refine TL_nil ?_
      refine X_then ?_
      refine T_seq ?_
      refine T_seq ?_
      refine T_region ?_
      refine TL_q (Qt_move (.int .i64 _) rfl) rfl ?_
      refine TL_q (Qt_neq rfl rfl) rfl ?_
      refine TL_nil ?_
      refine X_then ?_
      refine T_cond rfl (fun h33 => ?_) (fun h33 => ?_)
      ·
        have p33 := h33
        try simp only [decide_eq_true_eq, decide_eq_false_iff_not, Bool.not_eq_true', Bool.not_eq_false', Option.isNone_iff_eq_none, ne_eq, Decidable.not_not, Int.not_lt, Int.not_le] at p33
        have hz : r0 = 0 := by rw [hr0, h29]; exact decidD_err (by rw [← h29]; simpa using h33)
        refine T_seq ?_
        refine T_region ?_
        refine TL_q (Qt_move (.int .i64 _) rfl) rfl ?_
        refine TL_q (Qt_eql rfl rfl) rfl ?_
        refine TL_q (Qt_assign (.bool _) rfl) rfl ?_
        refine TL_nil ?_
        refine X_then ?_
        refine T_ret ?_
        refine X_then_ret ?_
        exact X_ret () [.bool true] Tryd.results6 ⟨by refine congrArg Value.bool ?_; simp [hz], trivial⟩ rfl (Subs.st inferInstance)
      ·
        have p33 := h33
        try simp only [decide_eq_true_eq, decide_eq_false_iff_not, Bool.not_eq_true', Bool.not_eq_false', Option.isNone_iff_eq_none, ne_eq, Decidable.not_not, Int.not_lt, Int.not_le] at p33
        obtain ⟨hrt, hl16, r, hr41, hdr, hen, hno⟩ := decidD_ok (show (decidD (x17.1.ls.map BS.l) num mk m.slot m.hash (ps.map BS.l)).2 = 0 by rw [← h29]; simpa using h33)
        have hrr : r0 = (r : Int) := by rw [hr0, h29, hdr]
        clear hr0
        subst hrr
        refine T_skip ?_
        refine X_then ?_
        refine T_seq ?_
        refine T_region ?_
        refine TL_q (Qt_fieldAddr 0 rfl rfl) rfl ?_
        refine TL_q (Qt_fieldAddr 0 rfl rfl) rfl ?_
        refine TL_q (Qt_load1 rfl) rfl ?_
        refine TL_q (Qt_move (.int .i64 _) rfl) rfl ?_
        refine TL_q (Qt_fieldAddr 2 rfl rfl) rfl ?_
        refine TL_q (Qt_fieldAddr 6 rfl rfl) rfl ?_
        refine TL_q (Qt_load1 rfl) rfl ?_
        refine TL_q (Qt_fieldAddr 2 rfl rfl) rfl ?_
        refine TL_q (Qt_fieldAddr 7 rfl rfl) rfl ?_
        refine TL_q (Qt_loadN rfl rfl) rfl ?_
        refine TL_q (Qt_build [(0, (.int .i64 _)), (2, (.int .i64 _)), (3, (.int .i64 _)), (4, (.int .i64 _)), (5, (.agg _))] rfl (by kernel_rfl)) rfl ?_
        refine TL_e rfl (Ef_allocN (fun b8 => ?_))
        refine TL_n (Ef_storeN rfl rfl (?_))
        refine TL_nil ?_
        refine X_then ?_
        refine T_seq ?_
        refine T_region ?_
        refine TL_q (Qt_loadN rfl rfl) rfl ?_
        refine TL_q (Qt_fieldAddr 0 rfl rfl) rfl ?_
        refine TL_q (Qt_loadN rfl rfl) rfl ?_
        refine TL_q (Qt_loadN rfl rfl) rfl ?_
        refine TL_q (Qt_move (.slice _ _ _) rfl) rfl ?_
        refine TL_e rfl (Ef_call (pick_c (num := num) hmk (sa := x17.1.a) (sc := x17.1.c) (ls := x17.1.ls) (rt := ⟨none, 0, 0⟩) (ps := ps) (keyT_small hk17).2 (fun x hx => by have := (longC_small hlp).2 x hx; omega) (by have := (longC_small hlp).1; omega) (m := ⟨3, 0, num, (r : Int), m.slot, m.hash, ⟨none, 0, []⟩, ⟨none, 0, []⟩⟩)) rfl (fun x52 => ?_))
        refine TL_pure (fun h52 => ?_)
        have hpk : ∀ x ∈ x52.1.ls, x.l.length ≤ 400 := fun x hx => by obtain ⟨y, hy, he⟩ := List.mem_map.1 (pickD_sub _ (h52 ▸ List.mem_map.2 ⟨x, hx, rfl⟩)); have := (longC_small hlp).2 y hy; rw [← he]; exact this
        have hpl : x52.1.ls.length ≤ 16 := by have h := congrArg List.length h52; rw [List.length_map] at h; rw [h]; exact pickD_len
        refine TL_q (Qt_assign (.slice _ _ _) rfl) rfl ?_
        refine TL_nil ?_
        refine X_then ?_
        refine T_seq ?_
        refine T_region ?_
        refine TL_q (Qt_loadN rfl rfl) rfl ?_
        refine TL_q (Qt_fieldAddr 0 rfl rfl) rfl ?_
        refine TL_q (Qt_loadN rfl rfl) rfl ?_
        refine TL_q (Qt_fieldAddr 2 rfl rfl) rfl ?_
        refine TL_q (Qt_fieldAddr 6 rfl rfl) rfl ?_
        refine TL_q (Qt_load1 rfl) rfl ?_
        refine TL_q (Qt_fieldAddr 2 rfl rfl) rfl ?_
        refine TL_q (Qt_fieldAddr 7 rfl rfl) rfl ?_
        refine TL_q (Qt_loadN rfl rfl) rfl ?_
        refine TL_q (Qt_move (.slice _ _ _) rfl) rfl ?_
        refine TL_e rfl (Ef_call (decided2_c (num := num) hmk (sa := x17.1.a) (sc := x17.1.c) (ls := x17.1.ls) (rt := ⟨none, 0, 0⟩) (ps := x52.1.ls) (keyT_small hk17).2 (fun x hx => by have := hpk x hx; omega) (by omega) (slot := m.slot) (h := m.hash)) rfl (fun x64 => ?_))
        refine TL_pure (fun h64 => ?_)
        have h64b : x64 = ((r : Int), 0) := by rw [h64, h52]; exact least_law hrt hr41 hen hno
        have h64s : x64.1 = (r : Int) := by rw [h64b]
        have h64e : x64.2 = 0 := by rw [h64b]
        refine TL_q (Qt_move (.tuple _) rfl) rfl ?_
        refine TL_q (Qt_extract rfl) rfl ?_
        refine TL_q (Qt_extract rfl) rfl ?_
        refine TL_q (Qt_assign (.int .i64 _) rfl) rfl ?_
        refine TL_q (Qt_assign (.int .i64 _) rfl) rfl ?_
        refine TL_nil ?_
        refine X_then ?_
        refine T_seq ?_
        refine T_seq ?_
        refine T_region ?_
        refine TL_q (Qt_move (.int .i64 _) rfl) rfl ?_
        refine TL_q (Qt_move (.int .i64 _) rfl) rfl ?_
        refine TL_nil ?_
        refine X_then ?_
        refine T_block ?_
        refine T_loop [4, 12, 68, 69, 70, 71, 72, 73, 74, 75, 76, 77, 78, 79, 80, 81, 82, 83, 84] [68] (fun us H' => ∃ (k : Nat) (rg : Int), us = [.int .i64 (k : Int)] ∧ blk b2 (.cells (AskV.mk (ViewV.mk num (mk : Int)) m).cells 32 (0, 0)) :: blk b5 (.cells (KeysV.mk ⟨x17.1.a, x17.1.c, x17.1.ls⟩ ⟨none, 0, 0⟩).cells 38 (0, 0)) :: blk b8 (.cells (MsgV.mk 3 0 num rg m.slot m.hash ⟨none, 0, []⟩ ⟨none, 0, []⟩).cells 30 (0, 0)) :: dat x17.2 (Deep.leads (PS.mk x17.1.a x17.1.c x17.1.ls)) :: H = H' ∧ k ≤ r) (fun us => match us with | .int _ i :: _ => r - i.toNat | _ => 0) ⟨0, (r : Int), rfl, rfl, by omega⟩ (Subs.st inferInstance) ?_
        rintro τ0 _ _  ⟨k, rg, rfl, rfl, hk0⟩ _
        refine T_seq ?_
        refine T_region ?_
        refine TL_q (Qt_lss rfl rfl) rfl ?_
        refine TL_nil ?_
        refine X_then ?_
        refine T_seq ?_
        refine T_cond rfl (fun h69 => ?_) (fun h69 => ?_)
        ·
          have p69 := h69
          try simp only [decide_eq_true_eq, decide_eq_false_iff_not, Bool.not_eq_true', Bool.not_eq_false', Option.isNone_iff_eq_none, ne_eq, Decidable.not_not, Int.not_lt, Int.not_le] at p69
          have hk : k < r := by omega
          refine T_skip ?_
          refine X_then ?_
          refine T_seq ?_
          refine T_block ?_
          refine T_seq ?_
          refine T_region ?_
          refine TL_q (Qt_move (.int .i64 _) rfl) rfl ?_
          refine TL_q (Qt_assign (.int .i64 _) rfl) rfl ?_
          refine TL_nil ?_
          refine X_then ?_
          refine T_seq ?_
          refine T_region ?_
          refine TL_q (Qt_move (.int .i64 _) rfl) rfl ?_
          refine TL_q (Qt_fieldAddr 3 rfl rfl) rfl ?_
          refine TL_n (Ef_store1 (.int .i64 _) rfl rfl (?_))
          refine TL_nil ?_
          refine X_then ?_
          refine T_seq ?_
          refine T_draw (blk b2 (.cells (AskV.mk (ViewV.mk num (mk : Int)) m).cells 32 (0, 0)) :: blk b5 (.cells (KeysV.mk ⟨x17.1.a, x17.1.c, x17.1.ls⟩ ⟨none, 0, 0⟩).cells 38 (0, 0)) :: blk b8 (.cells (MsgV.mk 3 0 num (k : Int) m.slot m.hash ⟨none, 0, []⟩ ⟨none, 0, []⟩).cells 30 (0, 0)) :: dat x17.2 (Deep.leads (PS.mk x17.1.a x17.1.c x17.1.ls)) :: H) [(0, true), (1, true), (2, true), (3, true), (4, true), (7, true), (8, true), (5, false), (6, true), (9, false), (10, true)] (by kernel_rfl) (by kernel_rfl) rfl (by kernel_rfl) (Subs.st inferInstance) (fun hns0 => ?_)
          refine DL_q hns0 rfl (Qt_loadN rfl rfl) rfl ?_
          refine DL_q hns0 rfl (Qt_fieldAddr 0 rfl rfl) rfl ?_
          refine DL_q hns0 rfl (Qt_loadN rfl rfl) rfl ?_
          refine DL_q hns0 rfl (Qt_loadN rfl rfl) rfl ?_
          refine DL_q hns0 rfl (Qt_move (.slice _ _ _) rfl) rfl ?_
          refine DL_q hns0 rfl (Qt_fieldAddr 0 rfl rfl) rfl ?_
          refine DL_q hns0 rfl (Qt_loadN rfl rfl) rfl ?_
          refine DL_e rfl rfl (Ef_call (who_c (num := num) hmk (sa := x17.1.a) (sc := x17.1.c) (ls := x17.1.ls) (rt := ⟨none, 0, 0⟩) (ps := ps) (keyT_small hk17).2 (fun x hx => by have := (longC_small hlp).2 x hx; omega) (by have := (longC_small hlp).1; omega) (m := ⟨3, 0, num, (k : Int), m.slot, m.hash, ⟨none, 0, []⟩, ⟨none, 0, []⟩⟩)) rfl (fun x78 => ⟨(Subs.st inferInstance), ?_⟩))
          refine DL_q hns0 rfl (Qt_len_slice rfl Tryd.underlying42) rfl ?_
          refine DL_e rfl rfl (Ef_call (rQuorum_c (num := num) hmk) rfl (fun x82 => ⟨(Subs.st inferInstance), ?_⟩))
          refine DL_q hns0 rfl (Qt_geq rfl rfl) rfl ?_
          refine DL_nil ?_
          refine X_then ?_
          refine T_cond rfl (fun h83 => ?_) (fun h83 => ?_)
          ·
            have p83 := h83
            try simp only [decide_eq_true_eq, decide_eq_false_iff_not, Bool.not_eq_true', Bool.not_eq_false', Option.isNone_iff_eq_none, ne_eq, Decidable.not_not, Int.not_lt, Int.not_le] at p83
            exfalso
            have hnk := hno k hk
            rw [enoughD, decide_eq_false_iff_not, ones16_mem setP_lt] at hnk
            refine hnk ?_
            have h83b : (quorumV num mk : Int) ≤ ((memK (setD num (MsgV.abs ⟨3, 0, num, (k : Int), m.slot, m.hash, ⟨none, 0, []⟩, ⟨none, 0, []⟩⟩) ((ps.map BS.l).map (opn (x17.1.ls.map BS.l) mk)))).length : Int) := by simpa using h83
            exact Int.ofNat_le.1 h83b
          ·
            have p83 := h83
            try simp only [decide_eq_true_eq, decide_eq_false_iff_not, Bool.not_eq_true', Bool.not_eq_false', Option.isNone_iff_eq_none, ne_eq, Decidable.not_not, Int.not_lt, Int.not_le] at p83
            refine T_skip ?_
            refine X_block ?_
            refine X_then ?_
            refine T_region ?_
            first
              | refine TL_q (Qt_add rfl rfl (by omega) (by omega)) rfl ?_
              | refine TL_q (Qt_addw rfl rfl) rfl ?_
            refine TL_q (Qt_move (.int .i64 _) rfl) rfl ?_
            refine TL_nil ?_
            apply X_loop
            case ha => exact (by repeat (first | with_reducible exact agree_refl | refine agree_upd rfl ?_ | refine agree_mix rfl ?_ | refine agree_setAll rfl ?_))
            case hI => exact ⟨k + 1, (k : Int), rfl, rfl, by omega⟩
            case hm => exact by show r - (k + 1 : Int).toNat < r - (k : Int).toNat; omega
            case hH => exact (Subs.st inferInstance)
        ·
          have p69 := h69
          try simp only [decide_eq_true_eq, decide_eq_false_iff_not, Bool.not_eq_true', Bool.not_eq_false', Option.isNone_iff_eq_none, ne_eq, Decidable.not_not, Int.not_lt, Int.not_le] at p69
          refine T_exit ?_
          refine X_then_exit ?_
          refine X_loop_exit ?_
          refine X_block_exit ?_
          refine X_then ?_
          refine T_seq ?_
          refine T_region ?_
          refine TL_q (Qt_move (.int .i64 _) rfl) rfl ?_
          refine TL_q (Qt_eql rfl rfl) rfl ?_
          refine TL_q (Qt_move (.bool _) rfl) rfl ?_
          refine TL_split 87 rfl (fun h87 => ?_) (fun h87 => ?_)
          ·
            have p87 := h87
            try simp only [decide_eq_true_eq, decide_eq_false_iff_not, Bool.not_eq_true', Bool.not_eq_false', Option.isNone_iff_eq_none, ne_eq, Decidable.not_not, Int.not_lt, Int.not_le] at p87
            refine TL_take rfl rfl h87 ?_
            refine TL_q (Qt_move (.int .i64 _) rfl) rfl ?_
            refine TL_take rfl rfl h87 ?_
            refine TL_q (Qt_move (.int .i64 _) rfl) rfl ?_
            refine TL_take rfl rfl h87 ?_
            refine TL_q (Qt_eql rfl rfl) rfl ?_
            refine TL_q (Qt_pick_t (.bool _) rfl h87 rfl) rfl ?_
            refine TL_q (Qt_assign (.bool _) rfl) rfl ?_
            refine TL_nil ?_
            refine X_then ?_
            refine T_ret ?_
            exact X_ret () [.bool true] Tryd.results6 ⟨by refine congrArg Value.bool ?_; simp [h64s], trivial⟩ rfl (Subs.st inferInstance)
          ·
            have p87 := h87
            try simp only [decide_eq_true_eq, decide_eq_false_iff_not, Bool.not_eq_true', Bool.not_eq_false', Option.isNone_iff_eq_none, ne_eq, Decidable.not_not, Int.not_lt, Int.not_le] at p87
            exact absurd h87 (by simp [h64e])
end Go.Proofs.YtgjkgdjjolnhdaaDoor
