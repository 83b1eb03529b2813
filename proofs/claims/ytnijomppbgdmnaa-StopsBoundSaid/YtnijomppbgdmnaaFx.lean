/- Walks: stops Take, Count, greatest, Some, Enough. -/
import Derived.Test.YtnijomppbgdmnaaFw
namespace Go.Proofs.Ytnijomppbgdmnaa
section
open Go.RowKit Go.Sx
set_option maxRecDepth 100000
set_option linter.unusedSimpArgs false
set_option linter.unusedVariables false
abbrev EM := List (Ent Int Int)
def takeM (K : List (List UInt8)) (num : Int) (mk : Nat) (es : EM) (c : Nat) (l : List UInt8) : Int × EM × Nat :=
  if (openOfK K mk l).1 ≠ 0 then ((openOfK K mk l).1, es, c) else if (openOfK K mk l).2.kind ≠ 4 then (15, es, c) else if (openOfK K mk l).2.view ≠ num then (9, es, c)
  else if hasE es (openOfK K mk l).2.frm = true ∧ (openOfK K mk l).2.reg ≤ (getE es (openOfK K mk l).2.frm).getD 0 then (7, es, c)
  else (0, putE es (openOfK K mk l).2.frm (openOfK K mk l).2.reg c, clockE es (openOfK K mk l).2.frm c)
theorem putE_map : ∀ (es : EM) (k v : Int) (c : Nat), hasE es k = true → (putE es k v c).map (·.k) = es.map (·.k) ∧ (putE es k v c).map (·.b) = es.map (·.b)
  | [], k, v, c, h => by simp [hasE, getE] at h
  | e :: es, k, v, c, h => by
    unfold putE
    split
    · rename_i hk; exact ⟨by simp [hk], by simp⟩
    · rename_i hk
      have h1 : hasE es k = true := by simpa [hasE, getE, List.find?_cons, hk] using h
      have := putE_map es k v c h1
      exact ⟨by simp [this.1], by simp [this.2]⟩
theorem putE_new (es : EM) (k v : Int) (c : Nat) (h : GoodM es c) (hh : hasE es k = false) : GoodM (putE es k v c) (c + 1) := by
  rw [putE_none _ _ _ _ hh]
  refine ⟨?_, ?_, ?_⟩
  · rw [List.map_append]
    refine List.nodup_append.2 ⟨h.keys, by simp, fun a ha b hb => ?_⟩
    obtain rfl : b = k := by simpa using hb
    rintro rfl
    obtain ⟨e, he, hek⟩ := List.mem_map.1 ha
    have : (getE es a).isSome = true := by
      simp only [getE, Option.isSome_map]
      rw [List.find?_isSome]
      exact ⟨e, he, by simp [hek]⟩
    rw [hasE, this] at hh
    cases hh
  · rw [List.map_append]
    refine List.nodup_append.2 ⟨h.born, by simp, fun a ha b hb => ?_⟩
    obtain rfl : b = c := by simpa using hb
    rintro rfl
    obtain ⟨e, he, hek⟩ := List.mem_map.1 ha
    have := h.lt e he
    omega
  · intro e he
    rcases List.mem_append.1 he with he | he
    · have := h.lt e he; omega
    · obtain rfl : e = ⟨k, v, c⟩ := by simpa using he
      show c < c + 1
      omega
theorem putE_good (es : EM) (k v : Int) (c : Nat) (h : GoodM es c) : GoodM (putE es k v c) (clockE es k c) := by
  cases hh : hasE es k with
  | false => unfold clockE; rw [hh]; exact putE_new es k v c h hh
  | true =>
    have hm := putE_map es k v c hh
    unfold clockE
    rw [hh]
    refine ⟨by rw [hm.1]; exact h.keys, by rw [hm.2]; exact h.born, fun e he => ?_⟩
    have hb : e.b ∈ (putE es k v c).map (·.b) := List.mem_map.2 ⟨e, he, rfl⟩
    rw [hm.2] at hb
    obtain ⟨e', he', hb'⟩ := List.mem_map.1 hb
    have := h.lt e' he'
    simp only [cond_true]
    omega
theorem putE_len : ∀ (es : EM) (k v : Int) (c : Nat), (putE es k v c).length ≤ es.length + 1
  | [], k, v, c => by simp [putE]
  | e :: es, k, v, c => by
    unfold putE
    split
    · simp
    · have := putE_len es k v c; simp; omega
theorem takeM_good {K : List (List UInt8)} {num : Int} {mk : Nat} {es : EM} {c : Nat} {l : List UInt8} (h : GoodM es c) : GoodM (takeM K num mk es c l).2.1 (takeM K num mk es c l).2.2 ∧ (takeM K num mk es c l).2.1.length ≤ es.length + 1 := by
  unfold takeM
  split
  · exact ⟨h, by simp⟩
  · split
    · exact ⟨h, by simp⟩
    · split
      · exact ⟨h, by simp⟩
      · split
        · exact ⟨h, by simp⟩
        · exact ⟨putE_good _ _ _ _ h, putE_len _ _ _ _⟩
attribute [local irreducible] openOfK

set_option maxHeartbeats 1000000 in
theorem stake_c {w0 : World} {H : List SA} {p r c : Nat} {es : EM} {num : Int} {mk : Nat} (hmk : mk < 65536) {sa : Option Addr} {sc : Nat} {ls : List BS} {rt : Sl} [rk : RdC w0 H (.slice sa ls.length sc) 1 (ls.map BS.val)] [rke : RdE w0 H ls] (hkl : ∀ x ∈ ls, x.l.length ≤ 4294967000) {a : Option Addr} {l : List UInt8} {lc : Nat} [hr : RdB w0 H (.slice a l.length lc) l] (hl : l.length ≤ 4294960000) :
    CT Try.prog w0 (blk p (.cells (StopsV.mk (KeysV.mk ⟨sa, sc, ls⟩ rt) (ViewV.mk num (mk : Int)) (some r)).cells 75 (0, 0)) :: blk r (mapO encI encI es c) :: H) 12 [.pointer (some ⟨p, 0, none⟩), .slice a l.length lc] (α := Unit) (fun _ => .int .i64 (takeM (ls.map BS.l) num mk es c l).1) (fun _ => blk p (.cells (StopsV.mk (KeysV.mk ⟨sa, sc, ls⟩ rt) (ViewV.mk num (mk : Int)) (some r)).cells 75 (0, 0)) :: blk r (mapO encI encI (takeM (ls.map BS.l) num mk es c l).2.1 (takeM (ls.map BS.l) num mk es c l).2.2) :: H) := by
  refine CT_intro Try.func12 rfl Try.ntmps12 rfl ?_
  refine T_seq ?_
  refine T_region ?_
  refine TL_q (Qt_assign (.int .i64 _) rfl) rfl ?_
  refine TL_nil ?_
  refine X_then ?_
  refine T_seq ?_
  refine T_seq ?_
  refine T_region ?_
  refine TL_q (Qt_move (.pointer _) rfl) rfl ?_
  refine TL_q (Qt_ptr_nil rfl rfl Try.underlying51) rfl ?_
  refine TL_nil ?_
  refine X_then ?_
  refine T_cond rfl (fun h10 => ?_) (fun h10 => ?_)
  ·
    have p10 := h10
    try simp only [decide_eq_true_eq, decide_eq_false_iff_not, Bool.not_eq_true', Bool.not_eq_false', Option.isNone_iff_eq_none, ne_eq, Decidable.not_not, Int.not_lt, Int.not_le] at p10
    cases h10
  ·
    have p10 := h10
    try simp only [decide_eq_true_eq, decide_eq_false_iff_not, Bool.not_eq_true', Bool.not_eq_false', Option.isNone_iff_eq_none, ne_eq, Decidable.not_not, Int.not_lt, Int.not_le] at p10
    refine T_skip ?_
    refine X_then ?_
    refine T_seq ?_
    refine T_drawF (blk p (.cells (StopsV.mk (KeysV.mk ⟨sa, sc, ls⟩ rt) (ViewV.mk num (mk : Int)) (some r)).cells 75 (0, 0)) :: H) (by kernel_rfl) (Subs.st inferInstance) ?_
    refine DLF_q (i := 0) (by kernel_rfl) rfl (by kernel_rfl) (by kernel_rfl) (Qt_move (.pointer _) rfl) rfl ?_
    refine DLF_q (i := 1) (by kernel_rfl) rfl (by kernel_rfl) (by kernel_rfl) (Qt_nilCheck rfl) rfl ?_
    refine DLF_q (i := 2) (by kernel_rfl) rfl (by kernel_rfl) (by kernel_rfl) (Qt_fieldAddr 0 rfl rfl) rfl ?_
    refine DLF_q (i := 3) (by kernel_rfl) rfl (by kernel_rfl) (by kernel_rfl) (Qt_loadN rfl rfl) rfl ?_
    refine DLF_q (i := 4) (by kernel_rfl) rfl (by kernel_rfl) (by kernel_rfl) (Qt_move (.pointer _) rfl) rfl ?_
    refine DLF_q (i := 5) (by kernel_rfl) rfl (by kernel_rfl) (by kernel_rfl) (Qt_nilCheck rfl) rfl ?_
    refine DLF_q (i := 6) (by kernel_rfl) rfl (by kernel_rfl) (by kernel_rfl) (Qt_fieldAddr 2 rfl rfl) rfl ?_
    refine DLF_q (i := 7) (by kernel_rfl) rfl (by kernel_rfl) (by kernel_rfl) (Qt_loadN rfl rfl) rfl ?_
    refine DLF_q (i := 8) (by kernel_rfl) rfl (by kernel_rfl) (by kernel_rfl) (Qt_move (.slice _ _ _) rfl) rfl ?_
    refine DLF_2 (i := 9) (j := 13) (by kernel_rfl) ?_ ?_
    ·
      refine DLS_e rfl rfl (Ef_call (openOf_c (sa := sa) (sc := sc) (ls := ls) (rt := rt) hmk hkl hl) rfl (fun x21 => ⟨(Subs.st inferInstance), ?_⟩))
      refine DLF_pure (fun hx => ?_)
      have hfr : x21.1.frm = (openOfK (ls.map BS.l) mk l).2.frm := congrArg MsgD.frm hx
      have hkd : x21.1.kind = (openOfK (ls.map BS.l) mk l).2.kind := congrArg MsgD.kind hx
      have hvw : x21.1.view = (openOfK (ls.map BS.l) mk l).2.view := congrArg MsgD.view hx
      have hrg : x21.1.reg = (openOfK (ls.map BS.l) mk l).2.reg := congrArg MsgD.reg hx
      refine DLF_q (i := 10) (by kernel_rfl) rfl (by kernel_rfl) (by kernel_rfl) (Qt_move (.tuple _) rfl) rfl ?_
      refine DLF_q (i := 11) (by kernel_rfl) rfl (by kernel_rfl) (by kernel_rfl) (Qt_extract rfl) rfl ?_
      refine DLF_q (i := 12) (by kernel_rfl) rfl (by kernel_rfl) (by kernel_rfl) (Qt_extract rfl) rfl ?_
      refine DLF_1 (i := 13) (by kernel_rfl) ?_
      refine DLS_e rfl rfl (Ef_allocN (fun b5 => ⟨(Subs.st inferInstance), ?_⟩))
      refine DLF_1 (i := 14) (by kernel_rfl) ?_
      refine DLS_n rfl (Ef_storeN rfl rfl (⟨(Subs.st inferInstance), ?_⟩))
      refine DLF_q (i := 15) (by kernel_rfl) rfl (by kernel_rfl) (by kernel_rfl) (Qt_assign (.int .i64 _) rfl) rfl ?_
      refine DLF_nil (by kernel_rfl) ?_
      refine X_then ?_
      refine T_seq ?_
      refine T_draw (blk b5 (.cells x21.1.cells 43 (0, 0)) :: blk p (.cells (StopsV.mk (KeysV.mk ⟨sa, sc, ls⟩ rt) (ViewV.mk num (mk : Int)) (some r)).cells 75 (0, 0)) :: blk r (mapO encI encI es c) :: H) [(0, true), (1, true), (2, true), (3, true), (4, true), (5, true), (6, true), (7, true), (8, true), (9, true), (10, true), (11, true)] (by kernel_rfl) (by kernel_rfl) rfl (by kernel_rfl) (Subs.st inferInstance) (fun hns0 => ?_)
      refine DL_q hns0 rfl (Qt_move (.pointer _) rfl) rfl ?_
      refine DL_q hns0 rfl (Qt_nilCheck rfl) rfl ?_
      refine DL_q hns0 rfl (Qt_fieldAddr 4 rfl rfl) rfl ?_
      refine DL_q hns0 rfl (Qt_load1 rfl) rfl ?_
      refine DL_q hns0 rfl (Qt_fieldAddr 1 rfl rfl) rfl ?_
      refine DL_q hns0 rfl (Qt_load1 rfl) rfl ?_
      refine DL_q hns0 rfl (Qt_lookup2 (key := x21.1.frm) (enc := encI) (ev := encI) ((0 : Int)) rfl rfl Try.underlying73 ((inferInstance : TyZ Try.prog 3 (.int .i64 0)).ok)) rfl ?_
      refine DL_q hns0 rfl (Qt_move (.tuple _) rfl) rfl ?_
      refine DL_q hns0 rfl (Qt_extract rfl) rfl ?_
      refine DL_q hns0 rfl (Qt_extract rfl) rfl ?_
      refine DL_q hns0 rfl (Qt_assign (.int .i64 _) rfl) rfl ?_
      refine DL_q hns0 rfl (Qt_assign (.bool _) rfl) rfl ?_
      refine DL_nil ?_
      refine X_then ?_
      refine T_seq ?_
      refine T_block ?_
      refine T_seq ?_
      refine T_region ?_
      refine TL_q (Qt_move (.int .i64 _) rfl) rfl ?_
      refine TL_q (Qt_neq rfl rfl) rfl ?_
      refine TL_q (Qt_assign (.bool _) rfl) rfl ?_
      refine TL_nil ?_
      refine X_then ?_
      refine T_cond rfl (fun h34 => ?_) (fun h34 => ?_)
      ·
        have p34 := h34
        try simp only [decide_eq_true_eq, decide_eq_false_iff_not, Bool.not_eq_true', Bool.not_eq_false', Option.isNone_iff_eq_none, ne_eq, Decidable.not_not, Int.not_lt, Int.not_le] at p34
        refine T_seq ?_
        refine T_region ?_
        refine TL_q (Qt_move (.int .i64 _) rfl) rfl ?_
        refine TL_q (Qt_assign (.int .i64 _) rfl) rfl ?_
        refine TL_nil ?_
        refine X_then ?_
        refine T_ret ?_
        refine X_block_ret ?_
        refine X_then_ret ?_
        have e : (takeM (ls.map BS.l) num mk es c l) = ((openOfK (ls.map BS.l) mk l).1, es, c) := by rw [takeM, if_pos (by simpa using h34)]
        rw [e]
        exact X_ret () [_] Try.results12 ⟨rfl, trivial⟩ rfl (Subs.st inferInstance)
      ·
        have p34 := h34
        try simp only [decide_eq_true_eq, decide_eq_false_iff_not, Bool.not_eq_true', Bool.not_eq_false', Option.isNone_iff_eq_none, ne_eq, Decidable.not_not, Int.not_lt, Int.not_le] at p34
        have hz : (openOfK (ls.map BS.l) mk l).1 = 0 := by simpa using h34
        refine T_seq ?_
        refine T_region ?_
        refine TL_q (Qt_fieldAddr 0 rfl rfl) rfl ?_
        refine TL_q (Qt_load1 rfl) rfl ?_
        refine TL_q (Qt_neq rfl rfl) rfl ?_
        refine TL_q (Qt_assign (.bool _) rfl) rfl ?_
        refine TL_nil ?_
        refine X_then ?_
        refine T_cond rfl (fun h38 => ?_) (fun h38 => ?_)
        ·
          have p38 := h38
          try simp only [decide_eq_true_eq, decide_eq_false_iff_not, Bool.not_eq_true', Bool.not_eq_false', Option.isNone_iff_eq_none, ne_eq, Decidable.not_not, Int.not_lt, Int.not_le] at p38
          refine T_seq ?_
          refine T_region ?_
          refine TL_q (Qt_assign (.int .i64 _) rfl) rfl ?_
          refine TL_nil ?_
          refine X_then ?_
          refine T_ret ?_
          refine X_block_ret ?_
          refine X_then_ret ?_
          have e : (takeM (ls.map BS.l) num mk es c l) = (15, es, c) := by rw [takeM, if_neg (by omega), if_pos (by rw [← hkd]; simpa using h38)]
          rw [e]
          exact X_ret () [_] Try.results12 ⟨rfl, trivial⟩ rfl (Subs.st inferInstance)
        ·
          have p38 := h38
          try simp only [decide_eq_true_eq, decide_eq_false_iff_not, Bool.not_eq_true', Bool.not_eq_false', Option.isNone_iff_eq_none, ne_eq, Decidable.not_not, Int.not_lt, Int.not_le] at p38
          have hk4 : (openOfK (ls.map BS.l) mk l).2.kind = 4 := by rw [← hkd]; simpa using h38
          refine T_seq ?_
          refine T_draw (blk b5 (.cells x21.1.cells 43 (0, 0)) :: blk p (.cells (StopsV.mk (KeysV.mk ⟨sa, sc, ls⟩ rt) (ViewV.mk num (mk : Int)) (some r)).cells 75 (0, 0)) :: H) [(0, true), (1, true), (2, true), (3, true), (4, true), (5, true), (6, true), (7, true), (8, true)] (by kernel_rfl) (by kernel_rfl) rfl (by kernel_rfl) (Subs.st inferInstance) (fun hns1 => ?_)
          refine DL_q hns1 rfl (Qt_fieldAddr 2 rfl rfl) rfl ?_
          refine DL_q hns1 rfl (Qt_load1 rfl) rfl ?_
          refine DL_q hns1 rfl (Qt_move (.pointer _) rfl) rfl ?_
          refine DL_q hns1 rfl (Qt_nilCheck rfl) rfl ?_
          refine DL_q hns1 rfl (Qt_fieldAddr 2 rfl rfl) rfl ?_
          refine DL_q hns1 rfl (Qt_fieldAddr 2 rfl rfl) rfl ?_
          refine DL_q hns1 rfl (Qt_load1 rfl) rfl ?_
          refine DL_q hns1 rfl (Qt_neq rfl rfl) rfl ?_
          refine DL_q hns1 rfl (Qt_assign (.bool _) rfl) rfl ?_
          refine DL_nil ?_
          refine X_then ?_
          refine T_cond rfl (fun h42 => ?_) (fun h42 => ?_)
          ·
            have p42 := h42
            try simp only [decide_eq_true_eq, decide_eq_false_iff_not, Bool.not_eq_true', Bool.not_eq_false', Option.isNone_iff_eq_none, ne_eq, Decidable.not_not, Int.not_lt, Int.not_le] at p42
            refine T_seq ?_
            refine T_region ?_
            refine TL_q (Qt_assign (.int .i64 _) rfl) rfl ?_
            refine TL_nil ?_
            refine X_then ?_
            refine T_ret ?_
            refine X_block_ret ?_
            refine X_then_ret ?_
            have e : (takeM (ls.map BS.l) num mk es c l) = (9, es, c) := by rw [takeM, if_neg (by omega), if_neg (by omega), if_pos (by rw [← hvw]; simpa using h42)]
            rw [e]
            exact X_ret () [_] Try.results12 ⟨rfl, trivial⟩ rfl (Subs.st inferInstance)
          ·
            have p42 := h42
            try simp only [decide_eq_true_eq, decide_eq_false_iff_not, Bool.not_eq_true', Bool.not_eq_false', Option.isNone_iff_eq_none, ne_eq, Decidable.not_not, Int.not_lt, Int.not_le] at p42
            have hvn : (openOfK (ls.map BS.l) mk l).2.view = num := by rw [← hvw]; simpa using h42
            refine T_seq ?_
            refine T_region ?_
            refine TL_q (Qt_move (.bool _) rfl) rfl ?_
            refine TL_q (Qt_move (.bool _) rfl) rfl ?_
            refine TL_split 53 rfl (fun h53 => ?_) (fun h53 => ?_)
            ·
              have p53 := h53
              try simp only [decide_eq_true_eq, decide_eq_false_iff_not, Bool.not_eq_true', Bool.not_eq_false', Option.isNone_iff_eq_none, ne_eq, Decidable.not_not, Int.not_lt, Int.not_le] at p53
              refine TL_take rfl rfl h53 ?_
              refine TL_q (Qt_fieldAddr 3 rfl rfl) rfl ?_
              refine TL_take rfl rfl h53 ?_
              refine TL_q (Qt_load1 rfl) rfl ?_
              refine TL_take rfl rfl h53 ?_
              refine TL_q (Qt_move (.int .i64 _) rfl) rfl ?_
              refine TL_take rfl rfl h53 ?_
              refine TL_q (Qt_leq rfl rfl) rfl ?_
              refine TL_q (Qt_pick_t (.bool _) rfl h53 rfl) rfl ?_
              refine TL_q (Qt_assign (.bool _) rfl) rfl ?_
              refine TL_nil ?_
              refine X_then ?_
              refine T_cond rfl (fun h51 => ?_) (fun h51 => ?_)
              ·
                have p51 := h51
                try simp only [decide_eq_true_eq, decide_eq_false_iff_not, Bool.not_eq_true', Bool.not_eq_false', Option.isNone_iff_eq_none, ne_eq, Decidable.not_not, Int.not_lt, Int.not_le] at p51
                refine T_seq ?_
                refine T_region ?_
                refine TL_q (Qt_assign (.int .i64 _) rfl) rfl ?_
                refine TL_nil ?_
                refine X_then ?_
                refine T_ret ?_
                refine X_block_ret ?_
                refine X_then_ret ?_
                have e : (takeM (ls.map BS.l) num mk es c l) = (7, es, c) := by rw [takeM, if_neg (by omega), if_neg (by omega), if_neg (by omega), if_pos (by rw [← hfr, ← hrg]; exact ⟨h53, of_decide_eq_true h51⟩)]
                rw [e]
                exact X_ret () [_] Try.results12 ⟨rfl, trivial⟩ rfl (Subs.st inferInstance)
              ·
                have p51 := h51
                try simp only [decide_eq_true_eq, decide_eq_false_iff_not, Bool.not_eq_true', Bool.not_eq_false', Option.isNone_iff_eq_none, ne_eq, Decidable.not_not, Int.not_lt, Int.not_le] at p51
                refine T_skip ?_
                refine X_block ?_
                refine X_then ?_
                refine T_seq ?_
                refine T_draw (blk b5 (.cells x21.1.cells 43 (0, 0)) :: blk p (.cells (StopsV.mk (KeysV.mk ⟨sa, sc, ls⟩ rt) (ViewV.mk num (mk : Int)) (some r)).cells 75 (0, 0)) :: H) [(0, true), (1, true), (2, true), (3, true), (4, true), (5, true), (6, true), (7, true), (8, false)] (by kernel_rfl) (by kernel_rfl) rfl (by kernel_rfl) (Subs.st inferInstance) (fun hns2 => ?_)
                refine DL_q hns2 rfl (Qt_move (.pointer _) rfl) rfl ?_
                refine DL_q hns2 rfl (Qt_nilCheck rfl) rfl ?_
                refine DL_q hns2 rfl (Qt_fieldAddr 4 rfl rfl) rfl ?_
                refine DL_q hns2 rfl (Qt_load1 rfl) rfl ?_
                refine DL_q hns2 rfl (Qt_fieldAddr 1 rfl rfl) rfl ?_
                refine DL_q hns2 rfl (Qt_load1 rfl) rfl ?_
                refine DL_q hns2 rfl (Qt_fieldAddr 3 rfl rfl) rfl ?_
                refine DL_q hns2 rfl (Qt_load1 rfl) rfl ?_
                refine DL_n rfl (Ef_mapUpdate (key := x21.1.frm) (enc := encI) (ev := encI) (x21.1.reg) rfl rfl rfl Try.underlying73 (⟨(Subs.st inferInstance), ?_⟩))
                refine DL_nil ?_
                refine X_then ?_
                refine T_seq ?_
                refine T_region ?_
                refine TL_q (Qt_assign (.int .i64 _) rfl) rfl ?_
                refine TL_nil ?_
                refine X_then ?_
                refine T_ret ?_
                have e : (takeM (ls.map BS.l) num mk es c l) = (0, putE es x21.1.frm x21.1.reg c, clockE es x21.1.frm c) := by rw [takeM, if_neg (by omega), if_neg (by omega), if_neg (by omega), if_neg (by rw [← hfr, ← hrg]; rintro ⟨h1, h2⟩; simp_all <;> omega), hfr, hrg]
                rw [e]
                exact X_ret () [_] Try.results12 ⟨rfl, trivial⟩ rfl (Subs.st inferInstance)
            ·
              have p53 := h53
              try simp only [decide_eq_true_eq, decide_eq_false_iff_not, Bool.not_eq_true', Bool.not_eq_false', Option.isNone_iff_eq_none, ne_eq, Decidable.not_not, Int.not_lt, Int.not_le] at p53
              refine TL_pass rfl rfl h53 rfl ?_
              refine TL_pass rfl rfl h53 rfl ?_
              refine TL_pass rfl rfl h53 rfl ?_
              refine TL_pass rfl rfl h53 rfl ?_
              refine TL_q (Qt_pick_f (.bool _) rfl h53 rfl) rfl ?_
              refine TL_q (Qt_assign (.bool _) rfl) rfl ?_
              refine TL_nil ?_
              refine X_then ?_
              refine T_cond_false rfl rfl ?_
              refine T_skip ?_
              refine X_block ?_
              refine X_then ?_
              refine T_seq ?_
              refine T_draw (blk b5 (.cells x21.1.cells 43 (0, 0)) :: blk p (.cells (StopsV.mk (KeysV.mk ⟨sa, sc, ls⟩ rt) (ViewV.mk num (mk : Int)) (some r)).cells 75 (0, 0)) :: H) [(0, true), (1, true), (2, true), (3, true), (4, true), (5, true), (6, true), (7, true), (8, false)] (by kernel_rfl) (by kernel_rfl) rfl (by kernel_rfl) (Subs.st inferInstance) (fun hns3 => ?_)
              refine DL_q hns3 rfl (Qt_move (.pointer _) rfl) rfl ?_
              refine DL_q hns3 rfl (Qt_nilCheck rfl) rfl ?_
              refine DL_q hns3 rfl (Qt_fieldAddr 4 rfl rfl) rfl ?_
              refine DL_q hns3 rfl (Qt_load1 rfl) rfl ?_
              refine DL_q hns3 rfl (Qt_fieldAddr 1 rfl rfl) rfl ?_
              refine DL_q hns3 rfl (Qt_load1 rfl) rfl ?_
              refine DL_q hns3 rfl (Qt_fieldAddr 3 rfl rfl) rfl ?_
              refine DL_q hns3 rfl (Qt_load1 rfl) rfl ?_
              refine DL_n rfl (Ef_mapUpdate (key := x21.1.frm) (enc := encI) (ev := encI) (x21.1.reg) rfl rfl rfl Try.underlying73 (⟨(Subs.st inferInstance), ?_⟩))
              refine DL_nil ?_
              refine X_then ?_
              refine T_seq ?_
              refine T_region ?_
              refine TL_q (Qt_assign (.int .i64 _) rfl) rfl ?_
              refine TL_nil ?_
              refine X_then ?_
              refine T_ret ?_
              have e : (takeM (ls.map BS.l) num mk es c l) = (0, putE es x21.1.frm x21.1.reg c, clockE es x21.1.frm c) := by rw [takeM, if_neg (by omega), if_neg (by omega), if_neg (by omega), if_neg (by rw [← hfr, ← hrg]; rintro ⟨h1, h2⟩; simp_all <;> omega), hfr, hrg]
              rw [e]
              exact X_ret () [_] Try.results12 ⟨rfl, trivial⟩ rfl (Subs.st inferInstance)
    ·
      refine DLS_e rfl rfl (Ef_allocN (fun b5 => ⟨(Subs.st inferInstance), ?_⟩))
      refine DLF_1 (i := 9) (by kernel_rfl) ?_
      refine DLS_e rfl rfl (Ef_call (openOf_c (sa := sa) (sc := sc) (ls := ls) (rt := rt) hmk hkl hl) rfl (fun x21 => ⟨(Subs.st inferInstance), ?_⟩))
      refine DLF_pure (fun hx => ?_)
      have hfr : x21.1.frm = (openOfK (ls.map BS.l) mk l).2.frm := congrArg MsgD.frm hx
      have hkd : x21.1.kind = (openOfK (ls.map BS.l) mk l).2.kind := congrArg MsgD.kind hx
      have hvw : x21.1.view = (openOfK (ls.map BS.l) mk l).2.view := congrArg MsgD.view hx
      have hrg : x21.1.reg = (openOfK (ls.map BS.l) mk l).2.reg := congrArg MsgD.reg hx
      refine DLF_q (i := 10) (by kernel_rfl) rfl (by kernel_rfl) (by kernel_rfl) (Qt_move (.tuple _) rfl) rfl ?_
      refine DLF_q (i := 11) (by kernel_rfl) rfl (by kernel_rfl) (by kernel_rfl) (Qt_extract rfl) rfl ?_
      refine DLF_q (i := 12) (by kernel_rfl) rfl (by kernel_rfl) (by kernel_rfl) (Qt_extract rfl) rfl ?_
      refine DLF_1 (i := 14) (by kernel_rfl) ?_
      refine DLS_n rfl (Ef_storeN rfl rfl (⟨(Subs.st inferInstance), ?_⟩))
      refine DLF_q (i := 15) (by kernel_rfl) rfl (by kernel_rfl) (by kernel_rfl) (Qt_assign (.int .i64 _) rfl) rfl ?_
      refine DLF_nil (by kernel_rfl) ?_
      refine X_then ?_
      refine T_seq ?_
      refine T_draw (blk b5 (.cells x21.1.cells 43 (0, 0)) :: blk p (.cells (StopsV.mk (KeysV.mk ⟨sa, sc, ls⟩ rt) (ViewV.mk num (mk : Int)) (some r)).cells 75 (0, 0)) :: blk r (mapO encI encI es c) :: H) [(0, true), (1, true), (2, true), (3, true), (4, true), (5, true), (6, true), (7, true), (8, true), (9, true), (10, true), (11, true)] (by kernel_rfl) (by kernel_rfl) rfl (by kernel_rfl) (Subs.st inferInstance) (fun hns4 => ?_)
      refine DL_q hns4 rfl (Qt_move (.pointer _) rfl) rfl ?_
      refine DL_q hns4 rfl (Qt_nilCheck rfl) rfl ?_
      refine DL_q hns4 rfl (Qt_fieldAddr 4 rfl rfl) rfl ?_
      refine DL_q hns4 rfl (Qt_load1 rfl) rfl ?_
      refine DL_q hns4 rfl (Qt_fieldAddr 1 rfl rfl) rfl ?_
      refine DL_q hns4 rfl (Qt_load1 rfl) rfl ?_
      refine DL_q hns4 rfl (Qt_lookup2 (key := x21.1.frm) (enc := encI) (ev := encI) ((0 : Int)) rfl rfl Try.underlying73 ((inferInstance : TyZ Try.prog 3 (.int .i64 0)).ok)) rfl ?_
      refine DL_q hns4 rfl (Qt_move (.tuple _) rfl) rfl ?_
      refine DL_q hns4 rfl (Qt_extract rfl) rfl ?_
      refine DL_q hns4 rfl (Qt_extract rfl) rfl ?_
      refine DL_q hns4 rfl (Qt_assign (.int .i64 _) rfl) rfl ?_
      refine DL_q hns4 rfl (Qt_assign (.bool _) rfl) rfl ?_
      refine DL_nil ?_
      refine X_then ?_
      refine T_seq ?_
      refine T_block ?_
      refine T_seq ?_
      refine T_region ?_
      refine TL_q (Qt_move (.int .i64 _) rfl) rfl ?_
      refine TL_q (Qt_neq rfl rfl) rfl ?_
      refine TL_q (Qt_assign (.bool _) rfl) rfl ?_
      refine TL_nil ?_
      refine X_then ?_
      refine T_cond rfl (fun h34 => ?_) (fun h34 => ?_)
      ·
        have p34 := h34
        try simp only [decide_eq_true_eq, decide_eq_false_iff_not, Bool.not_eq_true', Bool.not_eq_false', Option.isNone_iff_eq_none, ne_eq, Decidable.not_not, Int.not_lt, Int.not_le] at p34
        refine T_seq ?_
        refine T_region ?_
        refine TL_q (Qt_move (.int .i64 _) rfl) rfl ?_
        refine TL_q (Qt_assign (.int .i64 _) rfl) rfl ?_
        refine TL_nil ?_
        refine X_then ?_
        refine T_ret ?_
        refine X_block_ret ?_
        refine X_then_ret ?_
        have e : (takeM (ls.map BS.l) num mk es c l) = ((openOfK (ls.map BS.l) mk l).1, es, c) := by rw [takeM, if_pos (by simpa using h34)]
        rw [e]
        exact X_ret () [_] Try.results12 ⟨rfl, trivial⟩ rfl (Subs.st inferInstance)
      ·
        have p34 := h34
        try simp only [decide_eq_true_eq, decide_eq_false_iff_not, Bool.not_eq_true', Bool.not_eq_false', Option.isNone_iff_eq_none, ne_eq, Decidable.not_not, Int.not_lt, Int.not_le] at p34
        have hz : (openOfK (ls.map BS.l) mk l).1 = 0 := by simpa using h34
        refine T_seq ?_
        refine T_region ?_
        refine TL_q (Qt_fieldAddr 0 rfl rfl) rfl ?_
        refine TL_q (Qt_load1 rfl) rfl ?_
        refine TL_q (Qt_neq rfl rfl) rfl ?_
        refine TL_q (Qt_assign (.bool _) rfl) rfl ?_
        refine TL_nil ?_
        refine X_then ?_
        refine T_cond rfl (fun h38 => ?_) (fun h38 => ?_)
        ·
          have p38 := h38
          try simp only [decide_eq_true_eq, decide_eq_false_iff_not, Bool.not_eq_true', Bool.not_eq_false', Option.isNone_iff_eq_none, ne_eq, Decidable.not_not, Int.not_lt, Int.not_le] at p38
          refine T_seq ?_
          refine T_region ?_
          refine TL_q (Qt_assign (.int .i64 _) rfl) rfl ?_
          refine TL_nil ?_
          refine X_then ?_
          refine T_ret ?_
          refine X_block_ret ?_
          refine X_then_ret ?_
          have e : (takeM (ls.map BS.l) num mk es c l) = (15, es, c) := by rw [takeM, if_neg (by omega), if_pos (by rw [← hkd]; simpa using h38)]
          rw [e]
          exact X_ret () [_] Try.results12 ⟨rfl, trivial⟩ rfl (Subs.st inferInstance)
        ·
          have p38 := h38
          try simp only [decide_eq_true_eq, decide_eq_false_iff_not, Bool.not_eq_true', Bool.not_eq_false', Option.isNone_iff_eq_none, ne_eq, Decidable.not_not, Int.not_lt, Int.not_le] at p38
          have hk4 : (openOfK (ls.map BS.l) mk l).2.kind = 4 := by rw [← hkd]; simpa using h38
          refine T_seq ?_
          refine T_draw (blk b5 (.cells x21.1.cells 43 (0, 0)) :: blk p (.cells (StopsV.mk (KeysV.mk ⟨sa, sc, ls⟩ rt) (ViewV.mk num (mk : Int)) (some r)).cells 75 (0, 0)) :: H) [(0, true), (1, true), (2, true), (3, true), (4, true), (5, true), (6, true), (7, true), (8, true)] (by kernel_rfl) (by kernel_rfl) rfl (by kernel_rfl) (Subs.st inferInstance) (fun hns5 => ?_)
          refine DL_q hns5 rfl (Qt_fieldAddr 2 rfl rfl) rfl ?_
          refine DL_q hns5 rfl (Qt_load1 rfl) rfl ?_
          refine DL_q hns5 rfl (Qt_move (.pointer _) rfl) rfl ?_
          refine DL_q hns5 rfl (Qt_nilCheck rfl) rfl ?_
          refine DL_q hns5 rfl (Qt_fieldAddr 2 rfl rfl) rfl ?_
          refine DL_q hns5 rfl (Qt_fieldAddr 2 rfl rfl) rfl ?_
          refine DL_q hns5 rfl (Qt_load1 rfl) rfl ?_
          refine DL_q hns5 rfl (Qt_neq rfl rfl) rfl ?_
          refine DL_q hns5 rfl (Qt_assign (.bool _) rfl) rfl ?_
          refine DL_nil ?_
          refine X_then ?_
          refine T_cond rfl (fun h42 => ?_) (fun h42 => ?_)
          ·
            have p42 := h42
            try simp only [decide_eq_true_eq, decide_eq_false_iff_not, Bool.not_eq_true', Bool.not_eq_false', Option.isNone_iff_eq_none, ne_eq, Decidable.not_not, Int.not_lt, Int.not_le] at p42
            refine T_seq ?_
            refine T_region ?_
            refine TL_q (Qt_assign (.int .i64 _) rfl) rfl ?_
            refine TL_nil ?_
            refine X_then ?_
            refine T_ret ?_
            refine X_block_ret ?_
            refine X_then_ret ?_
            have e : (takeM (ls.map BS.l) num mk es c l) = (9, es, c) := by rw [takeM, if_neg (by omega), if_neg (by omega), if_pos (by rw [← hvw]; simpa using h42)]
            rw [e]
            exact X_ret () [_] Try.results12 ⟨rfl, trivial⟩ rfl (Subs.st inferInstance)
          ·
            have p42 := h42
            try simp only [decide_eq_true_eq, decide_eq_false_iff_not, Bool.not_eq_true', Bool.not_eq_false', Option.isNone_iff_eq_none, ne_eq, Decidable.not_not, Int.not_lt, Int.not_le] at p42
            have hvn : (openOfK (ls.map BS.l) mk l).2.view = num := by rw [← hvw]; simpa using h42
            refine T_seq ?_
            refine T_region ?_
            refine TL_q (Qt_move (.bool _) rfl) rfl ?_
            refine TL_q (Qt_move (.bool _) rfl) rfl ?_
            refine TL_split 53 rfl (fun h53 => ?_) (fun h53 => ?_)
            ·
              have p53 := h53
              try simp only [decide_eq_true_eq, decide_eq_false_iff_not, Bool.not_eq_true', Bool.not_eq_false', Option.isNone_iff_eq_none, ne_eq, Decidable.not_not, Int.not_lt, Int.not_le] at p53
              refine TL_take rfl rfl h53 ?_
              refine TL_q (Qt_fieldAddr 3 rfl rfl) rfl ?_
              refine TL_take rfl rfl h53 ?_
              refine TL_q (Qt_load1 rfl) rfl ?_
              refine TL_take rfl rfl h53 ?_
              refine TL_q (Qt_move (.int .i64 _) rfl) rfl ?_
              refine TL_take rfl rfl h53 ?_
              refine TL_q (Qt_leq rfl rfl) rfl ?_
              refine TL_q (Qt_pick_t (.bool _) rfl h53 rfl) rfl ?_
              refine TL_q (Qt_assign (.bool _) rfl) rfl ?_
              refine TL_nil ?_
              refine X_then ?_
              refine T_cond rfl (fun h51 => ?_) (fun h51 => ?_)
              ·
                have p51 := h51
                try simp only [decide_eq_true_eq, decide_eq_false_iff_not, Bool.not_eq_true', Bool.not_eq_false', Option.isNone_iff_eq_none, ne_eq, Decidable.not_not, Int.not_lt, Int.not_le] at p51
                refine T_seq ?_
                refine T_region ?_
                refine TL_q (Qt_assign (.int .i64 _) rfl) rfl ?_
                refine TL_nil ?_
                refine X_then ?_
                refine T_ret ?_
                refine X_block_ret ?_
                refine X_then_ret ?_
                have e : (takeM (ls.map BS.l) num mk es c l) = (7, es, c) := by rw [takeM, if_neg (by omega), if_neg (by omega), if_neg (by omega), if_pos (by rw [← hfr, ← hrg]; exact ⟨h53, of_decide_eq_true h51⟩)]
                rw [e]
                exact X_ret () [_] Try.results12 ⟨rfl, trivial⟩ rfl (Subs.st inferInstance)
              ·
                have p51 := h51
                try simp only [decide_eq_true_eq, decide_eq_false_iff_not, Bool.not_eq_true', Bool.not_eq_false', Option.isNone_iff_eq_none, ne_eq, Decidable.not_not, Int.not_lt, Int.not_le] at p51
                refine T_skip ?_
                refine X_block ?_
                refine X_then ?_
                refine T_seq ?_
                refine T_draw (blk b5 (.cells x21.1.cells 43 (0, 0)) :: blk p (.cells (StopsV.mk (KeysV.mk ⟨sa, sc, ls⟩ rt) (ViewV.mk num (mk : Int)) (some r)).cells 75 (0, 0)) :: H) [(0, true), (1, true), (2, true), (3, true), (4, true), (5, true), (6, true), (7, true), (8, false)] (by kernel_rfl) (by kernel_rfl) rfl (by kernel_rfl) (Subs.st inferInstance) (fun hns6 => ?_)
                refine DL_q hns6 rfl (Qt_move (.pointer _) rfl) rfl ?_
                refine DL_q hns6 rfl (Qt_nilCheck rfl) rfl ?_
                refine DL_q hns6 rfl (Qt_fieldAddr 4 rfl rfl) rfl ?_
                refine DL_q hns6 rfl (Qt_load1 rfl) rfl ?_
                refine DL_q hns6 rfl (Qt_fieldAddr 1 rfl rfl) rfl ?_
                refine DL_q hns6 rfl (Qt_load1 rfl) rfl ?_
                refine DL_q hns6 rfl (Qt_fieldAddr 3 rfl rfl) rfl ?_
                refine DL_q hns6 rfl (Qt_load1 rfl) rfl ?_
                refine DL_n rfl (Ef_mapUpdate (key := x21.1.frm) (enc := encI) (ev := encI) (x21.1.reg) rfl rfl rfl Try.underlying73 (⟨(Subs.st inferInstance), ?_⟩))
                refine DL_nil ?_
                refine X_then ?_
                refine T_seq ?_
                refine T_region ?_
                refine TL_q (Qt_assign (.int .i64 _) rfl) rfl ?_
                refine TL_nil ?_
                refine X_then ?_
                refine T_ret ?_
                have e : (takeM (ls.map BS.l) num mk es c l) = (0, putE es x21.1.frm x21.1.reg c, clockE es x21.1.frm c) := by rw [takeM, if_neg (by omega), if_neg (by omega), if_neg (by omega), if_neg (by rw [← hfr, ← hrg]; rintro ⟨h1, h2⟩; simp_all <;> omega), hfr, hrg]
                rw [e]
                exact X_ret () [_] Try.results12 ⟨rfl, trivial⟩ rfl (Subs.st inferInstance)
            ·
              have p53 := h53
              try simp only [decide_eq_true_eq, decide_eq_false_iff_not, Bool.not_eq_true', Bool.not_eq_false', Option.isNone_iff_eq_none, ne_eq, Decidable.not_not, Int.not_lt, Int.not_le] at p53
              refine TL_pass rfl rfl h53 rfl ?_
              refine TL_pass rfl rfl h53 rfl ?_
              refine TL_pass rfl rfl h53 rfl ?_
              refine TL_pass rfl rfl h53 rfl ?_
              refine TL_q (Qt_pick_f (.bool _) rfl h53 rfl) rfl ?_
              refine TL_q (Qt_assign (.bool _) rfl) rfl ?_
              refine TL_nil ?_
              refine X_then ?_
              refine T_cond_false rfl rfl ?_
              refine T_skip ?_
              refine X_block ?_
              refine X_then ?_
              refine T_seq ?_
              refine T_draw (blk b5 (.cells x21.1.cells 43 (0, 0)) :: blk p (.cells (StopsV.mk (KeysV.mk ⟨sa, sc, ls⟩ rt) (ViewV.mk num (mk : Int)) (some r)).cells 75 (0, 0)) :: H) [(0, true), (1, true), (2, true), (3, true), (4, true), (5, true), (6, true), (7, true), (8, false)] (by kernel_rfl) (by kernel_rfl) rfl (by kernel_rfl) (Subs.st inferInstance) (fun hns7 => ?_)
              refine DL_q hns7 rfl (Qt_move (.pointer _) rfl) rfl ?_
              refine DL_q hns7 rfl (Qt_nilCheck rfl) rfl ?_
              refine DL_q hns7 rfl (Qt_fieldAddr 4 rfl rfl) rfl ?_
              refine DL_q hns7 rfl (Qt_load1 rfl) rfl ?_
              refine DL_q hns7 rfl (Qt_fieldAddr 1 rfl rfl) rfl ?_
              refine DL_q hns7 rfl (Qt_load1 rfl) rfl ?_
              refine DL_q hns7 rfl (Qt_fieldAddr 3 rfl rfl) rfl ?_
              refine DL_q hns7 rfl (Qt_load1 rfl) rfl ?_
              refine DL_n rfl (Ef_mapUpdate (key := x21.1.frm) (enc := encI) (ev := encI) (x21.1.reg) rfl rfl rfl Try.underlying73 (⟨(Subs.st inferInstance), ?_⟩))
              refine DL_nil ?_
              refine X_then ?_
              refine T_seq ?_
              refine T_region ?_
              refine TL_q (Qt_assign (.int .i64 _) rfl) rfl ?_
              refine TL_nil ?_
              refine X_then ?_
              refine T_ret ?_
              have e : (takeM (ls.map BS.l) num mk es c l) = (0, putE es x21.1.frm x21.1.reg c, clockE es x21.1.frm c) := by rw [takeM, if_neg (by omega), if_neg (by omega), if_neg (by omega), if_neg (by rw [← hfr, ← hrg]; rintro ⟨h1, h2⟩; simp_all <;> omega), hfr, hrg]
              rw [e]
              exact X_ret () [_] Try.results12 ⟨rfl, trivial⟩ rfl (Subs.st inferInstance)
end
section
open Go.RowKit Go.Sx
set_option maxRecDepth 100000
set_option linter.unusedSimpArgs false
set_option linter.unusedVariables false
def countE (es : EM) (reg : Int) : Nat := (es.filter fun e => decide (reg ≤ e.v)).length
theorem countE_le (es : EM) (reg : Int) : countE es reg ≤ es.length := List.length_filter_le _ _
theorem split_one (f : Ent Int Int → Bool) : ∀ (L : EM) (e : Ent Int Int), (L.map (·.b)).Nodup → e ∈ L → (L.filter f).length = (bif f e then 1 else 0) + ((L.filter fun x => !(x.b == e.b)).filter f).length
  | [], e, _, he => by cases he
  | x :: L, e, hn, he => by
    simp only [List.map_cons, List.nodup_cons] at hn
    rcases List.mem_cons.1 he with rfl | he
    · have h1 : L.filter (fun x => !(x.b == e.b)) = L := List.filter_eq_self.2 fun y hy => by
        have : y.b ≠ e.b := fun h => hn.1 (h ▸ List.mem_map.2 ⟨y, hy, rfl⟩)
        simpa using this
      rw [List.filter_cons (p := fun x : Ent Int Int => !(x.b == e.b))]
      simp only [beq_self_eq_true, Bool.not_true, Bool.false_eq_true, if_false, h1, List.filter_cons]
      cases f e <;> simp [Nat.add_comm]
    · have hne : x.b ≠ e.b := fun h => hn.1 (h ▸ List.mem_map.2 ⟨e, he, rfl⟩)
      have ih := split_one f L e hn.2 he
      rw [List.filter_cons (p := fun x : Ent Int Int => !(x.b == e.b))]
      simp only [show (!(x.b == e.b)) = true from by simpa using hne, if_true, List.filter_cons]
      cases f x
      · simp only [Bool.false_eq_true, if_false]; exact ih
      · simp only [if_true, List.length_cons]; omega
theorem leftE_push (es : EM) (seen : Array Nat) (b : Nat) : leftE es (seen.push b) = (leftE es seen).filter fun x => !(x.b == b) := by
  unfold leftE
  rw [List.filter_filter]
  congr 1
  funext x
  simp only [Array.contains_push, Bool.not_or]
  cases seen.contains x.b <;> cases h : (x.b == b) <;> simp_all
theorem left_nodup {es : EM} {seen : Array Nat} (h : (es.map (·.b)).Nodup) : ((leftE es seen).map (·.b)).Nodup := by
  unfold leftE
  exact h.sublist (List.filter_sublist.map _)
theorem left_less {es : EM} {seen : Array Nat} {e : Ent Int Int} (h : (es.map (·.b)).Nodup) (he : e ∈ leftE es seen) : (leftE es (seen.push e.b)).length < (leftE es seen).length := by
  have := split_one (fun _ => true) _ e (left_nodup (seen := seen) h) he
  rw [leftE_push]
  have e1 : ∀ l : EM, l.filter (fun _ => true) = l := fun l => List.filter_eq_self.2 (fun _ _ => rfl)
  rw [e1, e1] at this
  simp only [cond_true] at this
  omega
theorem left_count {es : EM} {seen : Array Nat} {e : Ent Int Int} (h : (es.map (·.b)).Nodup) (he : e ∈ leftE es seen) (reg : Int) : countE (leftE es seen) reg = (if reg ≤ e.v then 1 else 0) + countE (leftE es (seen.push e.b)) reg := by
  have := split_one (fun x => decide (reg ≤ x.v)) _ e (left_nodup (seen := seen) h) he
  unfold countE
  rw [leftE_push, this]
  by_cases h1 : reg ≤ e.v <;> simp [h1]
theorem left_all (es : EM) : leftE es #[] = es := by simp [leftE]
/-- What greatest answers. -/
def Gr (es : EM) (above many x : Int) : Prop := (x = -1 ∨ (above < x ∧ 0 ≤ x ∧ x ≤ 40 ∧ 0 < many ∧ many ≤ (countE es x : Int))) ∧ ∀ q : Int, x < q → above < q → 0 ≤ q → q ≤ 40 → ¬ (0 < many ∧ many ≤ (countE es q : Int))

set_option maxHeartbeats 1000000 in
theorem scount_c {w0 : World} {H : List SA} {p r c : Nat} {es : EM} {num : Int} {mk : Nat} {sa : Option Addr} {sc : Nat} {ls : List BS} {rt : Sl} (hg : GoodM es c) (hes : es.length ≤ 100000) {reg : Int} :
    CT Try.prog w0 (blk p (.cells (StopsV.mk (KeysV.mk ⟨sa, sc, ls⟩ rt) (ViewV.mk num (mk : Int)) (some r)).cells 75 (0, 0)) :: blk r (mapO encI encI es c) :: H) 15 [.pointer (some ⟨p, 0, none⟩), .int .i64 reg] (α := Unit) (fun _ => .int .i64 (countE es reg : Int)) (fun _ => blk p (.cells (StopsV.mk (KeysV.mk ⟨sa, sc, ls⟩ rt) (ViewV.mk num (mk : Int)) (some r)).cells 75 (0, 0)) :: blk r (mapO encI encI es c) :: H) := by
  refine CT_intro Try.func15 rfl Try.ntmps15 rfl ?_
  refine T_seq ?_
  refine T_region ?_
  refine TL_q (Qt_assign (.int .i64 _) rfl) rfl ?_
  refine TL_nil ?_
  refine X_then ?_
  refine T_seq ?_
  refine T_seq ?_
  refine T_region ?_
  refine TL_q (Qt_move (.pointer _) rfl) rfl ?_
  refine TL_q (Qt_ptr_nil rfl rfl Try.underlying51) rfl ?_
  refine TL_nil ?_
  refine X_then ?_
  refine T_cond rfl (fun h9 => ?_) (fun h9 => ?_)
  ·
    have p9 := h9
    try simp only [decide_eq_true_eq, decide_eq_false_iff_not, Bool.not_eq_true', Bool.not_eq_false', Option.isNone_iff_eq_none, ne_eq, Decidable.not_not, Int.not_lt, Int.not_le] at p9
    cases h9
  ·
    have p9 := h9
    try simp only [decide_eq_true_eq, decide_eq_false_iff_not, Bool.not_eq_true', Bool.not_eq_false', Option.isNone_iff_eq_none, ne_eq, Decidable.not_not, Int.not_lt, Int.not_le] at p9
    refine T_skip ?_
    refine X_then ?_
    refine T_seq ?_
    refine T_region ?_
    refine TL_q (Qt_assign (.int .i64 _) rfl) rfl ?_
    refine TL_nil ?_
    refine X_then ?_
    refine T_seq ?_
    refine T_seq ?_
    refine T_region ?_
    refine TL_q (Qt_move (.pointer _) rfl) rfl ?_
    refine TL_q (Qt_nilCheck rfl) rfl ?_
    refine TL_q (Qt_fieldAddr 4 rfl rfl) rfl ?_
    refine TL_q (Qt_load1 rfl) rfl ?_
    refine TL_e rfl (Ef_range rfl Try.underlying73 (fun it14 => ?_))
    refine TL_nil ?_
    refine X_then ?_
    refine T_block ?_
    refine T_loopg (m0 := (leftE es #[]).length) [5, 7, 15, 16, 17, 18, 19, 20, 21, 22, 23] [5] (fun us H' m => ∃ (n : Nat) (seen : Array Nat), us = [.int .i64 (n : Int)] ∧ blk it14 (.mapIter (some r) c seen c) :: blk p (.cells (StopsV.mk (KeysV.mk ⟨sa, sc, ls⟩ rt) (ViewV.mk num (mk : Int)) (some r)).cells 75 (0, 0)) :: blk r (mapO encI encI es c) :: H = H' ∧ m = (leftE es seen).length ∧ n + countE (leftE es seen) reg = countE es reg) ⟨0, #[], rfl, rfl, rfl, by rw [left_all, Nat.zero_add]⟩ (Subs.st inferInstance) ?_
    rintro τ0 _ _ m ⟨n, seen, rfl, rfl, rfl, hn⟩ _
    refine T_seq ?_
    refine T_region ?_
    refine TL_e rfl (Ef_next rfl hg.lt hg.lt (fun hz15 => ?_) (fun en15 hen15 => ?_))
    ·
      rw [hz15] at hn
      have hn2 : n = countE es reg := hn
      rw [hn2]
      refine TL_q (Qt_extract rfl) rfl ?_
      refine TL_nil ?_
      refine X_then ?_
      refine T_seq ?_
      refine T_cond_false rfl rfl ?_
      refine T_exit ?_
      refine X_then_exit ?_
      refine X_loopg_exit ?_
      refine X_block_exit ?_
      refine X_then ?_
      refine T_seq ?_
      refine T_region ?_
      refine TL_q (Qt_move (.int .i64 _) rfl) rfl ?_
      refine TL_q (Qt_assign (.int .i64 _) rfl) rfl ?_
      refine TL_nil ?_
      refine X_then ?_
      refine T_ret ?_
      exact X_ret () [_] Try.results15 ⟨rfl, trivial⟩ rfl (Subs.st inferInstance)
    ·
      have hmem : en15 ∈ es := (List.mem_filter.1 hen15).1
      refine TL_q (Qt_extract rfl) rfl ?_
      refine TL_nil ?_
      refine X_then ?_
      refine T_seq ?_
      refine T_cond_true rfl rfl ?_
      refine T_skip ?_
      refine X_then ?_
      refine T_block ?_
      refine T_seq ?_
      refine T_region ?_
      refine TL_q (Qt_entry en15 rfl hmem hg.born) rfl ?_
      refine TL_q (Qt_extract rfl) rfl ?_
      refine TL_q (Qt_assign (.int .i64 _) rfl) rfl ?_
      refine TL_nil ?_
      refine X_then ?_
      refine T_seq ?_
      refine T_region ?_
      refine TL_q (Qt_move (.int .i64 _) rfl) rfl ?_
      refine TL_q (Qt_move (.int .i64 _) rfl) rfl ?_
      refine TL_q (Qt_geq rfl rfl) rfl ?_
      refine TL_nil ?_
      refine X_then ?_
      refine T_cond rfl (fun h21 => ?_) (fun h21 => ?_)
      ·
        have p21 := h21
        try simp only [decide_eq_true_eq, decide_eq_false_iff_not, Bool.not_eq_true', Bool.not_eq_false', Option.isNone_iff_eq_none, ne_eq, Decidable.not_not, Int.not_lt, Int.not_le] at p21
        refine T_region ?_
        refine TL_q (Qt_move (.int .i64 _) rfl) rfl ?_
        have hb1 := countE_le es reg
        have hb2 := left_count hg.born hen15 reg
        rw [if_pos (by omega)] at hb2
        refine TL_q (Qt_val (Qt_add rfl rfl (by omega) (by omega)) (congrArg (Value.int .i64) (show (n : Int) + 1 = ((n + 1 : Nat) : Int) from by omega))) rfl ?_
        refine TL_q (Qt_assign (.int .i64 _) rfl) rfl ?_
        refine TL_nil ?_
        refine X_block ?_
        refine X_loopg _ (by repeat (first | with_reducible exact agree_refl | refine agree_upd rfl ?_ | refine agree_mix rfl ?_ | refine agree_setAll rfl ?_)) (⟨_, seen.push en15.b, rfl, rfl, rfl, by have := left_count hg.born hen15 reg; first | (rw [if_pos (by omega)] at this; omega) | (rw [if_neg (by omega)] at this; omega)⟩) (left_less hg.born hen15) ((Subs.st inferInstance))
      ·
        have p21 := h21
        try simp only [decide_eq_true_eq, decide_eq_false_iff_not, Bool.not_eq_true', Bool.not_eq_false', Option.isNone_iff_eq_none, ne_eq, Decidable.not_not, Int.not_lt, Int.not_le] at p21
        refine T_skip ?_
        refine X_block ?_
        refine X_loopg _ (by repeat (first | with_reducible exact agree_refl | refine agree_upd rfl ?_ | refine agree_mix rfl ?_ | refine agree_setAll rfl ?_)) (⟨_, seen.push en15.b, rfl, rfl, rfl, by have := left_count hg.born hen15 reg; first | (rw [if_pos (by omega)] at this; omega) | (rw [if_neg (by omega)] at this; omega)⟩) (left_less hg.born hen15) ((Subs.st inferInstance))
set_option maxHeartbeats 1000000 in
theorem sgreat_c {w0 : World} {H : List SA} {p r c : Nat} {es : EM} {num : Int} {mk : Nat} {sa : Option Addr} {sc : Nat} {ls : List BS} {rt : Sl} (hg : GoodM es c) (hes : es.length ≤ 100000) {above many : Int} :
    CT Try.prog w0 (blk p (.cells (StopsV.mk (KeysV.mk ⟨sa, sc, ls⟩ rt) (ViewV.mk num (mk : Int)) (some r)).cells 75 (0, 0)) :: blk r (mapO encI encI es c) :: H) 28 [.pointer (some ⟨p, 0, none⟩), .int .i64 above, .int .i64 many] (α := Int) (fun x => .int .i64 x) (fun x => pu (Gr es above many x) :: blk p (.cells (StopsV.mk (KeysV.mk ⟨sa, sc, ls⟩ rt) (ViewV.mk num (mk : Int)) (some r)).cells 75 (0, 0)) :: blk r (mapO encI encI es c) :: H) := by
  refine CT_intro Try.func28 rfl Try.ntmps28 rfl ?_
  refine T_seq ?_
  refine T_region ?_
  refine TL_q (Qt_assign (.int .i64 _) rfl) rfl ?_
  refine TL_nil ?_
  refine X_then ?_
  refine T_seq ?_
  refine T_seq ?_
  refine T_region ?_
  refine TL_q (Qt_assign (.int .i64 _) rfl) rfl ?_
  refine TL_nil ?_
  refine X_then ?_
  refine T_block ?_
  refine T_loop [6, 7, 8, 9, 10, 11, 12, 13, 14, 15, 16, 17, 18, 19, 20, 21, 22, 23, 24, 25, 26] [7] (fun us H' => ∃ (x : Int), us = [.int .i64 x] ∧ blk p (.cells (StopsV.mk (KeysV.mk ⟨sa, sc, ls⟩ rt) (ViewV.mk num (mk : Int)) (some r)).cells 75 (0, 0)) :: blk r (mapO encI encI es c) :: H = H' ∧ -1 ≤ x ∧ x ≤ 40 ∧ ∀ q : Int, x < q → above < q → 0 ≤ q → q ≤ 40 → ¬ (0 < many ∧ many ≤ (countE es q : Int))) (fun us => match us with | .int _ i :: _ => (i + 1).toNat | _ => 0) ⟨40, rfl, rfl, by omega, by omega, fun q h1 _ _ h2 => by omega⟩ (Subs.st inferInstance) ?_
  rintro τ0 _ _  ⟨x, rfl, rfl, hx0, hx1, hq⟩ _
  refine T_seq ?_
  refine T_seq ?_
  refine T_region ?_
  refine TL_q (Qt_move (.int .i64 _) rfl) rfl ?_
  refine TL_q (Qt_move (.int .i64 _) rfl) rfl ?_
  refine TL_q (Qt_gtr rfl rfl) rfl ?_
  refine TL_q (Qt_move (.bool _) rfl) rfl ?_
  refine TL_split 11 rfl (fun h11 => ?_) (fun h11 => ?_)
  ·
    have p11 := h11
    try simp only [decide_eq_true_eq, decide_eq_false_iff_not, Bool.not_eq_true', Bool.not_eq_false', Option.isNone_iff_eq_none, ne_eq, Decidable.not_not, Int.not_lt, Int.not_le] at p11
    refine TL_take rfl rfl h11 ?_
    refine TL_q (Qt_move (.int .i64 _) rfl) rfl ?_
    refine TL_take rfl rfl h11 ?_
    refine TL_q (Qt_geq rfl rfl) rfl ?_
    refine TL_q (Qt_pick_t (.bool _) rfl h11 rfl) rfl ?_
    refine TL_nil ?_
    refine X_then ?_
    refine T_cond rfl (fun h14 => ?_) (fun h14 => ?_)
    ·
      have p14 := h14
      try simp only [decide_eq_true_eq, decide_eq_false_iff_not, Bool.not_eq_true', Bool.not_eq_false', Option.isNone_iff_eq_none, ne_eq, Decidable.not_not, Int.not_lt, Int.not_le] at p14
      refine T_skip ?_
      refine X_then ?_
      refine T_seq ?_
      refine T_block ?_
      refine T_seq ?_
      refine T_region ?_
      refine TL_q (Qt_move (.int .i64 _) rfl) rfl ?_
      refine TL_q (Qt_gtr rfl rfl) rfl ?_
      refine TL_q (Qt_move (.bool _) rfl) rfl ?_
      refine TL_split 19 rfl (fun h19 => ?_) (fun h19 => ?_)
      ·
        have p19 := h19
        try simp only [decide_eq_true_eq, decide_eq_false_iff_not, Bool.not_eq_true', Bool.not_eq_false', Option.isNone_iff_eq_none, ne_eq, Decidable.not_not, Int.not_lt, Int.not_le] at p19
        refine TL_take rfl rfl h19 ?_
        refine TL_q (Qt_move (.pointer _) rfl) rfl ?_
        refine TL_take rfl rfl h19 ?_
        refine TL_q (Qt_move (.int .i64 _) rfl) rfl ?_
        refine TL_take rfl rfl h19 ?_
        refine TL_e rfl (Ef_call (scount_c hg hes) rfl (fun x22 => ?_))
        refine TL_take rfl rfl h19 ?_
        refine TL_q (Qt_move (.int .i64 _) rfl) rfl ?_
        refine TL_take rfl rfl h19 ?_
        refine TL_q (Qt_geq rfl rfl) rfl ?_
        refine TL_q (Qt_pick_t (.bool _) rfl h19 rfl) rfl ?_
        refine TL_nil ?_
        refine X_then ?_
        refine T_cond rfl (fun h25 => ?_) (fun h25 => ?_)
        ·
          have p25 := h25
          try simp only [decide_eq_true_eq, decide_eq_false_iff_not, Bool.not_eq_true', Bool.not_eq_false', Option.isNone_iff_eq_none, ne_eq, Decidable.not_not, Int.not_lt, Int.not_le] at p25
          refine T_seq ?_
          refine T_region ?_
          refine TL_q (Qt_move (.int .i64 _) rfl) rfl ?_
          refine TL_q (Qt_assign (.int .i64 _) rfl) rfl ?_
          refine TL_nil ?_
          refine X_then ?_
          refine T_ret ?_
          refine X_block_ret ?_
          refine X_then_ret ?_
          refine X_loop_ret ?_
          refine X_block_ret ?_
          refine X_then_ret ?_
          exact X_ret x [_] Try.results28 ⟨rfl, trivial⟩ rfl (fun w hw => (Subs.st inferInstance w hw : St w0 (blk p (.cells (StopsV.mk (KeysV.mk ⟨sa, sc, ls⟩ rt) (ViewV.mk num (mk : Int)) (some r)).cells 75 (0, 0)) :: blk r (mapO encI encI es c) :: H) w).addPure ⟨.inr ⟨by omega, by omega, by omega, by omega, by omega⟩, hq⟩)
        ·
          have p25 := h25
          try simp only [decide_eq_true_eq, decide_eq_false_iff_not, Bool.not_eq_true', Bool.not_eq_false', Option.isNone_iff_eq_none, ne_eq, Decidable.not_not, Int.not_lt, Int.not_le] at p25
          refine T_skip ?_
          refine X_block ?_
          refine X_then ?_
          refine T_region ?_
          refine TL_q (Qt_move (.int .i64 _) rfl) rfl ?_
          first
            | refine TL_q (Qt_sub rfl rfl (by omega) (by omega)) rfl ?_
            | refine TL_q (Qt_subw rfl rfl) rfl ?_
          refine TL_q (Qt_assign (.int .i64 _) rfl) rfl ?_
          refine TL_nil ?_
          refine X_loop _ (by repeat (first | with_reducible exact agree_refl | refine agree_upd rfl ?_ | refine agree_mix rfl ?_ | refine agree_setAll rfl ?_)) (⟨x - 1, rfl, rfl, by omega, by omega, fun q h1 h2 h3 h4 => by rcases Int.lt_or_le x q with h5 | h5; exact hq q h5 h2 h3 h4; obtain rfl : q = x := (by omega); omega⟩) (by show (x - 1 + 1).toNat < (x + 1).toNat; omega) ((Subs.st inferInstance))
      ·
        have p19 := h19
        try simp only [decide_eq_true_eq, decide_eq_false_iff_not, Bool.not_eq_true', Bool.not_eq_false', Option.isNone_iff_eq_none, ne_eq, Decidable.not_not, Int.not_lt, Int.not_le] at p19
        refine TL_pass rfl rfl h19 rfl ?_
        refine TL_pass rfl rfl h19 rfl ?_
        refine TL_pass rfl rfl h19 rfl ?_
        refine TL_pass rfl rfl h19 rfl ?_
        refine TL_pass rfl rfl h19 rfl ?_
        refine TL_q (Qt_pick_f (.bool _) rfl h19 rfl) rfl ?_
        refine TL_nil ?_
        refine X_then ?_
        refine T_cond_false rfl rfl ?_
        refine T_skip ?_
        refine X_block ?_
        refine X_then ?_
        refine T_region ?_
        refine TL_q (Qt_move (.int .i64 _) rfl) rfl ?_
        first
          | refine TL_q (Qt_sub rfl rfl (by omega) (by omega)) rfl ?_
          | refine TL_q (Qt_subw rfl rfl) rfl ?_
        refine TL_q (Qt_assign (.int .i64 _) rfl) rfl ?_
        refine TL_nil ?_
        refine X_loop _ (by repeat (first | with_reducible exact agree_refl | refine agree_upd rfl ?_ | refine agree_mix rfl ?_ | refine agree_setAll rfl ?_)) (⟨x - 1, rfl, rfl, by omega, by omega, fun q h1 h2 h3 h4 => by rcases Int.lt_or_le x q with h5 | h5; exact hq q h5 h2 h3 h4; obtain rfl : q = x := (by omega); omega⟩) (by show (x - 1 + 1).toNat < (x + 1).toNat; omega) ((Subs.st inferInstance))
    ·
      have p14 := h14
      try simp only [decide_eq_true_eq, decide_eq_false_iff_not, Bool.not_eq_true', Bool.not_eq_false', Option.isNone_iff_eq_none, ne_eq, Decidable.not_not, Int.not_lt, Int.not_le] at p14
      refine T_exit ?_
      refine X_then_exit ?_
      refine X_loop_exit ?_
      refine X_block_exit ?_
      refine X_then ?_
      refine T_seq ?_
      refine T_region ?_
      refine TL_q (Qt_assign (.int .i64 _) rfl) rfl ?_
      refine TL_nil ?_
      refine X_then ?_
      refine T_ret ?_
      exact X_ret (-1) [_] Try.results28 ⟨rfl, trivial⟩ rfl (fun w hw => (Subs.st inferInstance w hw : St w0 (blk p (.cells (StopsV.mk (KeysV.mk ⟨sa, sc, ls⟩ rt) (ViewV.mk num (mk : Int)) (some r)).cells 75 (0, 0)) :: blk r (mapO encI encI es c) :: H) w).addPure ⟨.inl rfl, fun q h1 h2 h3 h4 => by rcases Int.lt_or_le x q with h5 | h5; exact hq q h5 h2 h3 h4; omega⟩)
  ·
    have p11 := h11
    try simp only [decide_eq_true_eq, decide_eq_false_iff_not, Bool.not_eq_true', Bool.not_eq_false', Option.isNone_iff_eq_none, ne_eq, Decidable.not_not, Int.not_lt, Int.not_le] at p11
    refine TL_pass rfl rfl h11 rfl ?_
    refine TL_pass rfl rfl h11 rfl ?_
    refine TL_q (Qt_pick_f (.bool _) rfl h11 rfl) rfl ?_
    refine TL_nil ?_
    refine X_then ?_
    refine T_cond_false rfl rfl ?_
    refine T_exit ?_
    refine X_then_exit ?_
    refine X_loop_exit ?_
    refine X_block_exit ?_
    refine X_then ?_
    refine T_seq ?_
    refine T_region ?_
    refine TL_q (Qt_assign (.int .i64 _) rfl) rfl ?_
    refine TL_nil ?_
    refine X_then ?_
    refine T_ret ?_
    exact X_ret (-1) [_] Try.results28 ⟨rfl, trivial⟩ rfl (fun w hw => (Subs.st inferInstance w hw : St w0 (blk p (.cells (StopsV.mk (KeysV.mk ⟨sa, sc, ls⟩ rt) (ViewV.mk num (mk : Int)) (some r)).cells 75 (0, 0)) :: blk r (mapO encI encI es c) :: H) w).addPure ⟨.inl rfl, fun q h1 h2 h3 h4 => by rcases Int.lt_or_le x q with h5 | h5; exact hq q h5 h2 h3 h4; omega⟩)
set_option maxHeartbeats 1000000 in
theorem ssome_c {w0 : World} {H : List SA} {p r c : Nat} {es : EM} {num : Int} {mk : Nat} {sa : Option Addr} {sc : Nat} {ls : List BS} {rt : Sl} (hg : GoodM es c) (hes : es.length ≤ 100000) (hmk : mk < 65536) {above : Int} :
    CT Try.prog w0 (blk p (.cells (StopsV.mk (KeysV.mk ⟨sa, sc, ls⟩ rt) (ViewV.mk num (mk : Int)) (some r)).cells 75 (0, 0)) :: blk r (mapO encI encI es c) :: H) 13 [.pointer (some ⟨p, 0, none⟩), .int .i64 above] (α := Int) (fun x => .int .i64 x) (fun x => pu (Gr es above (someV num mk : Int) x) :: blk p (.cells (StopsV.mk (KeysV.mk ⟨sa, sc, ls⟩ rt) (ViewV.mk num (mk : Int)) (some r)).cells 75 (0, 0)) :: blk r (mapO encI encI es c) :: H) := by
  refine CT_intro Try.func13 rfl Try.ntmps13 rfl ?_
  refine T_seq ?_
  refine T_region ?_
  refine TL_q (Qt_assign (.int .i64 _) rfl) rfl ?_
  refine TL_nil ?_
  refine X_then ?_
  refine T_seq ?_
  refine T_seq ?_
  refine T_region ?_
  refine TL_q (Qt_move (.pointer _) rfl) rfl ?_
  refine TL_q (Qt_ptr_nil rfl rfl Try.underlying51) rfl ?_
  refine TL_nil ?_
  refine X_then ?_
  refine T_cond rfl (fun h6 => ?_) (fun h6 => ?_)
  ·
    have p6 := h6
    try simp only [decide_eq_true_eq, decide_eq_false_iff_not, Bool.not_eq_true', Bool.not_eq_false', Option.isNone_iff_eq_none, ne_eq, Decidable.not_not, Int.not_lt, Int.not_le] at p6
    cases h6
  ·
    have p6 := h6
    try simp only [decide_eq_true_eq, decide_eq_false_iff_not, Bool.not_eq_true', Bool.not_eq_false', Option.isNone_iff_eq_none, ne_eq, Decidable.not_not, Int.not_lt, Int.not_le] at p6
    refine T_skip ?_
    refine X_then ?_
    refine T_seq ?_
    refine T_region ?_
    refine TL_q (Qt_move (.pointer _) rfl) rfl ?_
    refine TL_q (Qt_move (.int .i64 _) rfl) rfl ?_
    refine TL_q (Qt_move (.pointer _) rfl) rfl ?_
    refine TL_q (Qt_nilCheck rfl) rfl ?_
    refine TL_q (Qt_fieldAddr 2 rfl rfl) rfl ?_
    refine TL_q (Qt_loadN rfl rfl) rfl ?_
    refine TL_e rfl (Ef_call (some_v hmk) rfl (fun x13 => ?_))
    refine TL_e rfl (Ef_call (sgreat_c hg hes) rfl (fun x14 => ?_))
    refine TL_pure (fun hgr => ?_)
    refine TL_q (Qt_assign (.int .i64 _) rfl) rfl ?_
    refine TL_nil ?_
    refine X_then ?_
    refine T_ret ?_
    exact X_ret x14 [_] Try.results13 ⟨rfl, trivial⟩ rfl (fun w hw => (Subs.st inferInstance w hw : St w0 (blk p (.cells (StopsV.mk (KeysV.mk ⟨sa, sc, ls⟩ rt) (ViewV.mk num (mk : Int)) (some r)).cells 75 (0, 0)) :: blk r (mapO encI encI es c) :: H) w).addPure hgr)
set_option maxHeartbeats 1000000 in
theorem ssomeNil_c {w0 : World} {H : List SA} {above : Int} :
    CT Try.prog w0 (H) 13 [.pointer none, .int .i64 above] (α := Unit) (fun _ => .int .i64 (-1)) (fun _ => H) := by
  refine CT_intro Try.func13 rfl Try.ntmps13 rfl ?_
  refine T_seq ?_
  refine T_region ?_
  refine TL_q (Qt_assign (.int .i64 _) rfl) rfl ?_
  refine TL_nil ?_
  refine X_then ?_
  refine T_seq ?_
  refine T_seq ?_
  refine T_region ?_
  refine TL_q (Qt_move (.pointer _) rfl) rfl ?_
  refine TL_q (Qt_ptr_nil rfl rfl Try.underlying51) rfl ?_
  refine TL_nil ?_
  refine X_then ?_
  refine T_cond rfl (fun h6 => ?_) (fun h6 => ?_)
  ·
    have p6 := h6
    try simp only [decide_eq_true_eq, decide_eq_false_iff_not, Bool.not_eq_true', Bool.not_eq_false', Option.isNone_iff_eq_none, ne_eq, Decidable.not_not, Int.not_lt, Int.not_le] at p6
    refine T_seq ?_
    refine T_region ?_
    refine TL_q (Qt_assign (.int .i64 _) rfl) rfl ?_
    refine TL_nil ?_
    refine X_then ?_
    refine T_ret ?_
    refine X_then_ret ?_
    exact X_ret () [_] Try.results13 ⟨rfl, trivial⟩ rfl (Subs.st inferInstance)
  ·
    have p6 := h6
    try simp only [decide_eq_true_eq, decide_eq_false_iff_not, Bool.not_eq_true', Bool.not_eq_false', Option.isNone_iff_eq_none, ne_eq, Decidable.not_not, Int.not_lt, Int.not_le] at p6
    cases h6
set_option maxHeartbeats 1000000 in
theorem senough_c {w0 : World} {H : List SA} {p r c : Nat} {es : EM} {num : Int} {mk : Nat} {sa : Option Addr} {sc : Nat} {ls : List BS} {rt : Sl} (hg : GoodM es c) (hes : es.length ≤ 100000) (hmk : mk < 65536) {above : Int} :
    CT Try.prog w0 (blk p (.cells (StopsV.mk (KeysV.mk ⟨sa, sc, ls⟩ rt) (ViewV.mk num (mk : Int)) (some r)).cells 75 (0, 0)) :: blk r (mapO encI encI es c) :: H) 14 [.pointer (some ⟨p, 0, none⟩), .int .i64 above] (α := Int) (fun x => .int .i64 x) (fun x => pu (Gr es above (enoughV num mk : Int) x) :: blk p (.cells (StopsV.mk (KeysV.mk ⟨sa, sc, ls⟩ rt) (ViewV.mk num (mk : Int)) (some r)).cells 75 (0, 0)) :: blk r (mapO encI encI es c) :: H) := by
  refine CT_intro Try.func14 rfl Try.ntmps14 rfl ?_
  refine T_seq ?_
  refine T_region ?_
  refine TL_q (Qt_assign (.int .i64 _) rfl) rfl ?_
  refine TL_nil ?_
  refine X_then ?_
  refine T_seq ?_
  refine T_seq ?_
  refine T_region ?_
  refine TL_q (Qt_move (.pointer _) rfl) rfl ?_
  refine TL_q (Qt_ptr_nil rfl rfl Try.underlying51) rfl ?_
  refine TL_nil ?_
  refine X_then ?_
  refine T_cond rfl (fun h6 => ?_) (fun h6 => ?_)
  ·
    have p6 := h6
    try simp only [decide_eq_true_eq, decide_eq_false_iff_not, Bool.not_eq_true', Bool.not_eq_false', Option.isNone_iff_eq_none, ne_eq, Decidable.not_not, Int.not_lt, Int.not_le] at p6
    cases h6
  ·
    have p6 := h6
    try simp only [decide_eq_true_eq, decide_eq_false_iff_not, Bool.not_eq_true', Bool.not_eq_false', Option.isNone_iff_eq_none, ne_eq, Decidable.not_not, Int.not_lt, Int.not_le] at p6
    refine T_skip ?_
    refine X_then ?_
    refine T_seq ?_
    refine T_region ?_
    refine TL_q (Qt_move (.pointer _) rfl) rfl ?_
    refine TL_q (Qt_move (.int .i64 _) rfl) rfl ?_
    refine TL_q (Qt_move (.pointer _) rfl) rfl ?_
    refine TL_q (Qt_nilCheck rfl) rfl ?_
    refine TL_q (Qt_fieldAddr 2 rfl rfl) rfl ?_
    refine TL_q (Qt_loadN rfl rfl) rfl ?_
    refine TL_e rfl (Ef_call (enough_v hmk) rfl (fun x13 => ?_))
    refine TL_e rfl (Ef_call (sgreat_c hg hes) rfl (fun x14 => ?_))
    refine TL_pure (fun hgr => ?_)
    refine TL_q (Qt_assign (.int .i64 _) rfl) rfl ?_
    refine TL_nil ?_
    refine X_then ?_
    refine T_ret ?_
    exact X_ret x14 [_] Try.results14 ⟨rfl, trivial⟩ rfl (fun w hw => (Subs.st inferInstance w hw : St w0 (blk p (.cells (StopsV.mk (KeysV.mk ⟨sa, sc, ls⟩ rt) (ViewV.mk num (mk : Int)) (some r)).cells 75 (0, 0)) :: blk r (mapO encI encI es c) :: H) w).addPure hgr)
set_option maxHeartbeats 1000000 in
theorem senoughNil_c {w0 : World} {H : List SA} {above : Int} :
    CT Try.prog w0 (H) 14 [.pointer none, .int .i64 above] (α := Unit) (fun _ => .int .i64 (-1)) (fun _ => H) := by
  refine CT_intro Try.func14 rfl Try.ntmps14 rfl ?_
  refine T_seq ?_
  refine T_region ?_
  refine TL_q (Qt_assign (.int .i64 _) rfl) rfl ?_
  refine TL_nil ?_
  refine X_then ?_
  refine T_seq ?_
  refine T_seq ?_
  refine T_region ?_
  refine TL_q (Qt_move (.pointer _) rfl) rfl ?_
  refine TL_q (Qt_ptr_nil rfl rfl Try.underlying51) rfl ?_
  refine TL_nil ?_
  refine X_then ?_
  refine T_cond rfl (fun h6 => ?_) (fun h6 => ?_)
  ·
    have p6 := h6
    try simp only [decide_eq_true_eq, decide_eq_false_iff_not, Bool.not_eq_true', Bool.not_eq_false', Option.isNone_iff_eq_none, ne_eq, Decidable.not_not, Int.not_lt, Int.not_le] at p6
    refine T_seq ?_
    refine T_region ?_
    refine TL_q (Qt_assign (.int .i64 _) rfl) rfl ?_
    refine TL_nil ?_
    refine X_then ?_
    refine T_ret ?_
    refine X_then_ret ?_
    exact X_ret () [_] Try.results14 ⟨rfl, trivial⟩ rfl (Subs.st inferInstance)
  ·
    have p6 := h6
    try simp only [decide_eq_true_eq, decide_eq_false_iff_not, Bool.not_eq_true', Bool.not_eq_false', Option.isNone_iff_eq_none, ne_eq, Decidable.not_not, Int.not_lt, Int.not_le] at p6
    cases h6
set_option maxHeartbeats 1000000 in
theorem stakeNil_c {w0 : World} {H : List SA} {a : Option Addr} {n c : Nat} :
    CT Try.prog w0 (H) 12 [.pointer none, .slice a n c] (α := Unit) (fun _ => .int .i64 16) (fun _ => H) := by
  refine CT_intro Try.func12 rfl Try.ntmps12 rfl ?_
  refine T_seq ?_
  refine T_region ?_
  refine TL_q (Qt_assign (.int .i64 _) rfl) rfl ?_
  refine TL_nil ?_
  refine X_then ?_
  refine T_seq ?_
  refine T_seq ?_
  refine T_region ?_
  refine TL_q (Qt_move (.pointer _) rfl) rfl ?_
  refine TL_q (Qt_ptr_nil rfl rfl Try.underlying51) rfl ?_
  refine TL_nil ?_
  refine X_then ?_
  refine T_cond rfl (fun h10 => ?_) (fun h10 => ?_)
  ·
    have p10 := h10
    try simp only [decide_eq_true_eq, decide_eq_false_iff_not, Bool.not_eq_true', Bool.not_eq_false', Option.isNone_iff_eq_none, ne_eq, Decidable.not_not, Int.not_lt, Int.not_le] at p10
    refine T_seq ?_
    refine T_region ?_
    refine TL_q (Qt_assign (.int .i64 _) rfl) rfl ?_
    refine TL_nil ?_
    refine X_then ?_
    refine T_ret ?_
    refine X_then_ret ?_
    exact X_ret () [_] Try.results12 ⟨rfl, trivial⟩ rfl (Subs.st inferInstance)
  ·
    have p10 := h10
    try simp only [decide_eq_true_eq, decide_eq_false_iff_not, Bool.not_eq_true', Bool.not_eq_false', Option.isNone_iff_eq_none, ne_eq, Decidable.not_not, Int.not_lt, Int.not_le] at p10
    cases h10
set_option maxHeartbeats 1000000 in
theorem scountNil_c {w0 : World} {H : List SA} {reg : Int} :
    CT Try.prog w0 (H) 15 [.pointer none, .int .i64 reg] (α := Unit) (fun _ => .int .i64 0) (fun _ => H) := by
  refine CT_intro Try.func15 rfl Try.ntmps15 rfl ?_
  refine T_seq ?_
  refine T_region ?_
  refine TL_q (Qt_assign (.int .i64 _) rfl) rfl ?_
  refine TL_nil ?_
  refine X_then ?_
  refine T_seq ?_
  refine T_seq ?_
  refine T_region ?_
  refine TL_q (Qt_move (.pointer _) rfl) rfl ?_
  refine TL_q (Qt_ptr_nil rfl rfl Try.underlying51) rfl ?_
  refine TL_nil ?_
  refine X_then ?_
  refine T_cond rfl (fun h9 => ?_) (fun h9 => ?_)
  ·
    have p9 := h9
    try simp only [decide_eq_true_eq, decide_eq_false_iff_not, Bool.not_eq_true', Bool.not_eq_false', Option.isNone_iff_eq_none, ne_eq, Decidable.not_not, Int.not_lt, Int.not_le] at p9
    refine T_seq ?_
    refine T_region ?_
    refine TL_q (Qt_assign (.int .i64 _) rfl) rfl ?_
    refine TL_nil ?_
    refine X_then ?_
    refine T_ret ?_
    refine X_then_ret ?_
    exact X_ret () [_] Try.results15 ⟨rfl, trivial⟩ rfl (Subs.st inferInstance)
  ·
    have p9 := h9
    try simp only [decide_eq_true_eq, decide_eq_false_iff_not, Bool.not_eq_true', Bool.not_eq_false', Option.isNone_iff_eq_none, ne_eq, Decidable.not_not, Int.not_lt, Int.not_le] at p9
    cases h9
end
end Go.Proofs.Ytnijomppbgdmnaa
