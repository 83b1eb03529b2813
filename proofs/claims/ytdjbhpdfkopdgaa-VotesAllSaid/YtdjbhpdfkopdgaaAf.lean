/- Walks of the document's answer: all votes. -/
import Derived.Test.YtdjbhpdfkopdgaaAd
namespace Go.Proofs.Ytdjbhpdfkopdgaa
open Go.RowKit Go.Sx
set_option maxRecDepth 100000
set_option linter.unusedSimpArgs false
set_option linter.unusedVariables false
theorem some_get {o : Option VoteV} (h : o.isSome = true) : o = some (o.getD VoteV.zero) := by cases o with | none => cases h | some u => rfl
theorem none_get {o : Option VoteV} (h : o.isSome = false) : o = none := by cases o with | none => rfl | some u => cases h
set_option maxHeartbeats 1000000 in
theorem rAll_c {w0 : World} {H : List SA} {a : Option Addr} {vs : List VoteV} {c : Nat} [hr : RdC w0 H (.slice a vs.length c) 38 (vs.flatMap VoteV.list)] (hn : vs.length ≤ 1000000) :
    CT Try.prog w0 (H) 26 [.slice a vs.length c] (α := AC) (fun y => .slice y.a (allL vs).length y.c) (fun y => row (.slice y.a (allL vs).length y.c) 27 38 ((allL vs).flatMap VoteV.list) :: H) := by
  refine CT_intro Try.func26 rfl Try.ntmps26 rfl ?_
  refine T_seq ?_
  refine T_region ?_
  refine TL_q (Qt_assign (.slice _ _ _) rfl) rfl ?_
  refine TL_nil ?_
  refine X_then ?_
  refine T_seq ?_
  refine T_region ?_
  refine TL_q (Qt_assign (.slice _ _ _) rfl) rfl ?_
  refine TL_nil ?_
  refine X_then ?_
  refine T_seq ?_
  refine T_region ?_
  refine TL_q (Qt_move (.slice _ _ _) rfl) rfl ?_
  refine TL_e rfl (Ef_call (rReg_c hn) rfl (fun x14 => ?_))
  refine TL_q (Qt_move (.tuple _) rfl) rfl ?_
  refine TL_q (Qt_extract rfl) rfl ?_
  refine TL_q (Qt_extract rfl) rfl ?_
  refine TL_q (Qt_assign (.int .i64 _) rfl) rfl ?_
  refine TL_q (Qt_assign (.int .i64 _) rfl) rfl ?_
  refine TL_nil ?_
  refine X_then ?_
  refine T_seq ?_
  refine T_seq ?_
  refine T_region ?_
  refine TL_q (Qt_move (.int .i64 _) rfl) rfl ?_
  refine TL_q (Qt_geq rfl rfl) rfl ?_
  refine TL_nil ?_
  refine X_then ?_
  refine T_cond rfl (fun h18 => ?_) (fun h18 => ?_)
  ·
    have p18 := h18
    try simp only [decide_eq_true_eq, decide_eq_false_iff_not, Bool.not_eq_true', Bool.not_eq_false', Option.isNone_iff_eq_none, ne_eq, Decidable.not_not, Int.not_lt, Int.not_le] at p18
    have hp : 0 ≤ (regL vs).1 := by omega
    have hrp : regP vs = [(regV (regL vs))] := if_pos hp
    refine T_region ?_
    refine TL_q (Qt_move (.slice _ _ _) rfl) rfl ?_
    refine TL_q (Qt_move (.int .i64 _) rfl) rfl ?_
    refine TL_q (Qt_move (.int .i64 _) rfl) rfl ?_
    refine TL_q (Qt_build [(0, (.int .i64 _)), (1, (.int .i64 _)), (2, (.int .i64 _))] rfl (by kernel_rfl)) rfl ?_
    refine TL_e rfl (Ef_sliceN (m := [(regV (regL vs))].length) [.agg (regV (regL vs)).cells] ([(regV (regL vs))].flatMap VoteV.list) rfl rfl rfl rfl (by simp [Value.cells, VoteV.size]) rfl rfl (fun a23 c23 => ?_))
    refine TL_e rfl (Ef_appendS VoteV.list (sv := .slice _ _ _) (xv := .slice _ _ _) (xs := []) (ys := [(regV (regL vs))]) VoteV.list_len VoteV.list_one rfl rfl (by simp; try omega) rfl rfl (fun a24 c24 => ?_))
    simp only [List.nil_append]
    refine TL_q (Qt_assign (.slice _ _ _) rfl) rfl ?_
    refine TL_nil ?_
    refine X_then ?_
    refine T_seq ?_
    refine T_seq ?_
    refine T_region ?_
    refine TL_q (Qt_assign (.int .i64 _) rfl) rfl ?_
    refine TL_nil ?_
    refine X_then ?_
    refine T_block ?_
    refine T_loop [3, 6, 7, 8, 9, 25, 26, 27, 28, 29, 30, 31, 32, 33, 34, 35, 36, 37, 38, 39, 40, 41, 42, 43, 44] [6, 3] (fun us H' => ∃ (v : Nat) (ao : Option Addr) (co : Nat) (zs : List VoteV), us = [.int .i64 (v : Int), .slice ao zs.length co] ∧ row (.slice ao (zs).length co) 27 38 ((zs).flatMap VoteV.list) :: H = H' ∧ v ≤ 61 ∧ (zs = regP vs ++ (gridN v).filterMap (wroteL vs))) (fun us => match us with | .int _ i :: _ => 61 - i.toNat | _ => 0) ⟨0, a24, c24, [(regV (regL vs))], rfl, rfl, by omega, by rw [hrp]; rfl⟩ (Subs.st inferInstance) ?_
    rintro τ0 _ _  ⟨v, ao, co, zs, rfl, rfl, hv0, hzs⟩ _
    refine T_seq ?_
    refine T_seq ?_
    refine T_region ?_
    refine TL_q (Qt_move (.int .i64 _) rfl) rfl ?_
    refine TL_q (Qt_leq rfl rfl) rfl ?_
    refine TL_nil ?_
    refine X_then ?_
    refine T_cond rfl (fun h26 => ?_) (fun h26 => ?_)
    ·
      have p26 := h26
      try simp only [decide_eq_true_eq, decide_eq_false_iff_not, Bool.not_eq_true', Bool.not_eq_false', Option.isNone_iff_eq_none, ne_eq, Decidable.not_not, Int.not_lt, Int.not_le] at p26
      have hv : v < 61 := by omega
      refine T_skip ?_
      refine X_then ?_
      refine T_seq ?_
      refine T_block ?_
      refine T_seq ?_
      refine T_region ?_
      refine TL_q (Qt_assign (.int .i64 _) rfl) rfl ?_
      refine TL_nil ?_
      refine X_then ?_
      refine T_block ?_
      refine T_loop [3, 7, 8, 9, 29, 30, 31, 32, 33, 34, 35, 36, 37, 38, 39, 40, 41, 42, 43, 44] [7, 3] (fun us H' => ∃ (r : Nat) (ai : Option Addr) (ci : Nat) (zi : List VoteV), us = [.int .i64 (r : Int), .slice ai zi.length ci] ∧ row (.slice ai (zi).length ci) 27 38 ((zi).flatMap VoteV.list) :: H = H' ∧ r ≤ 41 ∧ (zi = regP vs ++ ((gridN v).filterMap (wroteL vs) ++ (rowG v r).filterMap (wroteL vs)))) (fun us => match us with | .int _ i :: _ => 41 - i.toNat | _ => 0) ⟨0, ao, co, zs, rfl, rfl, by omega, by rw [hzs]; simp [rowG]⟩ (Subs.st inferInstance) ?_
      rintro τ1 _ _  ⟨r, ai, ci, zi, rfl, rfl, hr0, hzi⟩ _
      refine T_seq ?_
      refine T_seq ?_
      refine T_region ?_
      refine TL_q (Qt_move (.int .i64 _) rfl) rfl ?_
      refine TL_q (Qt_leq rfl rfl) rfl ?_
      refine TL_nil ?_
      refine X_then ?_
      refine T_cond rfl (fun h30 => ?_) (fun h30 => ?_)
      ·
        have p30 := h30
        try simp only [decide_eq_true_eq, decide_eq_false_iff_not, Bool.not_eq_true', Bool.not_eq_false', Option.isNone_iff_eq_none, ne_eq, Decidable.not_not, Int.not_lt, Int.not_le] at p30
        have hrr : r < 41 := by omega
        have hzl : zi.length ≤ 3000 := by
          have h1 := List.length_filterMap_le (wroteL vs) (gridN v); rw [gridN_len] at h1
          have h2 := List.length_filterMap_le (wroteL vs) (rowG v r); rw [rowG_len] at h2
          have h3 : (regP vs).length ≤ 1 := by rw [hrp]; simp
          rw [hzi, List.length_append, List.length_append]; omega
        refine T_skip ?_
        refine X_then ?_
        refine T_seq ?_
        refine T_block ?_
        refine T_seq ?_
        refine T_region ?_
        refine TL_q (Qt_move (.slice _ _ _) rfl) rfl ?_
        refine TL_q (Qt_move (.int .i64 _) rfl) rfl ?_
        refine TL_q (Qt_move (.int .i64 _) rfl) rfl ?_
        refine TL_e rfl (Ef_call (rWrote_c (view := (v : Int)) (reg := (r : Int)) hn) rfl (fun x37 => ?_))
        refine TL_q (Qt_move (.tuple _) rfl) rfl ?_
        refine TL_q (Qt_extract rfl) rfl ?_
        refine TL_q (Qt_extract rfl) rfl ?_
        refine TL_e rfl (Ef_allocN (fun b8 => ?_))
        refine TL_n (Ef_storeN rfl rfl (?_))
        refine TL_q (Qt_assign (.bool _) rfl) rfl ?_
        refine TL_nil ?_
        refine X_then ?_
        refine T_seq ?_
        refine T_region ?_
        refine TL_q (Qt_move (.bool _) rfl) rfl ?_
        refine TL_nil ?_
        refine X_then ?_
        refine T_cond rfl (fun h40 => ?_) (fun h40 => ?_)
        ·
          have p40 := h40
          try simp only [decide_eq_true_eq, decide_eq_false_iff_not, Bool.not_eq_true', Bool.not_eq_false', Option.isNone_iff_eq_none, ne_eq, Decidable.not_not, Int.not_lt, Int.not_le] at p40
          have hw := some_get h40
          have hz2 : zi ++ [((wroteL vs ⟨(v : Int), (r : Int)⟩).getD VoteV.zero)] = regP vs ++ ((gridN v).filterMap (wroteL vs) ++ (rowG v (r + 1)).filterMap (wroteL vs)) := by rw [hzi, rowG_succ, List.filterMap_append, List.append_assoc, List.append_assoc, List.filterMap_cons_some hw]; rfl
          refine T_region ?_
          refine TL_q (Qt_move (.slice _ _ _) rfl) rfl ?_
          refine TL_q (Qt_loadN rfl rfl) rfl ?_
          refine TL_e rfl (Ef_sliceN (m := [((wroteL vs ⟨(v : Int), (r : Int)⟩).getD VoteV.zero)].length) [.agg ((wroteL vs ⟨(v : Int), (r : Int)⟩).getD VoteV.zero).cells] ([((wroteL vs ⟨(v : Int), (r : Int)⟩).getD VoteV.zero)].flatMap VoteV.list) rfl rfl rfl rfl (by simp [Value.cells, VoteV.size]) rfl rfl (fun a43 c43 => ?_))
          refine TL_e rfl (Ef_appendS VoteV.list (sv := .slice _ _ _) (xv := .slice _ _ _) (xs := zi) (ys := [((wroteL vs ⟨(v : Int), (r : Int)⟩).getD VoteV.zero)]) VoteV.list_len VoteV.list_one rfl rfl (by simp; try omega) rfl rfl (fun a44 c44 => ?_))
          refine TL_q (Qt_assign (.slice _ _ _) rfl) rfl ?_
          refine TL_nil ?_
          refine X_block ?_
          refine X_then ?_
          refine T_region ?_
          refine TL_q (Qt_move (.int .i64 _) rfl) rfl ?_
          first
            | refine TL_q (Qt_add rfl rfl (by omega) (by omega)) rfl ?_
            | refine TL_q (Qt_addw rfl rfl) rfl ?_
          refine TL_q (Qt_assign (.int .i64 _) rfl) rfl ?_
          refine TL_nil ?_
          refine X_loop _ (by repeat (first | with_reducible exact agree_refl | refine agree_upd rfl ?_ | refine agree_mix rfl ?_ | refine agree_setAll rfl ?_)) (⟨r + 1, _, _, _, rfl, rfl, by omega, hz2⟩) (by show 41 - (r + 1 : Int).toNat < 41 - (r : Int).toNat; omega) ((Subs.st inferInstance))
        ·
          have p40 := h40
          try simp only [decide_eq_true_eq, decide_eq_false_iff_not, Bool.not_eq_true', Bool.not_eq_false', Option.isNone_iff_eq_none, ne_eq, Decidable.not_not, Int.not_lt, Int.not_le] at p40
          have hw := none_get h40
          have hz2 : zi = regP vs ++ ((gridN v).filterMap (wroteL vs) ++ (rowG v (r + 1)).filterMap (wroteL vs)) := by rw [rowG_succ, List.filterMap_append, List.filterMap_cons_none hw]; simpa using hzi
          refine T_skip ?_
          refine X_block ?_
          refine X_then ?_
          refine T_region ?_
          refine TL_q (Qt_move (.int .i64 _) rfl) rfl ?_
          first
            | refine TL_q (Qt_add rfl rfl (by omega) (by omega)) rfl ?_
            | refine TL_q (Qt_addw rfl rfl) rfl ?_
          refine TL_q (Qt_assign (.int .i64 _) rfl) rfl ?_
          refine TL_nil ?_
          refine X_loop _ (by repeat (first | with_reducible exact agree_refl | refine agree_upd rfl ?_ | refine agree_mix rfl ?_ | refine agree_setAll rfl ?_)) (⟨r + 1, _, _, _, rfl, rfl, by omega, hz2⟩) (by show 41 - (r + 1 : Int).toNat < 41 - (r : Int).toNat; omega) ((Subs.st inferInstance))
      ·
        have p30 := h30
        try simp only [decide_eq_true_eq, decide_eq_false_iff_not, Bool.not_eq_true', Bool.not_eq_false', Option.isNone_iff_eq_none, ne_eq, Decidable.not_not, Int.not_lt, Int.not_le] at p30
        have hr41 : r = 41 := by omega
        have hzo : zi = regP vs ++ (gridN (v + 1)).filterMap (wroteL vs) := by rw [hzi, hr41, gridN_succ, List.filterMap_append]
        refine T_exit ?_
        refine X_then_exit ?_
        refine X_loop_exit ?_
        refine X_block_exit ?_
        refine X_block ?_
        refine X_then ?_
        refine T_region ?_
        refine TL_q (Qt_move (.int .i64 _) rfl) rfl ?_
        first
          | refine TL_q (Qt_add rfl rfl (by omega) (by omega)) rfl ?_
          | refine TL_q (Qt_addw rfl rfl) rfl ?_
        refine TL_q (Qt_assign (.int .i64 _) rfl) rfl ?_
        refine TL_nil ?_
        refine X_loop _ (by repeat (first | with_reducible exact agree_refl | refine agree_upd rfl ?_ | refine agree_mix rfl ?_ | refine agree_setAll rfl ?_)) (⟨v + 1, ai, ci, zi, rfl, rfl, by omega, hzo⟩) (by show 61 - (v + 1 : Int).toNat < 61 - (v : Int).toNat; omega) ((Subs.st inferInstance))
    ·
      have p26 := h26
      try simp only [decide_eq_true_eq, decide_eq_false_iff_not, Bool.not_eq_true', Bool.not_eq_false', Option.isNone_iff_eq_none, ne_eq, Decidable.not_not, Int.not_lt, Int.not_le] at p26
      have hv61 : v = 61 := by omega
      subst hv61
      have hzl : zs.length ≤ 3000 := by rw [hzs, List.length_append]; have := List.length_filterMap_le (wroteL vs) (gridN 61); rw [gridN_len] at this; simp only [regP]; split <;> simp <;> omega
      refine T_exit ?_
      refine X_then_exit ?_
      refine X_loop_exit ?_
      refine X_block_exit ?_
      refine X_then ?_
      refine T_seq ?_
      refine T_region ?_
      refine TL_q (Qt_move (.slice _ _ _) rfl) rfl ?_
      refine TL_e rfl (Ef_call (rAccepted_c hn) rfl (fun x47 => ?_))
      refine TL_q (Qt_move (.tuple _) rfl) rfl ?_
      refine TL_q (Qt_extract rfl) rfl ?_
      refine TL_q (Qt_extract rfl) rfl ?_
      refine TL_e rfl (Ef_allocN (fun b10 => ?_))
      refine TL_n (Ef_storeN rfl rfl (?_))
      refine TL_q (Qt_assign (.bool _) rfl) rfl ?_
      refine TL_nil ?_
      refine X_then ?_
      refine T_seq ?_
      refine T_seq ?_
      refine T_region ?_
      refine TL_q (Qt_move (.bool _) rfl) rfl ?_
      refine TL_nil ?_
      refine X_then ?_
      refine T_cond rfl (fun h50 => ?_) (fun h50 => ?_)
      ·
        have p50 := h50
        try simp only [decide_eq_true_eq, decide_eq_false_iff_not, Bool.not_eq_true', Bool.not_eq_false', Option.isNone_iff_eq_none, ne_eq, Decidable.not_not, Int.not_lt, Int.not_le] at p50
        have hall : zs ++ [((accL vs).getD VoteV.zero)] = allL vs := by rw [allL, some_get h50, hzs]; simp [grid]
        refine T_region ?_
        refine TL_q (Qt_move (.slice _ _ _) rfl) rfl ?_
        refine TL_q (Qt_loadN rfl rfl) rfl ?_
        refine TL_e rfl (Ef_sliceN (m := [((accL vs).getD VoteV.zero)].length) [.agg ((accL vs).getD VoteV.zero).cells] ([((accL vs).getD VoteV.zero)].flatMap VoteV.list) rfl rfl rfl rfl (by simp [Value.cells, VoteV.size]) rfl rfl (fun a53 c53 => ?_))
        refine TL_e rfl (Ef_appendS VoteV.list (sv := .slice _ _ _) (xv := .slice _ _ _) (xs := zs) (ys := [((accL vs).getD VoteV.zero)]) VoteV.list_len VoteV.list_one rfl rfl (by simp; try omega) rfl rfl (fun a54 c54 => ?_))
        refine TL_q (Qt_assign (.slice _ _ _) rfl) rfl ?_
        refine TL_nil ?_
        refine X_then ?_
        refine T_seq ?_
        refine T_region ?_
        refine TL_q (Qt_move (.slice _ _ _) rfl) rfl ?_
        refine TL_q (Qt_assign (.slice _ _ _) rfl) rfl ?_
        refine TL_nil ?_
        refine X_then ?_
        refine T_ret ?_
        rw [← hall]
        exact X_ret ⟨a54, c54⟩ [_] Try.results26 ⟨rfl, trivial⟩ rfl (Subs.st inferInstance)
      ·
        have p50 := h50
        try simp only [decide_eq_true_eq, decide_eq_false_iff_not, Bool.not_eq_true', Bool.not_eq_false', Option.isNone_iff_eq_none, ne_eq, Decidable.not_not, Int.not_lt, Int.not_le] at p50
        have hall : zs = allL vs := by rw [allL, none_get h50, hzs]; simp [grid]
        refine T_skip ?_
        refine X_then ?_
        refine T_seq ?_
        refine T_region ?_
        refine TL_q (Qt_move (.slice _ _ _) rfl) rfl ?_
        refine TL_q (Qt_assign (.slice _ _ _) rfl) rfl ?_
        refine TL_nil ?_
        refine X_then ?_
        refine T_ret ?_
        rw [← hall]
        exact X_ret ⟨ao, co⟩ [_] Try.results26 ⟨rfl, trivial⟩ rfl (Subs.st inferInstance)
  ·
    have p18 := h18
    try simp only [decide_eq_true_eq, decide_eq_false_iff_not, Bool.not_eq_true', Bool.not_eq_false', Option.isNone_iff_eq_none, ne_eq, Decidable.not_not, Int.not_lt, Int.not_le] at p18
    have hrp : regP vs = [] := if_neg (by omega)
    refine T_skip ?_
    refine X_then ?_
    refine T_seq ?_
    refine T_seq ?_
    refine T_region ?_
    refine TL_q (Qt_assign (.int .i64 _) rfl) rfl ?_
    refine TL_nil ?_
    refine X_then ?_
    refine T_block ?_
    refine T_loop [3, 6, 7, 8, 9, 25, 26, 27, 28, 29, 30, 31, 32, 33, 34, 35, 36, 37, 38, 39, 40, 41, 42, 43, 44] [6, 3] (fun us H' => ∃ (v : Nat) (ao : Option Addr) (co : Nat) (zs : List VoteV), us = [.int .i64 (v : Int), .slice ao zs.length co] ∧ row (.slice ao (zs).length co) 27 38 ((zs).flatMap VoteV.list) :: H = H' ∧ v ≤ 61 ∧ (zs = regP vs ++ (gridN v).filterMap (wroteL vs))) (fun us => match us with | .int _ i :: _ => 61 - i.toNat | _ => 0) ⟨0, none, 0, [], rfl, rfl, by omega, by rw [hrp]; rfl⟩ (fun w hw => St.addNil 27 38 (Subs.st inferInstance w hw)) ?_
    rintro τ0 _ _  ⟨v, ao, co, zs, rfl, rfl, hv0, hzs⟩ _
    refine T_seq ?_
    refine T_seq ?_
    refine T_region ?_
    refine TL_q (Qt_move (.int .i64 _) rfl) rfl ?_
    refine TL_q (Qt_leq rfl rfl) rfl ?_
    refine TL_nil ?_
    refine X_then ?_
    refine T_cond rfl (fun h26 => ?_) (fun h26 => ?_)
    ·
      have p26 := h26
      try simp only [decide_eq_true_eq, decide_eq_false_iff_not, Bool.not_eq_true', Bool.not_eq_false', Option.isNone_iff_eq_none, ne_eq, Decidable.not_not, Int.not_lt, Int.not_le] at p26
      have hv : v < 61 := by omega
      refine T_skip ?_
      refine X_then ?_
      refine T_seq ?_
      refine T_block ?_
      refine T_seq ?_
      refine T_region ?_
      refine TL_q (Qt_assign (.int .i64 _) rfl) rfl ?_
      refine TL_nil ?_
      refine X_then ?_
      refine T_block ?_
      refine T_loop [3, 7, 8, 9, 29, 30, 31, 32, 33, 34, 35, 36, 37, 38, 39, 40, 41, 42, 43, 44] [7, 3] (fun us H' => ∃ (r : Nat) (ai : Option Addr) (ci : Nat) (zi : List VoteV), us = [.int .i64 (r : Int), .slice ai zi.length ci] ∧ row (.slice ai (zi).length ci) 27 38 ((zi).flatMap VoteV.list) :: H = H' ∧ r ≤ 41 ∧ (zi = regP vs ++ ((gridN v).filterMap (wroteL vs) ++ (rowG v r).filterMap (wroteL vs)))) (fun us => match us with | .int _ i :: _ => 41 - i.toNat | _ => 0) ⟨0, ao, co, zs, rfl, rfl, by omega, by rw [hzs]; simp [rowG]⟩ (Subs.st inferInstance) ?_
      rintro τ1 _ _  ⟨r, ai, ci, zi, rfl, rfl, hr0, hzi⟩ _
      refine T_seq ?_
      refine T_seq ?_
      refine T_region ?_
      refine TL_q (Qt_move (.int .i64 _) rfl) rfl ?_
      refine TL_q (Qt_leq rfl rfl) rfl ?_
      refine TL_nil ?_
      refine X_then ?_
      refine T_cond rfl (fun h30 => ?_) (fun h30 => ?_)
      ·
        have p30 := h30
        try simp only [decide_eq_true_eq, decide_eq_false_iff_not, Bool.not_eq_true', Bool.not_eq_false', Option.isNone_iff_eq_none, ne_eq, Decidable.not_not, Int.not_lt, Int.not_le] at p30
        have hrr : r < 41 := by omega
        have hzl : zi.length ≤ 3000 := by
          have h1 := List.length_filterMap_le (wroteL vs) (gridN v); rw [gridN_len] at h1
          have h2 := List.length_filterMap_le (wroteL vs) (rowG v r); rw [rowG_len] at h2
          have h3 : (regP vs).length ≤ 1 := by rw [hrp]; simp
          rw [hzi, List.length_append, List.length_append]; omega
        refine T_skip ?_
        refine X_then ?_
        refine T_seq ?_
        refine T_block ?_
        refine T_seq ?_
        refine T_region ?_
        refine TL_q (Qt_move (.slice _ _ _) rfl) rfl ?_
        refine TL_q (Qt_move (.int .i64 _) rfl) rfl ?_
        refine TL_q (Qt_move (.int .i64 _) rfl) rfl ?_
        refine TL_e rfl (Ef_call (rWrote_c (view := (v : Int)) (reg := (r : Int)) hn) rfl (fun x37 => ?_))
        refine TL_q (Qt_move (.tuple _) rfl) rfl ?_
        refine TL_q (Qt_extract rfl) rfl ?_
        refine TL_q (Qt_extract rfl) rfl ?_
        refine TL_e rfl (Ef_allocN (fun b8 => ?_))
        refine TL_n (Ef_storeN rfl rfl (?_))
        refine TL_q (Qt_assign (.bool _) rfl) rfl ?_
        refine TL_nil ?_
        refine X_then ?_
        refine T_seq ?_
        refine T_region ?_
        refine TL_q (Qt_move (.bool _) rfl) rfl ?_
        refine TL_nil ?_
        refine X_then ?_
        refine T_cond rfl (fun h40 => ?_) (fun h40 => ?_)
        ·
          have p40 := h40
          try simp only [decide_eq_true_eq, decide_eq_false_iff_not, Bool.not_eq_true', Bool.not_eq_false', Option.isNone_iff_eq_none, ne_eq, Decidable.not_not, Int.not_lt, Int.not_le] at p40
          have hw := some_get h40
          have hz2 : zi ++ [((wroteL vs ⟨(v : Int), (r : Int)⟩).getD VoteV.zero)] = regP vs ++ ((gridN v).filterMap (wroteL vs) ++ (rowG v (r + 1)).filterMap (wroteL vs)) := by rw [hzi, rowG_succ, List.filterMap_append, List.append_assoc, List.append_assoc, List.filterMap_cons_some hw]; rfl
          refine T_region ?_
          refine TL_q (Qt_move (.slice _ _ _) rfl) rfl ?_
          refine TL_q (Qt_loadN rfl rfl) rfl ?_
          refine TL_e rfl (Ef_sliceN (m := [((wroteL vs ⟨(v : Int), (r : Int)⟩).getD VoteV.zero)].length) [.agg ((wroteL vs ⟨(v : Int), (r : Int)⟩).getD VoteV.zero).cells] ([((wroteL vs ⟨(v : Int), (r : Int)⟩).getD VoteV.zero)].flatMap VoteV.list) rfl rfl rfl rfl (by simp [Value.cells, VoteV.size]) rfl rfl (fun a43 c43 => ?_))
          refine TL_e rfl (Ef_appendS VoteV.list (sv := .slice _ _ _) (xv := .slice _ _ _) (xs := zi) (ys := [((wroteL vs ⟨(v : Int), (r : Int)⟩).getD VoteV.zero)]) VoteV.list_len VoteV.list_one rfl rfl (by simp; try omega) rfl rfl (fun a44 c44 => ?_))
          refine TL_q (Qt_assign (.slice _ _ _) rfl) rfl ?_
          refine TL_nil ?_
          refine X_block ?_
          refine X_then ?_
          refine T_region ?_
          refine TL_q (Qt_move (.int .i64 _) rfl) rfl ?_
          first
            | refine TL_q (Qt_add rfl rfl (by omega) (by omega)) rfl ?_
            | refine TL_q (Qt_addw rfl rfl) rfl ?_
          refine TL_q (Qt_assign (.int .i64 _) rfl) rfl ?_
          refine TL_nil ?_
          refine X_loop _ (by repeat (first | with_reducible exact agree_refl | refine agree_upd rfl ?_ | refine agree_mix rfl ?_ | refine agree_setAll rfl ?_)) (⟨r + 1, _, _, _, rfl, rfl, by omega, hz2⟩) (by show 41 - (r + 1 : Int).toNat < 41 - (r : Int).toNat; omega) ((Subs.st inferInstance))
        ·
          have p40 := h40
          try simp only [decide_eq_true_eq, decide_eq_false_iff_not, Bool.not_eq_true', Bool.not_eq_false', Option.isNone_iff_eq_none, ne_eq, Decidable.not_not, Int.not_lt, Int.not_le] at p40
          have hw := none_get h40
          have hz2 : zi = regP vs ++ ((gridN v).filterMap (wroteL vs) ++ (rowG v (r + 1)).filterMap (wroteL vs)) := by rw [rowG_succ, List.filterMap_append, List.filterMap_cons_none hw]; simpa using hzi
          refine T_skip ?_
          refine X_block ?_
          refine X_then ?_
          refine T_region ?_
          refine TL_q (Qt_move (.int .i64 _) rfl) rfl ?_
          first
            | refine TL_q (Qt_add rfl rfl (by omega) (by omega)) rfl ?_
            | refine TL_q (Qt_addw rfl rfl) rfl ?_
          refine TL_q (Qt_assign (.int .i64 _) rfl) rfl ?_
          refine TL_nil ?_
          refine X_loop _ (by repeat (first | with_reducible exact agree_refl | refine agree_upd rfl ?_ | refine agree_mix rfl ?_ | refine agree_setAll rfl ?_)) (⟨r + 1, _, _, _, rfl, rfl, by omega, hz2⟩) (by show 41 - (r + 1 : Int).toNat < 41 - (r : Int).toNat; omega) ((Subs.st inferInstance))
      ·
        have p30 := h30
        try simp only [decide_eq_true_eq, decide_eq_false_iff_not, Bool.not_eq_true', Bool.not_eq_false', Option.isNone_iff_eq_none, ne_eq, Decidable.not_not, Int.not_lt, Int.not_le] at p30
        have hr41 : r = 41 := by omega
        have hzo : zi = regP vs ++ (gridN (v + 1)).filterMap (wroteL vs) := by rw [hzi, hr41, gridN_succ, List.filterMap_append]
        refine T_exit ?_
        refine X_then_exit ?_
        refine X_loop_exit ?_
        refine X_block_exit ?_
        refine X_block ?_
        refine X_then ?_
        refine T_region ?_
        refine TL_q (Qt_move (.int .i64 _) rfl) rfl ?_
        first
          | refine TL_q (Qt_add rfl rfl (by omega) (by omega)) rfl ?_
          | refine TL_q (Qt_addw rfl rfl) rfl ?_
        refine TL_q (Qt_assign (.int .i64 _) rfl) rfl ?_
        refine TL_nil ?_
        refine X_loop _ (by repeat (first | with_reducible exact agree_refl | refine agree_upd rfl ?_ | refine agree_mix rfl ?_ | refine agree_setAll rfl ?_)) (⟨v + 1, ai, ci, zi, rfl, rfl, by omega, hzo⟩) (by show 61 - (v + 1 : Int).toNat < 61 - (v : Int).toNat; omega) ((Subs.st inferInstance))
    ·
      have p26 := h26
      try simp only [decide_eq_true_eq, decide_eq_false_iff_not, Bool.not_eq_true', Bool.not_eq_false', Option.isNone_iff_eq_none, ne_eq, Decidable.not_not, Int.not_lt, Int.not_le] at p26
      have hv61 : v = 61 := by omega
      subst hv61
      have hzl : zs.length ≤ 3000 := by rw [hzs, List.length_append]; have := List.length_filterMap_le (wroteL vs) (gridN 61); rw [gridN_len] at this; simp only [regP]; split <;> simp <;> omega
      refine T_exit ?_
      refine X_then_exit ?_
      refine X_loop_exit ?_
      refine X_block_exit ?_
      refine X_then ?_
      refine T_seq ?_
      refine T_region ?_
      refine TL_q (Qt_move (.slice _ _ _) rfl) rfl ?_
      refine TL_e rfl (Ef_call (rAccepted_c hn) rfl (fun x47 => ?_))
      refine TL_q (Qt_move (.tuple _) rfl) rfl ?_
      refine TL_q (Qt_extract rfl) rfl ?_
      refine TL_q (Qt_extract rfl) rfl ?_
      refine TL_e rfl (Ef_allocN (fun b10 => ?_))
      refine TL_n (Ef_storeN rfl rfl (?_))
      refine TL_q (Qt_assign (.bool _) rfl) rfl ?_
      refine TL_nil ?_
      refine X_then ?_
      refine T_seq ?_
      refine T_seq ?_
      refine T_region ?_
      refine TL_q (Qt_move (.bool _) rfl) rfl ?_
      refine TL_nil ?_
      refine X_then ?_
      refine T_cond rfl (fun h50 => ?_) (fun h50 => ?_)
      ·
        have p50 := h50
        try simp only [decide_eq_true_eq, decide_eq_false_iff_not, Bool.not_eq_true', Bool.not_eq_false', Option.isNone_iff_eq_none, ne_eq, Decidable.not_not, Int.not_lt, Int.not_le] at p50
        have hall : zs ++ [((accL vs).getD VoteV.zero)] = allL vs := by rw [allL, some_get h50, hzs]; simp [grid]
        refine T_region ?_
        refine TL_q (Qt_move (.slice _ _ _) rfl) rfl ?_
        refine TL_q (Qt_loadN rfl rfl) rfl ?_
        refine TL_e rfl (Ef_sliceN (m := [((accL vs).getD VoteV.zero)].length) [.agg ((accL vs).getD VoteV.zero).cells] ([((accL vs).getD VoteV.zero)].flatMap VoteV.list) rfl rfl rfl rfl (by simp [Value.cells, VoteV.size]) rfl rfl (fun a53 c53 => ?_))
        refine TL_e rfl (Ef_appendS VoteV.list (sv := .slice _ _ _) (xv := .slice _ _ _) (xs := zs) (ys := [((accL vs).getD VoteV.zero)]) VoteV.list_len VoteV.list_one rfl rfl (by simp; try omega) rfl rfl (fun a54 c54 => ?_))
        refine TL_q (Qt_assign (.slice _ _ _) rfl) rfl ?_
        refine TL_nil ?_
        refine X_then ?_
        refine T_seq ?_
        refine T_region ?_
        refine TL_q (Qt_move (.slice _ _ _) rfl) rfl ?_
        refine TL_q (Qt_assign (.slice _ _ _) rfl) rfl ?_
        refine TL_nil ?_
        refine X_then ?_
        refine T_ret ?_
        rw [← hall]
        exact X_ret ⟨a54, c54⟩ [_] Try.results26 ⟨rfl, trivial⟩ rfl (Subs.st inferInstance)
      ·
        have p50 := h50
        try simp only [decide_eq_true_eq, decide_eq_false_iff_not, Bool.not_eq_true', Bool.not_eq_false', Option.isNone_iff_eq_none, ne_eq, Decidable.not_not, Int.not_lt, Int.not_le] at p50
        have hall : zs = allL vs := by rw [allL, none_get h50, hzs]; simp [grid]
        refine T_skip ?_
        refine X_then ?_
        refine T_seq ?_
        refine T_region ?_
        refine TL_q (Qt_move (.slice _ _ _) rfl) rfl ?_
        refine TL_q (Qt_assign (.slice _ _ _) rfl) rfl ?_
        refine TL_nil ?_
        refine X_then ?_
        refine T_ret ?_
        rw [← hall]
        exact X_ret ⟨ao, co⟩ [_] Try.results26 ⟨rfl, trivial⟩ rfl (Subs.st inferInstance)
end Go.Proofs.Ytdjbhpdfkopdgaa
