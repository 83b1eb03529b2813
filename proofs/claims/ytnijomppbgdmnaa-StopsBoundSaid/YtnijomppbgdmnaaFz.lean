/- Walks: the laws StopsNil, StopsLeast. -/
import Derived.Test.YtnijomppbgdmnaaFx
namespace Go.Proofs.Ytnijomppbgdmnaa
open Go.RowKit Go.Sx
set_option maxRecDepth 100000
set_option linter.unusedSimpArgs false
set_option linter.unusedVariables false
theorem least_ab {es : EM} {ab many x : Int} (h : Gr es ab many x) : x = -1 ∨ ab < x := h.1.imp id fun h => h.1
theorem someV_le (num : Int) (mk : Nat) : (someV num mk ≤ enoughV num mk) ∧ (0 < enoughV num mk → 0 < someV num mk) := by
  unfold someV enoughV faultsV
  split <;> omega
theorem least_le {es : EM} {ab x y : Int} {num : Int} {mk : Nat} (h : Gr es ab (someV num mk : Int) x) (h' : Gr es ab (enoughV num mk : Int) y) : y ≤ x := by
  obtain ⟨h1, h2⟩ := h
  obtain ⟨h3, -⟩ := h'
  have hx : -1 ≤ x := by rcases h1 with h | h <;> omega
  rcases h3 with h3 | ⟨a, b, c, d, e⟩
  · omega
  · rcases Int.lt_or_le x y with hlt | hle
    · have hs := someV_le num mk
      exact absurd ⟨by omega, by omega⟩ (h2 y hlt a b c)
    · exact hle
def MS (i : Nat) : MsgD := ⟨4, i, 0, 2 + i, 0, zeroV 32, [], []⟩
theorem smallS (i : Nat) : SmallM (MS i) := ⟨by simp [MS], by simp [MS], fun x hx => by cases hx⟩
theorem formedS (i : Nat) (h : i < 2) : formedM (MS i) = true := by simp only [formedM_iff, MS]; omega
theorem lenS (i : Nat) : (msgB (MS i)).length = 42 := by
  rw [msgB_len, headM_len]
  have e : packed 0 = [0] := packed_small (by decide)
  simp [textB, MS, texts, e]
theorem putS (i : Nat) (h : i < 2) : (putM (MS i)).2 = 0 := by
  unfold putM
  rw [if_neg (by rw [lenS]; simp [MS]), if_pos (formedS i h)]

theorem sealS (i : Nat) (h : i < 2) : (sealK (keyT 16) (MS i)).2 = 0 := by
  rw [sealK_ok (putS i h) (by rw [keyT_len]; show ¬ ((16 : Nat) : Int) ≤ (i : Int); omega)]
theorem has15 : ∀ i < 2, hasV 15 ((i : Nat) : Int) = true := by decide
theorem openS (i : Nat) (h : i < 2) : openOfK (keyT 16) 15 (sealK (keyT 16) (MS i)).1 = (0, MS i) := by
  unfold openOfK
  rw [openK_seal (sealS i h) (smallS i), if_neg (by rintro ⟨-, h2⟩; rw [show (MS i).frm = ((i : Nat) : Int) from rfl, has15 i h] at h2; cases h2)]
theorem sealK_le {K : List (List UInt8)} {m : MsgD} : (sealK K m).1.length ≤ 65536 := by
  have := putM_le m
  unfold sealK
  split
  · simp
  · split
    · simp
    · simp; omega
def E1 : EM := [⟨0, 2, 0⟩]
def E2 : EM := [⟨0, 2, 0⟩, ⟨1, 3, 1⟩]
theorem takeS0 : takeM (keyT 16) 0 15 [] 0 (sealK (keyT 16) (MS 0)).1 = (0, E1, 1) := by
  unfold takeM
  rw [openS 0 (by decide)]
  simp [MS, hasE, getE, putE, clockE, E1]
theorem takeS1 : takeM (keyT 16) 0 15 E1 1 (sealK (keyT 16) (MS 1)).1 = (0, E2, 2) := by
  unfold takeM
  rw [openS 1 (by decide)]
  simp [MS, hasE, getE, putE, clockE, E1, E2]
theorem goodW : GoodM E2 2 := ⟨by simp [E2], by simp [E2], by simp [E2]⟩
theorem countW (q : Int) : countE E2 q = (if q ≤ 2 then 1 else 0) + (if q ≤ 3 then 1 else 0) := by
  unfold countE E2
  by_cases h1 : q ≤ 2 <;> by_cases h2 : q ≤ 3 <;> simp [List.filter_cons, h1, h2] <;> omega
theorem someW : someV 0 15 = 2 := by decide +kernel
theorem enoughW : enoughV 0 15 = 3 := by decide +kernel
theorem grSome {x : Int} (h : Gr E2 0 2 x) : x = 2 := by
  obtain ⟨h1, h2⟩ := h
  have h3 := h2 2
  rw [countW] at h3
  rcases h1 with h1 | ⟨a, b, c, d, e⟩
  · subst h1; simp at h3
  · rw [countW] at e
    by_cases q1 : x ≤ 2
    · rcases (by omega : x = 2 ∨ x < 2) with h | h
      · exact h
      · simp at h3; omega
    · rw [if_neg q1] at e; split at e <;> omega
theorem grEnough {x : Int} (h : Gr E2 0 3 x) : x = -1 := by
  obtain ⟨h1, h2⟩ := h
  rcases h1 with h1 | ⟨a, b, c, d, e⟩
  · exact h1
  · rw [countW] at e; split at e <;> split at e <;> omega
theorem lt16 {ls : List BS} (h : ls.map BS.l = keyT 16) : (∀ x ∈ ls, x.l.length ≤ 4294967000) ∧ ls.length ≤ 1000 := by
  refine ⟨fun x hx => ?_, ?_⟩
  · have : x.l ∈ keyT 16 := h ▸ List.mem_map.2 ⟨x, hx, rfl⟩
    obtain ⟨i, -, hi⟩ := List.mem_map.1 this
    rw [← hi]; simp
  · have := congrArg List.length h
    rw [keyT_len, List.length_map] at this
    omega
theorem lt_of {ls os : List BS} (h : os.map BS.l = ls.map BS.l) (hl : ls.map BS.l = keyT 16) : ∀ x ∈ os, x.l.length ≤ 4294967000 := (lt16 (h.trans hl)).1
def longS (K : List (List UInt8)) : Bool := decide (24 < K.length) || K.any fun c => decide (6000 < c.length)
theorem longS_small {K : List (List UInt8)} (h : longS K = false) : K.length ≤ 24 ∧ ∀ x ∈ K, x.length ≤ 6000 := by
  simp only [longS, Bool.or_eq_false_iff, decide_eq_false_iff_not, List.any_eq_false, decide_eq_true_eq] at h
  exact ⟨by omega, fun x hx => by have := h.2 x hx; omega⟩
attribute [local irreducible] sealK openOfK takeM keyT someV enoughV

set_option maxHeartbeats 1000000 in
theorem wakes19_c {w0 : World} {H : List SA}  :
    CT Try.prog w0 (H) 4 [] (α := Unit) (fun _ => .bool true) (fun _ => H) := by
  refine CT_intro Try.func4 rfl Try.ntmps4 rfl ?_
  refine T_seq ?_
  refine T_region ?_
  refine TL_q (Qt_assign (.bool _) rfl) rfl ?_
  refine TL_nil ?_
  refine X_then ?_
  refine T_seq ?_
  refine T_region ?_
  refine TL_q (Qt_build [] rfl (by kernel_rfl)) rfl ?_
  refine TL_e rfl (Ef_call (keys_c (ask := AskV.zero)) rfl (fun x7 => ?_))
  refine TL_pure (fun hk7 => ?_)
  refine TL_e rfl (Ef_allocN (fun b1 => ?_))
  refine TL_n (Ef_storeN rfl rfl (?_))
  refine TL_nil ?_
  refine X_then ?_
  refine T_seq ?_
  refine T_region ?_
  refine TL_q (Qt_loadN rfl rfl) rfl ?_
  refine TL_q (Qt_build [(1, (.int .u16 _))] rfl (by kernel_rfl)) rfl ?_
  refine TL_e rfl (Ef_call (stopsNew_c (sa := x7.1.a) (sc := x7.1.c) (ls := x7.1.ls) (rt := AskV.zero.roots) (num := 0) (mk := 15) (lt16 hk7).1 (lt16 hk7).2) rfl (fun x10 => ?_))
  refine TL_pure (fun h10 => ?_)
  refine TL_q (Qt_assign (.pointer _) rfl) rfl ?_
  refine TL_nil ?_
  refine X_then ?_
  refine T_seq ?_
  refine T_seq ?_
  refine T_region ?_
  refine TL_q (Qt_move (.int .i64 _) rfl) rfl ?_
  refine TL_nil ?_
  refine X_then ?_
  refine T_block ?_
  refine T_unroll (TU_round ?_)
  refine T_seq ?_
  refine T_region ?_
  refine TL_q (Qt_lss rfl rfl) rfl ?_
  refine TL_nil ?_
  refine X_then ?_
  refine T_seq ?_
  refine T_cond_true rfl (by first | rfl | decide) ?_
  refine T_skip ?_
  refine X_then ?_
  refine T_seq ?_
  refine T_block ?_
  refine T_seq ?_
  refine T_region ?_
  refine TL_q (Qt_move (.int .i64 _) rfl) rfl ?_
  refine TL_q (Qt_assign (.int .i64 _) rfl) rfl ?_
  refine TL_nil ?_
  refine X_then ?_
  refine T_seq ?_
  refine T_region ?_
  refine TL_q (Qt_loadN rfl rfl) rfl ?_
  refine TL_q (Qt_move (.int .i64 _) rfl) rfl ?_
  refine TL_q (Qt_move (.int .i64 _) rfl) rfl ?_
  first
    | refine TL_q (Qt_add rfl rfl (by omega) (by omega)) rfl ?_
    | refine TL_q (Qt_addw rfl rfl) rfl ?_
  refine TL_q (Qt_build [(0, (.int .i64 _)), (1, (.int .i64 _)), (3, (.int .i64 _))] rfl (by kernel_rfl)) rfl ?_
  refine TL_e rfl (Ef_call (sealF_c (sa := x7.1.a) (sc := x7.1.c) (ls := x7.1.ls) (rt := AskV.zero.roots) (lt16 hk7).1 (m := ⟨4, 0, 0, 2 + (0), 0, zeroV 32, ⟨none, 0, []⟩, ⟨none, 0, []⟩⟩) (MS 0) (rb := RdB.nil') (rc := RdC.vals0) (re := RdE.nil) rfl (smallS 0)) rfl (fun x20 => ?_))
  rw [hk7]
  refine TL_q (Qt_move (.tuple _) rfl) rfl ?_
  refine TL_q (Qt_extract rfl) rfl ?_
  refine TL_q (Qt_extract rfl) rfl ?_
  refine TL_q (Qt_assign (.slice _ _ _) rfl) rfl ?_
  refine TL_q (Qt_assign (.int .i64 _) rfl) rfl ?_
  refine TL_nil ?_
  refine X_then ?_
  refine T_seq ?_
  refine T_region ?_
  refine TL_q (Qt_move (.pointer _) rfl) rfl ?_
  refine TL_q (Qt_move (.slice _ _ _) rfl) rfl ?_
  refine TL_frontB x10.1.2 ?_
  refine TL_frontB x10.1.1 ?_
  refine TL_e rfl (Ef_call (stake_c (p := x10.1.1) (r := x10.1.2) (sa := x10.2.1.a) (sc := x10.2.1.c) (ls := x10.2.1.ls) (rt := ⟨none, 0, 0⟩) (num := 0) (mk := 15) (es := []) (c := 0) (l := (sealK (keyT 16) (MS 0)).1) (by decide) (lt_of h10 hk7) (by have := @sealK_le (keyT 16) (MS 0); omega)) rfl (fun x25 => ?_))
  rw [h10, hk7, takeS0]
  refine TL_q (Qt_neq rfl rfl) rfl ?_
  refine TL_nil ?_
  refine X_then ?_
  refine T_cond_false rfl (by first | rfl | decide) ?_
  refine T_skip ?_
  refine X_block ?_
  refine X_then ?_
  refine T_region ?_
  first
    | refine TL_q (Qt_add rfl rfl (by omega) (by omega)) rfl ?_
    | refine TL_q (Qt_addw rfl rfl) rfl ?_
  refine TL_q (Qt_move (.int .i64 _) rfl) rfl ?_
  refine TL_nil ?_
  refine X_again (TU_round ?_)
  refine T_seq ?_
  refine T_region ?_
  refine TL_q (Qt_lss rfl rfl) rfl ?_
  refine TL_nil ?_
  refine X_then ?_
  refine T_seq ?_
  refine T_cond_true rfl (by first | rfl | decide) ?_
  refine T_skip ?_
  refine X_then ?_
  refine T_seq ?_
  refine T_block ?_
  refine T_seq ?_
  refine T_region ?_
  refine TL_q (Qt_move (.int .i64 _) rfl) rfl ?_
  refine TL_q (Qt_assign (.int .i64 _) rfl) rfl ?_
  refine TL_nil ?_
  refine X_then ?_
  refine T_seq ?_
  refine T_region ?_
  refine TL_q (Qt_loadN rfl rfl) rfl ?_
  refine TL_q (Qt_move (.int .i64 _) rfl) rfl ?_
  refine TL_q (Qt_move (.int .i64 _) rfl) rfl ?_
  first
    | refine TL_q (Qt_add rfl rfl (by omega) (by omega)) rfl ?_
    | refine TL_q (Qt_addw rfl rfl) rfl ?_
  refine TL_q (Qt_build [(0, (.int .i64 _)), (1, (.int .i64 _)), (3, (.int .i64 _))] rfl (by kernel_rfl)) rfl ?_
  refine TL_e rfl (Ef_call (sealF_c (sa := x7.1.a) (sc := x7.1.c) (ls := x7.1.ls) (rt := AskV.zero.roots) (lt16 hk7).1 (m := ⟨4, 0 + 1, 0, 2 + (0 + 1), 0, zeroV 32, ⟨none, 0, []⟩, ⟨none, 0, []⟩⟩) (MS 1) (rb := RdB.nil') (rc := RdC.vals0) (re := RdE.nil) rfl (smallS 1)) rfl (fun x20 => ?_))
  rw [hk7]
  refine TL_q (Qt_move (.tuple _) rfl) rfl ?_
  refine TL_q (Qt_extract rfl) rfl ?_
  refine TL_q (Qt_extract rfl) rfl ?_
  refine TL_q (Qt_assign (.slice _ _ _) rfl) rfl ?_
  refine TL_q (Qt_assign (.int .i64 _) rfl) rfl ?_
  refine TL_nil ?_
  refine X_then ?_
  refine T_seq ?_
  refine T_region ?_
  refine TL_q (Qt_move (.pointer _) rfl) rfl ?_
  refine TL_q (Qt_move (.slice _ _ _) rfl) rfl ?_
  refine TL_frontB x10.1.2 ?_
  refine TL_frontB x10.1.1 ?_
  refine TL_e rfl (Ef_call (stake_c (p := x10.1.1) (r := x10.1.2) (sa := x10.2.1.a) (sc := x10.2.1.c) (ls := x10.2.1.ls) (rt := ⟨none, 0, 0⟩) (num := 0) (mk := 15) (es := E1) (c := 1) (l := (sealK (keyT 16) (MS 1)).1) (by decide) (lt_of h10 hk7) (by have := @sealK_le (keyT 16) (MS 1); omega)) rfl (fun x25 => ?_))
  rw [h10, hk7, takeS1]
  refine TL_q (Qt_neq rfl rfl) rfl ?_
  refine TL_nil ?_
  refine X_then ?_
  refine T_cond_false rfl (by first | rfl | decide) ?_
  refine T_skip ?_
  refine X_block ?_
  refine X_then ?_
  refine T_region ?_
  first
    | refine TL_q (Qt_add rfl rfl (by omega) (by omega)) rfl ?_
    | refine TL_q (Qt_addw rfl rfl) rfl ?_
  refine TL_q (Qt_move (.int .i64 _) rfl) rfl ?_
  refine TL_nil ?_
  refine X_again (TU_round ?_)
  refine T_seq ?_
  refine T_region ?_
  refine TL_q (Qt_lss rfl rfl) rfl ?_
  refine TL_nil ?_
  refine X_then ?_
  refine T_seq ?_
  refine T_cond_false rfl (by first | rfl | decide) ?_
  refine T_exit ?_
  refine X_then_exit ?_
  refine X_again_exit ?_
  refine X_block_exit ?_
  refine X_then ?_
  refine T_seq ?_
  refine T_region ?_
  refine TL_q (Qt_move (.pointer _) rfl) rfl ?_
  refine TL_frontB x10.1.2 ?_
  refine TL_frontB x10.1.1 ?_
  refine TL_e rfl (Ef_call (ssome_c (p := x10.1.1) (r := x10.1.2) (sa := x10.2.1.a) (sc := x10.2.1.c) (ls := x10.2.1.ls) (rt := ⟨none, 0, 0⟩) (num := 0) (mk := 15) (es := E2) (c := 2) goodW (by decide) (by decide) (above := 0)) rfl (fun x29 => ?_))
  refine TL_pure (fun h29 => ?_)
  rw [someW] at h29
  obtain rfl := grSome h29
  refine TL_q (Qt_eql rfl rfl) rfl ?_
  refine TL_q (Qt_move (.bool _) rfl) rfl ?_
  refine TL_split 31 rfl (fun h31 => ?_) (fun h31 => ?_)
  ·
    have p31 := h31
    try simp only [decide_eq_true_eq, decide_eq_false_iff_not, Bool.not_eq_true', Bool.not_eq_false', Option.isNone_iff_eq_none, ne_eq, Decidable.not_not, Int.not_lt, Int.not_le] at p31
    refine TL_take rfl rfl h31 ?_
    refine TL_q (Qt_move (.pointer _) rfl) rfl ?_
    refine TL_frontB x10.1.2 ?_
    refine TL_frontB x10.1.1 ?_
    refine TL_take rfl rfl h31 ?_
    refine TL_e rfl (Ef_call (senough_c (p := x10.1.1) (r := x10.1.2) (sa := x10.2.1.a) (sc := x10.2.1.c) (ls := x10.2.1.ls) (rt := ⟨none, 0, 0⟩) (num := 0) (mk := 15) (es := E2) (c := 2) goodW (by decide) (by decide) (above := 0)) rfl (fun x33 => ?_))
    refine TL_pure (fun h33 => ?_)
    rw [enoughW] at h33
    obtain rfl := grEnough h33
    refine TL_take rfl rfl h31 ?_
    refine TL_q (Qt_eql rfl rfl) rfl ?_
    refine TL_q (Qt_pick_t (.bool _) rfl h31 rfl) rfl ?_
    refine TL_q (Qt_move (.bool _) rfl) rfl ?_
    refine TL_split 36 rfl (fun h36 => ?_) (fun h36 => ?_)
    ·
      have p36 := h36
      try simp only [decide_eq_true_eq, decide_eq_false_iff_not, Bool.not_eq_true', Bool.not_eq_false', Option.isNone_iff_eq_none, ne_eq, Decidable.not_not, Int.not_lt, Int.not_le] at p36
      refine TL_take rfl rfl h36 ?_
      refine TL_q (Qt_move (.pointer _) rfl) rfl ?_
      refine TL_frontB x10.1.2 ?_
      refine TL_frontB x10.1.1 ?_
      refine TL_take rfl rfl h36 ?_
      refine TL_e rfl (Ef_call (scount_c (p := x10.1.1) (r := x10.1.2) (sa := x10.2.1.a) (sc := x10.2.1.c) (ls := x10.2.1.ls) (rt := ⟨none, 0, 0⟩) (num := 0) (mk := 15) (es := E2) (c := 2) goodW (by decide) (reg := 3)) rfl (fun x38 => ?_))
      rw [show countE E2 3 = 1 from by rw [countW]; rfl]
      refine TL_take rfl rfl h36 ?_
      refine TL_q (Qt_eql rfl rfl) rfl ?_
      refine TL_q (Qt_pick_t (.bool _) rfl h36 rfl) rfl ?_
      refine TL_q (Qt_assign (.bool _) rfl) rfl ?_
      refine TL_nil ?_
      refine X_then ?_
      refine T_ret ?_
      exact X_ret () [.bool true] Try.results4 ⟨by refine congrArg Value.bool ?_; decide, trivial⟩ rfl (Subs.st inferInstance)
    ·
      have p36 := h36
      try simp only [decide_eq_true_eq, decide_eq_false_iff_not, Bool.not_eq_true', Bool.not_eq_false', Option.isNone_iff_eq_none, ne_eq, Decidable.not_not, Int.not_lt, Int.not_le] at p36
      exact absurd h36 (by decide)
  ·
    have p31 := h31
    try simp only [decide_eq_true_eq, decide_eq_false_iff_not, Bool.not_eq_true', Bool.not_eq_false', Option.isNone_iff_eq_none, ne_eq, Decidable.not_not, Int.not_lt, Int.not_le] at p31
    exact absurd h31 (by decide)
set_option maxHeartbeats 1000000 in
theorem long19_c {w0 : World} {H : List SA} {a : Option Addr} {ls : List BS} {c : Nat} [hr : RdC w0 H (.slice a ls.length c) 1 (ls.map BS.val)] :
    CT Try.prog w0 (H) 5 [.slice a ls.length c] (α := Unit) (fun _ => .bool (longS (ls.map BS.l))) (fun _ => H) := by
  refine CT_intro Try.func5 rfl Try.ntmps5 rfl ?_
  refine T_seq ?_
  refine T_region ?_
  refine TL_q (Qt_assign (.bool _) rfl) rfl ?_
  refine TL_nil ?_
  refine X_then ?_
  refine T_seq ?_
  refine T_seq ?_
  refine T_region ?_
  refine TL_q (Qt_move (.slice _ _ _) rfl) rfl ?_
  refine TL_q (Qt_len_slice rfl Try.underlying28) rfl ?_
  refine TL_q (Qt_gtr rfl rfl) rfl ?_
  refine TL_nil ?_
  refine X_then ?_
  refine T_cond rfl (fun h6 => ?_) (fun h6 => ?_)
  ·
    have p6 := h6
    try simp only [decide_eq_true_eq, decide_eq_false_iff_not, Bool.not_eq_true', Bool.not_eq_false', Option.isNone_iff_eq_none, ne_eq, Decidable.not_not, Int.not_lt, Int.not_le] at p6
    refine T_seq ?_
    refine T_region ?_
    refine TL_q (Qt_assign (.bool _) rfl) rfl ?_
    refine TL_nil ?_
    refine X_then ?_
    refine T_ret ?_
    refine X_then_ret ?_
    have e : longS (ls.map BS.l) = true := by simp [longS]; left; omega
    exact X_ret () [_] Try.results5 ⟨rfl, trivial⟩ (by rw [e]; rfl) (Subs.st inferInstance)
  ·
    have p6 := h6
    try simp only [decide_eq_true_eq, decide_eq_false_iff_not, Bool.not_eq_true', Bool.not_eq_false', Option.isNone_iff_eq_none, ne_eq, Decidable.not_not, Int.not_lt, Int.not_le] at p6
    refine T_skip ?_
    refine X_then ?_
    refine T_seq ?_
    refine T_seq ?_
    refine T_region ?_
    refine TL_q (Qt_move (.slice _ _ _) rfl) rfl ?_
    refine TL_q (Qt_len_slice rfl Try.underlying28) rfl ?_
    refine TL_q (Qt_move (.int .i64 _) rfl) rfl ?_
    refine TL_nil ?_
    refine X_then ?_
    refine T_block ?_
    refine T_loop [2, 3, 9, 10, 11, 12, 13, 14, 15, 16, 17, 18] [9] (fun us H' => ∃ (k : Nat), us = [.int .i64 (k : Int)] ∧ H = H' ∧ k ≤ ls.length ∧ (((ls.map BS.l).take k).any (fun c => decide (6000 < c.length)) = false)) (fun us => match us with | .int _ i :: _ => ls.length - i.toNat | _ => 0) ⟨0, rfl, rfl, by omega, rfl⟩ (Subs.st inferInstance) ?_
    rintro τ0 _ _  ⟨k, rfl, rfl, hk0, hpre⟩ _
    refine T_seq ?_
    refine T_region ?_
    refine TL_q (Qt_lss rfl rfl) rfl ?_
    refine TL_nil ?_
    refine X_then ?_
    refine T_seq ?_
    refine T_cond rfl (fun h10 => ?_) (fun h10 => ?_)
    ·
      have p10 := h10
      try simp only [decide_eq_true_eq, decide_eq_false_iff_not, Bool.not_eq_true', Bool.not_eq_false', Option.isNone_iff_eq_none, ne_eq, Decidable.not_not, Int.not_lt, Int.not_le] at p10
      have hk : k < ls.length := by omega
      refine T_skip ?_
      refine X_then ?_
      refine T_seq ?_
      refine T_block ?_
      refine T_seq ?_
      refine T_region ?_
      refine TL_q (Qt_move (.int .i64 _) rfl) rfl ?_
      refine TL_q (Qt_assign (.int .i64 _) rfl) rfl ?_
      refine TL_nil ?_
      refine X_then ?_
      refine T_seq ?_
      refine T_region ?_
      refine TL_q (Qt_move (.slice _ _ _) rfl) rfl ?_
      refine TL_q (Qt_move (.int .i64 _) rfl) rfl ?_
      refine TL_q (Qt_indexR rfl rfl (by omega) (by simp; omega)) rfl ?_
      refine TL_q (Qt_loadR (.slice _ _ _) rfl (vals_get _ _ hk)) rfl ?_
      refine TL_q (Qt_len_slice rfl Try.underlying36) rfl ?_
      refine TL_q (Qt_gtr rfl rfl) rfl ?_
      refine TL_nil ?_
      refine X_then ?_
      refine T_cond rfl (fun h17 => ?_) (fun h17 => ?_)
      ·
        have p17 := h17
        try simp only [decide_eq_true_eq, decide_eq_false_iff_not, Bool.not_eq_true', Bool.not_eq_false', Option.isNone_iff_eq_none, ne_eq, Decidable.not_not, Int.not_lt, Int.not_le] at p17
        refine T_seq ?_
        refine T_region ?_
        refine TL_q (Qt_assign (.bool _) rfl) rfl ?_
        refine TL_nil ?_
        refine X_then ?_
        refine T_ret ?_
        refine X_block_ret ?_
        refine X_then_ret ?_
        refine X_loop_ret ?_
        refine X_block_ret ?_
        refine X_then_ret ?_
        have e : longS (ls.map BS.l) = true := by have := any_of_get (fun c : List UInt8 => decide (6000 < c.length)) (ls.map BS.l) k (by simpa using hk) (by simp; omega); simp only [longS, this, Bool.or_true]
        exact X_ret () [_] Try.results5 ⟨rfl, trivial⟩ (by rw [e]; rfl) (Subs.st inferInstance)
      ·
        have p17 := h17
        try simp only [decide_eq_true_eq, decide_eq_false_iff_not, Bool.not_eq_true', Bool.not_eq_false', Option.isNone_iff_eq_none, ne_eq, Decidable.not_not, Int.not_lt, Int.not_le] at p17
        refine T_skip ?_
        refine X_block ?_
        refine X_then ?_
        refine T_region ?_
        first
          | refine TL_q (Qt_add rfl rfl (by omega) (by omega)) rfl ?_
          | refine TL_q (Qt_addw rfl rfl) rfl ?_
        refine TL_q (Qt_move (.int .i64 _) rfl) rfl ?_
        refine TL_nil ?_
        apply X_loop
        case ha => exact (by repeat (first | with_reducible exact agree_refl | refine agree_upd rfl ?_ | refine agree_mix rfl ?_ | refine agree_setAll rfl ?_))
        case hI => exact ⟨k + 1, rfl, rfl, by omega, any_take_snoc _ (ls.map BS.l) k (by simpa using hk) hpre (by simp; omega)⟩
        case hm => exact by show ls.length - (k + 1 : Int).toNat < ls.length - (k : Int).toNat; omega
        case hH => exact (Subs.st inferInstance)
    ·
      have p10 := h10
      try simp only [decide_eq_true_eq, decide_eq_false_iff_not, Bool.not_eq_true', Bool.not_eq_false', Option.isNone_iff_eq_none, ne_eq, Decidable.not_not, Int.not_lt, Int.not_le] at p10
      have et : (ls.map BS.l).take k = ls.map BS.l := List.take_of_length_le (by simp; omega)
      rw [et] at hpre
      refine T_exit ?_
      refine X_then_exit ?_
      refine X_loop_exit ?_
      refine X_block_exit ?_
      refine X_then ?_
      refine T_seq ?_
      refine T_region ?_
      refine TL_q (Qt_assign (.bool _) rfl) rfl ?_
      refine TL_nil ?_
      refine X_then ?_
      refine T_ret ?_
      have e : longS (ls.map BS.l) = false := by simp only [longS, hpre, Bool.or_false]; simp; omega
      exact X_ret () [_] Try.results5 ⟨rfl, trivial⟩ (by rw [e]; rfl) (Subs.st inferInstance)
end Go.Proofs.Ytnijomppbgdmnaa
