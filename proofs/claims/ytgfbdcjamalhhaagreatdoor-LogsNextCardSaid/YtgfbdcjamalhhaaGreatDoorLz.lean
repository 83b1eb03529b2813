/- The law LogsNext, walked. -/
import Derived.Test.YtgfbdcjamalhhaaGreatDoorLx
import Derived.Test.YtgfbdcjamalhhaaGreatDoorLy
import Derived.Test.YtgfbdcjamalhhaaGreatDoorTm
namespace Go.Proofs.YtgfbdcjamalhhaaGreatDoor
open Go.RowKit Go.Sx
set_option maxRecDepth 100000
set_option linter.unusedSimpArgs false
set_option linter.unusedVariables false
attribute [local irreducible] toldB recsB nmB nxS bgS runS namesE lastN newN sha
theorem lact_get (l : List LActV) (i j : Nat) (hi : i < l.length) (hj : j < 6) {u : Value} (h : CellAt l[i].cells j u) : (l.flatMap LActV.list)[i * 6 + j]? = some u := by
  rw [flat_get LActV.list 6 LActV.list_len l i j hi hj]
  exact cell_list (l := l[i].list) h
theorem lact_pos {l : List LActV} {i : Nat} (hi : i < l.length) : 0 < (l.flatMap LActV.list).length := by rw [flat_len _ 6 LActV.list_len]; omega
def ShortL (l : List LActV) : Prop := l.length ≤ 40 ∧ ∀ a ∈ l, a.b.l.length ≤ 700
instance (priority := low) RdC.subB {w0 : World} {H : List SA} {a : Option Addr} {c i : Nat} {l : List BS} [h : RdC w0 H (.slice a l.length c) 1 (l.map BS.val)] : RdC w0 H (.slice (subA a c i 1) (l.length - i) (c - i)) 1 ((l.drop i).map BS.val) := ⟨fun w hw => by
  by_cases hi : i ≤ l.length
  · have h1 := (h.rd w hw).sub (by decide) i (l.length - i) (by omega)
    have e : (List.drop (i * 1) (l.map BS.val)).take ((l.length - i) * 1) = (l.drop i).map BS.val := by
      rw [Nat.mul_one, Nat.mul_one, ← List.map_drop]
      exact List.take_of_length_le (by simp)
    rw [e] at h1; exact h1
  · obtain ⟨a', n', c', hv, -, hn, hc, -⟩ := h.rd w hw
    obtain ⟨rfl, rfl, rfl⟩ : a' = a ∧ n' = l.length ∧ c' = c := by simp at hv; exact ⟨hv.1.symm, hv.2.1.symm, hv.2.2.symm⟩
    have e : l.drop i = [] := List.drop_of_length_le (by omega)
    rw [e]
    exact ⟨_, _, _, rfl, by simp; omega, by omega, by omega, fun h0 => absurd h0 (by simp)⟩⟩
theorem last_nil0 : lastN ([] : List Nat) ≤ 0 := by unfold lastN; exact Nat.le_refl _
theorem last_one (x : Nat) : lastN [x] = x := by unfold lastN; rfl
set_option maxHeartbeats 1000000 in
theorem long11_c {w0 : World} {H : List SA} {a : Option Addr} {l : List LActV} {c : Nat} [hr : RdC w0 H (.slice a l.length c) 6 (l.flatMap LActV.list)] :
    CT Tryz.prog w0 (H) 13 [.slice a l.length c] (α := Bool) (fun b => .bool b) (fun b => pu (b = false → ShortL l) :: H) := by
  refine CT_intro Tryz.func13 rfl Tryz.ntmps13 rfl ?_
  refine T_seq ?_
  refine T_region ?_
  refine TL_q (Qt_assign (.bool _) rfl) rfl ?_
  refine TL_nil ?_
  refine X_then ?_
  refine T_seq ?_
  refine T_seq ?_
  refine T_region ?_
  refine TL_q (Qt_move (.slice _ _ _) rfl) rfl ?_
  refine TL_q (Qt_len_slice rfl Tryz.underlying34) rfl ?_
  refine TL_q (Qt_gtr rfl rfl) rfl ?_
  refine TL_nil ?_
  refine X_then ?_
  refine T_cond rfl (fun h6 => ?_) (fun h6 => ?_)
  ·
    have p6 := h6
    try simp only [decide_eq_true_eq, decide_eq_false_iff_not, Bool.not_eq_true', Bool.not_eq_false', Option.isNone_iff_eq_none, ne_eq, Decidable.not_not, Int.not_lt, Int.not_le] at p6
    refine T_seq ?_
    refine T_region ?_
    refine TL_q (Qt_assign (.bool _) rfl) rfl ?_
    refine TL_nil ?_
    refine X_then ?_
    refine T_ret ?_
    refine X_then_ret ?_
    exact X_ret true [_] Tryz.results13 ⟨rfl, trivial⟩ rfl (fun w hw => (Subs.st inferInstance w hw : St w0 H w).addPure (fun h => by cases h))
  ·
    have p6 := h6
    try simp only [decide_eq_true_eq, decide_eq_false_iff_not, Bool.not_eq_true', Bool.not_eq_false', Option.isNone_iff_eq_none, ne_eq, Decidable.not_not, Int.not_lt, Int.not_le] at p6
    refine T_skip ?_
    refine X_then ?_
    refine T_seq ?_
    refine T_seq ?_
    refine T_region ?_
    refine TL_q (Qt_move (.slice _ _ _) rfl) rfl ?_
    refine TL_q (Qt_len_slice rfl Tryz.underlying34) rfl ?_
    refine TL_q (Qt_move (.int .i64 _) rfl) rfl ?_
    refine TL_nil ?_
    refine X_then ?_
    refine T_block ?_
    refine T_loop [2, 3, 9, 10, 11, 12, 13, 14, 15, 16, 17, 18, 19] [9] (fun us H' => ∃ (k : Nat), us = [.int .i64 (k : Int)] ∧ H = H' ∧ k ≤ l.length ∧ (∀ (i : Nat) (hi : i < l.length), i < k → l[i].b.l.length ≤ 700)) (fun us => match us with | .int _ i :: _ => l.length - i.toNat | _ => 0) ⟨0, rfl, rfl, by omega, fun i hi h => by omega⟩ (Subs.st inferInstance) ?_
    rintro τ0 _ _  ⟨k, rfl, rfl, hk0, hpre⟩ _
    refine T_seq ?_
    refine T_region ?_
    refine TL_q (Qt_lss rfl rfl) rfl ?_
    refine TL_nil ?_
    refine X_then ?_
    refine T_seq ?_
    refine T_cond rfl (fun h10 => ?_) (fun h10 => ?_)
    ·
      have p10 := h10
      try simp only [decide_eq_true_eq, decide_eq_false_iff_not, Bool.not_eq_true', Bool.not_eq_false', Option.isNone_iff_eq_none, ne_eq, Decidable.not_not, Int.not_lt, Int.not_le] at p10
      have hk : k < l.length := by omega
      refine T_skip ?_
      refine X_then ?_
      refine T_seq ?_
      refine T_block ?_
      refine T_seq ?_
      refine T_region ?_
      refine TL_q (Qt_move (.int .i64 _) rfl) rfl ?_
      refine TL_q (Qt_assign (.int .i64 _) rfl) rfl ?_
      refine TL_nil ?_
      refine X_then ?_
      refine T_seq ?_
      refine T_region ?_
      refine TL_q (Qt_move (.slice _ _ _) rfl) rfl ?_
      refine TL_q (Qt_move (.int .i64 _) rfl) rfl ?_
      refine TL_q (Qt_indexN rfl rfl (by omega) (by omega)) rfl ?_
      refine TL_q (Qt_fieldR rfl 6 (lact_pos hk)) rfl ?_
      refine TL_q (Qt_loadRs 6 (.slice _ _ _) rfl (lact_get l k 2 hk (by decide) inferInstance)) rfl ?_
      refine TL_q (Qt_len_slice rfl Tryz.underlying30) rfl ?_
      refine TL_q (Qt_gtr rfl rfl) rfl ?_
      refine TL_nil ?_
      refine X_then ?_
      refine T_cond rfl (fun h18 => ?_) (fun h18 => ?_)
      ·
        have p18 := h18
        try simp only [decide_eq_true_eq, decide_eq_false_iff_not, Bool.not_eq_true', Bool.not_eq_false', Option.isNone_iff_eq_none, ne_eq, Decidable.not_not, Int.not_lt, Int.not_le] at p18
        refine T_seq ?_
        refine T_region ?_
        refine TL_q (Qt_assign (.bool _) rfl) rfl ?_
        refine TL_nil ?_
        refine X_then ?_
        refine T_ret ?_
        refine X_block_ret ?_
        refine X_then_ret ?_
        refine X_loop_ret ?_
        refine X_block_ret ?_
        refine X_then_ret ?_
        exact X_ret true [_] Tryz.results13 ⟨rfl, trivial⟩ rfl (fun w hw => (Subs.st inferInstance w hw : St w0 H w).addPure (fun h => by cases h))
      ·
        have p18 := h18
        try simp only [decide_eq_true_eq, decide_eq_false_iff_not, Bool.not_eq_true', Bool.not_eq_false', Option.isNone_iff_eq_none, ne_eq, Decidable.not_not, Int.not_lt, Int.not_le] at p18
        have hone : l[k].b.l.length ≤ 700 := by omega
        refine T_skip ?_
        refine X_block ?_
        refine X_then ?_
        refine T_region ?_
        first
          | refine TL_q (Qt_add rfl rfl (by omega) (by omega)) rfl ?_
          | refine TL_q (Qt_addw rfl rfl) rfl ?_
        refine TL_q (Qt_move (.int .i64 _) rfl) rfl ?_
        refine TL_nil ?_
        apply X_loop
        case ha => exact (by repeat (first | with_reducible exact agree_refl | refine agree_upd rfl ?_ | refine agree_mix rfl ?_ | refine agree_setAll rfl ?_))
        case hI => exact ⟨k + 1, rfl, rfl, by omega, fun i hi h => by rcases Nat.lt_or_ge i k with h1 | h1; exact hpre i hi h1; obtain rfl : i = k := (by omega); exact hone⟩
        case hm => exact by show l.length - (k + 1 : Int).toNat < l.length - (k : Int).toNat; omega
        case hH => exact (Subs.st inferInstance)
    ·
      have p10 := h10
      try simp only [decide_eq_true_eq, decide_eq_false_iff_not, Bool.not_eq_true', Bool.not_eq_false', Option.isNone_iff_eq_none, ne_eq, Decidable.not_not, Int.not_lt, Int.not_le] at p10
      refine T_exit ?_
      refine X_then_exit ?_
      refine X_loop_exit ?_
      refine X_block_exit ?_
      refine X_then ?_
      refine T_seq ?_
      refine T_region ?_
      refine TL_q (Qt_assign (.bool _) rfl) rfl ?_
      refine TL_nil ?_
      refine X_then ?_
      refine T_ret ?_
      exact X_ret false [_] Tryz.results13 ⟨rfl, trivial⟩ rfl (fun w hw => (Subs.st inferInstance w hw : St w0 H w).addPure (fun _ => ⟨by omega, fun a ha => by obtain ⟨i, hi, rfl⟩ := List.getElem_of_mem ha; exact hpre i hi (by omega)⟩))
set_option maxHeartbeats 1000000 in
theorem last_c {w0 : World} {H : List SA} {a : Option Addr} {l : List BS} {c : Nat} {m : Int} (hl : l.length ≤ 1000000) :
    CT Tryz.prog w0 (H) 14 [.slice a l.length c, .int .i64 m] (α := Nat) (fun i => .slice (subA a c i 1) (l.length - i) (c - i)) (fun i => pu (i ≤ l.length ∧ (m ≤ 8 → l.length ≤ i + 8)) :: H) := by
  refine CT_intro Tryz.func14 rfl Tryz.ntmps14 rfl ?_
  refine T_seq ?_
  refine T_region ?_
  refine TL_q (Qt_assign (.slice _ _ _) rfl) rfl ?_
  refine TL_nil ?_
  refine X_then ?_
  refine T_seq ?_
  refine T_region ?_
  refine TL_q (Qt_move (.slice _ _ _) rfl) rfl ?_
  refine TL_q (Qt_move (.slice _ _ _) rfl) rfl ?_
  refine TL_q (Qt_len_slice rfl Tryz.underlying22) rfl ?_
  refine TL_q (Qt_move (.int .i64 _) rfl) rfl ?_
  refine TL_q (Qt_max rfl rfl) rfl ?_
  refine TL_q (Qt_move (.slice _ _ _) rfl) rfl ?_
  refine TL_q (Qt_len_slice rfl Tryz.underlying22) rfl ?_
  obtain ⟨j, hj1, hj2, hj3⟩ : ∃ j : Nat, (if (l.length : Int) < (if (0 : Int) > m then (0 : Int) else m) then (l.length : Int) else (if (0 : Int) > m then (0 : Int) else m)) = (j : Int) ∧ j ≤ l.length ∧ (m ≤ 8 → j ≤ 8) := ⟨min l.length m.toNat, by split <;> split <;> omega, by omega, fun h => by omega⟩
  refine TL_q (Qt_val (Qt_min rfl rfl) (congrArg (Value.int .i64) hj1)) rfl ?_
  refine TL_q (Qt_val (Qt_sub rfl rfl (by omega) (by omega)) (congrArg (Value.int .i64) (show (l.length : Int) - (j : Int) = ((l.length - j : Nat) : Int) from by omega))) rfl ?_
  refine TL_q (Qt_slice_l (l.length - j) rfl rfl (by omega)) rfl ?_
  refine TL_q (Qt_assign (.slice _ _ _) rfl) rfl ?_
  refine TL_nil ?_
  refine X_then ?_
  refine T_ret ?_
  exact X_ret (l.length - j) [_] Tryz.results14 ⟨rfl, trivial⟩ rfl (fun w hw => (Subs.st inferInstance w hw : St w0 H w).addPure ⟨by omega, fun h => by have := hj3 h; omega⟩)
set_option maxHeartbeats 1000000 in
theorem logsNext_c {w0 : World} {H : List SA} {a : Option Addr} {l : List LActV} {c : Nat} [hr : RdC w0 H (.slice a l.length c) 6 (l.flatMap LActV.list)] (rl : ∀ x ∈ l, RdB w0 H (.slice x.b.a x.b.l.length x.b.c) x.b.l) :
    CT Tryz.prog w0 (H) 4 [.slice a l.length c] (α := Unit) (fun _ => .bool true) (fun _ => H) := by
  refine CT_intro Tryz.func4 rfl Tryz.ntmps4 rfl ?_
  refine T_seq ?_
  refine T_region ?_
  refine TL_q (Qt_assign (.bool _) rfl) rfl ?_
  refine TL_nil ?_
  refine X_then ?_
  refine T_seq ?_
  refine T_seq ?_
  refine T_region ?_
  refine TL_e rfl (Ef_call (wakes11_c) rfl (fun x15 => ?_))
  refine TL_q (Qt_not rfl) rfl ?_
  refine TL_nil ?_
  refine X_then ?_
  refine T_cond_false rfl (by first | rfl | decide) ?_
  refine T_skip ?_
  refine X_then ?_
  refine T_seq ?_
  refine T_seq ?_
  refine T_region ?_
  refine TL_q (Qt_move (.slice _ _ _) rfl) rfl ?_
  refine TL_e rfl (Ef_call (long11_c (l := l)) rfl (fun x18 => ?_))
  refine TL_pure (fun hs18 => ?_)
  refine TL_nil ?_
  refine X_then ?_
  refine T_cond rfl (fun h18 => ?_) (fun h18 => ?_)
  ·
    have p18 := h18
    try simp only [decide_eq_true_eq, decide_eq_false_iff_not, Bool.not_eq_true', Bool.not_eq_false', Option.isNone_iff_eq_none, ne_eq, Decidable.not_not, Int.not_lt, Int.not_le] at p18
    refine T_seq ?_
    refine T_region ?_
    refine TL_q (Qt_assign (.bool _) rfl) rfl ?_
    refine TL_nil ?_
    refine X_then ?_
    refine T_ret ?_
    refine X_then_ret ?_
    exact X_ret () [.bool true] Tryz.results4 ⟨rfl, trivial⟩ rfl (Subs.st inferInstance)
  ·
    have p18 := h18
    try simp only [decide_eq_true_eq, decide_eq_false_iff_not, Bool.not_eq_true', Bool.not_eq_false', Option.isNone_iff_eq_none, ne_eq, Decidable.not_not, Int.not_lt, Int.not_le] at p18
    have hsl : ShortL l := hs18 h18
    have hl40 := hsl.1
    refine T_skip ?_
    refine X_then ?_
    refine T_seq ?_
    refine T_region ?_
    refine TL_e rfl (Ef_call (dnew_c (n := 262144)) rfl (fun x19 => ?_))
    refine TL_q (Qt_assign (.pointer _) rfl) rfl ?_
    refine TL_nil ?_
    refine X_then ?_
    refine T_seq ?_
    refine T_region ?_
    refine TL_q (Qt_move (.pointer _) rfl) rfl ?_
    have hok0 : (newS x19.2.1 x19.2.2 262144).Ok 0 10000 := (newS_ok _ _ _).mono (by decide) (by decide)
    refine TL_e rfl (Ef_call (openE_c (p := x19.1) (s := (newS x19.2.1 x19.2.2 262144)) hok0 (by decide) rfl (pre := lgB) (by show 3 ≤ maxLen; unfold maxLen; omega) fineLg) rfl (fun x22 => ?_))
    refine TL_q (Qt_move (.tuple _) rfl) rfl ?_
    refine TL_q (Qt_extract rfl) rfl ?_
    refine TL_q (Qt_extract rfl) rfl ?_
    refine TL_q (Qt_extract rfl) rfl ?_
    refine TL_q (Qt_assign (.pointer _) rfl) rfl ?_
    refine TL_q (Qt_assign (.slice _ _ _) rfl) rfl ?_
    refine TL_q (Qt_assign (.int .i64 _) rfl) rfl ?_
    refine TL_nil ?_
    refine X_then ?_
    refine T_seq ?_
    refine T_region ?_
    refine TL_q (Qt_assign (.int .u64 _) rfl) rfl ?_
    refine TL_nil ?_
    refine X_then ?_
    refine T_seq ?_
    refine T_region ?_
    refine TL_q (Qt_assign (.slice _ _ _) rfl) rfl ?_
    refine TL_nil ?_
    refine X_then ?_
    refine T_seq ?_
    refine T_seq ?_
    refine T_region ?_
    refine TL_q (Qt_move (.slice _ _ _) rfl) rfl ?_
    refine TL_q (Qt_len_slice rfl Tryz.underlying34) rfl ?_
    refine TL_q (Qt_move (.int .i64 _) rfl) rfl ?_
    refine TL_nil ?_
    refine X_then ?_
    refine T_block ?_
    refine T_loop [2, 7, 8, 10, 11, 28, 29, 30, 31, 32, 33, 34, 35, 36, 37, 38, 39, 40, 41, 42, 43, 44, 45, 46, 47, 48, 49, 50, 51, 52, 53, 54, 55, 56, 57, 58, 59, 60, 61, 62, 63, 64, 65, 66, 67, 68, 69, 70, 71, 72, 73] [28, 7, 8] (fun us H' => ∃ (k : Nat) (aa : Option Addr) (ac : Nat) (als : List BS) (s : DS) (t : LS), us = [.int .i64 (k : Int), .int .u64 ((t.nx : Nat) : Int), .slice aa als.length ac] ∧ row (.slice aa (als).length ac) 30 1 ((als).map BS.val) :: lblk x22 x19.1 lgB t :: lrow t :: DS.H x19.1 s H = H' ∧ k ≤ l.length ∧ (∃ fs rc, LogI lgB s t fs rc (als.map BS.l)) ∧ (s.Ok (50 * k) (10000 + 5000000 * k)) ∧ (∀ x ∈ als, ∃ y ∈ l, x = y.b) ∧ (lastN t.segs ≤ k) ∧ (t.segs.length ≤ k) ∧ (t.nx ≤ 1 + 9 * k) ∧ (t.siz ≤ 20000) ∧ (als.length ≤ k + 8)) (fun us => match us with | .int _ i :: _ => l.length - i.toNat | _ => 0) ⟨0, none, 0, [], (newS x19.2.1 x19.2.2 262144), (⟨none, 0, [], 0, 1, false⟩ : LS), rfl, rfl, by omega, ⟨fun _ => 0, fun _ => [], LogI.start⟩, hok0, (fun x hx => by cases hx), last_nil0, by simp, by simp, by simp, by simp⟩ (fun w hw => (Subs.st inferInstance w hw : St w0 (lblk x22 x19.1 lgB (⟨none, 0, [], 0, 1, false⟩ : LS) :: lrow (⟨none, 0, [], 0, 1, false⟩ : LS) :: DS.H x19.1 (newS x19.2.1 x19.2.2 262144) H) w).addNil 30 1) ?_
    rintro τ0 _ _  ⟨k, aa, ac, als, s, t, rfl, rfl, hk0, hI, hokk, hsub, hl1, hl2, hl3, hl4, hl5⟩ _
    refine T_seq ?_
    refine T_region ?_
    refine TL_q (Qt_lss rfl rfl) rfl ?_
    refine TL_nil ?_
    refine X_then ?_
    refine T_seq ?_
    refine T_cond rfl (fun h29 => ?_) (fun h29 => ?_)
    ·
      have p29 := h29
      try simp only [decide_eq_true_eq, decide_eq_false_iff_not, Bool.not_eq_true', Bool.not_eq_false', Option.isNone_iff_eq_none, ne_eq, Decidable.not_not, Int.not_lt, Int.not_le] at p29
      have hk : k < l.length := by omega
      refine T_skip ?_
      refine X_then ?_
      refine T_seq ?_
      refine T_block ?_
      refine T_seq ?_
      refine T_region ?_
      refine TL_q (Qt_indexN rfl rfl (by omega) (by omega)) rfl ?_
      refine TL_q (Qt_val (Qt_loadRN 6 l[k].list rfl (flat_slice _ 6 LActV.list_len l k hk) (LActV.list_len _) (by decide)) (show Value.agg l[k].list.toArray = Value.agg l[k].cells from rfl)) rfl ?_
      refine TL_e rfl (Ef_allocN (fun b10 => ?_))
      refine TL_n (Ef_storeN rfl rfl (?_))
      refine TL_nil ?_
      refine X_then ?_
      refine T_seq ?_
      refine T_seq ?_
      refine T_region ?_
      refine TL_q (Qt_fieldAddr 0 rfl rfl) rfl ?_
      refine TL_q (Qt_load1 rfl) rfl ?_
      refine TL_nil ?_
      refine X_then ?_
      refine T_block ?_
      refine T_seq ?_
      refine T_region ?_
      refine TL_q (Qt_eql rfl rfl) rfl ?_
      refine TL_q (Qt_assign (.bool _) rfl) rfl ?_
      refine TL_nil ?_
      refine X_then ?_
      refine T_cond rfl (fun h36 => ?_) (fun h36 => ?_)
      ·
        have p36 := h36
        try simp only [decide_eq_true_eq, decide_eq_false_iff_not, Bool.not_eq_true', Bool.not_eq_false', Option.isNone_iff_eq_none, ne_eq, Decidable.not_not, Int.not_lt, Int.not_le] at p36
        refine T_seq ?_
        refine T_seq ?_
        refine T_region ?_
        refine TL_q (Qt_move (.pointer _) rfl) rfl ?_
        refine TL_q (Qt_fieldAddr 2 rfl rfl) rfl ?_
        refine TL_q (Qt_load1 rfl) rfl ?_
        obtain ⟨fs, rc, hI0⟩ := hI
        have hb7 := hsl.2 l[k] (List.getElem_mem hk)
        have := rl l[k] (List.getElem_mem hk)
        refine TL_conv (fun w hw => (Subs.st inferInstance w hw : St w0 (lblk x22 x19.1 lgB t :: lrow t :: DS.H x19.1 s (row (.slice aa (als).length ac) 30 1 ((als).map BS.val) :: blk b10 (.cells l[k].cells 40 (0, 0)) :: H)) w)) ?_
        refine TL_e rfl (Ef_call (lappend_c (lp := x22) (p := x19.1) (pre := lgB) (t := t) (s := s) hokk (by omega) (by omega) (by omega) (by decide) (by omega) (by omega) (by omega) (by omega) (b := l[k].b) (by omega)) rfl (fun x41 => ?_))
        refine TL_pure (fun h41 => ?_)
        have htl := (toldB_len t.nx (by omega) l[k].b.l (by omega)).1
        have hok41 := h41.ok hokk (by omega) (by omega)
        replace hok41 := hok41.mono (N' := 50 * (k + 1)) (M' := 10000 + 5000000 * (k + 1)) (by omega) (by omega)
        obtain ⟨c1, c2⟩ := hI0.append h41 (by decide) (by omega) (by omega) (by omega) (by omega)
        refine TL_q (Qt_neq rfl rfl) rfl ?_
        refine TL_nil ?_
        refine X_then ?_
        refine T_cond rfl (fun h42 => ?_) (fun h42 => ?_)
        ·
          have p42 := h42
          try simp only [decide_eq_true_eq, decide_eq_false_iff_not, Bool.not_eq_true', Bool.not_eq_false', Option.isNone_iff_eq_none, ne_eq, Decidable.not_not, Int.not_lt, Int.not_le] at p42
          refine T_seq ?_
          refine T_region ?_
          refine TL_q (Qt_assign (.bool _) rfl) rfl ?_
          refine TL_nil ?_
          refine X_then ?_
          refine T_ret ?_
          refine X_then_ret ?_
          refine X_block_ret ?_
          refine X_then_ret ?_
          refine X_block_ret ?_
          refine X_then_ret ?_
          refine X_loop_ret ?_
          refine X_block_ret ?_
          refine X_then_ret ?_
          exact X_ret () [.bool true] Tryz.results4 ⟨rfl, trivial⟩ rfl (Subs.st inferInstance)
        ·
          have p42 := h42
          try simp only [decide_eq_true_eq, decide_eq_false_iff_not, Bool.not_eq_true', Bool.not_eq_false', Option.isNone_iff_eq_none, ne_eq, Decidable.not_not, Int.not_lt, Int.not_le] at p42
          obtain ⟨b1, b4, b5, b6, b7⟩ := c2 p42
          refine T_skip ?_
          refine X_then ?_
          refine T_seq ?_
          refine T_region ?_
          refine TL_q (Qt_move (.slice _ _ _) rfl) rfl ?_
          refine TL_q (Qt_fieldAddr 2 rfl rfl) rfl ?_
          refine TL_q (Qt_load1 rfl) rfl ?_
          refine TL_e rfl (Ef_slice1 (v := .slice _ _ _) rfl (fun a46 c46 => ?_))
          refine TL_e rfl (Ef_appendP (sv := .slice _ _ _) (xv := .slice _ _ _) l[k].b rfl rfl (by omega) rfl (fun a47 c47 => ?_))
          refine TL_q (Qt_assign (.slice _ _ _) rfl) rfl ?_
          refine TL_nil ?_
          refine X_then ?_
          refine T_region ?_
          refine TL_q (Qt_move (.int .u64 _) rfl) rfl ?_
          refine TL_q (Qt_val (Qt_addw rfl rfl) (congrArg (Value.int .u64) (show IntKind.u64.wrap (((t.nx : Nat) : Int) + 1) = ((x41.2.1.nx : Nat) : Int) from by rw [wrap_u64 (by omega) (by omega), b6]; rfl))) rfl ?_
          refine TL_q (Qt_assign (.int .u64 _) rfl) rfl ?_
          refine TL_nil ?_
          refine X_block ?_
          refine X_then ?_
          refine T_seq ?_
          refine T_region ?_
          refine TL_q (Qt_move (.pointer _) rfl) rfl ?_
          refine TL_frontA (lblk x22 x19.1 lgB x41.2.1) ?_
          refine TL_e rfl (Ef_call (lnext_c (lp := x22) (p := x19.1) (pre := lgB) (t := x41.2.1)) rfl (fun x70 => ?_))
          refine TL_q (Qt_move (.int .u64 _) rfl) rfl ?_
          refine TL_q (Qt_neq rfl rfl) rfl ?_
          refine TL_nil ?_
          refine X_then ?_
          refine T_cond rfl (fun h72 => ?_) (fun h72 => ?_)
          ·
            have p72 := h72
            try simp only [decide_eq_true_eq, decide_eq_false_iff_not, Bool.not_eq_true', Bool.not_eq_false', Option.isNone_iff_eq_none, ne_eq, Decidable.not_not, Int.not_lt, Int.not_le] at p72
            all_goals (exfalso; simp at h72)
          ·
            have p72 := h72
            try simp only [decide_eq_true_eq, decide_eq_false_iff_not, Bool.not_eq_true', Bool.not_eq_false', Option.isNone_iff_eq_none, ne_eq, Decidable.not_not, Int.not_lt, Int.not_le] at p72
            refine T_skip ?_
            refine X_block ?_
            refine X_then ?_
            refine T_region ?_
            first
              | refine TL_q (Qt_add rfl rfl (by omega) (by omega)) rfl ?_
              | refine TL_q (Qt_addw rfl rfl) rfl ?_
            refine TL_q (Qt_move (.int .i64 _) rfl) rfl ?_
            refine TL_nil ?_
            apply X_loop
            case ha => exact (by repeat (first | with_reducible exact agree_refl | refine agree_upd rfl ?_ | refine agree_mix rfl ?_ | refine agree_setAll rfl ?_))
            case hI => exact (by first | exact ⟨k + 1, a47, c47, als ++ [l[k].b], x41.1, x41.2.1, rfl, rfl, by omega, by rw [List.map_append]; exact b1, hok41, fun x hx => by rcases List.mem_append.1 hx with h | h; exact hsub x h; (exact ⟨l[k], List.getElem_mem hk, by simpa using h⟩), by omega, by omega, by omega, by omega, by simp; omega⟩ | exact ⟨k + 1, a58, c58, (als.drop x57), x61.1, x61.2.1, rfl, rfl, by omega, d1, hok61, fun x hx => hsub x (List.mem_of_mem_drop hx), by rw [d2, last_one]; omega, by rw [d2]; simp, by rw [d3, List.length_drop]; omega, d4, by rw [List.length_drop]; omega⟩ | exact ⟨k + 1, aa, ac, als, x35, t, rfl, rfl, by omega, ⟨fs, rc, hI35⟩, hok35, hsub, by omega, by omega, by omega, by omega, by omega⟩)
            case hm => exact by show l.length - (k + 1 : Int).toNat < l.length - (k : Int).toNat; omega
            case hH => exact (Subs.st inferInstance)
      ·
        have p36 := h36
        try simp only [decide_eq_true_eq, decide_eq_false_iff_not, Bool.not_eq_true', Bool.not_eq_false', Option.isNone_iff_eq_none, ne_eq, Decidable.not_not, Int.not_lt, Int.not_le] at p36
        refine T_seq ?_
        refine T_region ?_
        refine TL_q (Qt_eql rfl rfl) rfl ?_
        refine TL_q (Qt_assign (.bool _) rfl) rfl ?_
        refine TL_nil ?_
        refine X_then ?_
        refine T_cond rfl (fun h50 => ?_) (fun h50 => ?_)
        ·
          have p50 := h50
          try simp only [decide_eq_true_eq, decide_eq_false_iff_not, Bool.not_eq_true', Bool.not_eq_false', Option.isNone_iff_eq_none, ne_eq, Decidable.not_not, Int.not_lt, Int.not_le] at p50
          refine T_seq ?_
          refine T_region ?_
          refine TL_e rfl (Ef_slice0 (fun a52 c52 => ?_))
          refine TL_q (Qt_move (.slice _ _ _) rfl) rfl ?_
          refine TL_q (Qt_fieldAddr 1 rfl rfl) rfl ?_
          refine TL_q (Qt_load1 rfl) rfl ?_
          refine TL_q (Qt_min rfl rfl) rfl ?_
          refine TL_e rfl (Ef_call (last_c (a := aa) (l := als) (c := ac) (m := if (8 : Int) < l[k].n then 8 else l[k].n) (by omega)) rfl (fun x57 => ?_))
          refine TL_pure (fun h57 => ?_)
          have h57a := h57.1
          have h57b := h57.2 (by split <;> omega)
          refine TL_e rfl (Ef_append1 (sv := .slice _ _ _) (xv := .slice _ _ _) (xs := []) (news := (als.drop x57).map BS.val) rfl rfl (fun u hu => by obtain ⟨z, -, rfl⟩ := List.mem_map.1 hu; rfl) (by simp; omega) rfl (fun a58 c58 => ?_))
          simp only [List.nil_append, List.length_map]
          refine TL_q (Qt_assign (.slice _ _ _) rfl) rfl ?_
          refine TL_nil ?_
          refine X_then ?_
          refine T_seq ?_
          refine T_seq ?_
          refine T_region ?_
          refine TL_q (Qt_move (.pointer _) rfl) rfl ?_
          refine TL_q (Qt_move (.slice _ _ _) rfl) rfl ?_
          obtain ⟨fs, rc, hI0⟩ := hI
          have hse : RdE w0 H als := ⟨fun x hx => by obtain ⟨y, hy, rfl⟩ := hsub x hx; exact (rl y hy).rd⟩
          have hsd : RdE w0 H (als.drop x57) := ⟨fun x hx => hse.rd x (List.mem_of_mem_drop hx)⟩
          refine TL_conv (fun w hw => (Subs.st inferInstance w hw : St w0 (lblk x22 x19.1 lgB t :: lrow t :: DS.H x19.1 s (row (.slice a58 ((als.drop x57)).length c58) 30 1 (((als.drop x57)).map BS.val) :: row (.slice aa (als).length ac) 30 1 ((als).map BS.val) :: blk b10 (.cells l[k].cells 40 (0, 0)) :: H)) w)) ?_
          refine TL_e rfl (Ef_call (lcut_c (lp := x22) (p := x19.1) (pre := lgB) (t := t) (s := s) hokk (by omega) (by omega) (by omega) (by decide) (by omega) (by omega) hI0 (rs := (als.drop x57)) (by rw [List.length_drop]; omega) (fun x hx => by obtain ⟨y, hy, rfl⟩ := hsub x (List.mem_of_mem_drop hx); have := hsl.2 y hy; omega) (by omega)) rfl (fun x61 => ?_))
          refine TL_pure (fun h61 => ?_)
          obtain ⟨hok61, h61b⟩ := h61
          replace hok61 := hok61.mono (N' := 50 * (k + 1)) (M' := 10000 + 5000000 * (k + 1)) (by omega) (by omega)
          have hnl := new_le t.segs
          refine TL_q (Qt_neq rfl rfl) rfl ?_
          refine TL_nil ?_
          refine X_then ?_
          refine T_cond rfl (fun h62 => ?_) (fun h62 => ?_)
          ·
            have p62 := h62
            try simp only [decide_eq_true_eq, decide_eq_false_iff_not, Bool.not_eq_true', Bool.not_eq_false', Option.isNone_iff_eq_none, ne_eq, Decidable.not_not, Int.not_lt, Int.not_le] at p62
            refine T_seq ?_
            refine T_region ?_
            refine TL_q (Qt_assign (.bool _) rfl) rfl ?_
            refine TL_nil ?_
            refine X_then ?_
            refine T_ret ?_
            refine X_then_ret ?_
            refine X_block_ret ?_
            refine X_then_ret ?_
            refine X_block_ret ?_
            refine X_then_ret ?_
            refine X_loop_ret ?_
            refine X_block_ret ?_
            refine X_then_ret ?_
            exact X_ret () [.bool true] Tryz.results4 ⟨rfl, trivial⟩ rfl (Subs.st inferInstance)
          ·
            have p62 := h62
            try simp only [decide_eq_true_eq, decide_eq_false_iff_not, Bool.not_eq_true', Bool.not_eq_false', Option.isNone_iff_eq_none, ne_eq, Decidable.not_not, Int.not_lt, Int.not_le] at p62
            obtain ⟨d1, d2, d3, d4⟩ := h61b p62
            refine T_skip ?_
            refine X_then ?_
            refine T_seq ?_
            refine T_region ?_
            refine TL_q (Qt_move (.int .u64 _) rfl) rfl ?_
            refine TL_q (Qt_move (.slice _ _ _) rfl) rfl ?_
            refine TL_q (Qt_len_slice rfl Tryz.underlying22) rfl ?_
            refine TL_q (Qt_conv_u64 rfl rfl Tryz.underlying36 (by omega) (by rw [List.length_drop]; omega)) rfl ?_
            refine TL_q (Qt_val (Qt_addw rfl rfl) (congrArg (Value.int .u64) (show IntKind.u64.wrap (((t.nx : Nat) : Int) + (((als.drop x57).length : Nat) : Int)) = ((x61.2.1.nx : Nat) : Int) from by rw [wrap_u64 (by omega) (by rw [List.length_drop]; omega), d3]; rfl))) rfl ?_
            refine TL_q (Qt_assign (.int .u64 _) rfl) rfl ?_
            refine TL_nil ?_
            refine X_then ?_
            refine T_region ?_
            refine TL_q (Qt_move (.slice _ _ _) rfl) rfl ?_
            refine TL_q (Qt_assign (.slice _ _ _) rfl) rfl ?_
            refine TL_nil ?_
            refine X_block ?_
            refine X_then ?_
            refine T_seq ?_
            refine T_region ?_
            refine TL_q (Qt_move (.pointer _) rfl) rfl ?_
            refine TL_frontA (lblk x22 x19.1 lgB x61.2.1) ?_
            refine TL_e rfl (Ef_call (lnext_c (lp := x22) (p := x19.1) (pre := lgB) (t := x61.2.1)) rfl (fun x70 => ?_))
            refine TL_q (Qt_move (.int .u64 _) rfl) rfl ?_
            refine TL_q (Qt_neq rfl rfl) rfl ?_
            refine TL_nil ?_
            refine X_then ?_
            refine T_cond rfl (fun h72 => ?_) (fun h72 => ?_)
            ·
              have p72 := h72
              try simp only [decide_eq_true_eq, decide_eq_false_iff_not, Bool.not_eq_true', Bool.not_eq_false', Option.isNone_iff_eq_none, ne_eq, Decidable.not_not, Int.not_lt, Int.not_le] at p72
              all_goals (exfalso; simp at h72)
            ·
              have p72 := h72
              try simp only [decide_eq_true_eq, decide_eq_false_iff_not, Bool.not_eq_true', Bool.not_eq_false', Option.isNone_iff_eq_none, ne_eq, Decidable.not_not, Int.not_lt, Int.not_le] at p72
              refine T_skip ?_
              refine X_block ?_
              refine X_then ?_
              refine T_region ?_
              first
                | refine TL_q (Qt_add rfl rfl (by omega) (by omega)) rfl ?_
                | refine TL_q (Qt_addw rfl rfl) rfl ?_
              refine TL_q (Qt_move (.int .i64 _) rfl) rfl ?_
              refine TL_nil ?_
              apply X_loop
              case ha => exact (by repeat (first | with_reducible exact agree_refl | refine agree_upd rfl ?_ | refine agree_mix rfl ?_ | refine agree_setAll rfl ?_))
              case hI => exact (by first | exact ⟨k + 1, a47, c47, als ++ [l[k].b], x41.1, x41.2.1, rfl, rfl, by omega, by rw [List.map_append]; exact b1, hok41, fun x hx => by rcases List.mem_append.1 hx with h | h; exact hsub x h; (exact ⟨l[k], List.getElem_mem hk, by simpa using h⟩), by omega, by omega, by omega, by omega, by simp; omega⟩ | exact ⟨k + 1, a58, c58, (als.drop x57), x61.1, x61.2.1, rfl, rfl, by omega, d1, hok61, fun x hx => hsub x (List.mem_of_mem_drop hx), by rw [d2, last_one]; omega, by rw [d2]; simp, by rw [d3, List.length_drop]; omega, d4, by rw [List.length_drop]; omega⟩ | exact ⟨k + 1, aa, ac, als, x35, t, rfl, rfl, by omega, ⟨fs, rc, hI35⟩, hok35, hsub, by omega, by omega, by omega, by omega, by omega⟩)
              case hm => exact by show l.length - (k + 1 : Int).toNat < l.length - (k : Int).toNat; omega
              case hH => exact (Subs.st inferInstance)
        ·
          have p50 := h50
          try simp only [decide_eq_true_eq, decide_eq_false_iff_not, Bool.not_eq_true', Bool.not_eq_false', Option.isNone_iff_eq_none, ne_eq, Decidable.not_not, Int.not_lt, Int.not_le] at p50
          refine T_region ?_
          refine TL_q (Qt_move (.pointer _) rfl) rfl ?_
          obtain ⟨fs, rc, hI0⟩ := hI
          refine TL_conv (fun w hw => (Subs.st inferInstance w hw : St w0 (lblk x22 x19.1 lgB t :: lrow t :: DS.H x19.1 s (row (.slice aa (als).length ac) 30 1 ((als).map BS.val) :: blk b10 (.cells l[k].cells 40 (0, 0)) :: H)) w)) ?_
          refine TL_e rfl (Ef_call (lsync_c (lp := x22) (p := x19.1) (pre := lgB) (t := t) (s := s) hokk (by omega) (by omega)) rfl (fun x35 => ?_))
          refine TL_pure (fun h35 => ?_)
          have hI35 := hI0.sync h35
          have hok35 := h35.ok hokk
          replace hok35 := hok35.mono (N' := 50 * (k + 1)) (M' := 10000 + 5000000 * (k + 1)) (by omega) (by omega)
          refine TL_nil ?_
          refine X_block ?_
          refine X_then ?_
          refine T_seq ?_
          refine T_region ?_
          refine TL_q (Qt_move (.pointer _) rfl) rfl ?_
          refine TL_frontA (lblk x22 x19.1 lgB t) ?_
          refine TL_e rfl (Ef_call (lnext_c (lp := x22) (p := x19.1) (pre := lgB) (t := t)) rfl (fun x70 => ?_))
          refine TL_q (Qt_move (.int .u64 _) rfl) rfl ?_
          refine TL_q (Qt_neq rfl rfl) rfl ?_
          refine TL_nil ?_
          refine X_then ?_
          refine T_cond rfl (fun h72 => ?_) (fun h72 => ?_)
          ·
            have p72 := h72
            try simp only [decide_eq_true_eq, decide_eq_false_iff_not, Bool.not_eq_true', Bool.not_eq_false', Option.isNone_iff_eq_none, ne_eq, Decidable.not_not, Int.not_lt, Int.not_le] at p72
            all_goals (exfalso; simp at h72)
          ·
            have p72 := h72
            try simp only [decide_eq_true_eq, decide_eq_false_iff_not, Bool.not_eq_true', Bool.not_eq_false', Option.isNone_iff_eq_none, ne_eq, Decidable.not_not, Int.not_lt, Int.not_le] at p72
            refine T_skip ?_
            refine X_block ?_
            refine X_then ?_
            refine T_region ?_
            first
              | refine TL_q (Qt_add rfl rfl (by omega) (by omega)) rfl ?_
              | refine TL_q (Qt_addw rfl rfl) rfl ?_
            refine TL_q (Qt_move (.int .i64 _) rfl) rfl ?_
            refine TL_nil ?_
            apply X_loop
            case ha => exact (by repeat (first | with_reducible exact agree_refl | refine agree_upd rfl ?_ | refine agree_mix rfl ?_ | refine agree_setAll rfl ?_))
            case hI => exact (by first | exact ⟨k + 1, a47, c47, als ++ [l[k].b], x41.1, x41.2.1, rfl, rfl, by omega, by rw [List.map_append]; exact b1, hok41, fun x hx => by rcases List.mem_append.1 hx with h | h; exact hsub x h; (exact ⟨l[k], List.getElem_mem hk, by simpa using h⟩), by omega, by omega, by omega, by omega, by simp; omega⟩ | exact ⟨k + 1, a58, c58, (als.drop x57), x61.1, x61.2.1, rfl, rfl, by omega, d1, hok61, fun x hx => hsub x (List.mem_of_mem_drop hx), by rw [d2, last_one]; omega, by rw [d2]; simp, by rw [d3, List.length_drop]; omega, d4, by rw [List.length_drop]; omega⟩ | exact ⟨k + 1, aa, ac, als, x35, t, rfl, rfl, by omega, ⟨fs, rc, hI35⟩, hok35, hsub, by omega, by omega, by omega, by omega, by omega⟩)
            case hm => exact by show l.length - (k + 1 : Int).toNat < l.length - (k : Int).toNat; omega
            case hH => exact (Subs.st inferInstance)
    ·
      have p29 := h29
      try simp only [decide_eq_true_eq, decide_eq_false_iff_not, Bool.not_eq_true', Bool.not_eq_false', Option.isNone_iff_eq_none, ne_eq, Decidable.not_not, Int.not_lt, Int.not_le] at p29
      refine T_exit ?_
      refine X_then_exit ?_
      refine X_loop_exit ?_
      refine X_block_exit ?_
      refine X_then ?_
      refine T_seq ?_
      refine T_region ?_
      refine TL_q (Qt_move (.pointer _) rfl) rfl ?_
      refine TL_conv (fun w hw => (Subs.st inferInstance w hw : St w0 (lblk x22 x19.1 lgB t :: lrow t :: DS.H x19.1 s (row (.slice aa (als).length ac) 30 1 ((als).map BS.val) :: H)) w)) ?_
      refine TL_e rfl (Ef_call (lsync_c (lp := x22) (p := x19.1) (pre := lgB) (t := t) (s := s) hokk (by omega) (by omega)) rfl (fun x75 => ?_))
      refine TL_pure (fun h75 => ?_)
      obtain ⟨fs, rc, hI0⟩ := hI
      have hI2 := hI0.sync h75
      have hok75 := h75.ok hokk
      obtain ⟨ns, hn1, hn2⟩ := hI2.names (by omega) hok75.good2
      have hrg : ∀ n ∈ (t).segs, 1 ≤ n ∧ n < 100 := fun n hn => by have := hI2.rng n hn; omega
      obtain ⟨ca, hca, hch⟩ := hI2.chain
      have hdF : ∀ n ∈ (t).segs, (oldE (x75).e2 (nmB lgB n)).l = recsB (fs n) (rc n) ∧ 1 ≤ fs n ∧ fs n + (rc n).length ≤ 1000000 ∧ ∀ l ∈ rc n, l.length ≤ 1000 := fun n hn => by
        obtain ⟨y, hy1, hy2⟩ := hI2.file n hn
        have hb := chL_bound hch n hn
        exact ⟨by unfold oldE; rw [hy1]; exact hy2, by omega, by omega, hI2.short n hn⟩
      have hoF : ∀ ga gc, okS fs rc (t).segs ⟨ga, gc, (t).segs, 0, 1, false⟩ := fun ga gc => okS_chL hch (fun h => by cases h)
      have hkF : ∀ e ∈ (x75).e2, e.k.size ≤ maxLen := fun e he => by
        obtain ⟨n, hn, hk⟩ := hI2.keys _ (getE_some he)
        have h1 := nm_size3 (pre := lgB) n (hrg n hn).2
        rw [hk]
        have h2 : lgB.size = 3 := rfl
        unfold maxLen; omega
      have hrN : ∀ n ∈ ns, 1 ≤ n ∧ n < 100 := fun n hn => hrg n (hn2.mem_iff.1 hn)
      have hall := hI2.all
      have hal := congrArg List.length hall
      refine TL_nil ?_
      refine X_then ?_
      refine T_seq ?_
      refine T_region ?_
      refine TL_q (Qt_move (.pointer _) rfl) rfl ?_
      refine TL_conv (fun w hw => (Subs.st inferInstance w hw : St w0 (DS.H x19.1 x75 (row (.slice aa (als).length ac) 30 1 ((als).map BS.val) :: H)) w)) ?_
      refine TL_e rfl (Ef_call (openG_c (p := x19.1) (s := x75) hok75 (by omega) (by omega) (pre := lgB) (by decide) (by show 3 ≤ maxLen; unfold maxLen; omega) fineLg hkF hn1 hrN hn2 (hI2.segs.imp Nat.le_of_lt) (by rw [hn2.length_eq]; omega) hdF hoF (by rw [← hal, List.length_map]; omega)) rfl (fun x78 => ?_))
      refine TL_pure (fun h78 => ?_)
      have hxl : x78.2.2.1.length = als.length := by have h := congrArg List.length (h78.trans hall.symm); simpa using h
      have hse : RdE w0 H als := ⟨fun x hx => by obtain ⟨y, hy, rfl⟩ := hsub x hx; exact (rl y hy).rd⟩
      refine TL_q (Qt_move (.tuple _) rfl) rfl ?_
      refine TL_q (Qt_extract rfl) rfl ?_
      refine TL_q (Qt_extract rfl) rfl ?_
      refine TL_q (Qt_extract rfl) rfl ?_
      refine TL_q (Qt_assign (.pointer _) rfl) rfl ?_
      refine TL_q (Qt_assign (.slice _ _ _) rfl) rfl ?_
      refine TL_q (Qt_assign (.int .i64 _) rfl) rfl ?_
      refine TL_nil ?_
      refine X_then ?_
      refine T_seq ?_
      refine T_region ?_
      refine TL_q (Qt_move (.int .i64 _) rfl) rfl ?_
      refine TL_q (Qt_eql rfl rfl) rfl ?_
      refine TL_q (Qt_move (.bool _) rfl) rfl ?_
      refine TL_split 84 rfl (fun h84 => ?_) (fun h84 => ?_)
      ·
        have p84 := h84
        try simp only [decide_eq_true_eq, decide_eq_false_iff_not, Bool.not_eq_true', Bool.not_eq_false', Option.isNone_iff_eq_none, ne_eq, Decidable.not_not, Int.not_lt, Int.not_le] at p84
        refine TL_take rfl rfl h84 ?_
        refine TL_q (Qt_move (.slice _ _ _) rfl) rfl ?_
        refine TL_take rfl rfl h84 ?_
        refine TL_q (Qt_move (.slice _ _ _) rfl) rfl ?_
        refine TL_take rfl rfl h84 ?_
        refine TL_e rfl (Ef_call (sameAll_c (l := x78.2.2.1) (l2 := als) (by rw [hxl]; omega) (fun x hx => by have h1 : x.l ∈ t.segs.flatMap rc := (by rw [← h78]; exact List.mem_map.2 ⟨x, hx, rfl⟩); obtain ⟨n, hn, hl⟩ := List.mem_flatMap.1 h1; have := hI2.short n hn _ hl; omega)) rfl (fun x87 => ?_))
        rw [h78, ← hall]
        refine TL_q (Qt_pick_t (.bool _) rfl h84 rfl) rfl ?_
        refine TL_q (Qt_assign (.bool _) rfl) rfl ?_
        refine TL_nil ?_
        refine X_then ?_
        refine T_ret ?_
        exact X_ret () [.bool true] Tryz.results4 ⟨congrArg Value.bool (decide_eq_true rfl), trivial⟩ rfl (Subs.st inferInstance)
      ·
        have p84 := h84
        try simp only [decide_eq_true_eq, decide_eq_false_iff_not, Bool.not_eq_true', Bool.not_eq_false', Option.isNone_iff_eq_none, ne_eq, Decidable.not_not, Int.not_lt, Int.not_le] at p84
        exact absurd h84 (by decide)
end Go.Proofs.YtgfbdcjamalhhaaGreatDoor
