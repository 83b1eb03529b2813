/- Walks: package disk: left, Crash. -/
import Derived.Test.YtededghplnoajaaDm
namespace Go.Proofs.Ytededghplnoajaa
open Go.RowKit Go.Sx
set_option maxRecDepth 100000
set_option linter.unusedSimpArgs false
set_option linter.unusedVariables false
def leftA (a : ActV) (m : Nat) : ActV := { a with b := ⟨a.b.a, a.b.c, a.b.l.take m⟩ }
def cutN (cut : Int) (n : Nat) : Int := if (if (n : Int) < cut then (n : Int) else cut) > 0 then (if (n : Int) < cut then (n : Int) else cut) else 0
theorem cutN_range (cut : Int) (n : Nat) : 0 ≤ cutN cut n ∧ cutN cut n ≤ n := by
  unfold cutN
  split <;> split at * <;> omega
theorem leftA_all (a : ActV) : leftA a a.b.l.length = a := by
  unfold leftA; rw [List.take_length]
instance RdB.leftA {w0 : World} {H : List SA} {a : ActV} {m : Nat} [h : RdB w0 H (.slice a.b.a a.b.l.length a.b.c) a.b.l] : RdB w0 H (.slice (leftA a m).b.a (leftA a m).b.l.length (leftA a m).b.c) (leftA a m).b.l := (RdB.takeI (a := a.b.a) (c := a.b.c) (l := a.b.l) (m := m) : RdB w0 H (.slice a.b.a (a.b.l.take m).length a.b.c) (a.b.l.take m))

set_option maxHeartbeats 1000000 in
theorem left_c {w0 : World} {H : List SA} {a : ActV} {i : Nat} {kp : Nat} {torn cut : Int} (hi : i ≤ 1000000) (hk : kp < 18446744073709551616) [rb : RdB w0 H (.slice a.b.a a.b.l.length a.b.c) a.b.l] (hb : a.b.l.length ≤ 4294967296) :
    CT Try.prog w0 (H) 39 [.agg a.cells, .int .i64 (i : Int), .agg (PlanV.mk (kp : Int) torn cut).cells] (α := Nat × Bool) (fun y => .tuple #[.agg (leftA a y.1).cells, .bool y.2]) (fun y => pu (torn = -1 → kp = 0 → y.2 = false) :: H) := by
  refine CT_intro Try.func39 rfl Try.ntmps39 rfl ?_
  refine T_seq ?_
  refine T_region ?_
  refine TL_e rfl (Ef_boxN rfl (fun b3 => ?_))
  refine TL_e rfl (Ef_boxN rfl (fun b5 => ?_))
  refine TL_e rfl (Ef_allocN (fun b6 => ?_))
  refine TL_q (Qt_assign (.bool _) rfl) rfl ?_
  refine TL_nil ?_
  refine X_then ?_
  refine T_seq ?_
  refine T_seq ?_
  refine T_region ?_
  refine TL_q (Qt_move (.int .i64 _) rfl) rfl ?_
  refine TL_q (Qt_fieldAddr 1 rfl rfl) rfl ?_
  refine TL_q (Qt_load1 rfl) rfl ?_
  refine TL_q (Qt_eql rfl rfl) rfl ?_
  refine TL_q (Qt_move (.bool _) rfl) rfl ?_
  refine TL_split 12 rfl (fun h12 => ?_) (fun h12 => ?_)
  ·
    have p12 := h12
    try simp only [decide_eq_true_eq, decide_eq_false_iff_not, Bool.not_eq_true', Bool.not_eq_false', Option.isNone_iff_eq_none, ne_eq, Decidable.not_not, Int.not_lt, Int.not_le] at p12
    refine TL_take rfl rfl h12 ?_
    refine TL_q (Qt_fieldAddr 0 rfl rfl) rfl ?_
    refine TL_take rfl rfl h12 ?_
    refine TL_q (Qt_load1 rfl) rfl ?_
    refine TL_take rfl rfl h12 ?_
    refine TL_q (Qt_eql rfl rfl) rfl ?_
    refine TL_take rfl rfl h12 ?_
    refine TL_q (Qt_move (.bool _) rfl) rfl ?_
    refine TL_split 16 rfl (fun h16 => ?_) (fun h16 => ?_)
    ·
      have p16 := h16
      try simp only [decide_eq_true_eq, decide_eq_false_iff_not, Bool.not_eq_true', Bool.not_eq_false', Option.isNone_iff_eq_none, ne_eq, Decidable.not_not, Int.not_lt, Int.not_le] at p16
      refine TL_pass rfl rfl h16 rfl ?_
      refine TL_pass rfl rfl h16 rfl ?_
      refine TL_pass rfl rfl h16 rfl ?_
      refine TL_take rfl rfl h12 ?_
      refine TL_q (Qt_pick_t (.bool _) rfl h16 rfl) rfl ?_
      refine TL_q (Qt_pick_t (.bool _) rfl h12 rfl) rfl ?_
      refine TL_nil ?_
      refine X_then ?_
      refine T_cond_true rfl rfl ?_
      refine T_seq ?_
      refine T_region ?_
      refine TL_q (Qt_fieldAddr 3 rfl rfl) rfl ?_
      refine TL_q (Qt_load1 rfl) rfl ?_
      refine TL_q (Qt_fieldAddr 2 rfl rfl) rfl ?_
      refine TL_q (Qt_load1 rfl) rfl ?_
      refine TL_q (Qt_fieldAddr 3 rfl rfl) rfl ?_
      refine TL_q (Qt_load1 rfl) rfl ?_
      refine TL_q (Qt_len_slice rfl Try.underlying32) rfl ?_
      refine TL_q (Qt_min rfl rfl) rfl ?_
      refine TL_q (Qt_max rfl rfl) rfl ?_
      rw [show (if (if (a.b.l.length : Int) < cut then (a.b.l.length : Int) else cut) > 0 then (if (a.b.l.length : Int) < cut then (a.b.l.length : Int) else cut) else 0) = cutN cut a.b.l.length from rfl]
      have hc := cutN_range cut a.b.l.length
      obtain ⟨m, hm⟩ := Int.eq_ofNat_of_zero_le hc.1
      rw [hm] at hc ⊢
      have hcap := fun w hw => rb.cap (w := w) hw
      refine TL_q (Qt_sliceB_h m rfl rfl (by omega)) rfl ?_
      refine TL_q (Qt_fieldAddr 3 rfl rfl) rfl ?_
      refine TL_n (Ef_store1 (.slice _ _ _) rfl rfl (?_))
      refine TL_nil ?_
      refine X_then ?_
      refine T_seq ?_
      refine T_region ?_
      refine TL_q (Qt_loadN rfl rfl) rfl ?_
      refine TL_n (Ef_storeN rfl rfl (?_))
      refine TL_q (Qt_assign (.bool _) rfl) rfl ?_
      refine TL_nil ?_
      refine X_then ?_
      refine T_ret ?_
      refine X_then_ret ?_
      exact X_ret (m, true) [_, _] Try.results39 ⟨⟨_, rfl, res_cellN rfl⟩, rfl, trivial⟩ rfl (fun w hw => (Subs.st inferInstance w hw : St w0 H w).addPure (fun h _ => by omega))
    ·
      have p16 := h16
      try simp only [decide_eq_true_eq, decide_eq_false_iff_not, Bool.not_eq_true', Bool.not_eq_false', Option.isNone_iff_eq_none, ne_eq, Decidable.not_not, Int.not_lt, Int.not_le] at p16
      refine TL_take rfl rfl h16 ?_
      refine TL_q (Qt_fieldAddr 0 rfl rfl) rfl ?_
      refine TL_take rfl rfl h16 ?_
      refine TL_q (Qt_load1 rfl) rfl ?_
      refine TL_take rfl rfl h16 ?_
      refine TL_q (Qt_eql rfl rfl) rfl ?_
      refine TL_take rfl rfl h12 ?_
      refine TL_q (Qt_pick_f (.bool _) rfl h16 rfl) rfl ?_
      refine TL_q (Qt_pick_t (.bool _) rfl h12 rfl) rfl ?_
      refine TL_nil ?_
      refine X_then ?_
      refine T_cond rfl (fun h21 => ?_) (fun h21 => ?_)
      ·
        have p21 := h21
        try simp only [decide_eq_true_eq, decide_eq_false_iff_not, Bool.not_eq_true', Bool.not_eq_false', Option.isNone_iff_eq_none, ne_eq, Decidable.not_not, Int.not_lt, Int.not_le] at p21
        refine T_seq ?_
        refine T_region ?_
        refine TL_q (Qt_fieldAddr 3 rfl rfl) rfl ?_
        refine TL_q (Qt_load1 rfl) rfl ?_
        refine TL_q (Qt_fieldAddr 2 rfl rfl) rfl ?_
        refine TL_q (Qt_load1 rfl) rfl ?_
        refine TL_q (Qt_fieldAddr 3 rfl rfl) rfl ?_
        refine TL_q (Qt_load1 rfl) rfl ?_
        refine TL_q (Qt_len_slice rfl Try.underlying32) rfl ?_
        refine TL_q (Qt_min rfl rfl) rfl ?_
        refine TL_q (Qt_max rfl rfl) rfl ?_
        rw [show (if (if (a.b.l.length : Int) < cut then (a.b.l.length : Int) else cut) > 0 then (if (a.b.l.length : Int) < cut then (a.b.l.length : Int) else cut) else 0) = cutN cut a.b.l.length from rfl]
        have hc := cutN_range cut a.b.l.length
        obtain ⟨m, hm⟩ := Int.eq_ofNat_of_zero_le hc.1
        rw [hm] at hc ⊢
        have hcap := fun w hw => rb.cap (w := w) hw
        refine TL_q (Qt_sliceB_h m rfl rfl (by omega)) rfl ?_
        refine TL_q (Qt_fieldAddr 3 rfl rfl) rfl ?_
        refine TL_n (Ef_store1 (.slice _ _ _) rfl rfl (?_))
        refine TL_nil ?_
        refine X_then ?_
        refine T_seq ?_
        refine T_region ?_
        refine TL_q (Qt_loadN rfl rfl) rfl ?_
        refine TL_n (Ef_storeN rfl rfl (?_))
        refine TL_q (Qt_assign (.bool _) rfl) rfl ?_
        refine TL_nil ?_
        refine X_then ?_
        refine T_ret ?_
        refine X_then_ret ?_
        exact X_ret (m, true) [_, _] Try.results39 ⟨⟨_, rfl, res_cellN rfl⟩, rfl, trivial⟩ rfl (fun w hw => (Subs.st inferInstance w hw : St w0 H w).addPure (fun h _ => by omega))
      ·
        have p21 := h21
        try simp only [decide_eq_true_eq, decide_eq_false_iff_not, Bool.not_eq_true', Bool.not_eq_false', Option.isNone_iff_eq_none, ne_eq, Decidable.not_not, Int.not_lt, Int.not_le] at p21
        refine T_skip ?_
        refine X_then ?_
        refine T_seq ?_
        refine T_draw (blk b3 (.cells a.cells 70 (0, 0)) :: blk b5 (.cells (PlanV.mk (kp : Int) torn cut).cells 25 (0, 0)) :: H) [(0, true), (1, true), (2, true), (3, true), (4, true), (5, true), (6, true), (7, true), (8, false), (9, true)] (by kernel_rfl) (by kernel_rfl) rfl (by kernel_rfl) (Subs.st inferInstance) (fun hns0 => ?_)
        refine DL_q hns0 rfl (Qt_loadN rfl rfl) rfl ?_
        refine DL_q hns0 rfl (Qt_fieldAddr 0 rfl rfl) rfl ?_
        refine DL_q hns0 rfl (Qt_load1 rfl) rfl ?_
        refine DL_q hns0 rfl (Qt_move (.int .i64 _) rfl) rfl ?_
        refine DL_q hns0 rfl (Qt_val (Qt_rem rfl rfl (by omega)) (congrArg (Value.int .i64) (rem_nat i 64))) rfl ?_
        refine DL_q hns0 rfl (Qt_shrN (i % 64) rfl rfl (by show i % 64 ≤ 64; omega)) rfl ?_
        refine DL_q hns0 rfl (Qt_andN (b := 1) rfl rfl rfl (by have := Nat.div_le_self kp (2 ^ (i % 64)); show _ < 2 ^ 64; omega) (by decide)) rfl ?_
        rw [Nat.and_one_is_mod]
        refine DL_q hns0 rfl (Qt_neq rfl rfl) rfl ?_
        refine DL_n rfl (Ef_storeN rfl rfl (⟨(Subs.st inferInstance), ?_⟩))
        refine DL_q hns0 rfl (Qt_assign (.bool _) rfl) rfl ?_
        refine DL_nil ?_
        refine X_then ?_
        refine T_ret ?_
        exact X_ret (a.b.l.length, decide (((kp / 2 ^ (i % 64) % 2 : Nat) : Int) ≠ 0)) [_, _] Try.results39 ⟨⟨_, rfl, res_cellN rfl⟩, rfl, trivial⟩ (by rw [leftA_all]; rfl) (fun w hw => (Subs.st inferInstance w hw : St w0 H w).addPure (fun _ h => by subst h; simp))
  ·
    have p12 := h12
    try simp only [decide_eq_true_eq, decide_eq_false_iff_not, Bool.not_eq_true', Bool.not_eq_false', Option.isNone_iff_eq_none, ne_eq, Decidable.not_not, Int.not_lt, Int.not_le] at p12
    refine TL_pass rfl rfl h12 rfl ?_
    refine TL_pass rfl rfl h12 rfl ?_
    refine TL_pass rfl rfl h12 rfl ?_
    refine TL_pass rfl rfl h12 rfl ?_
    refine TL_passU rfl rfl rfl ?_
    refine TL_passU rfl rfl rfl ?_
    refine TL_passU rfl rfl rfl ?_
    refine TL_pass rfl rfl h12 rfl ?_
    refine TL_q (Qt_pick_f (.bool _) rfl h12 rfl) rfl ?_
    refine TL_nil ?_
    refine X_then ?_
    refine T_cond_false rfl rfl ?_
    refine T_skip ?_
    refine X_then ?_
    refine T_seq ?_
    refine T_draw (blk b3 (.cells a.cells 70 (0, 0)) :: blk b5 (.cells (PlanV.mk (kp : Int) torn cut).cells 25 (0, 0)) :: H) [(0, true), (1, true), (2, true), (3, true), (4, true), (5, true), (6, true), (7, true), (8, false), (9, true)] (by kernel_rfl) (by kernel_rfl) rfl (by kernel_rfl) (Subs.st inferInstance) (fun hns1 => ?_)
    refine DL_q hns1 rfl (Qt_loadN rfl rfl) rfl ?_
    refine DL_q hns1 rfl (Qt_fieldAddr 0 rfl rfl) rfl ?_
    refine DL_q hns1 rfl (Qt_load1 rfl) rfl ?_
    refine DL_q hns1 rfl (Qt_move (.int .i64 _) rfl) rfl ?_
    refine DL_q hns1 rfl (Qt_val (Qt_rem rfl rfl (by omega)) (congrArg (Value.int .i64) (rem_nat i 64))) rfl ?_
    refine DL_q hns1 rfl (Qt_shrN (i % 64) rfl rfl (by show i % 64 ≤ 64; omega)) rfl ?_
    refine DL_q hns1 rfl (Qt_andN (b := 1) rfl rfl rfl (by have := Nat.div_le_self kp (2 ^ (i % 64)); show _ < 2 ^ 64; omega) (by decide)) rfl ?_
    rw [Nat.and_one_is_mod]
    refine DL_q hns1 rfl (Qt_neq rfl rfl) rfl ?_
    refine DL_n rfl (Ef_storeN rfl rfl (⟨(Subs.st inferInstance), ?_⟩))
    refine DL_q hns1 rfl (Qt_assign (.bool _) rfl) rfl ?_
    refine DL_nil ?_
    refine X_then ?_
    refine T_ret ?_
    exact X_ret (a.b.l.length, decide (((kp / 2 ^ (i % 64) % 2 : Nat) : Int) ≠ 0)) [_, _] Try.results39 ⟨⟨_, rfl, res_cellN rfl⟩, rfl, trivial⟩ (by rw [leftA_all]; rfl) (fun w hw => (Subs.st inferInstance w hw : St w0 H w).addPure (fun _ h => by subst h; simp))
end Go.Proofs.Ytededghplnoajaa
