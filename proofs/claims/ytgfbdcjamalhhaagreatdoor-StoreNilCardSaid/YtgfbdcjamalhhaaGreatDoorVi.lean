/- Walks: package views: how many members a view has, who is one. -/
import Derived.Test.YtgfbdcjamalhhaaGreatDoorTz
import Derived.Test.YtgfbdcjamalhhaaGreatDoorSr
namespace Go.Proofs.YtgfbdcjamalhhaaGreatDoor
open Go.RowKit Go.Sx
set_option maxRecDepth 100000
set_option linter.unusedSimpArgs false
set_option linter.unusedVariables false
def popS : ByteArray := ByteArray.mk (List.toArray (List.append (List.append [0, 1, 1, 2, 1, 2, 2, 3, 1, 2, 2, 3, 2, 3, 3, 4, 1, 2, 2, 3, 2, 3, 3, 4, 2, 3, 3, 4, 3, 4, 4, 5, 1, 2, 2, 3, 2, 3, 3, 4, 2, 3, 3, 4, 3, 4, 4, 5, 2, 3, 3, 4, 3, 4, 4, 5, 3, 4, 4, 5, 4, 5, 5, 6] [1, 2, 2, 3, 2, 3, 3, 4, 2, 3, 3, 4, 3, 4, 4, 5, 2, 3, 3, 4, 3, 4, 4, 5, 3, 4, 4, 5, 4, 5, 5, 6, 2, 3, 3, 4, 3, 4, 4, 5, 3, 4, 4, 5, 4, 5, 5, 6, 3, 4, 4, 5, 4, 5, 5, 6, 4, 5, 5, 6, 5, 6, 6, 7]) (List.append [1, 2, 2, 3, 2, 3, 3, 4, 2, 3, 3, 4, 3, 4, 4, 5, 2, 3, 3, 4, 3, 4, 4, 5, 3, 4, 4, 5, 4, 5, 5, 6, 2, 3, 3, 4, 3, 4, 4, 5, 3, 4, 4, 5, 4, 5, 5, 6, 3, 4, 4, 5, 4, 5, 5, 6, 4, 5, 5, 6, 5, 6, 6, 7] [2, 3, 3, 4, 3, 4, 4, 5, 3, 4, 4, 5, 4, 5, 5, 6, 3, 4, 4, 5, 4, 5, 5, 6, 4, 5, 5, 6, 5, 6, 6, 7, 3, 4, 4, 5, 4, 5, 5, 6, 4, 5, 5, 6, 5, 6, 6, 7, 4, 5, 5, 6, 5, 6, 6, 7, 5, 6, 6, 7, 6, 7, 7, 8])))
def popB (i : Nat) : Nat := (popS.data.getD i 0).toNat
theorem popS_get : ∀ i < 256, popS[i]? = some (UInt8.ofNat (popB i)) := by decide +kernel
theorem popB_le : ∀ i < 256, popB i ≤ 8 := by decide +kernel
def ones16 (n : Nat) : Nat := popB (n / 2 ^ 8) + popB (n % 256)
theorem ones16_le {n : Nat} (h : n < 65536) : ones16 n ≤ 16 := by
  have h1 := popB_le (n / 2 ^ 8) (by omega)
  have h2 := popB_le (n % 256) (by omega)
  unfold ones16; omega
theorem popU {i : Nat} (h : i < 256) : ((UInt8.ofNat (popB i)).toNat : Int) = (popB i : Int) := by
  have := popB_le i h
  simp; omega
theorem and255 (c : Nat) : c &&& 255 = c % 256 := Nat.and_two_pow_sub_one_eq_mod c 8
def rightV (num : Int) (mk : Nat) : Bool := decide (0 ≤ num ∧ num ≤ 60 ∧ 4 ≤ ones16 mk ∧ ones16 mk ≤ 7)
def sizeV (num : Int) (mk : Nat) : Nat := if rightV num mk = true then ones16 mk else 0
def faultsV (num : Int) (mk : Nat) : Nat := (sizeV num mk - 1) / 3
def someV (num : Int) (mk : Nat) : Nat := if sizeV num mk = 0 then 0 else faultsV num mk + 1
def enoughV (num : Int) (mk : Nat) : Nat := sizeV num mk - faultsV num mk
def hasV (mk : Nat) (i : Int) : Bool := decide (0 ≤ i ∧ i < 16 ∧ mk / 2 ^ i.toNat % 2 = 1)
theorem sizeV_le {num : Int} {mk : Nat} (h : mk < 65536) : sizeV num mk ≤ 16 := by
  have := ones16_le h
  unfold sizeV; split <;> omega
theorem size_zero : sizeV 0 0 = 0 := by decide +kernel
attribute [local irreducible] popB

set_option maxHeartbeats 1000000 in
theorem ones_c {w0 : World} {H : List SA} {n : Nat} (hn : n < 65536) :
    CT Tryz.prog w0 (H) 175 [.int .u16 (n : Int)] (α := Unit) (fun _ => .int .i64 (ones16 n : Int)) (fun _ => H) := by
  refine CT_intro Tryz.func175 rfl Tryz.ntmps175 rfl ?_
  refine T_seq ?_
  refine T_region ?_
  refine TL_q (Qt_assign (.int .i64 _) rfl) rfl ?_
  refine TL_nil ?_
  refine X_then ?_
  refine T_seq ?_
  refine T_draw _ [(0, true), (1, true), (2, true), (3, true), (4, true), (5, true), (6, true), (7, true), (8, true)] (by kernel_rfl) (by kernel_rfl) rfl (by kernel_rfl) (fun _ hh => hh) (fun hns0 => ?_)
  refine DL_q hns0 rfl (Qt_move (.int .u16 _) rfl) rfl ?_
  refine DL_q hns0 rfl (Qt_shrN 8 rfl (by exact rfl) (by decide)) rfl ?_
  refine DL_q hns0 rfl (Qt_index_str (UInt8.ofNat (popB (n / 2 ^ 8))) (s := popS) rfl rfl Tryz.underlying9 (popS_get _ (by omega))) rfl ?_
  rw [popU (show n / 2 ^ 8 < 256 by omega)]
  have hp1 := popB_le (n / 2 ^ 8) (by omega)
  refine DL_q hns0 rfl (Qt_move (.int .u16 _) rfl) rfl ?_
  refine DL_q hns0 rfl (Qt_andN (b := 255) rfl rfl rfl (by show _ < 2 ^ 16; omega) (by decide)) rfl ?_
  rw [and255]
  refine DL_q hns0 rfl (Qt_index_str (UInt8.ofNat (popB (n % 256))) (s := popS) rfl rfl Tryz.underlying9 (popS_get _ (by omega))) rfl ?_
  rw [popU (show n % 256 < 256 by omega)]
  have hp2 := popB_le (n % 256) (by omega)
  refine DL_q hns0 rfl (Qt_addw rfl rfl) rfl ?_
  rw [show IntKind.u8.wrap ((popB (n / 2 ^ 8) : Int) + (popB (n % 256) : Int)) = ((popB (n / 2 ^ 8) + popB (n % 256) : Nat) : Int) from by rw [← Int.natCast_add]; exact wrap_nat .u8 rfl (by show _ < 2 ^ 8; omega)]
  refine DL_q hns0 rfl (Qt_conv_i64 rfl rfl Tryz.underlying3 (by omega) (by omega)) rfl ?_
  refine DL_q hns0 rfl (Qt_assign (.int .i64 _) rfl) rfl ?_
  refine DL_nil ?_
  refine X_then ?_
  refine T_ret ?_
  exact X_ret () [_] Tryz.results175 ⟨rfl, trivial⟩ rfl (Subs.st inferInstance)
set_option maxHeartbeats 1000000 in
theorem count_v {w0 : World} {H : List SA} {num : Int} {mk : Nat} (hmk : mk < 65536) :
    CT Tryz.prog w0 (H) 110 [.agg (ViewV.mk num (mk : Int)).cells] (α := Unit) (fun _ => .int .i64 (ones16 mk : Int)) (fun _ => H) := by
  refine CT_intro Tryz.func110 rfl Tryz.ntmps110 rfl ?_
  refine T_seq ?_
  refine T_region ?_
  refine TL_e rfl (Ef_boxN rfl (fun b1 => ?_))
  refine TL_q (Qt_assign (.int .i64 _) rfl) rfl ?_
  refine TL_nil ?_
  refine X_then ?_
  refine T_seq ?_
  refine T_region ?_
  refine TL_q (Qt_fieldAddr 1 rfl rfl) rfl ?_
  refine TL_q (Qt_load1 rfl) rfl ?_
  refine TL_e rfl (Ef_call (ones_c hmk) rfl (fun x5 => ?_))
  refine TL_q (Qt_assign (.int .i64 _) rfl) rfl ?_
  refine TL_nil ?_
  refine X_then ?_
  refine T_ret ?_
  exact X_ret () [_] Tryz.results110 ⟨rfl, trivial⟩ (rfl) (Subs.st inferInstance)
set_option maxHeartbeats 1000000 in
theorem right_v {w0 : World} {H : List SA} {num : Int} {mk : Nat} (hmk : mk < 65536) :
    CT Tryz.prog w0 (H) 54 [.agg (ViewV.mk num (mk : Int)).cells] (α := Unit) (fun _ => .bool (rightV num mk)) (fun _ => H) := by
  refine CT_intro Tryz.func54 rfl Tryz.ntmps54 rfl ?_
  refine T_seq ?_
  refine T_region ?_
  refine TL_e rfl (Ef_boxN rfl (fun b1 => ?_))
  refine TL_q (Qt_assign (.bool _) rfl) rfl ?_
  refine TL_nil ?_
  refine X_then ?_
  refine T_seq ?_
  refine T_region ?_
  refine TL_q (Qt_loadN rfl rfl) rfl ?_
  refine TL_e rfl (Ef_call (count_v hmk) rfl (fun x5 => ?_))
  refine TL_q (Qt_assign (.int .i64 _) rfl) rfl ?_
  refine TL_nil ?_
  refine X_then ?_
  refine T_seq ?_
  refine T_region ?_
  refine TL_q (Qt_fieldAddr 0 rfl rfl) rfl ?_
  refine TL_q (Qt_load1 rfl) rfl ?_
  refine TL_q (Qt_geq rfl rfl) rfl ?_
  refine TL_q (Qt_move (.bool _) rfl) rfl ?_
  refine TL_split 9 rfl (fun h9 => ?_) (fun h9 => ?_)
  ·
    have p9 := h9
    try simp only [decide_eq_true_eq, decide_eq_false_iff_not, Bool.not_eq_true', Bool.not_eq_false', Option.isNone_iff_eq_none, ne_eq, Decidable.not_not, Int.not_lt, Int.not_le] at p9
    refine TL_take rfl rfl h9 ?_
    refine TL_q (Qt_fieldAddr 0 rfl rfl) rfl ?_
    refine TL_take rfl rfl h9 ?_
    refine TL_q (Qt_load1 rfl) rfl ?_
    refine TL_take rfl rfl h9 ?_
    refine TL_q (Qt_leq rfl rfl) rfl ?_
    refine TL_q (Qt_pick_t (.bool _) rfl h9 rfl) rfl ?_
    refine TL_q (Qt_move (.bool _) rfl) rfl ?_
    refine TL_split 14 rfl (fun h14 => ?_) (fun h14 => ?_)
    ·
      have p14 := h14
      try simp only [decide_eq_true_eq, decide_eq_false_iff_not, Bool.not_eq_true', Bool.not_eq_false', Option.isNone_iff_eq_none, ne_eq, Decidable.not_not, Int.not_lt, Int.not_le] at p14
      refine TL_take rfl rfl h14 ?_
      refine TL_q (Qt_move (.int .i64 _) rfl) rfl ?_
      refine TL_take rfl rfl h14 ?_
      refine TL_q (Qt_geq rfl rfl) rfl ?_
      refine TL_q (Qt_pick_t (.bool _) rfl h14 rfl) rfl ?_
      refine TL_q (Qt_move (.bool _) rfl) rfl ?_
      refine TL_split 18 rfl (fun h18 => ?_) (fun h18 => ?_)
      ·
        have p18 := h18
        try simp only [decide_eq_true_eq, decide_eq_false_iff_not, Bool.not_eq_true', Bool.not_eq_false', Option.isNone_iff_eq_none, ne_eq, Decidable.not_not, Int.not_lt, Int.not_le] at p18
        refine TL_take rfl rfl h18 ?_
        refine TL_q (Qt_move (.int .i64 _) rfl) rfl ?_
        refine TL_take rfl rfl h18 ?_
        refine TL_q (Qt_leq rfl rfl) rfl ?_
        refine TL_q (Qt_pick_t (.bool _) rfl h18 rfl) rfl ?_
        refine TL_q (Qt_assign (.bool _) rfl) rfl ?_
        refine TL_nil ?_
        refine X_then ?_
        refine T_ret ?_
        refine X_ret () [.bool (rightV num mk)] Tryz.results54 ⟨?_, trivial⟩ rfl (Subs.st inferInstance)
        refine congrArg Value.bool ?_
        rw [Bool.eq_iff_iff]
        simp only [rightV, decide_eq_true_eq, Bool.false_eq_true, false_iff]
        omega
      ·
        have p18 := h18
        try simp only [decide_eq_true_eq, decide_eq_false_iff_not, Bool.not_eq_true', Bool.not_eq_false', Option.isNone_iff_eq_none, ne_eq, Decidable.not_not, Int.not_lt, Int.not_le] at p18
        refine TL_pass rfl rfl h18 rfl ?_
        refine TL_pass rfl rfl h18 rfl ?_
        refine TL_q (Qt_pick_f (.bool _) rfl h18 rfl) rfl ?_
        refine TL_q (Qt_assign (.bool _) rfl) rfl ?_
        refine TL_nil ?_
        refine X_then ?_
        refine T_ret ?_
        refine X_ret () [.bool (rightV num mk)] Tryz.results54 ⟨?_, trivial⟩ rfl (Subs.st inferInstance)
        refine congrArg Value.bool ?_
        rw [Bool.eq_iff_iff]
        simp only [rightV, decide_eq_true_eq, Bool.false_eq_true, false_iff]
        omega
    ·
      have p14 := h14
      try simp only [decide_eq_true_eq, decide_eq_false_iff_not, Bool.not_eq_true', Bool.not_eq_false', Option.isNone_iff_eq_none, ne_eq, Decidable.not_not, Int.not_lt, Int.not_le] at p14
      refine TL_pass rfl rfl h14 rfl ?_
      refine TL_pass rfl rfl h14 rfl ?_
      refine TL_q (Qt_pick_f (.bool _) rfl h14 rfl) rfl ?_
      refine TL_q (Qt_move (.bool _) rfl) rfl ?_
      refine TL_pass rfl rfl rfl rfl ?_
      refine TL_pass rfl rfl rfl rfl ?_
      refine TL_q (Qt_pick_f (.bool _) rfl rfl rfl) rfl ?_
      refine TL_q (Qt_assign (.bool _) rfl) rfl ?_
      refine TL_nil ?_
      refine X_then ?_
      refine T_ret ?_
      refine X_ret () [.bool (rightV num mk)] Tryz.results54 ⟨?_, trivial⟩ rfl (Subs.st inferInstance)
      refine congrArg Value.bool ?_
      rw [Bool.eq_iff_iff]
      simp only [rightV, decide_eq_true_eq, Bool.false_eq_true, false_iff]
      omega
  ·
    have p9 := h9
    try simp only [decide_eq_true_eq, decide_eq_false_iff_not, Bool.not_eq_true', Bool.not_eq_false', Option.isNone_iff_eq_none, ne_eq, Decidable.not_not, Int.not_lt, Int.not_le] at p9
    refine TL_pass rfl rfl h9 rfl ?_
    refine TL_pass rfl rfl h9 rfl ?_
    refine TL_pass rfl rfl h9 rfl ?_
    refine TL_q (Qt_pick_f (.bool _) rfl h9 rfl) rfl ?_
    refine TL_q (Qt_move (.bool _) rfl) rfl ?_
    refine TL_pass rfl rfl rfl rfl ?_
    refine TL_pass rfl rfl rfl rfl ?_
    refine TL_q (Qt_pick_f (.bool _) rfl rfl rfl) rfl ?_
    refine TL_q (Qt_move (.bool _) rfl) rfl ?_
    refine TL_pass rfl rfl rfl rfl ?_
    refine TL_pass rfl rfl rfl rfl ?_
    refine TL_q (Qt_pick_f (.bool _) rfl rfl rfl) rfl ?_
    refine TL_q (Qt_assign (.bool _) rfl) rfl ?_
    refine TL_nil ?_
    refine X_then ?_
    refine T_ret ?_
    refine X_ret () [.bool (rightV num mk)] Tryz.results54 ⟨?_, trivial⟩ rfl (Subs.st inferInstance)
    refine congrArg Value.bool ?_
    rw [Bool.eq_iff_iff]
    simp only [rightV, decide_eq_true_eq, Bool.false_eq_true, false_iff]
    omega
end Go.Proofs.YtgfbdcjamalhhaaGreatDoor
