/- Walks: package views: how many members a view has, who is one. -/
import Derived.Test.YtnijomppbgdmnaaMs
import Derived.Test.YtnijomppbgdmnaaSr
namespace Go.Proofs.Ytnijomppbgdmnaa
open Go.RowKit Go.Sx
set_option maxRecDepth 100000
set_option linter.unusedSimpArgs false
set_option linter.unusedVariables false
def popS : ByteArray := ByteArray.mk (List.toArray (List.append (List.append [0, 1, 1, 2, 1, 2, 2, 3, 1, 2, 2, 3, 2, 3, 3, 4, 1, 2, 2, 3, 2, 3, 3, 4, 2, 3, 3, 4, 3, 4, 4, 5, 1, 2, 2, 3, 2, 3, 3, 4, 2, 3, 3, 4, 3, 4, 4, 5, 2, 3, 3, 4, 3, 4, 4, 5, 3, 4, 4, 5, 4, 5, 5, 6] [1, 2, 2, 3, 2, 3, 3, 4, 2, 3, 3, 4, 3, 4, 4, 5, 2, 3, 3, 4, 3, 4, 4, 5, 3, 4, 4, 5, 4, 5, 5, 6, 2, 3, 3, 4, 3, 4, 4, 5, 3, 4, 4, 5, 4, 5, 5, 6, 3, 4, 4, 5, 4, 5, 5, 6, 4, 5, 5, 6, 5, 6, 6, 7]) (List.append [1, 2, 2, 3, 2, 3, 3, 4, 2, 3, 3, 4, 3, 4, 4, 5, 2, 3, 3, 4, 3, 4, 4, 5, 3, 4, 4, 5, 4, 5, 5, 6, 2, 3, 3, 4, 3, 4, 4, 5, 3, 4, 4, 5, 4, 5, 5, 6, 3, 4, 4, 5, 4, 5, 5, 6, 4, 5, 5, 6, 5, 6, 6, 7] [2, 3, 3, 4, 3, 4, 4, 5, 3, 4, 4, 5, 4, 5, 5, 6, 3, 4, 4, 5, 4, 5, 5, 6, 4, 5, 5, 6, 5, 6, 6, 7, 3, 4, 4, 5, 4, 5, 5, 6, 4, 5, 5, 6, 5, 6, 6, 7, 4, 5, 5, 6, 5, 6, 6, 7, 5, 6, 6, 7, 6, 7, 7, 8])))
def popB (i : Nat) : Nat := (popS.data.getD i 0).toNat
theorem popS_get : ∀ i < 256, popS[i]? = some (UInt8.ofNat (popB i)) := by decide +kernel
theorem popB_le : ∀ i < 256, popB i ≤ 8 := by decide +kernel
def ones16 (n : Nat) : Nat := popB (n / 2 ^ 8) + popB (n % 256)
theorem ones16_le {n : Nat} (h : n < 65536) : ones16 n ≤ 16 := by
  have h1 := popB_le (n / 2 ^ 8) (by omega)
  have h2 := popB_le (n % 256) (by omega)
  unfold ones16; omega
theorem popU {i : Nat} (h : i < 256) : ((UInt8.ofNat (popB i)).toNat : Int) = (popB i : Int) := by
  have := popB_le i h
  simp; omega
theorem and255 (c : Nat) : c &&& 255 = c % 256 := Nat.and_two_pow_sub_one_eq_mod c 8
def rightV (num : Int) (mk : Nat) : Bool := decide (0 ≤ num ∧ num ≤ 60 ∧ 4 ≤ ones16 mk ∧ ones16 mk ≤ 7)
def sizeV (num : Int) (mk : Nat) : Nat := if rightV num mk = true then ones16 mk else 0
def faultsV (num : Int) (mk : Nat) : Nat := (sizeV num mk - 1) / 3
def someV (num : Int) (mk : Nat) : Nat := if sizeV num mk = 0 then 0 else faultsV num mk + 1
def enoughV (num : Int) (mk : Nat) : Nat := sizeV num mk - faultsV num mk
def hasV (mk : Nat) (i : Int) : Bool := decide (0 ≤ i ∧ i < 16 ∧ mk / 2 ^ i.toNat % 2 = 1)
theorem sizeV_le {num : Int} {mk : Nat} (h : mk < 65536) : sizeV num mk ≤ 16 := by
  have := ones16_le h
  unfold sizeV; split <;> omega
theorem size_zero : sizeV 0 0 = 0 := by decide +kernel
attribute [local irreducible] popB

set_option maxHeartbeats 1000000 in
theorem ones_c {w0 : World} {H : List SA} {n : Nat} (hn : n < 65536) :
    CT Try.prog w0 (H) 68 [.int .u16 (n : Int)] (α := Unit) (fun _ => .int .i64 (ones16 n : Int)) (fun _ => H) := by
  refine CT_intro Try.func68 rfl Try.ntmps68 rfl ?_
  refine T_seq ?_
  refine T_region ?_
  refine TL_q (Qt_assign (.int .i64 _) rfl) rfl ?_
  refine TL_nil ?_
  refine X_then ?_
  refine T_seq ?_
  refine T_draw _ [(0, true), (1, true), (2, true), (3, true), (4, true), (5, true), (6, true), (7, true), (8, true)] (by kernel_rfl) (by kernel_rfl) rfl (by kernel_rfl) (fun _ hh => hh) (fun hns0 => ?_)
  refine DL_q hns0 rfl (Qt_move (.int .u16 _) rfl) rfl ?_
  refine DL_q hns0 rfl (Qt_shrN 8 rfl (by exact rfl) (by decide)) rfl ?_
  refine DL_q hns0 rfl (Qt_index_str (UInt8.ofNat (popB (n / 2 ^ 8))) (s := popS) rfl rfl Try.underlying9 (popS_get _ (by omega))) rfl ?_
  rw [popU (show n / 2 ^ 8 < 256 by omega)]
  have hp1 := popB_le (n / 2 ^ 8) (by omega)
  refine DL_q hns0 rfl (Qt_move (.int .u16 _) rfl) rfl ?_
  refine DL_q hns0 rfl (Qt_andN (b := 255) rfl rfl rfl (by show _ < 2 ^ 16; omega) (by decide)) rfl ?_
  rw [and255]
  refine DL_q hns0 rfl (Qt_index_str (UInt8.ofNat (popB (n % 256))) (s := popS) rfl rfl Try.underlying9 (popS_get _ (by omega))) rfl ?_
  rw [popU (show n % 256 < 256 by omega)]
  have hp2 := popB_le (n % 256) (by omega)
  refine DL_q hns0 rfl (Qt_addw rfl rfl) rfl ?_
  rw [show IntKind.u8.wrap ((popB (n / 2 ^ 8) : Int) + (popB (n % 256) : Int)) = ((popB (n / 2 ^ 8) + popB (n % 256) : Nat) : Int) from by rw [← Int.natCast_add]; exact wrap_nat .u8 rfl (by show _ < 2 ^ 8; omega)]
  refine DL_q hns0 rfl (Qt_conv_i64 rfl rfl Try.underlying3 (by omega) (by omega)) rfl ?_
  refine DL_q hns0 rfl (Qt_assign (.int .i64 _) rfl) rfl ?_
  refine DL_nil ?_
  refine X_then ?_
  refine T_ret ?_
  exact X_ret () [_] Try.results68 ⟨rfl, trivial⟩ rfl (Subs.st inferInstance)
set_option maxHeartbeats 1000000 in
theorem count_v {w0 : World} {H : List SA} {num : Int} {mk : Nat} (hmk : mk < 65536) :
    CT Try.prog w0 (H) 61 [.agg (ViewV.mk num (mk : Int)).cells] (α := Unit) (fun _ => .int .i64 (ones16 mk : Int)) (fun _ => H) := by
  refine CT_intro Try.func61 rfl Try.ntmps61 rfl ?_
  refine T_seq ?_
  refine T_region ?_
  refine TL_e rfl (Ef_boxN rfl (fun b1 => ?_))
  refine TL_q (Qt_assign (.int .i64 _) rfl) rfl ?_
  refine TL_nil ?_
  refine X_then ?_
  refine T_seq ?_
  refine T_region ?_
  refine TL_q (Qt_fieldAddr 1 rfl rfl) rfl ?_
  refine TL_q (Qt_load1 rfl) rfl ?_
  refine TL_e rfl (Ef_call (ones_c hmk) rfl (fun x5 => ?_))
  refine TL_q (Qt_assign (.int .i64 _) rfl) rfl ?_
  refine TL_nil ?_
  refine X_then ?_
  refine T_ret ?_
  exact X_ret () [_] Try.results61 ⟨rfl, trivial⟩ (rfl) (Subs.st inferInstance)
set_option maxHeartbeats 1000000 in
theorem right_v {w0 : World} {H : List SA} {num : Int} {mk : Nat} (hmk : mk < 65536) :
    CT Try.prog w0 (H) 43 [.agg (ViewV.mk num (mk : Int)).cells] (α := Unit) (fun _ => .bool (rightV num mk)) (fun _ => H) := by
  refine CT_intro Try.func43 rfl Try.ntmps43 rfl ?_
  refine T_seq ?_
  refine T_region ?_
  refine TL_e rfl (Ef_boxN rfl (fun b1 => ?_))
  refine TL_q (Qt_assign (.bool _) rfl) rfl ?_
  refine TL_nil ?_
  refine X_then ?_
  refine T_seq ?_
  refine T_region ?_
  refine TL_q (Qt_loadN rfl rfl) rfl ?_
  refine TL_e rfl (Ef_call (count_v hmk) rfl (fun x5 => ?_))
  refine TL_q (Qt_assign (.int .i64 _) rfl) rfl ?_
  refine TL_nil ?_
  refine X_then ?_
  refine T_seq ?_
  refine T_region ?_
  refine TL_q (Qt_fieldAddr 0 rfl rfl) rfl ?_
  refine TL_q (Qt_load1 rfl) rfl ?_
  refine TL_q (Qt_geq rfl rfl) rfl ?_
  refine TL_q (Qt_move (.bool _) rfl) rfl ?_
  refine TL_split 9 rfl (fun h9 => ?_) (fun h9 => ?_)
  ·
    have p9 := h9
    try simp only [decide_eq_true_eq, decide_eq_false_iff_not, Bool.not_eq_true', Bool.not_eq_false', Option.isNone_iff_eq_none, ne_eq, Decidable.not_not, Int.not_lt, Int.not_le] at p9
    refine TL_take rfl rfl h9 ?_
    refine TL_q (Qt_fieldAddr 0 rfl rfl) rfl ?_
    refine TL_take rfl rfl h9 ?_
    refine TL_q (Qt_load1 rfl) rfl ?_
    refine TL_take rfl rfl h9 ?_
    refine TL_q (Qt_leq rfl rfl) rfl ?_
    refine TL_q (Qt_pick_t (.bool _) rfl h9 rfl) rfl ?_
    refine TL_q (Qt_move (.bool _) rfl) rfl ?_
    refine TL_split 14 rfl (fun h14 => ?_) (fun h14 => ?_)
    ·
      have p14 := h14
      try simp only [decide_eq_true_eq, decide_eq_false_iff_not, Bool.not_eq_true', Bool.not_eq_false', Option.isNone_iff_eq_none, ne_eq, Decidable.not_not, Int.not_lt, Int.not_le] at p14
      refine TL_take rfl rfl h14 ?_
      refine TL_q (Qt_move (.int .i64 _) rfl) rfl ?_
      refine TL_take rfl rfl h14 ?_
      refine TL_q (Qt_geq rfl rfl) rfl ?_
      refine TL_q (Qt_pick_t (.bool _) rfl h14 rfl) rfl ?_
      refine TL_q (Qt_move (.bool _) rfl) rfl ?_
      refine TL_split 18 rfl (fun h18 => ?_) (fun h18 => ?_)
      ·
        have p18 := h18
        try simp only [decide_eq_true_eq, decide_eq_false_iff_not, Bool.not_eq_true', Bool.not_eq_false', Option.isNone_iff_eq_none, ne_eq, Decidable.not_not, Int.not_lt, Int.not_le] at p18
        refine TL_take rfl rfl h18 ?_
        refine TL_q (Qt_move (.int .i64 _) rfl) rfl ?_
        refine TL_take rfl rfl h18 ?_
        refine TL_q (Qt_leq rfl rfl) rfl ?_
        refine TL_q (Qt_pick_t (.bool _) rfl h18 rfl) rfl ?_
        refine TL_q (Qt_assign (.bool _) rfl) rfl ?_
        refine TL_nil ?_
        refine X_then ?_
        refine T_ret ?_
        refine X_ret () [.bool (rightV num mk)] Try.results43 ⟨?_, trivial⟩ rfl (Subs.st inferInstance)
        refine congrArg Value.bool ?_
        rw [Bool.eq_iff_iff]
        simp only [rightV, decide_eq_true_eq, Bool.false_eq_true, false_iff]
        omega
      ·
        have p18 := h18
        try simp only [decide_eq_true_eq, decide_eq_false_iff_not, Bool.not_eq_true', Bool.not_eq_false', Option.isNone_iff_eq_none, ne_eq, Decidable.not_not, Int.not_lt, Int.not_le] at p18
        refine TL_pass rfl rfl h18 rfl ?_
        refine TL_pass rfl rfl h18 rfl ?_
        refine TL_q (Qt_pick_f (.bool _) rfl h18 rfl) rfl ?_
        refine TL_q (Qt_assign (.bool _) rfl) rfl ?_
        refine TL_nil ?_
        refine X_then ?_
        refine T_ret ?_
        refine X_ret () [.bool (rightV num mk)] Try.results43 ⟨?_, trivial⟩ rfl (Subs.st inferInstance)
        refine congrArg Value.bool ?_
        rw [Bool.eq_iff_iff]
        simp only [rightV, decide_eq_true_eq, Bool.false_eq_true, false_iff]
        omega
    ·
      have p14 := h14
      try simp only [decide_eq_true_eq, decide_eq_false_iff_not, Bool.not_eq_true', Bool.not_eq_false', Option.isNone_iff_eq_none, ne_eq, Decidable.not_not, Int.not_lt, Int.not_le] at p14
      refine TL_pass rfl rfl h14 rfl ?_
      refine TL_pass rfl rfl h14 rfl ?_
      refine TL_q (Qt_pick_f (.bool _) rfl h14 rfl) rfl ?_
      refine TL_q (Qt_move (.bool _) rfl) rfl ?_
      refine TL_pass rfl rfl rfl rfl ?_
      refine TL_pass rfl rfl rfl rfl ?_
      refine TL_q (Qt_pick_f (.bool _) rfl rfl rfl) rfl ?_
      refine TL_q (Qt_assign (.bool _) rfl) rfl ?_
      refine TL_nil ?_
      refine X_then ?_
      refine T_ret ?_
      refine X_ret () [.bool (rightV num mk)] Try.results43 ⟨?_, trivial⟩ rfl (Subs.st inferInstance)
      refine congrArg Value.bool ?_
      rw [Bool.eq_iff_iff]
      simp only [rightV, decide_eq_true_eq, Bool.false_eq_true, false_iff]
      omega
  ·
    have p9 := h9
    try simp only [decide_eq_true_eq, decide_eq_false_iff_not, Bool.not_eq_true', Bool.not_eq_false', Option.isNone_iff_eq_none, ne_eq, Decidable.not_not, Int.not_lt, Int.not_le] at p9
    refine TL_pass rfl rfl h9 rfl ?_
    refine TL_pass rfl rfl h9 rfl ?_
    refine TL_pass rfl rfl h9 rfl ?_
    refine TL_q (Qt_pick_f (.bool _) rfl h9 rfl) rfl ?_
    refine TL_q (Qt_move (.bool _) rfl) rfl ?_
    refine TL_pass rfl rfl rfl rfl ?_
    refine TL_pass rfl rfl rfl rfl ?_
    refine TL_q (Qt_pick_f (.bool _) rfl rfl rfl) rfl ?_
    refine TL_q (Qt_move (.bool _) rfl) rfl ?_
    refine TL_pass rfl rfl rfl rfl ?_
    refine TL_pass rfl rfl rfl rfl ?_
    refine TL_q (Qt_pick_f (.bool _) rfl rfl rfl) rfl ?_
    refine TL_q (Qt_assign (.bool _) rfl) rfl ?_
    refine TL_nil ?_
    refine X_then ?_
    refine T_ret ?_
    refine X_ret () [.bool (rightV num mk)] Try.results43 ⟨?_, trivial⟩ rfl (Subs.st inferInstance)
    refine congrArg Value.bool ?_
    rw [Bool.eq_iff_iff]
    simp only [rightV, decide_eq_true_eq, Bool.false_eq_true, false_iff]
    omega
set_option maxHeartbeats 1000000 in
theorem has_v {w0 : World} {H : List SA} {num : Int} {mk : Nat} (hmk : mk < 65536) {i : Int} :
    CT Try.prog w0 (H) 32 [.agg (ViewV.mk num (mk : Int)).cells, .int .i64 i] (α := Unit) (fun _ => .bool (hasV mk i)) (fun _ => H) := by
  refine CT_intro Try.func32 rfl Try.ntmps32 rfl ?_
  refine T_seq ?_
  refine T_region ?_
  refine TL_e rfl (Ef_boxN rfl (fun b2 => ?_))
  refine TL_q (Qt_assign (.bool _) rfl) rfl ?_
  refine TL_nil ?_
  refine X_then ?_
  refine T_seq ?_
  refine T_region ?_
  refine TL_q (Qt_move (.int .i64 _) rfl) rfl ?_
  refine TL_q (Qt_geq rfl rfl) rfl ?_
  refine TL_q (Qt_move (.bool _) rfl) rfl ?_
  refine TL_split 7 rfl (fun h7 => ?_) (fun h7 => ?_)
  ·
    have p7 := h7
    try simp only [decide_eq_true_eq, decide_eq_false_iff_not, Bool.not_eq_true', Bool.not_eq_false', Option.isNone_iff_eq_none, ne_eq, Decidable.not_not, Int.not_lt, Int.not_le] at p7
    refine TL_take rfl rfl h7 ?_
    refine TL_q (Qt_move (.int .i64 _) rfl) rfl ?_
    refine TL_take rfl rfl h7 ?_
    refine TL_q (Qt_lss rfl rfl) rfl ?_
    refine TL_q (Qt_pick_t (.bool _) rfl h7 rfl) rfl ?_
    refine TL_q (Qt_move (.bool _) rfl) rfl ?_
    refine TL_split 11 rfl (fun h11 => ?_) (fun h11 => ?_)
    ·
      have p11 := h11
      try simp only [decide_eq_true_eq, decide_eq_false_iff_not, Bool.not_eq_true', Bool.not_eq_false', Option.isNone_iff_eq_none, ne_eq, Decidable.not_not, Int.not_lt, Int.not_le] at p11
      obtain ⟨s, rfl⟩ := Int.eq_ofNat_of_zero_le (show 0 ≤ i by first | omega | (simp_all; done) | (simp_all; omega))
      have hs16 : s < 16 := by first | omega | (simp_all; done) | (simp_all; omega)
      refine TL_take rfl rfl h11 ?_
      refine TL_q (Qt_fieldAddr 1 rfl rfl) rfl ?_
      refine TL_take rfl rfl h11 ?_
      refine TL_q (Qt_load1 rfl) rfl ?_
      refine TL_take rfl rfl h11 ?_
      refine TL_q (Qt_move (.int .i64 _) rfl) rfl ?_
      refine TL_take rfl rfl h11 ?_
      refine TL_q (Qt_shrN s rfl rfl (by show s ≤ 16; omega)) rfl ?_
      refine TL_take rfl rfl h11 ?_
      refine TL_q (Qt_andN (b := 1) rfl rfl rfl (by have := Nat.div_le_self mk (2 ^ s); show _ < 2 ^ 16; omega) (by decide)) rfl ?_
      rw [Nat.and_one_is_mod]
      refine TL_take rfl rfl h11 ?_
      refine TL_q (Qt_neq rfl rfl) rfl ?_
      refine TL_q (Qt_pick_t (.bool _) rfl h11 rfl) rfl ?_
      refine TL_q (Qt_assign (.bool _) rfl) rfl ?_
      refine TL_nil ?_
      refine X_then ?_
      refine T_ret ?_
      refine X_ret () [.bool (hasV mk _)] Try.results32 ⟨?_, trivial⟩ rfl (Subs.st inferInstance)
      refine congrArg Value.bool ?_
      rw [Bool.eq_iff_iff]
      first
        | (have hq := Nat.mod_lt (mk / 2 ^ s) (show 0 < 2 by decide); simp only [hasV, Int.toNat_natCast, decide_eq_true_eq, ne_eq, Bool.false_eq_true, false_iff]; generalize mk / 2 ^ s % 2 = q at *; omega)
        | (simp only [hasV, decide_eq_true_eq, Bool.false_eq_true, false_iff]; omega)
    ·
      have p11 := h11
      try simp only [decide_eq_true_eq, decide_eq_false_iff_not, Bool.not_eq_true', Bool.not_eq_false', Option.isNone_iff_eq_none, ne_eq, Decidable.not_not, Int.not_lt, Int.not_le] at p11
      refine TL_pass rfl rfl h11 rfl ?_
      refine TL_pass rfl rfl h11 rfl ?_
      refine TL_pass rfl rfl h11 rfl ?_
      refine TL_pass rfl rfl h11 rfl ?_
      refine TL_pass rfl rfl h11 rfl ?_
      refine TL_pass rfl rfl h11 rfl ?_
      refine TL_q (Qt_pick_f (.bool _) rfl h11 rfl) rfl ?_
      refine TL_q (Qt_assign (.bool _) rfl) rfl ?_
      refine TL_nil ?_
      refine X_then ?_
      refine T_ret ?_
      refine X_ret () [.bool (hasV mk _)] Try.results32 ⟨?_, trivial⟩ rfl (Subs.st inferInstance)
      refine congrArg Value.bool ?_
      rw [Bool.eq_iff_iff]
      first
        | (have hq := Nat.mod_lt (mk / 2 ^ s) (show 0 < 2 by decide); simp only [hasV, Int.toNat_natCast, decide_eq_true_eq, ne_eq, Bool.false_eq_true, false_iff]; generalize mk / 2 ^ s % 2 = q at *; omega)
        | (simp only [hasV, decide_eq_true_eq, Bool.false_eq_true, false_iff]; omega)
  ·
    have p7 := h7
    try simp only [decide_eq_true_eq, decide_eq_false_iff_not, Bool.not_eq_true', Bool.not_eq_false', Option.isNone_iff_eq_none, ne_eq, Decidable.not_not, Int.not_lt, Int.not_le] at p7
    refine TL_pass rfl rfl h7 rfl ?_
    refine TL_pass rfl rfl h7 rfl ?_
    refine TL_q (Qt_pick_f (.bool _) rfl h7 rfl) rfl ?_
    refine TL_q (Qt_move (.bool _) rfl) rfl ?_
    refine TL_pass rfl rfl rfl rfl ?_
    refine TL_pass rfl rfl rfl rfl ?_
    refine TL_pass rfl rfl rfl rfl ?_
    refine TL_pass rfl rfl rfl rfl ?_
    refine TL_pass rfl rfl rfl rfl ?_
    refine TL_pass rfl rfl rfl rfl ?_
    refine TL_q (Qt_pick_f (.bool _) rfl rfl rfl) rfl ?_
    refine TL_q (Qt_assign (.bool _) rfl) rfl ?_
    refine TL_nil ?_
    refine X_then ?_
    refine T_ret ?_
    refine X_ret () [.bool (hasV mk _)] Try.results32 ⟨?_, trivial⟩ rfl (Subs.st inferInstance)
    refine congrArg Value.bool ?_
    rw [Bool.eq_iff_iff]
    first
      | (have hq := Nat.mod_lt (mk / 2 ^ s) (show 0 < 2 by decide); simp only [hasV, Int.toNat_natCast, decide_eq_true_eq, ne_eq, Bool.false_eq_true, false_iff]; generalize mk / 2 ^ s % 2 = q at *; omega)
      | (simp only [hasV, decide_eq_true_eq, Bool.false_eq_true, false_iff]; omega)
set_option maxHeartbeats 1000000 in
theorem size_v {w0 : World} {H : List SA} {num : Int} {mk : Nat} (hmk : mk < 65536) :
    CT Try.prog w0 (H) 30 [.agg (ViewV.mk num (mk : Int)).cells] (α := Unit) (fun _ => .int .i64 (sizeV num mk : Int)) (fun _ => H) := by
  refine CT_intro Try.func30 rfl Try.ntmps30 rfl ?_
  refine T_seq ?_
  refine T_region ?_
  refine TL_e rfl (Ef_boxN rfl (fun b1 => ?_))
  refine TL_q (Qt_assign (.int .i64 _) rfl) rfl ?_
  refine TL_nil ?_
  refine X_then ?_
  refine T_seq ?_
  refine T_seq ?_
  refine T_region ?_
  refine TL_q (Qt_loadN rfl rfl) rfl ?_
  refine TL_q (Qt_build [] rfl (by kernel_rfl)) rfl ?_
  refine TL_q (Qt_agg_eql rfl rfl (by kernel_rfl)) rfl ?_
  refine TL_q (Qt_move (.bool _) rfl) rfl ?_
  refine TL_split 6 rfl (fun h6 => ?_) (fun h6 => ?_)
  ·
    have p6 := h6
    try simp only [decide_eq_true_eq, decide_eq_false_iff_not, Bool.not_eq_true', Bool.not_eq_false', Option.isNone_iff_eq_none, ne_eq, Decidable.not_not, Int.not_lt, Int.not_le] at p6
    refine TL_pass rfl rfl h6 rfl ?_
    refine TL_pass rfl rfl h6 rfl ?_
    refine TL_pass rfl rfl h6 rfl ?_
    refine TL_q (Qt_pick_t (.bool _) rfl h6 rfl) rfl ?_
    refine TL_nil ?_
    refine X_then ?_
    refine T_cond_true rfl rfl ?_
    refine T_seq ?_
    refine T_region ?_
    refine TL_q (Qt_assign (.int .i64 _) rfl) rfl ?_
    refine TL_nil ?_
    refine X_then ?_
    refine T_ret ?_
    refine X_then_ret ?_
    have e : sizeV num mk = 0 := by
      first
        | (have hz := p6; rw [ViewV.ext_iff'] at hz; obtain ⟨h1, h2⟩ := hz; simp only [ViewV.zero] at h1 h2; have h3 : mk = 0 := by omega
           subst h3; subst h1; exact size_zero)
        | (unfold sizeV; rw [if_neg]; simp_all)
    exact X_ret () [_] Try.results30 ⟨rfl, trivial⟩ (by rw [e]; rfl) (Subs.st inferInstance)
  ·
    have p6 := h6
    try simp only [decide_eq_true_eq, decide_eq_false_iff_not, Bool.not_eq_true', Bool.not_eq_false', Option.isNone_iff_eq_none, ne_eq, Decidable.not_not, Int.not_lt, Int.not_le] at p6
    refine TL_take rfl rfl h6 ?_
    refine TL_q (Qt_loadN rfl rfl) rfl ?_
    refine TL_take rfl rfl h6 ?_
    refine TL_e rfl (Ef_call (right_v hmk) rfl (fun x8 => ?_))
    refine TL_take rfl rfl h6 ?_
    refine TL_q (Qt_not rfl) rfl ?_
    refine TL_q (Qt_pick_f (.bool _) rfl h6 rfl) rfl ?_
    refine TL_nil ?_
    refine X_then ?_
    refine T_cond rfl (fun h10 => ?_) (fun h10 => ?_)
    ·
      have p10 := h10
      try simp only [decide_eq_true_eq, decide_eq_false_iff_not, Bool.not_eq_true', Bool.not_eq_false', Option.isNone_iff_eq_none, ne_eq, Decidable.not_not, Int.not_lt, Int.not_le] at p10
      refine T_seq ?_
      refine T_region ?_
      refine TL_q (Qt_assign (.int .i64 _) rfl) rfl ?_
      refine TL_nil ?_
      refine X_then ?_
      refine T_ret ?_
      refine X_then_ret ?_
      have e : sizeV num mk = 0 ∨ rightV num mk = true := by by_cases hq : rightV num mk = true; exact .inr hq; exact .inl (if_neg hq)
      first
        | (have e1 : sizeV num mk = 0 := by (unfold sizeV; rw [if_neg]; simp_all)
           exact X_ret () [_] Try.results30 ⟨rfl, trivial⟩ (by rw [e1]; rfl) (Subs.st inferInstance))
        | (have e2 : sizeV num mk = ones16 mk := if_pos (by simp_all)
           exact X_ret () [_] Try.results30 ⟨rfl, trivial⟩ (by rw [e2]; rfl) (Subs.st inferInstance))
    ·
      have p10 := h10
      try simp only [decide_eq_true_eq, decide_eq_false_iff_not, Bool.not_eq_true', Bool.not_eq_false', Option.isNone_iff_eq_none, ne_eq, Decidable.not_not, Int.not_lt, Int.not_le] at p10
      refine T_skip ?_
      refine X_then ?_
      refine T_seq ?_
      refine T_region ?_
      refine TL_q (Qt_loadN rfl rfl) rfl ?_
      refine TL_e rfl (Ef_call (count_v hmk) rfl (fun x12 => ?_))
      refine TL_q (Qt_assign (.int .i64 _) rfl) rfl ?_
      refine TL_nil ?_
      refine X_then ?_
      refine T_ret ?_
      have e : sizeV num mk = 0 ∨ rightV num mk = true := by by_cases hq : rightV num mk = true; exact .inr hq; exact .inl (if_neg hq)
      first
        | (have e1 : sizeV num mk = 0 := by (unfold sizeV; rw [if_neg]; simp_all)
           exact X_ret () [_] Try.results30 ⟨rfl, trivial⟩ (by rw [e1]; rfl) (Subs.st inferInstance))
        | (have e2 : sizeV num mk = ones16 mk := if_pos (by simp_all)
           exact X_ret () [_] Try.results30 ⟨rfl, trivial⟩ (by rw [e2]; rfl) (Subs.st inferInstance))
set_option maxHeartbeats 1000000 in
theorem faults_v {w0 : World} {H : List SA} {num : Int} {mk : Nat} (hmk : mk < 65536) :
    CT Try.prog w0 (H) 31 [.agg (ViewV.mk num (mk : Int)).cells] (α := Unit) (fun _ => .int .i64 (faultsV num mk : Int)) (fun _ => H) := by
  refine CT_intro Try.func31 rfl Try.ntmps31 rfl ?_
  refine T_seq ?_
  refine T_region ?_
  refine TL_e rfl (Ef_boxN rfl (fun b1 => ?_))
  refine TL_q (Qt_assign (.int .i64 _) rfl) rfl ?_
  refine TL_nil ?_
  refine X_then ?_
  refine T_seq ?_
  refine T_region ?_
  refine TL_q (Qt_loadN rfl rfl) rfl ?_
  refine TL_e rfl (Ef_call (size_v hmk) rfl (fun x4 => ?_))
  have hsz := sizeV_le (num := num) hmk
  first
    | refine TL_q (Qt_sub rfl rfl (by omega) (by omega)) rfl ?_
    | refine TL_q (Qt_subw rfl rfl) rfl ?_
  refine TL_q (Qt_max rfl rfl) rfl ?_
  refine TL_q (Qt_quo rfl rfl (by omega)) rfl ?_
  rw [show IntKind.i64.wrap ((if (0 : Int) > (sizeV num mk : Int) - 1 then (0 : Int) else (sizeV num mk : Int) - 1).tdiv 3) = (faultsV num mk : Int) from by unfold faultsV; generalize sizeV num mk = s at *; (rcases (by omega : s = 0 ∨ s = 1 ∨ s = 2 ∨ s = 3 ∨ s = 4 ∨ s = 5 ∨ s = 6 ∨ s = 7 ∨ s = 8 ∨ s = 9 ∨ s = 10 ∨ s = 11 ∨ s = 12 ∨ s = 13 ∨ s = 14 ∨ s = 15 ∨ s = 16) with rfl | rfl | rfl | rfl | rfl | rfl | rfl | rfl | rfl | rfl | rfl | rfl | rfl | rfl | rfl | rfl | rfl) <;> decide]
  refine TL_q (Qt_assign (.int .i64 _) rfl) rfl ?_
  refine TL_nil ?_
  refine X_then ?_
  refine T_ret ?_
  exact X_ret () [_] Try.results31 ⟨rfl, trivial⟩ (rfl) (Subs.st inferInstance)
set_option maxHeartbeats 1000000 in
theorem some_v {w0 : World} {H : List SA} {num : Int} {mk : Nat} (hmk : mk < 65536) :
    CT Try.prog w0 (H) 29 [.agg (ViewV.mk num (mk : Int)).cells] (α := Unit) (fun _ => .int .i64 (someV num mk : Int)) (fun _ => H) := by
  refine CT_intro Try.func29 rfl Try.ntmps29 rfl ?_
  refine T_seq ?_
  refine T_region ?_
  refine TL_e rfl (Ef_boxN rfl (fun b1 => ?_))
  refine TL_q (Qt_assign (.int .i64 _) rfl) rfl ?_
  refine TL_nil ?_
  refine X_then ?_
  refine T_seq ?_
  refine T_seq ?_
  refine T_region ?_
  refine TL_q (Qt_loadN rfl rfl) rfl ?_
  refine TL_e rfl (Ef_call (size_v hmk) rfl (fun x4 => ?_))
  refine TL_q (Qt_eql rfl rfl) rfl ?_
  refine TL_nil ?_
  refine X_then ?_
  refine T_cond rfl (fun h5 => ?_) (fun h5 => ?_)
  ·
    have p5 := h5
    try simp only [decide_eq_true_eq, decide_eq_false_iff_not, Bool.not_eq_true', Bool.not_eq_false', Option.isNone_iff_eq_none, ne_eq, Decidable.not_not, Int.not_lt, Int.not_le] at p5
    refine T_seq ?_
    refine T_region ?_
    refine TL_q (Qt_assign (.int .i64 _) rfl) rfl ?_
    refine TL_nil ?_
    refine X_then ?_
    refine T_ret ?_
    refine X_then_ret ?_
    exact X_ret () [_] Try.results29 ⟨rfl, trivial⟩ (by rw [someV, if_pos (by omega)]; rfl) (Subs.st inferInstance)
  ·
    have p5 := h5
    try simp only [decide_eq_true_eq, decide_eq_false_iff_not, Bool.not_eq_true', Bool.not_eq_false', Option.isNone_iff_eq_none, ne_eq, Decidable.not_not, Int.not_lt, Int.not_le] at p5
    refine T_skip ?_
    refine X_then ?_
    refine T_seq ?_
    refine T_region ?_
    refine TL_q (Qt_loadN rfl rfl) rfl ?_
    refine TL_e rfl (Ef_call (faults_v hmk) rfl (fun x7 => ?_))
    have hsz := sizeV_le (num := num) hmk
    have hfa : faultsV num mk ≤ 16 := by unfold faultsV; omega
    first
      | refine TL_q (Qt_add rfl rfl (by omega) (by omega)) rfl ?_
      | refine TL_q (Qt_addw rfl rfl) rfl ?_
    refine TL_q (Qt_assign (.int .i64 _) rfl) rfl ?_
    refine TL_nil ?_
    refine X_then ?_
    refine T_ret ?_
    exact X_ret () [_] Try.results29 ⟨rfl, trivial⟩ (by rw [someV, if_neg (by omega)]; rfl) (Subs.st inferInstance)
set_option maxHeartbeats 1000000 in
theorem enough_v {w0 : World} {H : List SA} {num : Int} {mk : Nat} (hmk : mk < 65536) :
    CT Try.prog w0 (H) 16 [.agg (ViewV.mk num (mk : Int)).cells] (α := Unit) (fun _ => .int .i64 (enoughV num mk : Int)) (fun _ => H) := by
  refine CT_intro Try.func16 rfl Try.ntmps16 rfl ?_
  refine T_seq ?_
  refine T_region ?_
  refine TL_e rfl (Ef_boxN rfl (fun b1 => ?_))
  refine TL_q (Qt_assign (.int .i64 _) rfl) rfl ?_
  refine TL_nil ?_
  refine X_then ?_
  refine T_seq ?_
  refine T_draw (blk b1 (.cells (ViewV.mk num (mk : Int)).cells 24 (0, 0)) :: H) [(0, true), (2, true), (1, false), (3, false), (4, true), (5, true)] (by kernel_rfl) (by kernel_rfl) rfl (by kernel_rfl) (Subs.st inferInstance) (fun hns0 => ?_)
  refine DL_q hns0 rfl (Qt_loadN rfl rfl) rfl ?_
  refine DL_q hns0 rfl (Qt_loadN rfl rfl) rfl ?_
  refine DL_e rfl rfl (Ef_call (size_v hmk) rfl (fun x4 => ⟨(Subs.st inferInstance), ?_⟩))
  refine DL_e rfl rfl (Ef_call (faults_v hmk) rfl (fun x6 => ⟨(Subs.st inferInstance), ?_⟩))
  have hsz := sizeV_le (num := num) hmk
  have hfa : faultsV num mk ≤ sizeV num mk := by unfold faultsV; omega
  refine DL_q hns0 rfl (Qt_val (Qt_sub rfl rfl (by omega) (by omega)) (congrArg (Value.int .i64) (show (sizeV num mk : Int) - (faultsV num mk : Int) = (enoughV num mk : Int) from by unfold enoughV; omega))) rfl ?_
  refine DL_q hns0 rfl (Qt_assign (.int .i64 _) rfl) rfl ?_
  refine DL_nil ?_
  refine X_then ?_
  refine T_ret ?_
  exact X_ret () [_] Try.results16 ⟨rfl, trivial⟩ (rfl) (Subs.st inferInstance)
end Go.Proofs.Ytnijomppbgdmnaa
