/- Walks: package views: how many members a view has, who is one. -/
import Derived.Test.YtgeknnclmhfjlaaGreatDoorSgP
import Derived.Test.YtgeknnclmhfjlaaGreatDoorTzP
import Derived.Test.YtgeknnclmhfjlaaGreatDoorSrP
namespace Go.Proofs.YtgeknnclmhfjlaaGreatDoor
open Go.RowKit Go.Sx
set_option maxRecDepth 100000
set_option linter.unusedSimpArgs false
set_option linter.unusedVariables false
def popS : ByteArray := ByteArray.mk (List.toArray (List.append (List.append [0, 1, 1, 2, 1, 2, 2, 3, 1, 2, 2, 3, 2, 3, 3, 4, 1, 2, 2, 3, 2, 3, 3, 4, 2, 3, 3, 4, 3, 4, 4, 5, 1, 2, 2, 3, 2, 3, 3, 4, 2, 3, 3, 4, 3, 4, 4, 5, 2, 3, 3, 4, 3, 4, 4, 5, 3, 4, 4, 5, 4, 5, 5, 6] [1, 2, 2, 3, 2, 3, 3, 4, 2, 3, 3, 4, 3, 4, 4, 5, 2, 3, 3, 4, 3, 4, 4, 5, 3, 4, 4, 5, 4, 5, 5, 6, 2, 3, 3, 4, 3, 4, 4, 5, 3, 4, 4, 5, 4, 5, 5, 6, 3, 4, 4, 5, 4, 5, 5, 6, 4, 5, 5, 6, 5, 6, 6, 7]) (List.append [1, 2, 2, 3, 2, 3, 3, 4, 2, 3, 3, 4, 3, 4, 4, 5, 2, 3, 3, 4, 3, 4, 4, 5, 3, 4, 4, 5, 4, 5, 5, 6, 2, 3, 3, 4, 3, 4, 4, 5, 3, 4, 4, 5, 4, 5, 5, 6, 3, 4, 4, 5, 4, 5, 5, 6, 4, 5, 5, 6, 5, 6, 6, 7] [2, 3, 3, 4, 3, 4, 4, 5, 3, 4, 4, 5, 4, 5, 5, 6, 3, 4, 4, 5, 4, 5, 5, 6, 4, 5, 5, 6, 5, 6, 6, 7, 3, 4, 4, 5, 4, 5, 5, 6, 4, 5, 5, 6, 5, 6, 6, 7, 4, 5, 5, 6, 5, 6, 6, 7, 5, 6, 6, 7, 6, 7, 7, 8])))
def popB (i : Nat) : Nat := (popS.data.getD i 0).toNat
theorem popS_get : ∀ i < 256, popS[i]? = some (UInt8.ofNat (popB i)) := by decide +kernel
theorem popB_le : ∀ i < 256, popB i ≤ 8 := by decide +kernel
def ones16 (n : Nat) : Nat := popB (n / 2 ^ 8) + popB (n % 256)
theorem ones16_le {n : Nat} (h : n < 65536) : ones16 n ≤ 16 := by
  have h1 := popB_le (n / 2 ^ 8) (by omega)
  have h2 := popB_le (n % 256) (by omega)
  unfold ones16; omega
theorem popU {i : Nat} (h : i < 256) : ((UInt8.ofNat (popB i)).toNat : Int) = (popB i : Int) := by
  have := popB_le i h
  simp; omega
theorem and255 (c : Nat) : c &&& 255 = c % 256 := Nat.and_two_pow_sub_one_eq_mod c 8
def rightV (num : Int) (mk : Nat) : Bool := decide (0 ≤ num ∧ num ≤ 60 ∧ 4 ≤ ones16 mk ∧ ones16 mk ≤ 7)
attribute [local irreducible] popB
set_option maxHeartbeats 1000000 in
theorem ones_c {w0 : World} {H : List SA} {n : Nat} (hn : n < 65536) :
    CT Tryz.prog w0 (H) 87 [.int .u16 (n : Int)] (α := Unit) (fun _ => .int .i64 (ones16 n : Int)) (fun _ => H) := by
  refine CT_intro Tryz.func87 rfl Tryz.ntmps87 rfl ?_
  refine T2 (Qai rfl rfl (TX (zS ?_)))
  refine T_draw _ [(0, true), (1, true), (2, true), (3, true), (4, true), (5, true), (6, true), (7, true), (8, true)] (by kernel_rfl) (by kernel_rfl) rfl (by kernel_rfl) (fun _ hh => hh) (fun hns0 => ?_)
  refine zd hns0 rfl (zm (.int .u16 _) rfl) rfl (zd hns0 rfl (Qt_shrN 8 rfl (by exact rfl) (by decide)) rfl (zd hns0 rfl (Qt_index_str (UInt8.ofNat (popB (n / 2 ^ 8))) (s := popS) rfl rfl Tryz.underlying9 (popS_get _ (by omega))) rfl ?_))
  rw [popU (show n / 2 ^ 8 < 256 by omega)]
  have hp1 := popB_le (n / 2 ^ 8) (by omega)
  refine zd hns0 rfl (zm (.int .u16 _) rfl) rfl (zd hns0 rfl (Qt_andN (b := 255) rfl rfl rfl (by show _ < 2 ^ 16; omega) (by decide)) rfl ?_)
  rw [and255]
  refine zd hns0 rfl (Qt_index_str (UInt8.ofNat (popB (n % 256))) (s := popS) rfl rfl Tryz.underlying9 (popS_get _ (by omega))) rfl ?_
  rw [popU (show n % 256 < 256 by omega)]
  have hp2 := popB_le (n % 256) (by omega)
  refine zd hns0 rfl (Qt_addw rfl rfl) rfl ?_
  rw [show IntKind.u8.wrap ((popB (n / 2 ^ 8) : Int) + (popB (n % 256) : Int)) = ((popB (n / 2 ^ 8) + popB (n % 256) : Nat) : Int) from by rw [← Int.natCast_add]; exact wrap_nat .u8 rfl (by show _ < 2 ^ 8; omega)]
  refine zd hns0 rfl (Qt_conv_i64 rfl rfl Tryz.underlying3 (by omega) (by omega)) rfl (zd hns0 rfl (za (.int .i64 _) rfl) rfl (DL_nil (zx (zQ ?_))))
  exact zX () [_] Tryz.results87 ⟨rfl, trivial⟩ rfl SB
set_option maxHeartbeats 1000000 in
theorem count_v {w0 : World} {H : List SA} {num : Int} {mk : Nat} (hmk : mk < 65536) :
    CT Tryz.prog w0 (H) 47 [.agg (ViewV.mk num (mk : Int)).cells] (α := Unit) (fun _ => .int .i64 (ones16 mk : Int)) (fun _ => H) := by
  refine CT_intro Tryz.func47 rfl Tryz.ntmps47 rfl ?_
  refine T2 ?_
  refine ze rfl (Ef_boxN rfl (fun b1 => ?_))
  refine Qai rfl rfl (T4 (zq (zf 1 rfl rfl) rfl (zq (zl rfl) rfl ?_)))
  refine ze rfl (zc (ones_c hmk) rfl (fun x5 => ?_))
  refine Qai rfl rfl (TX (zQ ?_))
  exact zX () [_] Tryz.results47 ⟨rfl, trivial⟩ (rfl) SB
set_option maxHeartbeats 1000000 in
theorem right_v {w0 : World} {H : List SA} {num : Int} {mk : Nat} (hmk : mk < 65536) :
    CT Tryz.prog w0 (H) 22 [.agg (ViewV.mk num (mk : Int)).cells] (α := Unit) (fun _ => .bool (rightV num mk)) (fun _ => H) := by
  refine CT_intro Tryz.func22 rfl Tryz.ntmps22 rfl ?_
  refine T2 ?_
  refine ze rfl (Ef_boxN rfl (fun b1 => ?_))
  refine Qab rfl rfl (T4 (zq (zn rfl rfl) rfl ?_))
  refine ze rfl (zc (count_v hmk) rfl (fun x5 => ?_))
  refine Qai rfl rfl (T4 (zq (zf 0 rfl rfl) rfl (zq (zl rfl) rfl (zq (Qt_geq rfl rfl) rfl (Qmb rfl rfl ?_)))))
  refine TL_split 9 rfl (fun h9 => ?_) (fun h9 => ?_)
  ·
    have p9 := h9
    try simp only [dp] at p9
    refine zt rfl rfl h9 (zq (zf 0 rfl rfl) rfl (zt rfl rfl h9 (zq (zl rfl) rfl (zt rfl rfl h9 (zq (Qt_leq rfl rfl) rfl ?_)))))
    refine zq (zT (.bool _) rfl h9 rfl) rfl (Qmb rfl rfl ?_)
    refine TL_split 14 rfl (fun h14 => ?_) (fun h14 => ?_)
    ·
      have p14 := h14
      try simp only [dp] at p14
      refine zt rfl rfl h14 (Qmi rfl rfl (zt rfl rfl h14 (zq (Qt_geq rfl rfl) rfl (zq (zT (.bool _) rfl h14 rfl) rfl (Qmb rfl rfl ?_)))))
      refine TL_split 18 rfl (fun h18 => ?_) (fun h18 => ?_)
      ·
        have p18 := h18
        try simp only [dp] at p18
        refine zt rfl rfl h18 (Qmi rfl rfl (zt rfl rfl h18 (zq (Qt_leq rfl rfl) rfl (zq (zT (.bool _) rfl h18 rfl) rfl (Qab rfl rfl ?_)))))
        refine TX (zQ ?_)
        refine zX () [.bool (rightV num mk)] Tryz.results22 ⟨?_, trivial⟩ rfl SB
        refine congrArg Value.bool ?_
        rw [Bool.eq_iff_iff]
        simp only [rightV, decide_eq_true_eq, Bool.false_eq_true, false_iff]
        omega
      have p18 := h18
      try simp only [dp] at p18
      refine zp rfl rfl h18 rfl (zp rfl rfl h18 rfl (zq (zF (.bool _) rfl h18 rfl) rfl (Qab rfl rfl (TX (zQ ?_)))))
      refine zX () [.bool (rightV num mk)] Tryz.results22 ⟨?_, trivial⟩ rfl SB
      refine congrArg Value.bool ?_
      rw [Bool.eq_iff_iff]
      simp only [rightV, decide_eq_true_eq, Bool.false_eq_true, false_iff]
      omega
    have p14 := h14
    try simp only [dp] at p14
    refine zp rfl rfl h14 rfl (zp rfl rfl h14 rfl (zq (zF (.bool _) rfl h14 rfl) rfl (Qmb rfl rfl (zp rfl rfl rfl rfl (zp rfl rfl rfl rfl ?_)))))
    refine zq (zF (.bool _) rfl rfl rfl) rfl (Qab rfl rfl (TX (zQ ?_)))
    refine zX () [.bool (rightV num mk)] Tryz.results22 ⟨?_, trivial⟩ rfl SB
    refine congrArg Value.bool ?_
    rw [Bool.eq_iff_iff]
    simp only [rightV, decide_eq_true_eq, Bool.false_eq_true, false_iff]
    omega
  have p9 := h9
  try simp only [dp] at p9
  refine zp rfl rfl h9 rfl (zp rfl rfl h9 rfl (zp rfl rfl h9 rfl (zq (zF (.bool _) rfl h9 rfl) rfl (Qmb rfl rfl (zp rfl rfl rfl rfl ?_)))))
  refine zp rfl rfl rfl rfl (zq (zF (.bool _) rfl rfl rfl) rfl (Qmb rfl rfl (zp rfl rfl rfl rfl (zp rfl rfl rfl rfl (zq (zF (.bool _) rfl rfl rfl) rfl ?_)))))
  refine Qab rfl rfl (TX (zQ ?_))
  refine zX () [.bool (rightV num mk)] Tryz.results22 ⟨?_, trivial⟩ rfl SB
  refine congrArg Value.bool ?_
  rw [Bool.eq_iff_iff]
  simp only [rightV, decide_eq_true_eq, Bool.false_eq_true, false_iff]
  omega
end Go.Proofs.YtgeknnclmhfjlaaGreatDoor
