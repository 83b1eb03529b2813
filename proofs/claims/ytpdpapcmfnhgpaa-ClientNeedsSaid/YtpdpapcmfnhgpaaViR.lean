/- Walks: package views: how many members a view has, who is one. -/
import Derived.Test.YtpdpapcmfnhgpaaMtR
import Derived.Test.YtpdpapcmfnhgpaaSr
namespace Go.Proofs.Ytpdpapcmfnhgpaa
open Go.RowKit Go.Sx
set_option maxRecDepth 100000
set_option linter.unusedSimpArgs false
set_option linter.unusedVariables false
def popS : ByteArray := ByteArray.mk (List.toArray (List.append (List.append [0, 1, 1, 2, 1, 2, 2, 3, 1, 2, 2, 3, 2, 3, 3, 4, 1, 2, 2, 3, 2, 3, 3, 4, 2, 3, 3, 4, 3, 4, 4, 5, 1, 2, 2, 3, 2, 3, 3, 4, 2, 3, 3, 4, 3, 4, 4, 5, 2, 3, 3, 4, 3, 4, 4, 5, 3, 4, 4, 5, 4, 5, 5, 6] [1, 2, 2, 3, 2, 3, 3, 4, 2, 3, 3, 4, 3, 4, 4, 5, 2, 3, 3, 4, 3, 4, 4, 5, 3, 4, 4, 5, 4, 5, 5, 6, 2, 3, 3, 4, 3, 4, 4, 5, 3, 4, 4, 5, 4, 5, 5, 6, 3, 4, 4, 5, 4, 5, 5, 6, 4, 5, 5, 6, 5, 6, 6, 7]) (List.append [1, 2, 2, 3, 2, 3, 3, 4, 2, 3, 3, 4, 3, 4, 4, 5, 2, 3, 3, 4, 3, 4, 4, 5, 3, 4, 4, 5, 4, 5, 5, 6, 2, 3, 3, 4, 3, 4, 4, 5, 3, 4, 4, 5, 4, 5, 5, 6, 3, 4, 4, 5, 4, 5, 5, 6, 4, 5, 5, 6, 5, 6, 6, 7] [2, 3, 3, 4, 3, 4, 4, 5, 3, 4, 4, 5, 4, 5, 5, 6, 3, 4, 4, 5, 4, 5, 5, 6, 4, 5, 5, 6, 5, 6, 6, 7, 3, 4, 4, 5, 4, 5, 5, 6, 4, 5, 5, 6, 5, 6, 6, 7, 4, 5, 5, 6, 5, 6, 6, 7, 5, 6, 6, 7, 6, 7, 7, 8])))
def popB (i : Nat) : Nat := (popS.data.getD i 0).toNat
theorem popS_get : ∀ i < 256, popS[i]? = some (UInt8.ofNat (popB i)) := by decide +kernel
theorem popB_le : ∀ i < 256, popB i ≤ 8 := by decide +kernel
def ones16 (n : Nat) : Nat := popB (n / 2 ^ 8) + popB (n % 256)
theorem popU {i : Nat} (h : i < 256) : ((UInt8.ofNat (popB i)).toNat : Int) = (popB i : Int) := by
  have := popB_le i h
  simp; omega
theorem and255 (c : Nat) : c &&& 255 = c % 256 := Nat.and_two_pow_sub_one_eq_mod c 8
attribute [local irreducible] popB
set_option maxHeartbeats 1000000 in
theorem ones_c {w0 : World} {H : List SA} {n : Nat} (hn : n < 65536) :
    CT Try.prog w0 (H) 55 [.int .u16 (n : Int)] (α := Unit) (fun _ => .int .i64 (ones16 n : Int)) (fun _ => H) := by
  refine CT_intro Try.func55 rfl Try.ntmps55 rfl ?_
  refine T_seq ?_
  refine T_region ?_
  refine TL_q (Qt_assign (.int .i64 _) rfl) rfl ?_
  refine TL_nil ?_
  refine X_then ?_
  refine T_seq ?_
  refine T_draw _ [(0, true), (1, true), (2, true), (3, true), (4, true), (5, true), (6, true), (7, true), (8, true)] (by kernel_rfl) (by kernel_rfl) rfl (by kernel_rfl) (fun _ hh => hh) (fun hns0 => ?_)
  refine DL_q hns0 rfl (Qt_move (.int .u16 _) rfl) rfl ?_
  refine DL_q hns0 rfl (Qt_shrN 8 rfl (by exact rfl) (by decide)) rfl ?_
  refine DL_q hns0 rfl (Qt_index_str (UInt8.ofNat (popB (n / 2 ^ 8))) (s := popS) rfl rfl Try.underlying9 (popS_get _ (by omega))) rfl ?_
  rw [popU (show n / 2 ^ 8 < 256 by omega)]
  have hp1 := popB_le (n / 2 ^ 8) (by omega)
  refine DL_q hns0 rfl (Qt_move (.int .u16 _) rfl) rfl ?_
  refine DL_q hns0 rfl (Qt_andN (b := 255) rfl rfl rfl (by show _ < 2 ^ 16; omega) (by decide)) rfl ?_
  rw [and255]
  refine DL_q hns0 rfl (Qt_index_str (UInt8.ofNat (popB (n % 256))) (s := popS) rfl rfl Try.underlying9 (popS_get _ (by omega))) rfl ?_
  rw [popU (show n % 256 < 256 by omega)]
  have hp2 := popB_le (n % 256) (by omega)
  refine DL_q hns0 rfl (Qt_addw rfl rfl) rfl ?_
  rw [show IntKind.u8.wrap ((popB (n / 2 ^ 8) : Int) + (popB (n % 256) : Int)) = ((popB (n / 2 ^ 8) + popB (n % 256) : Nat) : Int) from by rw [← Int.natCast_add]; exact wrap_nat .u8 rfl (by show _ < 2 ^ 8; omega)]
  refine DL_q hns0 rfl (Qt_conv_i64 rfl rfl Try.underlying3 (by omega) (by omega)) rfl ?_
  refine DL_q hns0 rfl (Qt_assign (.int .i64 _) rfl) rfl ?_
  refine DL_nil ?_
  refine X_then ?_
  refine T_ret ?_
  exact X_ret () [_] Try.results55 ⟨rfl, trivial⟩ rfl (Subs.st inferInstance)
end Go.Proofs.Ytpdpapcmfnhgpaa
