/- Walks: members of views, their number; the reference. -/
import Derived.Test.YtpdpapcmfnhgpaaViR
import Derived.Test.YtpdpapcmfnhgpaaCmR
namespace Go.Proofs.Ytpdpapcmfnhgpaa
open Go.RowKit Go.Sx
set_option maxRecDepth 100000
set_option linter.unusedSimpArgs false
set_option linter.unusedVariables false
/-- The members of a mask, rising. -/
def memF : Nat → Nat → List Nat
 | 0, _ => []
 | k + 1, n => (if n % 2 = 1 then [0] else []) ++ (memF k (n / 2)).map (· + 1)
def memK (n : Nat) : List Nat := (List.range 16).filter fun i => n.testBit i
theorem memF_eq : ∀ k n, memF k n = (List.range k).filter fun i => n.testBit i
 | 0, n => rfl
 | k + 1, n => by
  rw [memF, memF_eq k, List.range_succ_eq_map, List.filter_cons, List.filter_map]
  have e : (fun i => n.testBit i) ∘ Nat.succ = fun i => (n / 2).testBit i := by funext i; simp [Nat.testBit_succ]
  rw [e]
  by_cases h : n % 2 = 1 <;> simp [h, Nat.testBit_zero]
theorem memF_16 (n : Nat) : memF 16 n = memK n := memF_eq 16 n
theorem memF_split : ∀ j k n, memF (j + k) n = memF j (n % 2 ^ j) ++ (memF k (n / 2 ^ j)).map (· + j)
 | 0, k, n => by simp [memF]
 | j + 1, k, n => by
  rw [show j + 1 + k = (j + k) + 1 by omega, memF, memF, memF_split j k]
  have e1 : n % 2 ^ (j + 1) % 2 = n % 2 := Nat.mod_mod_of_dvd _ ⟨2 ^ j, by rw [Nat.pow_succ, Nat.mul_comm]⟩
  have e2 : n % 2 ^ (j + 1) / 2 = n / 2 % 2 ^ j := by rw [Nat.pow_succ, Nat.mul_comm, Nat.mod_mul_right_div_self]
  have e3 : n / 2 / 2 ^ j = n / 2 ^ (j + 1) := by rw [Nat.div_div_eq_div_mul, Nat.pow_succ, Nat.mul_comm]
  rw [e1, e2, e3, List.map_append, List.map_map, List.append_assoc]
  congr 3
theorem popB_mem : ∀ i < 256, popB i = (memF 8 i).length := by decide +kernel
theorem ones16_mem {n : Nat} (h : n < 65536) : ones16 n = (memK n).length := by
 rw [← memF_16, memF_split 8 8 n, List.length_append, List.length_map, ones16, popB_mem _ (by omega), popB_mem _ (by omega)]
 show _ = (memF 8 (n % 256)).length + (memF 8 (n / 256)).length
 rw [Nat.add_comm]
attribute [local irreducible] popB
end Go.Proofs.Ytpdpapcmfnhgpaa
