/- Walks: the references on digests. -/
import Derived.Test.YtnijomppbgdmnaaSha
import Derived.Test.YtnijomppbgdmnaaCm
namespace Go.Proofs.Ytnijomppbgdmnaa
open Go.RowKit Go.Sx
set_option maxRecDepth 100000
set_option linter.unusedSimpArgs false
set_option linter.unusedVariables false
theorem rdFixed_wide {l : List UInt8} {n : Int} (h : wideB n = false) : rdFixed l n = (15, 0, 0) := by unfold rdFixed; rw [if_pos h]
theorem rdFixed_short {l : List UInt8} {n : Int} (h : wideB n = true) (hs : (l.length : Int) < n) : rdFixed l n = (1, 0, 0) := by unfold rdFixed; rw [if_neg (by simp [h]), if_pos hs]
theorem rdFixed_ok {l : List UInt8} {n : Nat} (h : wideB n = true) (hs : n ≤ l.length) : rdFixed l n = (0, beN (l.take n), n) := by unfold rdFixed; rw [if_neg (by simp [h]), if_neg (by omega)]; rfl

theorem madeCells_one (v : Value) (h : v.cells = #[v]) (n : Nat) : madeCells v.cells n = (List.replicate n v).toArray := by
  unfold madeCells
  rw [h]
  apply Array.ext
  · simp
  · intro i h1 h2; simp [Nat.mod_one]
theorem ref_word (x y z u : UInt32) : sig1 y + z + sig0 x + u = u + z + sig0 x + sig1 y := by
  rw [UInt32.add_comm _ u, ← UInt32.add_assoc, UInt32.add_comm (sig1 y) z, ← UInt32.add_assoc, UInt32.add_assoc (u + z) (sig1 y), UInt32.add_comm (sig1 y), ← UInt32.add_assoc]
theorem rd4 {l : List UInt8} {i : Nat} (h : 4 * i + 4 ≤ l.length) : (rdFixed (l.drop (4 * i)) ((4 : Nat) : Int)).2.1 = beN ((l.drop (4 * i)).take 4) := by rw [rdFixed_ok rfl (by simp; omega)]

theorem hash_fixed (s : S8) (i : Nat) (hi : i < 32) : (fixed (at32 s.list (i / 4)).toNat 4)[i % 4]'(by rw [fixed_length]; omega) = (hashOf s)[i] := by
  simp only [fixed, List.getElem_map, List.getElem_range, hashOf, Vector.getElem_ofFn]
  apply UInt8.toNat_inj.1
  rw [UInt8.toNat_ofNat', UInt8.toNat_ofNat', show (256 : Nat) = 2 ^ 8 from rfl, ← Nat.pow_mul, show 8 * (4 - 1 - i % 4) = 24 - 8 * (i % 4) by omega]
  omega

attribute [local irreducible] hashOf
end Go.Proofs.Ytnijomppbgdmnaa
