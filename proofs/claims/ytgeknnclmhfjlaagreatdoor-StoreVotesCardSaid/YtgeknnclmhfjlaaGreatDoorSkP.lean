/- Arrays of structs: their cells, their elements, as arguments. General. -/
import Derived.Test.YtgeknnclmhfjlaaGreatDoorSoP
set_option linter.unusedSimpArgs false
set_option linter.unusedVariables false
namespace Go.Sx
open Go.RowKit
section
variable {P : Program} {w0 : World} {σ : Env} {H : List SA} {d : Option Nat} {ty : TypeId} {pos : String} {aft : Array Edge} {g : Option (Nat × Bool)}
/-- An element of some cells of an array value. -/
theorem Qt_indexS {x i : Operand} {t e n m : Nat} {cs sub : Array Value} {k : IntKind} {j : Nat} (hx : ev σ x = .agg cs) (hi : ev σ i = .int k (j : Int)) (hu : P.underlying t = some (.array n e)) [h1 : TyN P e m] (hn : j < n) [hc : SubAt cs (j * m) m sub] :
    Qt P w0 H σ ⟨d, .index t x i, ty, pos, aft, g⟩ (.agg sub) := fun w _ => by
  obtain ⟨dd, ii, hd1, hd2, hi', hs⟩ := h1.spec
  simp only [execOp, hx, hi, Instr.index, asIntOf, Sem.run_bind, Sem.run_pure, Result.andThen_ok, run_underlying hu, Int.natCast_nonneg, Int.ofNat_lt, hn, and_self, if_true, run_sizeOf_of hi', hs, Int.toNat_natCast, partN]
end
/-- The cells of an array of elements of some cells each. -/
def flatV {α : Type} {n : Nat} (f : α → List Value) (v : Vector α n) : List Value := v.toList.flatMap f
theorem flatV_length {α : Type} {n : Nat} (f : α → List Value) (m : Nat) (hf : ∀ x, (f x).length = m) (v : Vector α n) : (flatV f v).length = n * m := by
  rw [flatV, flat_len f m hf, Vector.length_toList]
theorem flatV_one {α : Type} {n : Nat} (f : α → List Value) (hf : ∀ x, (f x).all Value.oneCell' = true) (v : Vector α n) : (flatV f v).all Value.oneCell' = true := by
  rw [List.all_eq_true]
  intro x hx
  obtain ⟨y, _, hy⟩ := List.mem_flatMap.1 hx
  exact List.all_eq_true.1 (hf y) x hy
theorem flatV_slice {α : Type} {n : Nat} (f : α → List Value) (m : Nat) (hf : ∀ x, (f x).length = m) (v : Vector α n) (i : Nat) (hi : i < n) : ((flatV f v).drop (i * m)).take m = f v[i] := by
  have := flat_slice f m hf v.toList i (by simpa using hi)
  simpa [flatV] using this
end Go.Sx
