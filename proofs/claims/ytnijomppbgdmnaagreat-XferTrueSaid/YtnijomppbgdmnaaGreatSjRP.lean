/- Stores of many cells into rows of our own, the clearing of a row's end, rows cut short. General. -/
import Derived.Test.YtnijomppbgdmnaaGreatSgP
import Derived.Test.YtnijomppbgdmnaaGreatSdP
import Derived.Test.YtnijomppbgdmnaaGreatSwP
set_option linter.unusedSimpArgs false
set_option linter.unusedVariables false
namespace Go.Sx
open Go.RowKit
theorem St.rowCut {w0 w : World} {H : List SA} {av : Option Addr} {n c k e sz : Nat} {ys zs : List Value} (h : St w0 (row (.slice av n c) e sz (ys ++ zs) :: H) w) (hk : ys.length = k * sz) (hkn : k ≤ n) : St w0 (row (.slice av k c) e sz ys :: H) w := by
 refine h.turn (by show rowFp _ = rowFp _; cases av <;> rfl) fun hp => ?_
 obtain ⟨a', n', c', hv, hl, hn, hc, han, hcur⟩ := hp
 obtain ⟨rfl, rfl, rfl⟩ : a' = av ∧ n' = n ∧ c' = c := by simp at hv; exact ⟨hv.1.symm, hv.2.1.symm, hv.2.2.symm⟩
 refine ⟨a', k, c', rfl, hk, by omega, hc, han, fun h0 => ?_⟩
 obtain ⟨gb, cur, hg, hgw, hcs, htk⟩ := hcur h0
 refine ⟨gb, cur, hg, hgw, hcs, ?_⟩
 have hle : k * sz ≤ n' * sz := Nat.mul_le_mul_right _ hkn
 have := congrArg (List.take (k * sz)) htk
 rw [List.take_take, Nat.min_eq_left hle, List.take_left' hk] at this
 exact this
section
variable {P : Program} {w0 : World} {σ : Env} {H Hr : List SA} {d : Option Nat} {ty : TypeId} {pos : String} {aft : Array Edge} {g : Option (Nat × Bool)} {K : Value → List SA → Prop}
end
end Go.Sx
