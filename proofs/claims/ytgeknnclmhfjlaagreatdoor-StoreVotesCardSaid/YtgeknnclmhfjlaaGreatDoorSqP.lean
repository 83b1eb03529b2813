/- Append of zeros, a slice as an array, frames with a deferred function, recover: more rules of the small symbolic-execution layer. General. -/
import Derived.Test.YtgeknnclmhfjlaaGreatDoorSpP
import Derived.Lib.AppendZerosOnto
set_option linter.unusedSimpArgs false
set_option linter.unusedVariables false
namespace Go.Sx
open Go.RowKit
section
variable {P : Program} {n : Fr} {w0 : World} {σ : Env} {H : List SA} {Q : Post} {d : Option Nat} {ty : TypeId} {pos : String} {aft : Array Edge} {g : Option (Nat × Bool)} {K : Value → List SA → Prop}
theorem Qt_cap_slice {x : Operand} {t e : TypeId} {a : Option Addr} {n c : Nat} (hx : ev σ x = .slice a n c) (ht : P.underlying t = some (.slice e)) :
    Qt P w0 H σ ⟨d, .call ⟨.builtin .cap, #[x], #[t]⟩, ty, pos, aft, g⟩ (.int .i64 c) := fun w _ => by
  simp [execOp, resolve, invoke, builtin, Builtin.cap_, hx, run_underlying ht, goInt]
/-- append(nil, make([]T, m)...), of which only the room is kept. -/
theorem Ef_appendMake {s x : Operand} {t tn e sz bytes m : Nat} {kq kn : IntKind} (hs : ev σ s = .slice none 0 0) (hx : ev σ x = .int kq (m : Int)) [ht : TySl P t e sz bytes] (htn : P.underlying tn = some (.int kn)) (h0 : 0 < m) (hm : m ≤ 4294967296) (hby : Nat.ble bytes 32768 = true)
    (h : ∀ a c, K (.slice a m c) (row (.slice a 0 c) e sz [] :: H)) : Ef P w0 H σ ⟨d, .call ⟨.builtin .append, #[s, x], #[t, tn]⟩, ty, pos, aft, g⟩ K := fun w hw => by
  obtain ⟨i, z, hi, hz, hsz, hby', hzs⟩ := ht.spec
  have hby2 := Nat.le_of_ble_eq_true hby
  have hpos := ht.pos
  subst hsz
  subst hby'
  have hmb : m * i.bytes ≤ 140737488355328 := Nat.le_trans (Nat.mul_le_mul hm hby2) (by decide)
  have hnx : Builtin.nextslicecap (0 + m) 0 = m := by simp [Builtin.nextslicecap, h0]
  have hrun := Go.Lib.run_append_grow_zeros (P := P) w t tn ty e i z kq kn ht.ht htn hi hz none 0 0 [] (by simp [Builtin.firstCells]) m h0 hpos (by omega) (by simp; omega) (by omega) (by rw [hnx]; omega)
  have : (execOp (ev σ) ⟨d, .call ⟨.builtin .append, #[s, x], #[t, tn]⟩, ty, pos, aft, g⟩).run P w = .ok (.value (.slice (some ⟨w.heap.size, 0, none⟩) m (grownCap w m 0 e))) (w.drew.alloc (.cells (Builtin.zeroCells z.cells m ++ Builtin.zeroCells z.cells (grownCap w m 0 e - m)) e)) := by
    have hrun' : (Builtin.append_ #[t, tn] ty #[.slice none 0 0, .int kq (m : Int)]).run P w = _ := hrun
    simp only [execOp, resolve, invoke, builtin, hs, hx, List.map_toArray, List.map_cons, List.map_nil, Sem.run_bind, Sem.run_pure, Result.andThen_ok, hrun', Nat.zero_add, Array.append_assoc]
    simp
  rw [this]
  refine ⟨_, h _ _, ?_⟩
  have hge := grownCap_ge w m 0 e
  have hcm : grownCap w m 0 e ≤ maxLen := grownCap_le_maxLen w m 0 e (by unfold maxLen; omega)
  have hc0 : grownCap w m 0 e ≠ 0 := by omega
  refine St.fresh hw rfl rfl rfl (by simp) (fun k hk => heap_alloc_old w.drew _ hk) ?_ ?_ ?_
  · refine ⟨_, _, _, rfl, by simp, Nat.zero_le _, hcm, by simp, fun _ => ⟨_, _, rfl, heap_alloc_new w.drew _, ?_, by simp⟩⟩
    simp only [Array.size_append, size_zeroCells, hzs, ← Nat.add_mul]
    congr 1
    omega
  · simp [row, rowFp, hc0]
  · simp [row, rowFp, hc0]
end
/-! ## Frames with a deferred function -/
section
variable {P : Program} {n : Fr} {w0 : World} {σ : Env} {H : List SA} {R : Exit → Act → World → Prop}
end
/-! ## recover -/
section
variable {P : Program} {n : Fr} {w0 : World} {σ : Env} {H : List SA} {Q : Exit → Act → List Frame → World → Prop}
end
section
variable {P : Program} {m : Nat} {w0 : World} {σ : Env} {H H1 : List SA} {fn : Func} {α : Type} {val : α → Value} {H' : α → List SA}
end
end Go.Sx
