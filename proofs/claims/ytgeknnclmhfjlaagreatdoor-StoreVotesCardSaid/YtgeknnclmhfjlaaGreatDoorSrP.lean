/- Type assertions, deferred functions that recover: more rules of the small symbolic-execution layer. General. -/
import Derived.Test.YtgeknnclmhfjlaaGreatDoorSqP
set_option linter.unusedSimpArgs false
set_option linter.unusedVariables false
namespace Go.Sx
open Go.RowKit
section
variable {P : Program} {n : Fr} {w0 : World} {σ : Env} {H : List SA} {d : Option Nat} {ty : TypeId} {pos : String} {aft : Array Edge} {g : Option (Nat × Bool)}
theorem Qt_index_str {x i : Operand} {t : TypeId} {s : ByteArray} {k : IntKind} {j : Nat} (b : UInt8) (hx : ev σ x = .string s) (hi : ev σ i = .int k (j : Int)) (ht : P.underlying t = some .string) (hb : s[j]? = some b) :
    Qt P w0 H σ ⟨d, .index t x i, ty, pos, aft, g⟩ (.int .u8 (b.toNat : Int)) := fun w _ => by
  simp [execOp, hx, hi, Instr.index, asIntOf, run_underlying ht, hb]
theorem Qt_max {x y : Operand} {t t' : TypeId} {k k' : IntKind} {a b : Int} (hx : ev σ x = .int k a) (hy : ev σ y = .int k' b) :
    Qt P w0 H σ ⟨d, .call ⟨.builtin .max, #[x, y], #[t, t']⟩, ty, pos, aft, g⟩ (.int k (if b > a then b else a)) := fun w _ => by
  simp [execOp, resolve, invoke, builtin, Builtin.max_, Builtin.max2, hx, hy]
theorem Qt_min {x y : Operand} {t t' : TypeId} {k k' : IntKind} {a b : Int} (hx : ev σ x = .int k a) (hy : ev σ y = .int k' b) :
    Qt P w0 H σ ⟨d, .call ⟨.builtin .min, #[x, y], #[t, t']⟩, ty, pos, aft, g⟩ (.int k (if b < a then b else a)) := fun w _ => by
  simp [execOp, resolve, invoke, builtin, Builtin.min_, Builtin.min2, hx, hy]
end
/-! ## Drawn regions of which each order is walked -/
section
variable {P : Program} {n : Fr} {w0 : World} {σ : Env} {H : List SA} {Q : Post} {S : List SA} {ops : Array Oper} {fuel i j d : Nat} {listed : Array Bool} {op : Op} {ty : TypeId} {pos : String} {aft : Array Edge}
def DLF (P : Program) (n : Fr) (w0 : World) (S : List SA) (ops : Array Oper) (fuel : Nat) (listed : Array Bool) (σ : Env) (H : List SA) (Q : Post) : Prop :=
  ∀ a w, Rep n a σ → St w0 H w → St w0 S w → wpAnyH P .any ops (lift n Q) (St w0 S) fuel listed a w
def DLS (P : Program) (n : Fr) (w0 : World) (S : List SA) (ops : Array Oper) (fuel : Nat) (listed : Array Bool) (i : Nat) (σ : Env) (H : List SA) (Q : Post) : Prop :=
  ∀ a w, Rep n a σ → St w0 H w → St w0 S w → wpOp P ops (lift n Q) i (fun a' w' => St w0 S w' ∧ wpAnyH P .any ops (lift n Q) (St w0 S) fuel (listed.setIfInBounds i true) a' w') a w
theorem T_drawF {id : Nat} {l : List Oper} (S : List SA) (hm : P.follows .mixedOrders = true) (hS : ∀ w, St w0 H w → St w0 S w) (h : DLF P n w0 S l.toArray l.length (Array.replicate l.length false) σ H Q) : T P n w0 (.region id l.toArray true) σ H Q := fun a w ha hw => by
  have hw' := hw.drew
  refine wp_region_held (S := St w0 S) hm ?_
  have := h a _ ha hw' (hS _ hw')
  simpa using this
theorem DLF_nil (hr : (Region.ready .any ops listed).isEmpty = true) (h : X w0 .normal Q σ H) : DLF P n w0 S ops fuel listed σ H Q := fun a w ha hw _ =>
  wpAnyH_done (by simpa using hr) ⟨σ, ha, h w hw⟩ _
theorem DLF_pure {p : Prop} (h : p → DLF P n w0 S ops fuel listed σ H Q) : DLF P n w0 S ops fuel listed σ (pu p :: H) Q := fun a w ha hw hS => h hw.pure a w ha hw.tail hS
theorem DLF_1 (hr : (Region.ready .any ops listed == [i]) = true) (h : DLS P n w0 S ops fuel listed i σ H Q) : DLF P n w0 S ops (fuel + 1) listed σ H Q := fun a w ha hw hS =>
  wpAnyH_all (eq_of_beq hr) (by simp) fun k hk => by
    obtain rfl : k = i := by simpa using hk
    exact h a w ha hw hS
theorem DLF_2 (hr : (Region.ready .any ops listed == [i, j]) = true) (h : DLS P n w0 S ops fuel listed i σ H Q) (h' : DLS P n w0 S ops fuel listed j σ H Q) : DLF P n w0 S ops (fuel + 1) listed σ H Q := fun a w ha hw hS =>
  wpAnyH_all (eq_of_beq hr) (by simp) fun k hk => by
    rcases List.mem_cons.1 hk with rfl | hk
    · exact h a w ha hw hS
    · obtain rfl : k = j := by simpa using hk
      exact h' a w ha hw hS
theorem DLS_e (hi : ops[i]? = some ⟨some d, op, ty, pos, aft, none⟩) (hd : Nat.blt d n.n = true)
    (h : Ef P w0 H σ ⟨some d, op, ty, pos, aft, none⟩ (fun v H' => (∀ w, St w0 H' w → St w0 S w) ∧ DLF P n w0 S ops fuel (listed.setIfInBounds i true) (upd σ d v) H' Q)) : DLS P n w0 S ops fuel listed i σ H Q := fun a w ha hw hS => by
  unfold wpOp
  simp only [hi, Region.wanted, if_true]
  exact .inl (h.wp ha hw (fun v H' w' ⟨h1, h2⟩ hs => ⟨h1 _ hs, h2 _ _ (ha.put hd) hs (h1 _ hs)⟩))
theorem DLS_n (hi : ops[i]? = some ⟨none, op, ty, pos, aft, none⟩)
    (h : Ef P w0 H σ ⟨none, op, ty, pos, aft, none⟩ (fun _ H' => (∀ w, St w0 H' w → St w0 S w) ∧ DLF P n w0 S ops fuel (listed.setIfInBounds i true) σ H' Q)) : DLS P n w0 S ops fuel listed i σ H Q := fun a w ha hw hS => by
  unfold wpOp
  simp only [hi, Region.wanted, if_true]
  exact .inl (h.wp ha hw (fun v H' w' ⟨h1, h2⟩ hs => ⟨h1 _ hs, h2 _ _ ha hs (h1 _ hs)⟩))
theorem DLF_q {v : Value} (hns : Region.noSelect ops = true) (hi : ops[i]? = some ⟨some d, op, ty, pos, aft, none⟩) (hf : Region.free .any ops listed i = true) (hr : (Region.ready .any ops listed).contains i = true)
    (hq : Qt P w0 S σ ⟨some d, op, ty, pos, aft, none⟩ v) (hd : Nat.blt d n.n = true) (h : DLF P n w0 S ops fuel (listed.setIfInBounds i true) (upd σ d v) H Q) : DLF P n w0 S ops (fuel + 1) listed σ H Q := fun a w ha hw hS => by
  refine wpAnyH_take hi hns hf hr ?_ (.inl ⟨rfl, fun w hw => by rw [ha.eval]; exact hq w hw⟩) hS (h _ _ (ha.put hd) hw hS)
  intro c a' w' hq
  refine ⟨?_, hq.2⟩
  have := hq.1
  simpa only [Act.put] using this
end
end Go.Sx
