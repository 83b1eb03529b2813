/- Type assertions, deferred functions that recover: more rules of the small symbolic-execution layer. General. -/
import Derived.Test.YtnijomppbgdmnaaGreatSqP
set_option linter.unusedSimpArgs false
set_option linter.unusedVariables false
namespace Go.Sx
open Go.RowKit
section
variable {P : Program} {n : Fr} {w0 : World} {σ : Env} {H : List SA} {d : Option Nat} {ty : TypeId} {pos : String} {aft : Array Edge} {g : Option (Nat × Bool)}
theorem Qt_assertNil {x : Operand} {xt at_ : TypeId} {k : IntKind} {z : Value} (hx : ev σ x = .nilIface) (ht : P.underlying at_ = some (.int k)) [hz : TyZ P at_ z] :
    Qt P w0 H σ ⟨d, .typeAssert x xt at_ true, ty, pos, aft, g⟩ (.tuple #[z, .bool false]) := fun w _ => by
  have h1 := hz.ok
  simp [execOp, hx, Instr.typeAssert, run_underlying ht, run_zeroValue_of hz.ok]
theorem Qt_assertIs {x : Operand} {xt at_ : TypeId} {k : IntKind} {v : Value} (hx : ev σ x = .iface at_ v) (ht : P.underlying at_ = some (.int k)) :
    Qt P w0 H σ ⟨d, .typeAssert x xt at_ true, ty, pos, aft, g⟩ (.tuple #[v, .bool true]) := fun w _ => by
  simp [execOp, hx, Instr.typeAssert, run_underlying ht]
theorem XS_then {Q : Exit → Act → List Frame → World → Prop} {cs : List Frame} {y : Code} (h : TA P n w0 y σ H (fun e a w => Q e a cs w)) : X w0 .normal (baseR n fun e a w => Exit.thenS (y.wpS P Q) Q e a cs w) σ H := fun w hw a ha => wpS_of_wp (h a w ha hw)
theorem XS_end {m : Nat} {fn : Func} {c₀ : Frame} {cs cs' : List Frame} {u' : FrameMode} {H1 : List SA} {e : Exit} (hcs : cs' = { c₀ with mode := u' } :: cs) (he : e = .normal ∨ e = .ret) (v : Value)
    (h : X w0 .ret (retQ P ⟨m, []⟩ w0 fn (fun _ : Unit => v) (fun _ => H1)) σ H) :
    X w0 e (baseR ⟨m, []⟩ fun e a w => bodyPostS P fn c₀ cs (fun e v w' => v = u' ∧ (∃ x, e = .returned x) ∧ St w0 H1 w') e a cs' w) σ H := fun w hw => by
  obtain ⟨x, h1, h2⟩ := h w hw
  have key : ∀ a, Rep ⟨m, []⟩ a σ → bodyPostS P fn c₀ cs (fun e v w' => v = u' ∧ (∃ x, e = .returned x) ∧ St w0 H1 w') .ret a cs' w := fun a ha => ⟨ha.2.1, u', hcs, v, h1 a ha, rfl, ⟨_, rfl⟩, h2⟩
  rcases he with rfl | rfl <;> exact key
theorem caught_returning {c₀ : Frame} {cs : List Frame} (h : c₀.mode = .returning) : caught (c₀ :: cs) = (.nilIface, c₀ :: cs) := by
  unfold caught recoverD; simp only [h]
theorem caught_panicking {c₀ : Frame} {cs : List Frame} {v : Value} (h : c₀.mode = .panicking [{ v, recovered := false }]) : caught (c₀ :: cs) = (v, { c₀ with mode := .panicking [{ v, recovered := true }] } :: cs) := by
  unfold caught recoverD; simp only [h]
theorem frame_same {c₀ : Frame} {u : FrameMode} (h : c₀.mode = u) : c₀ = { c₀ with mode := u } := by cases c₀; simp at h; subst h; rfl
theorem not_out {fn : Func} {c₀ : Frame} {cs : List Frame} {u' : FrameMode} {H1 : List SA} {y : Code} {cs' : List Frame} {w0 : World} :
    ¬ LetsOut (fun e a w => Exit.thenS (y.wpS P (bodyPostS P fn c₀ cs fun e v w' => v = u' ∧ (∃ x, e = .returned x) ∧ St w0 H1 w')) (bodyPostS P fn c₀ cs fun e v w' => v = u' ∧ (∃ x, e = .returned x) ∧ St w0 H1 w') e a cs' w) := by
  rintro ⟨a, w, h⟩
  obtain ⟨u, _, ⟨x, hx⟩, _⟩ := h
  cases hx
theorem TLA_e {R : Exit → Act → World → Prop} {all : Array Oper} {rest : List Oper} {d : Nat} {op : Op} (hd : Nat.blt d n.n = true)
    (h : Ef P w0 H σ ⟨some d, op, ty, pos, aft, none⟩ (fun v H' => TLA P n w0 all rest (upd σ d v) H' R)) :
    TLA P n w0 all (⟨some d, op, ty, pos, aft, none⟩ :: rest) σ H R := fun a w ha hw =>
  wpList_step fun N hN => by
    rw [if_pos (by rfl)]
    exact h.wp ha hw (fun v H' w' hk hs => hN _ _ (hk _ w' (ha.put hd) hs))
theorem TLA_pure {R : Exit → Act → World → Prop} {all : Array Oper} {l : List Oper} {p : Prop} (h : p → TLA P n w0 all l σ H R) : TLA P n w0 all l σ (pu p :: H) R := fun a w ha hw => h hw.pure a w ha hw.tail
theorem res_cell1 {t b i u : Nat} {cs : Array Value} {fz : Nat × Nat} {v : Value} [h1 : Ty1 P t] [hm : Mem w0 H b (.cells cs u fz)] [hc : CellAt cs i v] : ∀ w, St w0 H w → (loadVar t ⟨b, i, none⟩).run P w = .ok v w := fun w hw => by
  have hcell : w.cell? ⟨b, i, none⟩ = some v := by rw [cell_of_blk (hm.get w hw)]; exact hc.ok
  exact run_loadVar_1 h1 hcell
theorem Qt_index_str {x i : Operand} {t : TypeId} {s : ByteArray} {k : IntKind} {j : Nat} (b : UInt8) (hx : ev σ x = .string s) (hi : ev σ i = .int k (j : Int)) (ht : P.underlying t = some .string) (hb : s[j]? = some b) :
    Qt P w0 H σ ⟨d, .index t x i, ty, pos, aft, g⟩ (.int .u8 (b.toNat : Int)) := fun w _ => by
  simp [execOp, hx, hi, Instr.index, asIntOf, run_underlying ht, hb]
theorem Qt_max {x y : Operand} {t t' : TypeId} {k k' : IntKind} {a b : Int} (hx : ev σ x = .int k a) (hy : ev σ y = .int k' b) :
    Qt P w0 H σ ⟨d, .call ⟨.builtin .max, #[x, y], #[t, t']⟩, ty, pos, aft, g⟩ (.int k (if b > a then b else a)) := fun w _ => by
  simp [execOp, resolve, invoke, builtin, Builtin.max_, Builtin.max2, hx, hy]
end
/-! ## Drawn regions of which each order is walked -/
section
variable {P : Program} {n : Fr} {w0 : World} {σ : Env} {H : List SA} {Q : Post} {S : List SA} {ops : Array Oper} {fuel i j d : Nat} {listed : Array Bool} {op : Op} {ty : TypeId} {pos : String} {aft : Array Edge}
def DLF (P : Program) (n : Fr) (w0 : World) (S : List SA) (ops : Array Oper) (fuel : Nat) (listed : Array Bool) (σ : Env) (H : List SA) (Q : Post) : Prop :=
  ∀ a w, Rep n a σ → St w0 H w → St w0 S w → wpAnyH P .any ops (lift n Q) (St w0 S) fuel listed a w
def DLS (P : Program) (n : Fr) (w0 : World) (S : List SA) (ops : Array Oper) (fuel : Nat) (listed : Array Bool) (i : Nat) (σ : Env) (H : List SA) (Q : Post) : Prop :=
  ∀ a w, Rep n a σ → St w0 H w → St w0 S w → wpOp P ops (lift n Q) i (fun a' w' => St w0 S w' ∧ wpAnyH P .any ops (lift n Q) (St w0 S) fuel (listed.setIfInBounds i true) a' w') a w
theorem T_drawF {id : Nat} {l : List Oper} (S : List SA) (hm : P.follows .mixedOrders = true) (hS : ∀ w, St w0 H w → St w0 S w) (h : DLF P n w0 S l.toArray l.length (Array.replicate l.length false) σ H Q) : T P n w0 (.region id l.toArray true) σ H Q := fun a w ha hw => by
  have hw' := hw.drew
  refine wp_region_held (S := St w0 S) hm ?_
  have := h a _ ha hw' (hS _ hw')
  simpa using this
theorem DLF_nil (hr : (Region.ready .any ops listed).isEmpty = true) (h : X w0 .normal Q σ H) : DLF P n w0 S ops fuel listed σ H Q := fun a w ha hw _ =>
  wpAnyH_done (by simpa using hr) ⟨σ, ha, h w hw⟩ _
theorem DLF_pure {p : Prop} (h : p → DLF P n w0 S ops fuel listed σ H Q) : DLF P n w0 S ops fuel listed σ (pu p :: H) Q := fun a w ha hw hS => h hw.pure a w ha hw.tail hS
theorem DLF_1 (hr : (Region.ready .any ops listed == [i]) = true) (h : DLS P n w0 S ops fuel listed i σ H Q) : DLF P n w0 S ops (fuel + 1) listed σ H Q := fun a w ha hw hS =>
  wpAnyH_all (eq_of_beq hr) (by simp) fun k hk => by
    obtain rfl : k = i := by simpa using hk
    exact h a w ha hw hS
theorem DLF_2 (hr : (Region.ready .any ops listed == [i, j]) = true) (h : DLS P n w0 S ops fuel listed i σ H Q) (h' : DLS P n w0 S ops fuel listed j σ H Q) : DLF P n w0 S ops (fuel + 1) listed σ H Q := fun a w ha hw hS =>
  wpAnyH_all (eq_of_beq hr) (by simp) fun k hk => by
    rcases List.mem_cons.1 hk with rfl | hk
    · exact h a w ha hw hS
    · obtain rfl : k = j := by simpa using hk
      exact h' a w ha hw hS
theorem DLS_e (hi : ops[i]? = some ⟨some d, op, ty, pos, aft, none⟩) (hd : Nat.blt d n.n = true)
    (h : Ef P w0 H σ ⟨some d, op, ty, pos, aft, none⟩ (fun v H' => (∀ w, St w0 H' w → St w0 S w) ∧ DLF P n w0 S ops fuel (listed.setIfInBounds i true) (upd σ d v) H' Q)) : DLS P n w0 S ops fuel listed i σ H Q := fun a w ha hw hS => by
  unfold wpOp
  simp only [hi, Region.wanted, if_true]
  exact .inl (h.wp ha hw (fun v H' w' ⟨h1, h2⟩ hs => ⟨h1 _ hs, h2 _ _ (ha.put hd) hs (h1 _ hs)⟩))
theorem DLS_n (hi : ops[i]? = some ⟨none, op, ty, pos, aft, none⟩)
    (h : Ef P w0 H σ ⟨none, op, ty, pos, aft, none⟩ (fun _ H' => (∀ w, St w0 H' w → St w0 S w) ∧ DLF P n w0 S ops fuel (listed.setIfInBounds i true) σ H' Q)) : DLS P n w0 S ops fuel listed i σ H Q := fun a w ha hw hS => by
  unfold wpOp
  simp only [hi, Region.wanted, if_true]
  exact .inl (h.wp ha hw (fun v H' w' ⟨h1, h2⟩ hs => ⟨h1 _ hs, h2 _ _ ha hs (h1 _ hs)⟩))
theorem DLF_q {v : Value} (hns : Region.noSelect ops = true) (hi : ops[i]? = some ⟨some d, op, ty, pos, aft, none⟩) (hf : Region.free .any ops listed i = true) (hr : (Region.ready .any ops listed).contains i = true)
    (hq : Qt P w0 S σ ⟨some d, op, ty, pos, aft, none⟩ v) (hd : Nat.blt d n.n = true) (h : DLF P n w0 S ops fuel (listed.setIfInBounds i true) (upd σ d v) H Q) : DLF P n w0 S ops (fuel + 1) listed σ H Q := fun a w ha hw hS => by
  refine wpAnyH_take hi hns hf hr ?_ (.inl ⟨rfl, fun w hw => by rw [ha.eval]; exact hq w hw⟩) hS (h _ _ (ha.put hd) hw hS)
  intro c a' w' hq
  refine ⟨?_, hq.2⟩
  have := hq.1
  simpa only [Act.put] using this
end
end Go.Sx
