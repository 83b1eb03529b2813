/- The operations of the small symbolic-execution layer: what each yields, and what it makes of the memory that stands. General theorems; no program. -/
import Derived.Test.YtgeknnclmhfjlaaGreatDoorSxP
import Derived.Laws.StructEq
import Derived.ChangeKeysEq
set_option linter.unusedSimpArgs false
set_option linter.unusedVariables false
namespace Go.Sx
open Go.RowKit

/-! ## Facts on types, as Bools that the kernel reckons -/
def aggD : TypeDesc → Bool
  | .struct _ | .array _ _ => true
  | _ => false
def ty1B (P : Program) (t : TypeId) : Bool := match P.underlying t, P.info? t with
  | some d, some i => !aggD d && i.size == 1
  | _, _ => false
def tyNB (P : Program) (t : TypeId) (n : Nat) : Bool := match P.underlying t, P.info? t with
  | some d, some i => aggD d && i.size == n
  | _, _ => false
def fieldB (P : Program) (s : TypeId) (f off : Nat) : Bool := match P.underlying s with
  | some (.struct fs) => match fs[f]? with
    | some fd => fd.offset == off && (match P.info? fd.type with | some i => i.size != 0 | none => false)
    | none => false
  | _ => false
/-- A type of one cell. -/
class Ty1 (P : Program) (t : TypeId) : Prop where ok : ty1B P t = true
/-- A struct or an array of n cells. -/
class TyN (P : Program) (t : TypeId) (n : outParam Nat) : Prop where ok : tyNB P t n = true
class TyZ (P : Program) (t : TypeId) (z : outParam Value) : Prop where ok : (P.info? t).bind (·.zero) = some z
class TyF (P : Program) (s : TypeId) (f : Nat) (off : outParam Nat) : Prop where ok : fieldB P s f off = true
class FnOk (P : Program) (f : FuncId) : Prop where ok : (match P.funcs[f]? with | some fn => !(fn.name == "runtime.NumGoroutine") && fn.body.isSome | none => false) = true

theorem Ty1.spec {P : Program} {t : TypeId} (h : Ty1 P t) : ∃ d i, P.underlying t = some d ∧ aggD d = false ∧ P.info? t = some i ∧ i.size = 1 := by
  have := h.ok
  unfold ty1B at this
  split at this
  · rename_i d i h1 h2
    simp only [Bool.and_eq_true, Bool.not_eq_true', beq_iff_eq] at this
    exact ⟨d, i, h1, this.1, h2, this.2⟩
  · cases this
theorem TyN.spec {P : Program} {t : TypeId} {n : Nat} (h : TyN P t n) : ∃ d i, P.underlying t = some d ∧ aggD d = true ∧ P.info? t = some i ∧ i.size = n := by
  have := h.ok
  unfold tyNB at this
  split at this
  · rename_i d i h1 h2
    simp only [Bool.and_eq_true, beq_iff_eq] at this
    exact ⟨d, i, h1, this.1, h2, this.2⟩
  · cases this
section
variable {P : Program} {t : TypeId}
theorem run_isAgg_of {d : TypeDesc} (h : P.underlying t = some d) (w : World) : (isAgg t).run P w = .ok (aggD d) w := by
  unfold isAgg
  simp only [Sem.run_bind, run_underlying h, Result.andThen_ok]
  cases d <;> rfl
theorem run_sizeOf_of {i : TypeInfo} (h : P.info? t = some i) (w : World) : (sizeOf t).run P w = .ok i.size w := by
  simp [sizeOf, typeInfo, h]
theorem run_zeroValue_of {z : Value} (h : (P.info? t).bind (·.zero) = some z) (w : World) : (zeroValue t).run P w = .ok z w := by
  cases hi : P.info? t with
  | none => simp [hi] at h
  | some i => simp [hi] at h; simp [zeroValue, typeInfo, hi, h]
end

/-! ## Memory at hand -/
/-- Block b is known to hold o, wherever H stands. -/
class Mem (w0 : World) (H : List SA) (b : Nat) (o : outParam Obj) : Prop where get : ∀ w, St w0 H w → w.heap[b]? = some o
instance Mem.tail {w0 : World} {H : List SA} {x : SA} {b : Nat} {o : Obj} [h : Mem w0 H b o] : Mem w0 (x :: H) b o := ⟨fun w hw => h.get w hw.tail⟩
instance Mem.head {w0 : World} {H : List SA} {b : Nat} {o : Obj} : Mem w0 (blk b o :: H) b o := ⟨fun w hw => hw.holds (blk b o) (by simp)⟩
theorem Mem.base {w0 : World} {H : List SA} {b : Nat} {o : Obj} (h : w0.heap[b]? = some o) : Mem w0 H b o :=
  ⟨fun w hw => (hw.below.block b (Array.getElem?_eq_some_iff.1 h).1).trans h⟩

/-- Block b is our own and holds o; Hr is the rest. -/
class Pick (b : Nat) (H : List SA) (o : outParam Obj) (Hr : outParam (List SA)) : Prop where sub : SubP (blk b o :: Hr) H
theorem SubP.refl (H : List SA) : SubP H H := ⟨H, List.Perm.refl _, List.Sublist.refl _⟩
theorem SubP.nil (H : List SA) : SubP [] H := ⟨[], List.Perm.refl _, List.nil_sublist _⟩
theorem SubP.swap2 {x y : SA} {H Hr : List SA} (h : SubP (x :: Hr) H) : SubP (x :: y :: Hr) (y :: H) := by
  obtain ⟨l, hp, hs⟩ := h
  exact ⟨y :: l, ((hp.cons y).trans (List.Perm.swap x y Hr)), hs.cons_cons y⟩
theorem SubP.cons {x : SA} {H Hr H' : List SA} (h : SubP (x :: Hr) H) (h' : SubP H' Hr) : SubP (x :: H') H := by
  obtain ⟨l, hp, hs⟩ := h
  obtain ⟨l', hp', hs'⟩ := h'
  -- x :: l' is a sublist of x :: Hr, which is a permutation of l
  have h1 : List.Sublist (x :: l') (x :: Hr) := hs'.cons_cons x
  obtain ⟨m, hm1, hm2⟩ : ∃ m, List.Perm m (x :: l') ∧ List.Sublist m l := by
    have := List.exists_perm_sublist h1 hp.symm
    exact this
  exact ⟨m, hm1.trans (hp'.cons x), hm2.trans hs⟩
theorem SubP.skip {x : SA} {H H' : List SA} (h : SubP H' H) : SubP H' (x :: H) := by
  obtain ⟨l, hp, hs⟩ := h
  exact ⟨l, hp, hs.cons x⟩
theorem SubP.trans {A B C : List SA} (h : SubP A B) (h' : SubP B C) : SubP A C := by
  obtain ⟨l, hp, hs⟩ := h
  obtain ⟨l', hp', hs'⟩ := h'
  obtain ⟨m, h2, h3⟩ := List.exists_perm_sublist hs hp'.symm
  exact ⟨m, h2.trans hp, h3.trans hs'⟩
instance Pick.tail {b : Nat} {H Hr : List SA} {x : SA} {o : Obj} [h : Pick b H o Hr] : Pick b (x :: H) o (x :: Hr) := ⟨h.sub.swap2⟩
instance Pick.head {b : Nat} {H : List SA} {o : Obj} : Pick b (blk b o :: H) o H := ⟨.refl _⟩

/-- The assertion x stands in H; Hr is the rest. -/
class PickA (x : SA) (H : List SA) (Hr : outParam (List SA)) : Prop where sub : SubP (x :: Hr) H
instance PickA.tail {x y : SA} {H Hr : List SA} [h : PickA x H Hr] : PickA x (y :: H) (y :: Hr) := ⟨h.sub.swap2⟩
instance PickA.head {x : SA} {H : List SA} : PickA x (x :: H) H := ⟨.refl _⟩
/-- H' is some of H, in whatever order. -/
class Subs (H' H : List SA) : Prop where sub : SubP H' H
instance Subs.nil {H : List SA} : Subs [] H := ⟨.nil H⟩
instance Subs.cons {x : SA} {H Hr H' : List SA} [h : PickA x H Hr] [h' : Subs H' Hr] : Subs (x :: H') H := ⟨h.sub.cons h'.sub⟩
instance Subs.skip {x : SA} {H H' : List SA} [h : Subs H' H] : Subs H' (x :: H) := ⟨h.sub.skip⟩
instance (priority := high) Subs.rfl {H : List SA} : Subs H H := ⟨.refl H⟩
theorem Subs.st {w0 : World} {H H' : List SA} (h : Subs H' H) : ∀ w, St w0 H w → St w0 H' w := fun _ hw => hw.sub h.sub

/-! ## Cells of a block -/
class CellAt (cs : Array Value) (i : Nat) (v : outParam Value) : Prop where ok : cs[i]? = some v
class SubAt (cs : Array Value) (off n : Nat) (sub : outParam (Array Value)) : Prop where ok : cs.extract off (off + n) = sub
/-- cs with v's cells laid at 'off'. -/
def putCells (cs : Array Value) (off : Nat) (v : Value) : Array Value := v.cells.zipIdx.foldl (fun cs (c, j) => cs.setIfInBounds (off + j) c) cs
class Put (cs : Array Value) (off : Nat) (v : Value) (cs' : outParam (Array Value)) : Prop where
  ok : putCells cs off v = cs'
  room : off + v.cells.size ≤ cs.size
class ListAt (l : List Value) (i : Nat) (v : outParam Value) : Prop where ok : l[i]? = some v
instance {x : Value} {l : List Value} : ListAt (x :: l) 0 x := ⟨rfl⟩
instance {x v : Value} {l : List Value} {i : Nat} [h : ListAt l i v] : ListAt (x :: l) (i + 1) v := ⟨by simpa using h.ok⟩
instance (priority := low) {l : List Value} {i : Nat} {v : Value} [h : ListAt l i v] : CellAt l.toArray i v := ⟨by simpa using h.ok⟩
class ListSet (l : List Value) (i : Nat) (v : Value) (l' : outParam (List Value)) : Prop where
  ok : l.set i v = l'
  lt : i < l.length
instance {x v : Value} {l : List Value} : ListSet (x :: l) 0 v (v :: l) := ⟨rfl, by simp⟩
theorem cells_one {v : Value} (h : v.oneCell' = true) : v.cells = #[v] := by cases v <;> simp_all [Value.cells, Value.oneCell']
theorem putCells_one {cs : Array Value} {off : Nat} {v : Value} (h : v.oneCell' = true) : putCells cs off v = cs.setIfInBounds off v := by
  simp [putCells, cells_one h]
/-- A value of one cell (known by its form). -/
class One (v : Value) : Prop where ok : v.oneCell' = true
instance {b : Bool} : One (.bool b) := ⟨rfl⟩
instance {k : IntKind} {i : Int} : One (.int k i) := ⟨rfl⟩
instance {s : ByteArray} : One (.string s) := ⟨rfl⟩
instance {p : Option Addr} : One (.pointer p) := ⟨rfl⟩
instance {p : Option Addr} {n c : Nat} : One (.slice p n c) := ⟨rfl⟩
instance {p : Option Nat} : One (.map p) := ⟨rfl⟩
instance (priority := low) {l l' : List Value} {i : Nat} {v : Value} [o : One v] [h : ListSet l i v l'] : Put l.toArray i v l'.toArray :=
  ⟨by rw [putCells_one o.ok]; simp [h.ok], by have := h.lt; simp [cells_one o.ok]; omega⟩

/-- How many cells, each of one cell. -/
class Cells (cs : Array Value) (n : outParam Nat) : Prop where
  size : cs.size = n
  one : ∀ u ∈ cs.toList, u.oneCell' = true
section
variable {P : Program} {w0 : World} {σ : Env} {H : List SA} {d : Option Nat} {ty : TypeId} {pos : String} {aft : Array Edge} {g : Option (Nat × Bool)}

theorem Qt_move {x : Operand} (v : Value) (h : ev σ x = v) : Qt P w0 H σ ⟨d, .move x, ty, pos, aft, g⟩ v := fun w _ => by rw [← h]; rfl
theorem Qt_assign {x : Operand} (v : Value) (h : ev σ x = v) : Qt P w0 H σ ⟨d, .assign x, ty, pos, aft, g⟩ v := fun w _ => by rw [← h]; rfl
theorem Qt_pick_t {c x y : Operand} {b : Bool} (v : Value) (hc : ev σ c = .bool b) (hb : b = true) (h : ev σ x = v) : Qt P w0 H σ ⟨d, .pick c x y, ty, pos, aft, g⟩ v := fun w _ => by
  simp [execOp, hc, hb, asBool, h]
theorem Qt_pick_f {c x y : Operand} {b : Bool} (v : Value) (hc : ev σ c = .bool b) (hb : b = false) (h : ev σ y = v) : Qt P w0 H σ ⟨d, .pick c x y, ty, pos, aft, g⟩ v := fun w _ => by
  simp [execOp, hc, hb, asBool, h]
theorem Qt_nilCheck {x : Operand} {a : Addr} (h : ev σ x = .pointer (some a)) : Qt P w0 H σ ⟨d, .nilCheck x, ty, pos, aft, g⟩ (.pointer (some a)) := fun w _ => by
  simp [execOp, h]
theorem Qt_fieldAddr {x : Operand} {b o off s f : Nat} (off' : Nat) (h : ev σ x = .pointer (some ⟨b, o, none⟩)) [hf : TyF P s f off] (ho : o + off = off') :
    Qt P w0 H σ ⟨d, .fieldAddr s x f, ty, pos, aft, g⟩ (.pointer (some ⟨b, off', none⟩)) := fun w _ => by
  have hb := hf.ok
  unfold fieldB at hb
  split at hb
  · rename_i fs hs
    split at hb
    · rename_i fd hfd
      simp only [Bool.and_eq_true, beq_iff_eq] at hb
      obtain ⟨h1, h2⟩ := hb
      split at h2
      · rename_i i hi
        simp only [bne_iff_ne, ne_eq] at h2
        subst h1
        subst ho
        simp only [execOp, h, Instr.fieldAt, Sem.run_bind, run_underlying hs, Result.andThen_ok, hfd, Instr.sureAddr, Sem.run_pure, fieldPlace, run_sizeOf_of hi, h2, if_false]
        simp only [Addr.add]
        split <;> simp_all
      · cases h2
    · cases hb
  · cases hb
/-- A field of a struct value. -/
theorem Qt_field1 {x : Operand} {cs : Array Value} {s f off : Nat} {v : Value} {ft : TypeId} (h : ev σ x = .agg cs) [hf : TyF P s f off] (hft : (match P.underlying s with | some (.struct fs) => (fs[f]?).map (·.type) | _ => none) = some ft)
    [h1 : Ty1 P ft] [hc : CellAt cs off v] : Qt P w0 H σ ⟨d, .field s x f, ty, pos, aft, g⟩ v := fun w _ => by
  have hb := hf.ok
  unfold fieldB at hb
  split at hb
  · rename_i fs hs
    split at hb
    · rename_i fd hfd
      simp only [Bool.and_eq_true, beq_iff_eq] at hb
      obtain ⟨e1, -⟩ := hb
      simp only [hs, hfd, Option.map_some, Option.some.injEq] at hft
      obtain ⟨dd, i, hd1, hd2, -⟩ := h1.spec
      subst e1
      subst hft
      simp only [execOp, h, Instr.field, Sem.run_bind, run_underlying hs, Result.andThen_ok, hfd, asAgg, Sem.run_pure, part, run_isAgg_of hd1, hd2, Bool.false_eq_true, if_false, hc.ok]
    · cases hb
  · cases hb

theorem cell_of_blk {w : World} {b i : Nat} {cs : Array Value} {t : TypeId} {fz : Nat × Nat} (h : w.heap[b]? = some (.cells cs t fz)) : w.cell? ⟨b, i, none⟩ = cs[i]? := by
  simp [World.cell?, h]
theorem add_block (b o i : Nat) : (⟨b, o, none⟩ : Addr).add i = ⟨b, o + i, none⟩ := by unfold Addr.add; split <;> simp_all
theorem extract_toList (cs : Array Value) (o n : Nat) : (cs.extract o (o + n)).toList = (cs.toList.drop o).take n := by
  simp [List.extract]

theorem run_loadVar_1 {w : World} {b i : Nat} {t : TypeId} {v : Value} (h1 : Ty1 P t) (h : w.cell? ⟨b, i, none⟩ = some v) : (loadVar t ⟨b, i, none⟩).run P w = .ok v w := by
  obtain ⟨dd, ii, hd1, hd2, -⟩ := h1.spec
  simp only [loadVar, Sem.run_bind, run_isAgg_of hd1, hd2, Result.andThen_ok, Bool.false_eq_true, if_false, run_load, h]
theorem run_loadVar_N {w : World} {b o n : Nat} {t u : TypeId} {cs : Array Value} {fz : Nat × Nat} (h1 : TyN P t n) (h : w.heap[b]? = some (.cells cs u fz)) (hn : o + n ≤ cs.size) :
    (loadVar t ⟨b, o, none⟩).run P w = .ok (.agg (cs.extract o (o + n))) w := by
  obtain ⟨dd, ii, hd1, hd2, hi, hs⟩ := h1.spec
  have hl := run_loadCells_list (P := P) (w := w) ⟨b, o, none⟩ (cs.extract o (o + n)).toList (fun j v hj => by
    rw [add_block, cell_of_blk h]
    rw [extract_toList, List.getElem?_take] at hj
    split at hj
    · simpa using hj
    · cases hj)
  have hlen : (cs.extract o (o + n)).toList.length = n := by simp; omega
  rw [hlen] at hl
  simp only [loadVar, Sem.run_bind, run_isAgg_of hd1, hd2, Result.andThen_ok, if_true, run_sizeOf_of hi, hs, hl, Sem.run_pure]

theorem Qt_load1 {x : Operand} {t b i u : Nat} {cs : Array Value} {fz : Nat × Nat} {v : Value} (h : ev σ x = .pointer (some ⟨b, i, none⟩)) [h1 : Ty1 P t] [hm : Mem w0 H b (.cells cs u fz)] [hc : CellAt cs i v] :
    Qt P w0 H σ ⟨d, .load t x, ty, pos, aft, g⟩ v := fun w hw => by
  have hcell : w.cell? ⟨b, i, none⟩ = some v := by rw [cell_of_blk (hm.get w hw)]; exact hc.ok
  simp only [execOp, h, Instr.loadAt, Instr.sureAddr, Sem.run_bind, Sem.run_pure, Result.andThen_ok, run_loadVar_1 h1 hcell]
theorem Qt_load1' {x : Operand} {t b i : Nat} (v : Value) (h : ev σ x = .pointer (some ⟨b, i, none⟩)) [h1 : Ty1 P t] (hc : ∀ w, St w0 H w → w.cell? ⟨b, i, none⟩ = some v) :
    Qt P w0 H σ ⟨d, .load t x, ty, pos, aft, g⟩ v := fun w hw => by
  simp only [execOp, h, Instr.loadAt, Instr.sureAddr, Sem.run_bind, Sem.run_pure, Result.andThen_ok, run_loadVar_1 h1 (hc w hw)]
theorem Qt_loadN {x : Operand} {t b o n u m : Nat} {cs sub : Array Value} {fz : Nat × Nat} (h : ev σ x = .pointer (some ⟨b, o, none⟩)) [h1 : TyN P t n] [hm : Mem w0 H b (.cells cs u fz)] [hz : Cells cs m] [hc : SubAt cs o n sub] (hn : Nat.ble (o + n) m = true) :
    Qt P w0 H σ ⟨d, .load t x, ty, pos, aft, g⟩ (.agg sub) := fun w hw => by
  have := run_loadVar_N h1 (hm.get w hw) (by rw [hz.size]; exact Nat.le_of_ble_eq_true hn)
  rw [hc.ok] at this
  simp only [execOp, h, Instr.loadAt, Instr.sureAddr, Sem.run_bind, Sem.run_pure, Result.andThen_ok, this]
theorem Qt_extract {x : Operand} {vs : Array Value} {i : Nat} {v : Value} (h : ev σ x = .tuple vs) [hc : CellAt vs i v] : Qt P w0 H σ ⟨d, .extract x i, ty, pos, aft, g⟩ v := fun w _ => by
  simp only [execOp, h, Instr.extract, hc.ok, Sem.run_bind, Sem.run_pure, Result.andThen_ok]

/-! ### Numbers -/
theorem eqGuard_int {op : BinOp} {t : TypeId} {x y : Operand} {k k' : IntKind} {a b : Int} (w : World) : (eqGuard op t x y (.int k a) (.int k' b)).run P w = .ok () w := by
  unfold eqGuard; cases op <;> rfl
theorem Qt_bin_cmp {op : BinOp} {t t' : TypeId} {x y : Operand} {k : IntKind} {a b : Int} {r : Bool} (hx : ev σ x = .int k a) (hy : ev σ y = .int k b) (hr : Op.intCmp op a b = pure (.bool r)) (hop : match op with | .eql | .neq | .lss | .leq | .gtr | .geq => True | _ => False) :
    Qt P w0 H σ ⟨d, .binOp op t x y t', ty, pos, aft, g⟩ (.bool r) := fun w _ => by
  simp only [execOp, hx, hy, Sem.run_bind, eqGuard_int, Result.andThen_ok]
  cases op <;> simp at hop <;> simp [binOp, hr]
theorem Qt_eql {t t' : TypeId} {x y : Operand} {k : IntKind} {a b : Int} (hx : ev σ x = .int k a) (hy : ev σ y = .int k b) : Qt P w0 H σ ⟨d, .binOp .eql t x y t', ty, pos, aft, g⟩ (.bool (decide (a = b))) :=
  Qt_bin_cmp hx hy (by simp only [Op.intCmp]; congr 2) trivial
theorem Qt_neq {t t' : TypeId} {x y : Operand} {k : IntKind} {a b : Int} (hx : ev σ x = .int k a) (hy : ev σ y = .int k b) : Qt P w0 H σ ⟨d, .binOp .neq t x y t', ty, pos, aft, g⟩ (.bool (decide (a ≠ b))) :=
  Qt_bin_cmp hx hy (by simp only [Op.intCmp]; congr 2; simp [bne, Bool.beq_eq_decide_eq, decide_not]) trivial
theorem Qt_lss {t t' : TypeId} {x y : Operand} {k : IntKind} {a b : Int} (hx : ev σ x = .int k a) (hy : ev σ y = .int k b) : Qt P w0 H σ ⟨d, .binOp .lss t x y t', ty, pos, aft, g⟩ (.bool (decide (a < b))) := Qt_bin_cmp hx hy rfl trivial
theorem Qt_leq {t t' : TypeId} {x y : Operand} {k : IntKind} {a b : Int} (hx : ev σ x = .int k a) (hy : ev σ y = .int k b) : Qt P w0 H σ ⟨d, .binOp .leq t x y t', ty, pos, aft, g⟩ (.bool (decide (a ≤ b))) := Qt_bin_cmp hx hy rfl trivial
theorem Qt_gtr {t t' : TypeId} {x y : Operand} {k : IntKind} {a b : Int} (hx : ev σ x = .int k a) (hy : ev σ y = .int k b) : Qt P w0 H σ ⟨d, .binOp .gtr t x y t', ty, pos, aft, g⟩ (.bool (decide (b < a))) := Qt_bin_cmp hx hy rfl trivial
theorem Qt_geq {t t' : TypeId} {x y : Operand} {k : IntKind} {a b : Int} (hx : ev σ x = .int k a) (hy : ev σ y = .int k b) : Qt P w0 H σ ⟨d, .binOp .geq t x y t', ty, pos, aft, g⟩ (.bool (decide (b ≤ a))) := Qt_bin_cmp hx hy rfl trivial
theorem Qt_bin_int {op : BinOp} {t t' : TypeId} {x y : Operand} {k : IntKind} {a b : Int} {r : Value} (hx : ev σ x = .int k a) (hy : ev σ y = .int k b) (hr : binOp op t (.int k a) (.int k b) = pure r) :
    Qt P w0 H σ ⟨d, .binOp op t x y t', ty, pos, aft, g⟩ r := fun w _ => by
  simp only [execOp, hx, hy, Sem.run_bind, eqGuard_int, Result.andThen_ok, hr, Sem.run_pure]
theorem Qt_addw {t t' : TypeId} {x y : Operand} {k : IntKind} {a b : Int} (hx : ev σ x = .int k a) (hy : ev σ y = .int k b) : Qt P w0 H σ ⟨d, .binOp .add t x y t', ty, pos, aft, g⟩ (.int k (k.wrap (a + b))) := Qt_bin_int hx hy (by simp [binOp, Op.intArith])
theorem Qt_subw {t t' : TypeId} {x y : Operand} {k : IntKind} {a b : Int} (hx : ev σ x = .int k a) (hy : ev σ y = .int k b) : Qt P w0 H σ ⟨d, .binOp .sub t x y t', ty, pos, aft, g⟩ (.int k (k.wrap (a - b))) := Qt_bin_int hx hy (by simp [binOp, Op.intArith])
theorem Qt_mulw {t t' : TypeId} {x y : Operand} {k : IntKind} {a b : Int} (hx : ev σ x = .int k a) (hy : ev σ y = .int k b) : Qt P w0 H σ ⟨d, .binOp .mul t x y t', ty, pos, aft, g⟩ (.int k (k.wrap (a * b))) := Qt_bin_int hx hy (by simp [binOp, Op.intArith])
theorem wrap_i64 {n : Int} (h1 : -9223372036854775808 ≤ n) (h2 : n ≤ 9223372036854775807) : IntKind.i64.wrap n = n := by
  simp only [IntKind.wrap, IntKind.bits, IntKind.signed]; simp only [Bool.true_and]; split <;> simp_all <;> omega
theorem Qt_add {t t' : TypeId} {x y : Operand} {a b : Int} (hx : ev σ x = .int .i64 a) (hy : ev σ y = .int .i64 b) (h1 : -9223372036854775808 ≤ a + b) (h2 : a + b ≤ 9223372036854775807) :
    Qt P w0 H σ ⟨d, .binOp .add t x y t', ty, pos, aft, g⟩ (.int .i64 (a + b)) := Qt_bin_int hx hy (by simp [binOp, Op.intArith, wrap_i64 h1 h2])
theorem Qt_sub {t t' : TypeId} {x y : Operand} {a b : Int} (hx : ev σ x = .int .i64 a) (hy : ev σ y = .int .i64 b) (h1 : -9223372036854775808 ≤ a - b) (h2 : a - b ≤ 9223372036854775807) :
    Qt P w0 H σ ⟨d, .binOp .sub t x y t', ty, pos, aft, g⟩ (.int .i64 (a - b)) := Qt_bin_int hx hy (by simp [binOp, Op.intArith, wrap_i64 h1 h2])
theorem Qt_mul {t t' : TypeId} {x y : Operand} {a b : Int} (hx : ev σ x = .int .i64 a) (hy : ev σ y = .int .i64 b) (h1 : -9223372036854775808 ≤ a * b) (h2 : a * b ≤ 9223372036854775807) :
    Qt P w0 H σ ⟨d, .binOp .mul t x y t', ty, pos, aft, g⟩ (.int .i64 (a * b)) := Qt_bin_int hx hy (by simp [binOp, Op.intArith, wrap_i64 h1 h2])
theorem Qt_and {t t' : TypeId} {x y : Operand} {k : IntKind} {a b : Int} (hx : ev σ x = .int k a) (hy : ev σ y = .int k b) : Qt P w0 H σ ⟨d, .binOp .and t x y t', ty, pos, aft, g⟩ (.int k (k.wrap (BitVec.ofInt k.bits a &&& BitVec.ofInt k.bits b).toNat)) := Qt_bin_int hx hy (by simp [binOp, Op.intBits])
theorem Qt_or {t t' : TypeId} {x y : Operand} {k : IntKind} {a b : Int} (hx : ev σ x = .int k a) (hy : ev σ y = .int k b) : Qt P w0 H σ ⟨d, .binOp .or t x y t', ty, pos, aft, g⟩ (.int k (k.wrap (BitVec.ofInt k.bits a ||| BitVec.ofInt k.bits b).toNat)) := Qt_bin_int hx hy (by simp [binOp, Op.intBits])
theorem Qt_xor {t t' : TypeId} {x y : Operand} {k : IntKind} {a b : Int} (hx : ev σ x = .int k a) (hy : ev σ y = .int k b) : Qt P w0 H σ ⟨d, .binOp .xor t x y t', ty, pos, aft, g⟩ (.int k (k.wrap (BitVec.ofInt k.bits a ^^^ BitVec.ofInt k.bits b).toNat)) := Qt_bin_int hx hy (by simp [binOp, Op.intBits])
theorem Qt_shift {op : BinOp} {t t' : TypeId} {x y : Operand} {k k' : IntKind} {a b : Int} {r : Value} (hx : ev σ x = .int k a) (hy : ev σ y = .int k' b) (hr : binOp op t (.int k a) (.int k' b) = pure r) :
    Qt P w0 H σ ⟨d, .binOp op t x y t', ty, pos, aft, g⟩ r := fun w _ => by
  simp only [execOp, hx, hy, Sem.run_bind, eqGuard_int, Result.andThen_ok, hr, Sem.run_pure]
theorem Qt_shl {t t' : TypeId} {x y : Operand} {k k' : IntKind} {a b : Int} (hx : ev σ x = .int k a) (hy : ev σ y = .int k' b) (hb : 0 ≤ b) :
    Qt P w0 H σ ⟨d, .binOp .shl t x y t', ty, pos, aft, g⟩ (.int k (k.wrap (a * 2 ^ (min b.toNat k.bits)))) := Qt_shift hx hy (by simp [binOp, Op.shift, Int.not_lt.2 hb])
theorem Qt_shr {t t' : TypeId} {x y : Operand} {k k' : IntKind} {a b : Int} (hx : ev σ x = .int k a) (hy : ev σ y = .int k' b) (hb : 0 ≤ b) :
    Qt P w0 H σ ⟨d, .binOp .shr t x y t', ty, pos, aft, g⟩ (.int k (a.fdiv (2 ^ (min b.toNat k.bits)))) := Qt_shift hx hy (by simp [binOp, Op.shift, Int.not_lt.2 hb])
theorem Qt_rem {t t' : TypeId} {x y : Operand} {k : IntKind} {a b : Int} (hx : ev σ x = .int k a) (hy : ev σ y = .int k b) (hb : b ≠ 0) : Qt P w0 H σ ⟨d, .binOp .rem t x y t', ty, pos, aft, g⟩ (.int k (a.tmod b)) := Qt_bin_int hx hy (by simp [binOp, Op.intDiv, hb])
theorem Qt_not {t : TypeId} {x : Operand} {b : Bool} (hx : ev σ x = .bool b) : Qt P w0 H σ ⟨d, .unOp .not t x, ty, pos, aft, g⟩ (.bool (!b)) := fun w _ => by
  simp [execOp, hx, Op.unary]
theorem Qt_neg {t : TypeId} {x : Operand} {k : IntKind} {a : Int} (hx : ev σ x = .int k a) : Qt P w0 H σ ⟨d, .unOp .neg t x, ty, pos, aft, g⟩ (.int k (k.wrap (0 - a))) := fun w _ => by
  simp [execOp, hx, Op.unary, Op.intArith]
theorem Qt_conv {s t : TypeId} {x : Operand} {k k' : IntKind} {a : Int} (hx : ev σ x = .int k a) (hs : (P.underlying s).isSome = true) (ht : P.underlying t = some (.int k')) :
    Qt P w0 H σ ⟨d, .convert s t x, ty, pos, aft, g⟩ (.int k' (k'.wrap a)) := fun w _ => by
  obtain ⟨ds, hs'⟩ := Option.isSome_iff_exists.1 hs
  simp only [execOp, hx, convert, Sem.run_bind, run_underlying hs', run_underlying ht, Result.andThen_ok]
  simp [Conv.intToInt]
theorem wrap_u64 {n : Int} (h1 : 0 ≤ n) (h2 : n < 18446744073709551616) : IntKind.u64.wrap n = n := by
  simp only [IntKind.wrap, IntKind.bits, IntKind.signed]; simp; omega
theorem Qt_conv_u64 {s t : TypeId} {x : Operand} {k : IntKind} {a : Int} (hx : ev σ x = .int k a) (hs : (P.underlying s).isSome = true) (ht : P.underlying t = some (.int .u64)) (h1 : 0 ≤ a) (h2 : a < 18446744073709551616) :
    Qt P w0 H σ ⟨d, .convert s t x, ty, pos, aft, g⟩ (.int .u64 a) := by
  have := Qt_conv (P := P) (w0 := w0) (H := H) (d := d) (ty := ty) (pos := pos) (aft := aft) (g := g) hx hs ht
  rwa [wrap_u64 h1 h2] at this
theorem Qt_conv_i64 {s t : TypeId} {x : Operand} {k : IntKind} {a : Int} (hx : ev σ x = .int k a) (hs : (P.underlying s).isSome = true) (ht : P.underlying t = some (.int .i64)) (h1 : -9223372036854775808 ≤ a) (h2 : a ≤ 9223372036854775807) :
    Qt P w0 H σ ⟨d, .convert s t x, ty, pos, aft, g⟩ (.int .i64 a) := by
  have := Qt_conv (P := P) (w0 := w0) (H := H) (d := d) (ty := ty) (pos := pos) (aft := aft) (g := g) hx hs ht
  rwa [wrap_i64 h1 h2] at this
/-! ### Against nil -/
theorem equalIn_ptr_nil {t e : TypeId} {p : Option Addr} (k : Nat) (ht : P.underlying t = some (.pointer e)) (w : World) : (Op.equalIn (k + 1) t (.pointer p) (.pointer none)).run P w = .ok p.isNone w := by
  cases p <;> simp [Op.equalIn, run_underlying ht]
theorem Qt_ptr_nil {x y : Operand} {t t' e : TypeId} {p : Option Addr} (hx : ev σ x = .pointer p) (hy : ev σ y = .pointer none) (ht : P.underlying t = some (.pointer e)) :
    Qt P w0 H σ ⟨d, .binOp .eql t x y t', ty, pos, aft, g⟩ (.bool p.isNone) := fun w _ => by
  have h1 : (eqGuard .eql t x y (.pointer p) (.pointer none)).run P w = .ok () w := by rfl
  have h2 : (binOp .eql t (.pointer p) (.pointer none)) = (do pure (.bool (← Op.equalIn (9999 + 1) t (.pointer p) (.pointer none)))) := by cases p <;> rfl
  simp only [execOp, hx, hy, Sem.run_bind, h1, h2, Result.andThen_ok, equalIn_ptr_nil 9999 ht, Sem.run_pure]
theorem Qt_ptr_not_nil {x y : Operand} {t t' e : TypeId} {p : Option Addr} (hx : ev σ x = .pointer p) (hy : ev σ y = .pointer none) (ht : P.underlying t = some (.pointer e)) :
    Qt P w0 H σ ⟨d, .binOp .neq t x y t', ty, pos, aft, g⟩ (.bool (!p.isNone)) := fun w _ => by
  have h1 : (eqGuard .neq t x y (.pointer p) (.pointer none)).run P w = .ok () w := by rfl
  have h2 : (binOp .neq t (.pointer p) (.pointer none)) = (do pure (.bool (!(← Op.equalIn (9999 + 1) t (.pointer p) (.pointer none))))) := by cases p <;> rfl
  simp only [execOp, hx, hy, Sem.run_bind, h1, h2, Result.andThen_ok, equalIn_ptr_nil 9999 ht, Sem.run_pure]
theorem equalIn_slice_nil {t e : TypeId} {a : Option Addr} {m c : Nat} (k : Nat) (ht : P.underlying t = some (.slice e)) (w : World) : (Op.equalIn (k + 1) t (.slice a m c) (.slice none 0 0)).run P w = .ok a.isNone w := by
  cases a <;> simp [Op.equalIn, run_underlying ht]
theorem Qt_slice_nil {x y : Operand} {t t' e : TypeId} {a : Option Addr} {m c : Nat} (hx : ev σ x = .slice a m c) (hy : ev σ y = .slice none 0 0) (ht : P.underlying t = some (.slice e)) :
    Qt P w0 H σ ⟨d, .binOp .eql t x y t', ty, pos, aft, g⟩ (.bool a.isNone) := fun w _ => by
  have h1 : (eqGuard .eql t x y (.slice a m c) (.slice none 0 0)).run P w = .ok () w := by rfl
  have h2 : (binOp .eql t (.slice a m c) (.slice none 0 0)) = (do pure (.bool (← Op.equalIn (9999 + 1) t (.slice a m c) (.slice none 0 0)))) := by rfl
  simp only [execOp, hx, hy, Sem.run_bind, h1, h2, Result.andThen_ok, equalIn_slice_nil 9999 ht, Sem.run_pure]
theorem Qt_len_slice {x : Operand} {t e : TypeId} {a : Option Addr} {n c : Nat} (hx : ev σ x = .slice a n c) (ht : P.underlying t = some (.slice e)) :
    Qt P w0 H σ ⟨d, .call ⟨.builtin .len, #[x], #[t]⟩, ty, pos, aft, g⟩ (.int .i64 n) := fun w _ => by
  simp [execOp, resolve, invoke, builtin, Builtin.len_, hx, run_underlying ht, goInt]
theorem Qt_len_string {x : Operand} {t : TypeId} {s : ByteArray} (hx : ev σ x = .string s) (ht : P.underlying t = some .string) :
    Qt P w0 H σ ⟨d, .call ⟨.builtin .len, #[x], #[t]⟩, ty, pos, aft, g⟩ (.int .i64 s.size) := fun w _ => by
  simp [execOp, resolve, invoke, builtin, Builtin.len_, hx, run_underlying ht, goInt]
/-! ### Indexing, slicing -/
theorem Qt_indexAddr_arr {x i : Operand} {t e : TypeId} {b o n sz : Nat} {k : IntKind} {j : Int} {ei : TypeInfo} (hx : ev σ x = .pointer (some ⟨b, o, none⟩)) (hi : ev σ i = .int k j) (ht : P.underlying t = some (.array n e)) (he : P.info? e = some ei) (hsz : ei.size = sz) (h0 : 0 ≤ j) (hn : j < n) :
    Qt P w0 H σ ⟨d, .indexAddr t x i, ty, pos, aft, g⟩ (.pointer (some ⟨b, o + j.toNat * sz, none⟩)) := fun w _ => by
  subst hsz
  simp only [execOp, hx, hi, Instr.indexAt, asIntOf, Sem.run_bind, Sem.run_pure, Result.andThen_ok, run_underlying ht, Instr.sureAddr, h0, hn, and_self, if_true, run_sizeOf_of he, add_block]
end
end Go.Sx
