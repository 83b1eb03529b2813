/- Equality of values, and what is built out of parts. General. -/
import Derived.Test.YtgeknnclmhfjlaaGreatDoorSmP
set_option linter.unusedSimpArgs false
set_option linter.unusedVariables false
namespace Go.Sx
open Go.RowKit

class TyI (P : Program) (t : TypeId) (k : outParam IntKind) : Prop where ok : P.underlying t = some (.int k)
class TyStr (P : Program) (t : TypeId) : Prop where ok : P.underlying t = some .string
class TyAB (P : Program) (t : TypeId) (n : outParam Nat) : Prop where ok : (match P.underlying t with | some (.array m e) => m == n && ty1B P e && (match P.underlying e with | some (.int .u8) => true | _ => false) | _ => false) = true
/-- '==' on values of a type that is no struct. -/
class EqB (P : Program) (t : TypeId) (x y : Value) (b : outParam Bool) : Prop where eq : ∀ (d : Nat) (w : World), (Op.equalIn (d + 2) t x y).run P w = .ok b w
class EqV (P : Program) (t : TypeId) (x y : Value) (b : outParam Bool) : Prop where eq : ∀ (d : Nat) (w : World), (Op.equalIn (d + 4) t x y).run P w = .ok b w
section
variable {P : Program} {t : TypeId}
instance {x y : Value} {b : Bool} [h : EqB P t x y b] : EqV P t x y b := ⟨fun d w => h.eq (d + 2) w⟩
instance {k : IntKind} {a b : Int} [h : TyI P t k] : EqB P t (.int k a) (.int k b) (decide (a = b)) := ⟨fun d w => by
  rw [run_equalIn_int w (d + 1) t k k a b h.ok]; congr 1⟩
instance {a b : ByteArray} [h : TyStr P t] : EqB P t (.string a) (.string b) (decide (a = b)) := ⟨fun d w => by
  rw [run_equalIn_string w (d + 1) t a b h.ok, ← beq_toListBytes]; congr 1; rw [Bool.eq_iff_iff]; obtain ⟨a⟩ := a; obtain ⟨b⟩ := b; show (a == b) = true ↔ _; simp⟩
theorem part1 {cs : Array Value} {off : Nat} {v : Value} [h1 : Ty1 P t] [hc : CellAt cs off v] (w : World) : (part t cs off).run P w = .ok v w := by
  obtain ⟨dd, ii, hd1, hd2, -⟩ := h1.spec
  simp only [part, Sem.run_bind, run_isAgg_of hd1, hd2, Result.andThen_ok, Bool.false_eq_true, if_false, hc.ok, Sem.run_pure]
theorem partN {cs sub : Array Value} {off n : Nat} [h1 : TyN P t n] [hc : SubAt cs off n sub] (w : World) : (part t cs off).run P w = .ok (.agg sub) w := by
  obtain ⟨dd, ii, hd1, hd2, hi, hs⟩ := h1.spec
  simp only [part, Sem.run_bind, run_isAgg_of hd1, hd2, Result.andThen_ok, if_true, run_sizeOf_of hi, hs, hc.ok, Sem.run_pure]
theorem hlist_get {n : Nat} (h : Vector UInt8 n) (j : Nat) (hj : j < n) : (hlist h)[j]? = some (byteV h[j]) := by
  simp [hlist, bytesV, hj]
theorem byteV_eq (a b : UInt8) : ((a.toNat : Int) == (b.toNat : Int)) = decide (a = b) := by
  rw [Bool.eq_iff_iff]
  simp only [beq_iff_eq, decide_eq_true_eq, ← UInt8.toNat_inj]
  omega
theorem eqItems_bytes {e n d : Nat} (h1 : ty1B P e = true) (h2 : P.underlying e = some (.int .u8)) (x y : Vector UInt8 n) (w : World) : ∀ is : List Nat, (∀ j ∈ is, j < n) →
    (Op.eqItems (d + 1) e 1 (hlist x).toArray (hlist y).toArray is).run P w = .ok (decide (∀ j ∈ is, x[j]? = y[j]?)) w
  | [], _ => by simp [Op.eqItems]
  | j :: is, hj => by
    have hjn := hj j (by simp)
    have ht1 : Ty1 P e := ⟨h1⟩
    have cx : CellAt (hlist x).toArray (j * 1) (byteV x[j]) := ⟨by simpa using hlist_get x j hjn⟩
    have cy : CellAt (hlist y).toArray (j * 1) (byteV y[j]) := ⟨by simpa using hlist_get y j hjn⟩
    simp only [Op.eqItems, Sem.run_bind, part1, Result.andThen_ok]
    rw [show (Op.equalIn (d + 1) e (byteV x[j]) (byteV y[j])).run P w = .ok (decide (x[j] = y[j])) w from by rw [byteV, byteV, run_equalIn_int w d e .u8 .u8 _ _ h2, byteV_eq]]
    simp only [Result.andThen_ok]
    by_cases he : x[j] = y[j]
    · simp only [he, decide_true, Bool.not_true, Bool.false_eq_true, if_false]
      rw [eqItems_bytes h1 h2 x y w is (fun i hi => hj i (by simp [hi]))]
      congr 1
      simp [hjn, he]
    · simp [he, hjn]
instance {n : Nat} {x y : Vector UInt8 n} [h : TyAB P t n] : EqB P t (.agg (hlist x).toArray) (.agg (hlist y).toArray) (decide (x = y)) := ⟨fun d w => by
  have hok := h.ok
  split at hok
  · rename_i m e hu
    simp only [Bool.and_eq_true, beq_iff_eq] at hok
    obtain ⟨⟨rfl, h1⟩, h2⟩ := hok
    split at h2
    · rename_i hu8
      have ht1 : Ty1 P e := ⟨h1⟩
      obtain ⟨dd, ii, hd1, hd2, hi, hs⟩ := ht1.spec
      rw [run_equalIn_array w (d + 1) _ _ hu hi]
      have hc : P.cellsOf e = 1 := by simp [Program.cellsOf, hi, hs]
      rw [hc, eqItems_bytes h1 hu8 x y w (List.range m) (fun j hj => List.mem_range.1 hj)]
      congr 1
      rw [decide_eq_decide]
      constructor
      · intro hh
        apply Vector.ext
        intro i hi
        have := hh i (List.mem_range.2 hi)
        simpa [hi] using this
      · rintro rfl j _; rfl
    · cases h2
  · cases hok⟩
end
section
variable {P : Program} {w0 : World} {σ : Env} {H : List SA} {d : Option Nat} {ty : TypeId} {pos : String} {aft : Array Edge} {g : Option (Nat × Bool)}
theorem eqB_run {t : TypeId} {x y : Value} {b : Bool} [h : EqB P t x y b] (d : Nat) (w : World) : (Op.equalIn (d + 3) t x y).run P w = .ok b w := h.eq (d + 1) w
theorem equal_run {t : TypeId} {x y : Value} {b : Bool} [h : EqV P t x y b] (w : World) : (Op.equal t x y).run P w = .ok b w := h.eq 9996 w
theorem Qt_agg_eql {x y : Operand} {t t' : TypeId} {xs ys : Array Value} {b : Bool} (hx : ev σ x = .agg xs) (hy : ev σ y = .agg ys) [h : EqV P t (.agg xs) (.agg ys) b] (hg : P.eqGuardType P.depth t = false) :
    Qt P w0 H σ ⟨d, .binOp .eql t x y t', ty, pos, aft, g⟩ (.bool b) := fun w _ => by
  have h2 : (binOp .eql t (.agg xs) (.agg ys)) = (do pure (.bool (← Op.equal t (.agg xs) (.agg ys)))) := by rfl
  simp only [execOp, hx, hy, Sem.run_bind, run_eqGuard_agg w .eql t x y xs ys hg, h2, Result.andThen_ok, equal_run, Sem.run_pure]
theorem Qt_agg_neq {x y : Operand} {t t' : TypeId} {xs ys : Array Value} {b : Bool} (hx : ev σ x = .agg xs) (hy : ev σ y = .agg ys) [h : EqV P t (.agg xs) (.agg ys) b] (hg : P.eqGuardType P.depth t = false) :
    Qt P w0 H σ ⟨d, .binOp .neq t x y t', ty, pos, aft, g⟩ (.bool (!b)) := fun w _ => by
  have h2 : (binOp .neq t (.agg xs) (.agg ys)) = (do pure (.bool (!(← Op.equal t (.agg xs) (.agg ys))))) := by rfl
  simp only [execOp, hx, hy, Sem.run_bind, run_eqGuard_agg w .neq t x y xs ys hg, h2, Result.andThen_ok, equal_run, Sem.run_pure]

/-! ## Built out of parts -/
class SizeV (v : Value) (n : outParam Nat) : Prop where ok : v.cells.size = n
instance (priority := low) {v : Value} [h : One v] : SizeV v 1 := ⟨by rw [cells_one h.ok]; rfl⟩
instance {cs : Array Value} {n : Nat} [h : Cells cs n] : SizeV (.agg cs) n := ⟨h.size⟩
def fieldSB (P : Program) (s f off size : Nat) : Bool := match P.underlying s with
  | some (.struct fs) => match fs[f]? with
    | some fd => fd.offset == off && (match P.info? fd.type with | some i => i.size == size | none => false)
    | none => false
  | _ => false
class TyFs (P : Program) (s f : Nat) (off size : outParam Nat) : Prop where ok : fieldSB P s f off size = true
/-- cs with the parts laid in. -/
class Fill (P : Program) (s : Nat) (cs : Array Value) (parts : List (Nat × Value)) (cs' : outParam (Array Value)) : Prop where
  ok : ∀ place : Nat → Option (Nat × Nat), (∀ f off size, fieldSB P s f off size = true → place f = some (off, size)) → Instr.fill place cs parts = some cs'
instance {s : Nat} {cs : Array Value} : Fill P s cs [] cs := ⟨fun _ _ => rfl⟩
instance {s f off n : Nat} {cs cs1 cs' : Array Value} {v : Value} {rest : List (Nat × Value)} [h1 : TyFs P s f off n] [h2 : SizeV v n] [h3 : Put cs off v cs1] [h4 : Fill P s cs1 rest cs'] : Fill P s cs ((f, v) :: rest) cs' := ⟨fun place hp => by
  have hpl := hp f off n h1.ok
  simp only [Instr.fill, hpl]
  have hroom := h3.room
  rw [if_neg (by simp only [h2.ok, ne_eq, not_true_eq_false, decide_false, Bool.false_or, decide_eq_true_eq]; rw [h2.ok] at hroom; omega)]
  have := h3.ok
  unfold putCells at this
  rw [this]
  exact h4.ok place hp⟩
theorem mapM_run_list {α β : Type} (f : α → Sem β) (g : α → β) (w : World) : ∀ l : List α, (∀ x ∈ l, (f x).run P w = .ok (g x) w) → (l.mapM f).run P w = .ok (l.map g) w
  | [], _ => rfl
  | x :: l, h => by
    rw [List.mapM_cons]
    simp only [Sem.run_bind, h x (by simp), Result.andThen_ok, mapM_run_list f g w l (fun y hy => h y (by simp [hy])), Sem.run_pure, List.map_cons]
def fieldsSized (P : Program) (s : Nat) : Bool := match P.underlying s with
  | some (.struct fs) => fs.toList.all fun f => (P.info? f.type).isSome
  | _ => false
theorem Qt_build {t : TypeId} {parts : Array (Nat × Operand)} (pv : List (Nat × Value)) {z cs : Array Value} (hp : parts.toList.map (fun p => (p.1, ev σ p.2)) = pv) [hz : TyZ P t (.agg z)] [hf : Fill P t z pv cs] (hs : fieldsSized P t = true) :
    Qt P w0 H σ ⟨d, .build t parts, ty, pos, aft, g⟩ (.agg cs) := fun w _ => by
  unfold fieldsSized at hs
  split at hs
  · rename_i fs hu
    have hm : (fs.mapM fun f => do pure (f.offset, ← sizeOf f.type) : Sem (Array (Nat × Nat))).run P w = .ok (fs.map fun f => (f.offset, P.cellsOf f.type)) w := by
      obtain ⟨l⟩ := fs
      rw [List.mapM_toArray]
      simp only [Sem.run_map]
      have := mapM_run_list (P := P) (fun f : Field => (do pure (f.offset, ← sizeOf f.type) : Sem (Nat × Nat))) (fun f => (f.offset, P.cellsOf f.type)) w l (fun x hx => by
        simp only [List.all_eq_true] at hs
        obtain ⟨i, hi⟩ := Option.isSome_iff_exists.1 (hs x (by simpa using hx))
        simp only [Sem.run_bind, run_sizeOf_of hi, Result.andThen_ok, Sem.run_pure, Program.cellsOf, hi, Option.map_some, Option.getD_some])
      rw [this]
      simp
    have hfill := hf.ok (fun i => (fs.map fun f => (f.offset, P.cellsOf f.type))[i]?) (fun f off size hfs => by
      unfold fieldSB at hfs
      rw [hu] at hfs
      simp only at hfs
      split at hfs
      · rename_i fd hfd
        simp only [Bool.and_eq_true, beq_iff_eq] at hfs
        obtain ⟨e1, e2⟩ := hfs
        split at e2
        · rename_i i hi
          simp only [beq_iff_eq] at e2
          simp [hfd, e1, Program.cellsOf, hi, e2]
        · cases e2
      · cases hfs)
    have hpl : (parts.map fun (i, x) => (i, ev σ x)).toList = pv := by rw [← hp]; simp
    simp only [execOp, Instr.build, Sem.run_bind, run_zeroValue_of hz.ok, Result.andThen_ok, run_underlying hu, hm, hpl, Value.cells, hfill, Sem.run_pure]
  · cases hs
theorem Qt_build_arr {t e n : Nat} {parts : Array (Nat × Operand)} {z : Array Value} (cs : Array Value) [hz : TyZ P t (.agg z)] (hu : P.underlying t = some (.array n e)) {sz : Nat} {i : TypeInfo} (hi : P.info? e = some i) (hsz : i.size = sz)
    (hf : Instr.fill (fun i => some (i * sz, sz)) z (parts.toList.map fun p => (p.1, ev σ p.2)) = some cs) : Qt P w0 H σ ⟨d, .build t parts, ty, pos, aft, g⟩ (.agg cs) := fun w _ => by
  subst hsz
  have hpl : (parts.map fun (i, x) => (i, ev σ x)).toList = parts.toList.map fun p => (p.1, ev σ p.2) := by simp
  simp only [execOp, Instr.build, Sem.run_bind, run_zeroValue_of hz.ok, Result.andThen_ok, run_underlying hu, run_sizeOf_of hi, hpl, Value.cells, hf, Sem.run_pure]
/-- An element of an array value, by a number that is known to lie within. -/
theorem Qt_index {x i : Operand} {t e n : Nat} {cs : Array Value} {k : IntKind} {j : Int} (v : Value) (hx : ev σ x = .agg cs) (hi : ev σ i = .int k j) (hu : P.underlying t = some (.array n e)) [h1 : Ty1 P e] (h0 : 0 ≤ j) (hn : j < n) (hv : cs[j.toNat]? = some v) :
    Qt P w0 H σ ⟨d, .index t x i, ty, pos, aft, g⟩ v := fun w _ => by
  obtain ⟨dd, ii, hd1, hd2, hi', hs⟩ := h1.spec
  have hc : CellAt cs (j.toNat * 1) v := ⟨by simpa using hv⟩
  simp only [execOp, hx, hi, Instr.index, asIntOf, Sem.run_bind, Sem.run_pure, Result.andThen_ok, run_underlying hu, h0, hn, and_self, if_true, run_sizeOf_of hi', hs, part1]
/-- A slice of an array variable, whole. -/
theorem Qt_slice_arr {x : Operand} {t e n b o : Nat} {i : TypeInfo} (hx : ev σ x = .pointer (some ⟨b, o, none⟩)) (hu : P.underlying t = some (.array n e)) (hi : P.info? e = some i) (hn : Nat.blt 0 n = true) :
    Qt P w0 H σ ⟨d, .slice t x none none none, ty, pos, aft, g⟩ (.slice (some ⟨b, o, none⟩) n n) := fun w _ => by
  have h0 : n ≠ 0 := by simp only [Nat.blt_eq] at hn; omega
  simp only [execOp, hx, Option.map_none, Instr.sliceAt, Sem.run_bind, run_underlying hu, Result.andThen_ok, Instr.sureAddr, Sem.run_pure, Instr.sliceBounds, run_sizeOf_of hi, h0, if_false, Nat.zero_mul, Nat.sub_zero]
  simp [Addr.add]
end
theorem RdB.hash {w0 : World} {H : List SA} {b o n : Nat} {cs : Array Value} {T : TypeId} {fz : Nat × Nat} (x : Vector UInt8 n) (hm : Mem w0 H b (.cells cs T fz)) (hc : SubAt cs o n (hlist x).toArray) (hn : n ≤ 1000) : RdB w0 H (.slice (some ⟨b, o, none⟩) n n) x.toList :=
  ⟨fun w hw => ⟨_, _, _, rfl, by simp [bytesV], Nat.le_refl _, by unfold maxLen; omega, fun _ => ⟨b, o, rfl, fun j u hj => by
    rw [cell_of_blk (hm.get w hw)]
    have h1 : (cs.extract o (o + n))[j]? = some u := by rw [hc.ok]; simpa [hlist] using hj
    rw [Array.getElem?_extract] at h1
    split at h1
    · exact h1
    · cases h1⟩⟩⟩
end Go.Sx
namespace Go.Sx
open Go.RowKit
/-- Where element j of a slice lies. -/
def ptrOf : Value → Nat → Option Addr
  | .slice (some a) _ _, j => some (a.add j)
  | _, _ => none
attribute [irreducible] ptrOf
instance (priority := high) RdB.nil' {w0 : World} {H : List SA} : RdB w0 H (.slice none ([] : List UInt8).length 0) [] := ⟨fun w _ => cellsAt_nil w 1⟩
section
variable {P : Program} {w0 : World} {σ : Env} {H : List SA} {d : Option Nat} {ty : TypeId} {pos : String} {aft : Array Edge} {g : Option (Nat × Bool)}
theorem Qt_indexR {x i : Operand} {t e bytes n c : Nat} {a : Option Addr} {k : IntKind} {j : Int} {xs : List Value} (hx : ev σ x = .slice a n c) (hi : ev σ i = .int k j) [hr : RdC w0 H (.slice a n c) 1 xs] [ht : TySl P t e 1 bytes] (h0 : 0 ≤ j) (hn : j < xs.length) :
    Qt P w0 H σ ⟨d, .indexAddr t x i, ty, pos, aft, g⟩ (.pointer (ptrOf (.slice a n c) j.toNat)) := fun w hw => by
  obtain ⟨a', n', c', hv, hl, hn', hc', hcell⟩ := hr.rd w hw
  obtain ⟨rfl, rfl, rfl⟩ : a' = a ∧ n' = n ∧ c' = c := by simp at hv; exact ⟨hv.1.symm, hv.2.1.symm, hv.2.2.symm⟩
  obtain ⟨b, o, rfl, -⟩ := hcell (by omega)
  obtain ⟨ii, z, hi', -, hsz, -, -⟩ := ht.spec
  have hjn : j < (n' : Int) := by rw [Nat.mul_one] at hl; omega
  simp only [execOp, hx, hi, Instr.indexAt, asIntOf, Sem.run_bind, Sem.run_pure, Result.andThen_ok, run_underlying ht.ht, h0, hjn, and_self, if_true, run_sizeOf_of hi', hsz, Nat.mul_one, ptrOf]
theorem Qt_loadR {x : Operand} {t n c j : Nat} {a : Option Addr} {xs : List Value} (v : Value) (hx : ev σ x = .pointer (ptrOf (.slice a n c) j)) [hr : RdC w0 H (.slice a n c) 1 xs] [h1 : Ty1 P t] (hv : xs[j]? = some v) :
    Qt P w0 H σ ⟨d, .load t x, ty, pos, aft, g⟩ v := fun w hw => by
  obtain ⟨a', n', c', hv', hl, hn', hc', hcell⟩ := hr.rd w hw
  obtain ⟨rfl, rfl, rfl⟩ : a' = a ∧ n' = n ∧ c' = c := by simp at hv'; exact ⟨hv'.1.symm, hv'.2.1.symm, hv'.2.2.symm⟩
  have hlt : j < xs.length := by
    rcases Nat.lt_or_ge j xs.length with h | h
    · exact h
    · simp [List.getElem?_eq_none h] at hv
  obtain ⟨b, o, rfl, hce⟩ := hcell (by omega)
  have hp : ptrOf (.slice (some ⟨b, o, none⟩) n' c') j = some ⟨b, o + j, none⟩ := by simp only [ptrOf, add_block]
  rw [hp] at hx
  simp only [execOp, hx, Instr.loadAt, Instr.sureAddr, Sem.run_bind, Sem.run_pure, Result.andThen_ok, run_loadVar_1 h1 (hce j v hv)]
end
/-- Each of these byte slices reads. -/
class RdE (w0 : World) (H : List SA) (ls : List BS) : Prop where rd : ∀ x ∈ ls, ∀ w, St w0 H w → BytesAt w x.val x.l
instance RdE.tail {w0 : World} {H : List SA} {x : SA} {ls : List BS} [h : RdE w0 H ls] : RdE w0 (x :: H) ls := ⟨fun y hy w hw => h.rd y hy w hw.tail⟩
instance (priority := high) RdE.nil {w0 : World} {H : List SA} : RdE w0 H [] := ⟨fun _ h => by cases h⟩
theorem RdE.get {w0 : World} {H : List SA} {ls : List BS} (h : RdE w0 H ls) {x : BS} (hx : x ∈ ls) : RdB w0 H (.slice x.a x.l.length x.c) x.l := ⟨h.rd x hx⟩
theorem vals_get (ls : List BS) (k : Nat) (hk : k < ls.length) : (ls.map BS.val)[k]? = some (.slice ls[k].a ls[k].l.length ls[k].c) := by simp [hk]
theorem bytes_get (l : List UInt8) (k : Nat) (hk : k < l.length) : (bytesV l)[k]? = some (.int .u8 (l[k].toNat : Int)) := by simp [bytesV, byteV, hk]
def BytesIn (fp : List Nat) (w : World) (v : Value) (l : List UInt8) : Prop :=
  ∃ a n c, v = .slice a n c ∧ (bytesV l).length = n * 1 ∧ n ≤ c ∧ c ≤ maxLen ∧ (0 < (bytesV l).length → ∃ b o, a = some ⟨b, o, none⟩ ∧ b ∈ fp ∧ ∀ j u, (bytesV l)[j]? = some u → w.cell? ⟨b, o + j, none⟩ = some u)
theorem BytesIn.at {fp : List Nat} {w : World} {v : Value} {l : List UInt8} (h : BytesIn fp w v l) : BytesAt w v l := by
  obtain ⟨a, n, c, h1, h2, h3, h4, h5⟩ := h
  exact ⟨a, n, c, h1, h2, h3, h4, fun h0 => let ⟨b, o, e1, _, e2⟩ := h5 h0; ⟨b, o, e1, e2⟩⟩
theorem BytesIn.keep {fp fp' : List Nat} {w w' : World} {v : Value} {l : List UInt8} (h : BytesIn fp w v l) (hs : ∀ b ∈ fp, b ∈ fp') (hb : ∀ b ∈ fp, w'.heap[b]? = w.heap[b]?) : BytesIn fp' w' v l := by
  obtain ⟨a, n, c, h1, h2, h3, h4, h5⟩ := h
  refine ⟨a, n, c, h1, h2, h3, h4, fun h0 => ?_⟩
  obtain ⟨b, o, e1, e2, e3⟩ := h5 h0
  refine ⟨b, o, e1, hs b e2, fun j u hj => ?_⟩
  rw [← e3 j u hj]
  simp only [World.cell?, hb b e2]
def eachA (fp : List Nat) (ls : List BS) : SA := ⟨fp, fun w => ∀ x ∈ ls, BytesIn fp w x.val x.l, fun _ _ hb h x hx => (h x hx).keep (fun _ h => h) hb⟩
instance RdE.own {w0 : World} {H : List SA} {fp : List Nat} {ls : List BS} : RdE w0 (eachA fp ls :: H) ls := ⟨fun x hx w hw => (hw.holds (eachA fp ls) (by simp) x hx).at⟩
theorem St.eachNil {w0 w : World} {H : List SA} (h : St w0 H w) : St w0 (eachA [] [] :: H) w :=
  h.fresh rfl rfl rfl (Nat.le_refl _) (fun _ _ => rfl) (fun _ h => by cases h) (by simp [eachA]) (by simp [eachA])
theorem rowP.bytesIn {v : Value} {e : TypeId} {l : List UInt8} {w : World} (h : rowP v e 1 (bytesV l) w) : BytesIn (rowFp v) w v l := by
  have hc := h.cells
  obtain ⟨a, n, c, hv, hl, hn, hc', ha, hx⟩ := h
  refine ⟨a, n, c, hv, hl, hn, hc', fun h0 => ?_⟩
  have hc0 : c ≠ 0 := by
    rintro rfl
    obtain rfl : n = 0 := by omega
    simp at hl; simp [hl] at h0
  obtain ⟨g, cur, hg, hw, h1, h2⟩ := hx hc0
  obtain ⟨a', n', c', hv', -, -, -, hcell⟩ := hc
  obtain ⟨b, o, hb, hce⟩ := hcell h0
  subst hv; subst hg
  simp only [Value.slice.injEq] at hv'
  have hb2 : (some (⟨g, 0, none⟩ : Addr)) = some ⟨b, o, none⟩ := hv'.1.trans hb
  simp only [Option.some.injEq, Addr.mk.injEq] at hb2
  refine ⟨g, 0, rfl, by simp [rowFp, hc0], fun j u hj => ?_⟩
  have := hce j u hj
  rw [← hb2.1, ← hb2.2.1] at this
  exact this
/-- Two assertions become one. -/
theorem St.merge {w0 w : World} {H : List SA} {x y z : SA} (h : St w0 (x :: y :: H) w) (hfp : z.fp = x.fp ++ y.fp) (hp : x.p w → y.p w → z.p w) : St w0 (z :: H) w := by
  have hnd := h.nodup
  refine ⟨h.below, ?_, ?_, ?_⟩
  · simpa [hfp, List.append_assoc] using hnd
  · intro a ha
    rcases List.mem_cons.1 ha with rfl | ha
    · exact hp (h.holds x (by simp)) (h.holds y (by simp))
    · exact h.holds a (by simp [ha])
  · intro a ha b hb
    rcases List.mem_cons.1 ha with rfl | ha
    · rw [hfp] at hb
      rcases List.mem_append.1 hb with hb | hb
      · exact h.lo x (by simp) b hb
      · exact h.lo y (by simp) b hb
    · exact h.lo a (by simp [ha]) b hb
theorem St.eachAdd {w0 w : World} {H : List SA} {fp : List Nat} {ls : List BS} {b : BS} {e : TypeId} (h : St w0 (row b.val e 1 (bytesV b.l) :: eachA fp ls :: H) w) : St w0 (eachA (rowFp b.val ++ fp) (ls ++ [b]) :: H) w := by
  refine h.merge rfl fun h1 h2 x hx => ?_
  rcases List.mem_append.1 hx with hx | hx
  · exact (h2 x hx).keep (fun b hb => List.mem_append_right _ hb) (fun _ _ => rfl)
  · obtain rfl : x = b := by simpa using hx
    exact (rowP.bytesIn (v := x.val) (e := e) h1).keep (fun b hb => List.mem_append_left _ hb) (fun _ _ => rfl)
end Go.Sx
namespace Go.Sx
open Go.RowKit
section
variable {P : Program} {w0 : World} {σ : Env} {H : List SA} {d : Option Nat} {ty : TypeId} {pos : String} {aft : Array Edge} {g : Option (Nat × Bool)}
theorem Qt_indexN {x i : Operand} {t e sz bytes n c : Nat} {a : Option Addr} {k : IntKind} {j : Int} {xs : List Value} (hx : ev σ x = .slice a n c) (hi : ev σ i = .int k j) [ht : TySl P t e sz bytes] [hr : RdC w0 H (.slice a n c) sz xs] (h0 : 0 ≤ j) (hn : j < n) :
    Qt P w0 H σ ⟨d, .indexAddr t x i, ty, pos, aft, g⟩ (.pointer (ptrOf (.slice a n c) (j.toNat * sz))) := fun w hw => by
  obtain ⟨a', n', c', hv, hl, hn', hc', hcell⟩ := hr.rd w hw
  obtain ⟨rfl, rfl, rfl⟩ : a' = a ∧ n' = n ∧ c' = c := by simp at hv; exact ⟨hv.1.symm, hv.2.1.symm, hv.2.2.symm⟩
  have hpos : 0 < xs.length := by rw [hl]; exact Nat.mul_pos (by omega) ht.pos
  obtain ⟨b, o, rfl, -⟩ := hcell hpos
  obtain ⟨ii, z, hi', -, hsz, -, -⟩ := ht.spec
  simp only [execOp, hx, hi, Instr.indexAt, asIntOf, Sem.run_bind, Sem.run_pure, Result.andThen_ok, run_underlying ht.ht, h0, hn, and_self, if_true, run_sizeOf_of hi', hsz, ptrOf]
theorem ptrOf_add {w : World} {a : Option Addr} {n c sz : Nat} {xs : List Value} (h : CellsAt w (.slice a n c) sz xs) (hpos : 0 < xs.length) (j : Nat) : ∃ b o, a = some ⟨b, o, none⟩ ∧ ptrOf (.slice a n c) j = some ⟨b, o + j, none⟩ := by
  obtain ⟨a', n', c', hv, hl, hn', hc', hcell⟩ := h
  obtain ⟨rfl, rfl, rfl⟩ : a' = a ∧ n' = n ∧ c' = c := by simp at hv; exact ⟨hv.1.symm, hv.2.1.symm, hv.2.2.symm⟩
  obtain ⟨b, o, rfl, -⟩ := hcell hpos
  exact ⟨b, o, rfl, by simp only [ptrOf, add_block]⟩
theorem Qt_fieldR {x : Operand} {n c sz j s f off : Nat} {a : Option Addr} {xs : List Value} (hx : ev σ x = .pointer (ptrOf (.slice a n c) j)) (sz' : Nat) [hr : RdC w0 H (.slice a n c) sz' xs] (hpos : 0 < xs.length) [hf : TyF P s f off] (hsz : sz = sz' := by rfl) :
    Qt P w0 H σ ⟨d, .fieldAddr s x f, ty, pos, aft, g⟩ (.pointer (ptrOf (.slice a n c) (j + off))) := fun w hw => by
  obtain ⟨b, o, -, hp⟩ := ptrOf_add (hr.rd w hw) hpos j
  obtain ⟨b', o', h1, hp'⟩ := ptrOf_add (hr.rd w hw) hpos (j + off)
  obtain ⟨b'', o'', h2, hp''⟩ := ptrOf_add (hr.rd w hw) hpos j
  rw [hp] at hx
  have := Qt_fieldAddr (P := P) (w0 := w0) (H := H) (d := d) (ty := ty) (pos := pos) (aft := aft) (g := g) (s := s) (f := f) (o + j + off) hx rfl w hw
  rw [this, hp']
  have e1 := h2.symm.trans h1
  simp only [Option.some.injEq, Addr.mk.injEq] at e1
  rw [hp''] at hp
  simp only [Option.some.injEq, Addr.mk.injEq] at hp
  rw [← e1.1, ← e1.2.1, hp.1]
  have : o = o'' := by omega
  subst this
  rw [Nat.add_assoc]
theorem Qt_loadRs {x : Operand} {t n c j : Nat} (sz : Nat) {a : Option Addr} {xs : List Value} (v : Value) (hx : ev σ x = .pointer (ptrOf (.slice a n c) j)) [hr : RdC w0 H (.slice a n c) sz xs] [h1 : Ty1 P t] (hv : xs[j]? = some v) :
    Qt P w0 H σ ⟨d, .load t x, ty, pos, aft, g⟩ v := fun w hw => by
  obtain ⟨a', n', c', hv', hl, hn', hc', hcell⟩ := hr.rd w hw
  obtain ⟨rfl, rfl, rfl⟩ : a' = a ∧ n' = n ∧ c' = c := by simp at hv'; exact ⟨hv'.1.symm, hv'.2.1.symm, hv'.2.2.symm⟩
  have hlt : j < xs.length := by
    rcases Nat.lt_or_ge j xs.length with h | h
    · exact h
    · simp [List.getElem?_eq_none h] at hv
  obtain ⟨b, o, rfl, hce⟩ := hcell (by omega)
  have hp : ptrOf (.slice (some ⟨b, o, none⟩) n' c') j = some ⟨b, o + j, none⟩ := by simp only [ptrOf, add_block]
  rw [hp] at hx
  simp only [execOp, hx, Instr.loadAt, Instr.sureAddr, Sem.run_bind, Sem.run_pure, Result.andThen_ok, run_loadVar_1 h1 (hce j v hv)]
theorem Qt_loadRN {x : Operand} {t n c j m : Nat} (sz : Nat) {a : Option Addr} {xs : List Value} (l : List Value) (hx : ev σ x = .pointer (ptrOf (.slice a n c) j)) [hr : RdC w0 H (.slice a n c) sz xs] [h1 : TyN P t m] (hv : (xs.drop j).take m = l) (hl : l.length = m) (hm : 0 < m) :
    Qt P w0 H σ ⟨d, .load t x, ty, pos, aft, g⟩ (.agg l.toArray) := fun w hw => by
  obtain ⟨a', n', c', hv', hl', hn', hc', hcell⟩ := hr.rd w hw
  obtain ⟨rfl, rfl, rfl⟩ : a' = a ∧ n' = n ∧ c' = c := by simp at hv'; exact ⟨hv'.1.symm, hv'.2.1.symm, hv'.2.2.symm⟩
  have hlt : j + m ≤ xs.length := by
    have : ((xs.drop j).take m).length = m := by rw [hv]; exact hl
    simp at this; omega
  obtain ⟨b, o, rfl, hce⟩ := hcell (by omega)
  have hp : ptrOf (.slice (some ⟨b, o, none⟩) n' c') j = some ⟨b, o + j, none⟩ := by simp only [ptrOf, add_block]
  rw [hp] at hx
  obtain ⟨dd, ii, hd1, hd2, hi, hs⟩ := h1.spec
  have hld := run_loadCells_list (P := P) (w := w) ⟨b, o + j, none⟩ l (fun i u hi => by
    rw [add_block]
    have : xs[j + i]? = some u := by
      rw [← hv] at hi
      rw [List.getElem?_take] at hi
      split at hi
      · simpa using hi
      · cases hi
    have := hce (j + i) u this
    rwa [Nat.add_assoc])
  rw [hl] at hld
  simp only [execOp, hx, Instr.loadAt, Instr.sureAddr, Sem.run_bind, Sem.run_pure, Result.andThen_ok, loadVar, run_isAgg_of hd1, hd2, if_true, run_sizeOf_of hi, hs, hld]
end
/-- Cell j of element i, of a row of elements of m cells each. -/
theorem flat_get {α : Type} (f : α → List Value) (m : Nat) (hf : ∀ x, (f x).length = m) : ∀ (l : List α) (i j : Nat) (hi : i < l.length), j < m → (l.flatMap f)[i * m + j]? = (f l[i])[j]?
  | x :: l, 0, j, _, hj => by simp [List.flatMap_cons, List.getElem?_append, hf, hj]
  | x :: l, i + 1, j, hi, hj => by
    rw [List.flatMap_cons, List.getElem?_append_right (by rw [hf, Nat.add_mul]; omega), hf]
    have : (i + 1) * m + j - m = i * m + j := by rw [Nat.add_mul]; omega
    rw [this, flat_get f m hf l i j (by simpa using hi) hj]
    simp
theorem flat_slice {α : Type} (f : α → List Value) (m : Nat) (hf : ∀ x, (f x).length = m) : ∀ (l : List α) (i : Nat) (hi : i < l.length), ((l.flatMap f).drop (i * m)).take m = f l[i]
  | x :: l, 0, _ => by simp [List.flatMap_cons, List.take_append, hf]
  | x :: l, i + 1, hi => by
    rw [List.flatMap_cons, List.drop_append, hf]
    have h1 : (f x).drop ((i + 1) * m) = [] := by rw [List.drop_eq_nil_iff, hf, Nat.add_mul]; omega
    have h2 : (i + 1) * m - m = i * m := by rw [Nat.add_mul]; omega
    rw [h1, h2, List.nil_append, flat_slice f m hf l i (by simpa using hi)]
    simp
theorem flat_len {α : Type} (f : α → List Value) (m : Nat) (hf : ∀ x, (f x).length = m) (l : List α) : (l.flatMap f).length = l.length * m := by
  induction l with
  | nil => simp
  | cons x l ih => simp [List.flatMap_cons, ih, hf, Nat.add_mul]; omega
end Go.Sx
namespace Go.Sx
/-- Under one assertion, a byte row joins its kin. -/
theorem eachUnder {w0 w : World} {H : List SA} {fp : List Nat} {ls : List BS} {b : BS} {e : TypeId} {y : SA} (h : St w0 (y :: row b.val e 1 (bytesV b.l) :: eachA fp ls :: H) w) : St w0 (y :: eachA (rowFp b.val ++ fp) (ls ++ [b]) :: H) w := by
  have h1 : St w0 (row b.val e 1 (bytesV b.l) :: eachA fp ls :: y :: H) w := h.sub ⟨_, (List.Perm.swap _ _ _).trans ((List.Perm.swap _ _ _).cons _), List.Sublist.refl _⟩
  have h2 := h1.eachAdd
  exact h2.sub ⟨_, List.Perm.swap _ _ _, List.Sublist.refl _⟩
theorem X_conv {α : Type} {w0 : World} {e : Exit} {Q : Post} {σ : Env} {H : List SA} {H' : α → List SA} (hs : ∀ w, St w0 H w → ∃ x, St w0 (H' x) w) (h : ∀ x, X w0 e Q σ (H' x)) : X w0 e Q σ H := fun w hw => let ⟨x, hx⟩ := hs w hw; h x w hx
end Go.Sx
namespace Go.Sx
theorem res_cellN {P : Program} {w0 : World} {H : List SA} {t b o n u m : Nat} {cs sub : Array Value} {fz : Nat × Nat} [h1 : TyN P t n] [hm : Mem w0 H b (.cells cs u fz)] [hz : Cells cs m] [hc : SubAt cs o n sub] (hn : Nat.ble (o + n) m = true) :
    ∀ w, St w0 H w → (loadVar t ⟨b, o, none⟩).run P w = .ok (.agg sub) w := fun w hw => by
  have := run_loadVar_N h1 (hm.get w hw) (by rw [hz.size]; exact Nat.le_of_ble_eq_true hn)
  rw [hc.ok] at this
  exact this
end Go.Sx
namespace Go.Sx
open Go.RowKit
/-- Values, numbered from i on. -/
def num : Nat → List Value → List (Nat × Value)
  | _, [] => []
  | i, v :: vs => (i, v) :: num (i + 1) vs
theorem fill_dense (sz : Nat) : ∀ (vs : List Value) (i : Nat) (pr po : List Value), (∀ v ∈ vs, v.cells.size = sz) → pr.length = i * sz → po.length = vs.length * sz →
    Instr.fill (fun i => some (i * sz, sz)) (pr ++ po).toArray (num i vs) = some (pr ++ vs.flatMap fun v => v.cells.toList).toArray
  | [], i, pr, po, _, _, hpo => by
    obtain rfl : po = [] := List.eq_nil_of_length_eq_zero (by simpa using hpo)
    simp [num, Instr.fill]
  | v :: vs, i, pr, po, hv, hpr, hpo => by
    have hs := hv v (by simp)
    have hpo' : po.length = sz + vs.length * sz := by rw [hpo, List.length_cons, Nat.add_mul]; omega
    rw [num, Instr.fill]
    simp only [hs, ne_eq, not_true_eq_false, false_or]
    rw [if_neg (by simp [hpr, hpo'])]
    have hput := put_mid pr (po.take sz) (po.drop sz) (v := v) (o := i * sz) (n := sz) hpr (by simp [hpo']) hs
    have e1 : pr ++ po = pr ++ (po.take sz ++ po.drop sz) := by rw [List.take_append_drop]
    unfold putCells at hput
    rw [e1]
    refine (congrArg (fun c => Instr.fill (fun i => some (i * sz, sz)) c (num (i + 1) vs)) hput).trans ?_
    rw [← List.append_assoc]
    have e2 : pr ++ (v :: vs).flatMap (fun v => v.cells.toList) = (pr ++ v.cells.toList) ++ vs.flatMap (fun v => v.cells.toList) := by simp [List.flatMap_cons, List.append_assoc]
    rw [e2]
    exact fill_dense sz vs (i + 1) (pr ++ v.cells.toList) (po.drop sz) (fun u hu => hv u (by simp [hu])) (by simp [hpr, hs, Nat.add_mul]) (by simp [hpo'])
section
variable {P : Program} {w0 : World} {H : List SA} {σ : Env} {d : Option Nat} {ty : TypeId} {pos : String} {aft : Array Edge} {g : Option (Nat × Bool)} {K : Value → List SA → Prop}
theorem flat_cells_len (sz : Nat) : ∀ (vs : List Value), (∀ v ∈ vs, v.cells.size = sz) → (vs.flatMap fun v => v.cells.toList).length = vs.length * sz
  | [], _ => by simp
  | v :: vs, hv => by
    have := flat_cells_len sz vs (fun u hu => hv u (by simp [hu]))
    have hs := hv v (by simp)
    simp only [List.flatMap_cons, List.length_append, this, List.length_cons, Array.length_toList, hs, Nat.add_mul]
    omega
/-- '[]T{x, y, ..}': a row of our own. -/
theorem Ef_sliceN {t e n m sz bytes : Nat} {parts : Array (Nat × Operand)} (vs : List Value) (xs : List Value) (hp : parts.toList.map (fun p => (p.1, ev σ p.2)) = num 0 vs) (hn : vs.length = n) (hm : m = n) (hxs : (vs.flatMap fun v => v.cells.toList) = xs) (hv : ∀ v ∈ vs, v.cells.size = sz)
    [hts : TySl P t e sz bytes] (hb : Nat.ble (n * sz) 10000 = true) (hsz0 : Nat.ble 1 (n * sz) = true) (h : ∀ a c, K (.slice a m c) (row (.slice a m c) e sz xs :: H)) : Ef P w0 H σ ⟨d, .buildSlice t n parts, ty, pos, aft, g⟩ K := fun w hw => by
  obtain ⟨i, z, hi, hz, hsz, -, hzs⟩ := hts.spec
  have ht := hts.ht
  have hz' : (P.info? e).bind (·.zero) = some z := by simp [hi, hz]
  have hb' := Nat.le_of_ble_eq_true hb
  have hs0 := Nat.le_of_ble_eq_true hsz0
  have hpl : (parts.map fun p => (p.1, ev σ p.2)).toList = num 0 vs := by rw [Array.toList_map]; exact hp
  have hr : (execOp (ev σ) ⟨d, .buildSlice t n parts, ty, pos, aft, g⟩).run P w = .ok (.value (.slice (some ⟨w.heap.size, 0, none⟩) n n)) (w.alloc (.cells xs.toArray e)) := by
    have hf := fill_dense sz vs 0 [] ((List.range (n * sz)).map fun k => z.cells[k % z.cells.size]!) hv (by simp) (by simp [hn])
    have e0 : ((Array.range (n * sz)).map fun k => z.cells[k % z.cells.size]!) = ([] ++ (List.range (n * sz)).map fun k => z.cells[k % z.cells.size]!).toArray := by
      apply Array.ext
      · simp
      · intro j h1 h2; simp
    rw [hxs] at hf
    simp only [List.nil_append] at hf e0
    have hbig : ¬ n * sz > 2 ^ 24 := by omega
    have hne : ¬ n * sz = 0 := by omega
    have hexec : execOp (ev σ) ⟨d, .buildSlice t n parts, ty, pos, aft, g⟩ = (do let v ← Instr.buildSlice t n (parts.map fun p => (p.1, ev σ p.2)); pure (.value v)) := by
      simp [execOp]
    rw [hexec]
    simp only [Instr.buildSlice, Sem.run_bind, run_underlying ht, Result.andThen_ok, run_sizeOf_of hi, hsz, if_neg hbig, if_neg hne, Sem.run_pure, run_zeroValue_of hz', hpl, e0, hf, newRow, run_newObj, World.alloc_eq]
  rw [hr]
  subst hm
  have hlen : xs.length = m * sz := by rw [← hxs, flat_cells_len sz vs hv, hn]
  refine ⟨_, h _ _, hw.fresh rfl rfl rfl (by simp) (fun k hk => heap_alloc_old w _ hk) ⟨_, _, _, rfl, hlen, Nat.le_refl _, by unfold maxLen; have : m ≤ m * sz := Nat.le_mul_of_pos_right m (by rcases Nat.eq_zero_or_pos sz with h | h; subst h; omega; exact h); omega, by simp, fun _ => ⟨_, _, rfl, heap_alloc_new w _, by simp [hlen], by simp [← hlen]⟩⟩ (by simp only [row, rowFp]; split <;> simp) (by simp only [row, rowFp]; split <;> simp)⟩
end
end Go.Sx
