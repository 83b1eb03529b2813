/- Effects, calls, loops and cuts of the small symbolic-execution layer. General theorems; no program. -/
import Derived.Test.YtgeknnclmhfjlaaGreatDoorSyP
set_option linter.unusedSimpArgs false
set_option linter.unusedVariables false
namespace Go.Sx
open Go.RowKit

/-! ## What a slice reads as -/
def CellsAt (w : World) (v : Value) (sz : Nat) (xs : List Value) : Prop :=
  ∃ a n c, v = .slice a n c ∧ xs.length = n * sz ∧ n ≤ c ∧ c ≤ maxLen ∧ (0 < xs.length → ∃ b o, a = some ⟨b, o, none⟩ ∧ ∀ j u, xs[j]? = some u → w.cell? ⟨b, o + j, none⟩ = some u)
theorem CellsAt.keep {w w' : World} {v : Value} {sz : Nat} {xs : List Value} (h : CellsAt w v sz xs) (hb : ∀ k, k < w.heap.size → w'.heap[k]? = w.heap[k]?) : CellsAt w' v sz xs := by
  obtain ⟨a, n, c, hv, hl, hn, hc, hx⟩ := h
  refine ⟨a, n, c, hv, hl, hn, hc, fun h0 => ?_⟩
  obtain ⟨b, o, ha, hcell⟩ := hx h0
  refine ⟨b, o, ha, fun j u hj => ?_⟩
  have h1 := hcell j u hj
  have h2 : b < w.heap.size := World.block_lt_of_cell? w _ h1
  rw [← h1]
  simp only [World.cell?, hb b h2]

def byteV (b : UInt8) : Value := .int .u8 b.toNat
def bytesV (l : List UInt8) : List Value := l.map byteV
def BytesAt (w : World) (v : Value) (l : List UInt8) : Prop := CellsAt w v 1 (bytesV l)

/-- The slice v reads, wherever H stands, as the cells xs. -/
class RdC (w0 : World) (H : List SA) (v : Value) (sz : Nat) (xs : outParam (List Value)) : Prop where rd : ∀ w, St w0 H w → CellsAt w v sz xs
/-- .. as the bytes l. -/
class RdB (w0 : World) (H : List SA) (v : Value) (l : outParam (List UInt8)) : Prop where rd : ∀ w, St w0 H w → BytesAt w v l
instance RdC.tail {w0 : World} {H : List SA} {x : SA} {v : Value} {sz : Nat} {xs : List Value} [h : RdC w0 H v sz xs] : RdC w0 (x :: H) v sz xs := ⟨fun w hw => h.rd w hw.tail⟩
instance RdB.tail {w0 : World} {H : List SA} {x : SA} {v : Value} {l : List UInt8} [h : RdB w0 H v l] : RdB w0 (x :: H) v l := ⟨fun w hw => h.rd w hw.tail⟩
instance (priority := low) RdC.bytes {w0 : World} {H : List SA} {v : Value} {l : List UInt8} [h : RdB w0 H v l] : RdC w0 H v 1 (bytesV l) := ⟨h.rd⟩
theorem cellsAt_nil (w : World) (sz : Nat) : CellsAt w (.slice none 0 0) sz [] := ⟨none, 0, 0, rfl, by simp, Nat.le_refl _, by unfold maxLen; omega, by simp⟩
instance (priority := high) RdB.nil {w0 : World} {H : List SA} : RdB w0 H (.slice none 0 0) [] := ⟨fun w _ => cellsAt_nil w 1⟩
instance (priority := high) RdC.nil {w0 : World} {H : List SA} {sz : Nat} : RdC w0 H (.slice none 0 0) sz [] := ⟨fun w _ => cellsAt_nil w sz⟩
theorem RdC.base {w0 : World} {H : List SA} {v : Value} {sz : Nat} {xs : List Value} (h : CellsAt w0 v sz xs) : RdC w0 H v sz xs := ⟨fun _ hw => h.keep hw.below.block⟩
theorem RdB.base {w0 : World} {H : List SA} {v : Value} {l : List UInt8} (h : BytesAt w0 v l) : RdB w0 H v l := ⟨fun _ hw => CellsAt.keep h hw.below.block⟩

/-! ## A row of our own -/
def rowFp : Value → List Nat
  | .slice (some a) _ c => if c = 0 then [] else [a.block]
  | _ => []
def rowP (v : Value) (e : TypeId) (sz : Nat) (xs : List Value) (w : World) : Prop :=
  ∃ a n c, v = .slice a n c ∧ xs.length = n * sz ∧ n ≤ c ∧ c ≤ maxLen ∧ (a = none → c = 0) ∧
    (c ≠ 0 → ∃ g cur, a = some ⟨g, 0, none⟩ ∧ w.heap[g]? = some (.cells cur e (0, 0)) ∧ cur.size = c * sz ∧ cur.toList.take (n * sz) = xs)
def row (v : Value) (e : TypeId) (sz : Nat) (xs : List Value) : SA := ⟨rowFp v, rowP v e sz xs, fun w w' h hp => by
  obtain ⟨a, n, c, hv, hl, hn, hc, ha, hx⟩ := hp
  refine ⟨a, n, c, hv, hl, hn, hc, ha, fun h0 => ?_⟩
  obtain ⟨g, cur, hg, hw, h1, h2⟩ := hx h0
  refine ⟨g, cur, hg, ?_, h1, h2⟩
  rw [h g (by subst hv; subst hg; simp [rowFp, h0])]; exact hw⟩
theorem rowP.cells {v : Value} {e : TypeId} {sz : Nat} {xs : List Value} {w : World} (h : rowP v e sz xs w) : CellsAt w v sz xs := by
  obtain ⟨a, n, c, hv, hl, hn, hc, ha, hx⟩ := h
  refine ⟨a, n, c, hv, hl, hn, hc, fun h0 => ?_⟩
  have hc0 : c ≠ 0 := by
    rintro rfl
    obtain rfl : n = 0 := by omega
    simp at hl; simp [hl] at h0
  obtain ⟨g, cur, hg, hw, h1, h2⟩ := hx hc0
  refine ⟨g, 0, hg, fun j u hj => ?_⟩
  rw [cell_of_blk hw]
  rw [← h2, List.getElem?_take] at hj
  split at hj
  · simpa using hj
  · cases hj
instance RdC.ofRow {w0 : World} {H : List SA} {v : Value} {e : TypeId} {sz : Nat} {xs : List Value} : RdC w0 (row v e sz xs :: H) v sz xs := ⟨fun w hw => rowP.cells (hw.holds (row v e sz xs) (by simp))⟩
instance RdB.ofRow {w0 : World} {H : List SA} {v : Value} {e : TypeId} {l : List UInt8} : RdB w0 (row v e 1 (bytesV l) :: H) v l := ⟨fun w hw => rowP.cells (hw.holds (row v e 1 (bytesV l)) (by simp))⟩
theorem rowP_nil (e : TypeId) (sz : Nat) (w : World) : rowP (.slice none 0 0) e sz [] w := ⟨none, 0, 0, rfl, by simp, Nat.le_refl _, by unfold maxLen; omega, fun _ => rfl, fun h => absurd rfl h⟩
theorem St.addNil {w0 w : World} {H : List SA} (e : TypeId) (sz : Nat) (h : St w0 H w) : St w0 (row (.slice none 0 0) e sz [] :: H) w :=
  h.fresh rfl rfl rfl (Nat.le_refl _) (fun _ _ => rfl) (rowP_nil e sz w) (by simp [row, rowFp]) (by simp [row, rowFp])

/-- The laws of append, together: onto a row of our own, whatever is read, in place or grown. -/
theorem run_append_sx {P : Program} {t ty e : TypeId} {i : TypeInfo} {z : Value} {sz bytes : Nat} (ht : P.underlying t = some (.slice e)) (hi : P.info? e = some i) (hz : i.zero = some z)
    (hsz : i.size = sz) (hby : i.bytes = bytes) (hzs : z.cells.size = sz) (hpos : 0 < sz) {w0 w : World} {H : List SA} {v x : Value} {xs news : List Value} {m : Nat}
    (hw : St w0 (row v e sz xs :: H) w) (hx : CellsAt w x sz news) (hm : news.length = m * sz) (h1 : ∀ u ∈ news, u.oneCell' = true)
    (h63 : xs.length + news.length ≤ 281474976710656) (hb : (xs.length + news.length) * bytes ≤ 140737488355328) :
    ∃ v' w', (Builtin.append_ #[t, t] ty #[v, x]).run P w = .ok v' w' ∧ St w0 (row v' e sz (xs ++ news) :: H) w' := by
  have hr : rowP v e sz xs w := hw.holds (row v e sz xs) (by simp)
  have hr' := hr
  obtain ⟨a, n, c, hv, hl, hn, hc, ha, hcur⟩ := hr
  obtain ⟨xa, m', xc, hxv, hxl, hxm, hxc, hxcell⟩ := hx
  obtain rfl : m' = m := by
    have h2 : m' * sz = m * sz := hxl.symm.trans hm
    exact Nat.eq_of_mul_eq_mul_right hpos h2
  have hnx : n ≤ xs.length := by rw [hl]; exact Nat.le_mul_of_pos_right _ hpos
  have hmx : m' ≤ news.length := by rw [hm]; exact Nat.le_mul_of_pos_right _ hpos
  subst hsz
  subst hby
  subst hv
  subst hxv
  have hnb : (n + m') * i.bytes ≤ 140737488355328 := Nat.le_trans (Nat.mul_le_mul_right _ (by omega)) hb
  have hlen : (xs ++ news).length = (n + m') * i.size := by rw [List.length_append, hl, hm, Nat.add_mul]
  by_cases hm0 : m' = 0
  · subst hm0
    have hnews : news = [] := List.eq_nil_of_length_eq_zero (by simpa using hm)
    subst hnews
    refine ⟨.slice a n c, w, ?_, by simpa using hw⟩
    have hf : ∀ ad : Addr, (loadCells ad 0).run P w = .ok #[] w := fun ad => by simp [loadCells, loadCellsFrom]
    cases a with
    | none =>
      cases xa <;> simp [Builtin.append_, run_underlying ht, sizeOf, typeInfo, hi, Builtin.lenOf, Builtin.firstCells, hn, hf]
    | some ad =>
      cases xa <;> simp [Builtin.append_, run_underlying ht, sizeOf, typeInfo, hi, Builtin.lenOf, Builtin.firstCells, hn, hf, storeCells]
  have hmpos : 0 < m' := by omega
  have hnpos : 0 < news.length := by omega
  obtain ⟨sb, so, hsa, hscell⟩ := hxcell hnpos
  subst hsa
  have hnewsAt : ∀ j u, news[j]? = some u → w.cell? ((⟨sb, so, none⟩ : Addr).add j) = some u := fun j u hj => by rw [add_block]; exact hscell j u hj
  -- the grown row
  have grown : ∀ old, c = old → old < n + m' → ∀ w', w' = w.drew.alloc (.cells (xs.toArray ++ news.toArray ++ Builtin.zeroCells z.cells (grownCap w (n + m') old e - (n + m'))) e) →
      St w0 (row (.slice (some ⟨w.heap.size, 0, none⟩) (n + m') (grownCap w (n + m') old e)) e i.size (xs ++ news) :: H) w' := by
    intro old _ ho w' hw'
    subst hw'
    have hge := grownCap_ge w (n + m') old e
    have hcm : grownCap w (n + m') old e ≤ maxLen := grownCap_le_maxLen w (n + m') old e (by unfold maxLen; omega)
    have h0 : grownCap w (n + m') old e ≠ 0 := by omega
    refine St.fresh hw.tail rfl rfl rfl (by simp) (fun k hk => heap_alloc_old w.drew _ hk) ?_ ?_ ?_
    · refine ⟨_, _, _, rfl, hlen, hge, hcm, by simp, fun _ => ⟨_, _, rfl, heap_alloc_new w.drew _, ?_, ?_⟩⟩
      · simp only [Array.size_append, List.size_toArray, size_zeroCells, hzs, hl, hm, ← Nat.add_mul]
        congr 1
        omega
      · simp only [Array.toList_append, List.append_assoc]
        rw [← List.append_assoc, ← hlen]
        exact List.take_left
    · simp [row, rowFp, h0]
    · simp [row, rowFp, h0]
  by_cases hroom : n + m' ≤ c
  · have hc0 : c ≠ 0 := by omega
    obtain ⟨g, cur, hg, hgw, hcs, htake⟩ := hcur hc0
    subst hg
    have hfit : n * i.size + news.length ≤ cur.size := by rw [hm, hcs, ← Nat.add_mul]; exact Nat.mul_le_mul_right _ hroom
    have hrun := run_append_room (P := P) w t ty e i ht hi g n c cur hgw ⟨sb, so, none⟩ m' xc news hm hnewsAt h1 hroom hfit
    refine ⟨_, _, hrun, ?_⟩
    refine St.swap hw rfl rfl rfl (by simp) (fun k _ hk => setRow_other w g k _ (fun e => hk (by simp [row, rowFp, hc0, e]))) ?_ ?_ ?_
    · refine ⟨_, _, _, rfl, hlen, hroom, hc, by simp, fun _ => ⟨_, _, rfl, setRow_heap w g cur _ e _ hgw, ?_, ?_⟩⟩
      · simp only [List.size_toArray, List.length_append, List.length_take, List.length_drop, Array.length_toList]
        omega
      · rw [htake, ← hlen]
        exact List.take_left
    · simp [row, rowFp, hc0]
    · intro b hb'
      simp [row, rowFp, hc0] at hb'
      subst hb'
      have := (hw.lo (row (.slice (some ⟨b, 0, none⟩) n c) e i.size xs) (by simp) b (by simp [row, rowFp, hc0])).2
      exact ⟨.inl (by simp [row, rowFp, hc0]), by simpa using this⟩
  · cases a with
    | none =>
      have hc0 : c = 0 := ha rfl
      subst hc0
      obtain rfl : n = 0 := by omega
      have hxs : xs = [] := List.eq_nil_of_length_eq_zero (by simpa using hl)
      subst hxs
      have hrun := run_append_nil (P := P) w t ty e i z ht hi hz ⟨sb, so, none⟩ m' xc news hm hnewsAt hmpos (by simp at h63; omega) (by simp at hnb; omega)
      refine ⟨_, _, hrun, ?_⟩
      have := grown 0 rfl (by omega) _ rfl
      simpa using this
    | some ad =>
      have holds : ∀ j u, xs[j]? = some u → w.cell? (ad.add j) = some u := by
        intro j u hj
        have hc0 : c ≠ 0 := by
          rintro rfl
          obtain rfl : n = 0 := by omega
          simp at hl; subst hl; simp at hj
        obtain ⟨g, cur, hg, hgw, hcs, htake⟩ := hcur hc0
        obtain rfl : ad = ⟨g, 0, none⟩ := by simpa using hg
        rw [add_block, cell_of_blk hgw]
        rw [← htake, List.getElem?_take] at hj
        split at hj
        · simpa using hj
        · cases hj
      have hrun := run_append_grow (P := P) w t ty e i z ht hi hz ad n c xs hl holds ⟨sb, so, none⟩ m' xc news hm hnewsAt (by omega) (by omega) (growslice_fits (by omega) hnb)
      exact ⟨_, _, hrun, grown c rfl (by omega) _ rfl⟩

/-! ## Effects -/
section
variable {P : Program} {w0 : World} {σ : Env} {H : List SA} {d : Option Nat} {ty : TypeId} {pos : String} {aft : Array Edge} {g : Option (Nat × Bool)} {K : Value → List SA → Prop}

theorem Ef_box {x : Operand} {t : TypeId} {v : Value} (cs : Array Value) (hx : ev σ x = v) (hcs : v.cells = cs) (h : ∀ b, K (.pointer (some ⟨b, 0, none⟩)) (blk b (.cells cs t (0, 0)) :: H)) :
    Ef P w0 H σ ⟨d, .box t x, ty, pos, aft, g⟩ K := fun w hw => by
  simp only [execOp, hx, Instr.box, newVar, newRow, Sem.run_bind, run_newObj, Result.andThen_ok, Sem.run_pure, upon, hcs]
  exact ⟨_, h w.heap.size, hw.alloc _⟩
theorem Ef_alloc {t : TypeId} {z : Value} [hz : TyZ P t z] (cs : Array Value) (hcs : z.cells = cs) (h : ∀ b, K (.pointer (some ⟨b, 0, none⟩)) (blk b (.cells cs t (0, 0)) :: H)) :
    Ef P w0 H σ ⟨d, .alloc t, ty, pos, aft, g⟩ K := fun w hw => by
  simp only [execOp, Instr.alloc, newVar, newRow, Sem.run_bind, run_zeroValue_of hz.ok, run_newObj, Result.andThen_ok, Sem.run_pure, upon, hcs]
  exact ⟨_, h w.heap.size, hw.alloc _⟩

theorem Ef_boxN {x : Operand} {t : TypeId} {cs : Array Value} (hx : ev σ x = .agg cs) (h : ∀ b, K (.pointer (some ⟨b, 0, none⟩)) (blk b (.cells cs t (0, 0)) :: H)) :
    Ef P w0 H σ ⟨d, .box t x, ty, pos, aft, g⟩ K := Ef_box cs hx rfl h
theorem Ef_box1 {x : Operand} {t : TypeId} (v : Value) (hx : ev σ x = v) [ho : One v] (h : ∀ b, K (.pointer (some ⟨b, 0, none⟩)) (blk b (.cells #[v] t (0, 0)) :: H)) :
    Ef P w0 H σ ⟨d, .box t x, ty, pos, aft, g⟩ K := Ef_box #[v] hx (cells_one ho.ok) h
theorem Ef_allocN {t : TypeId} {cs : Array Value} [hz : TyZ P t (.agg cs)] (h : ∀ b, K (.pointer (some ⟨b, 0, none⟩)) (blk b (.cells cs t (0, 0)) :: H)) :
    Ef P w0 H σ ⟨d, .alloc t, ty, pos, aft, g⟩ K := Ef_alloc cs rfl h
theorem Ef_alloc1 {t : TypeId} {z : Value} [hz : TyZ P t z] [ho : One z] (h : ∀ b, K (.pointer (some ⟨b, 0, none⟩)) (blk b (.cells #[z] t (0, 0)) :: H)) :
    Ef P w0 H σ ⟨d, .alloc t, ty, pos, aft, g⟩ K := Ef_alloc #[z] (cells_one ho.ok) h
/-- Cells stored into a block of our own. -/
theorem run_storeCells_put (P : Program) {b off : Nat} {T : TypeId} : ∀ (vs : List Value) (i : Nat) (cs : Array Value) (w : World), w.heap[b]? = some (.cells cs T (0, 0)) → (∀ v ∈ vs, v.oneCell' = true) → off + i + vs.length ≤ cs.size →
    ∃ w', (storeCells ⟨b, off, none⟩ vs i).run P w = .ok () w' ∧ w'.heap[b]? = some (.cells ((vs.zipIdx i).foldl (fun cs (c, j) => cs.setIfInBounds (off + j) c) cs) T (0, 0)) ∧
      w'.os = w.os ∧ w'.tape = w.tape ∧ w'.output = w.output ∧ w'.heap.size = w.heap.size ∧ ∀ k, k ≠ b → w'.heap[k]? = w.heap[k]?
  | [], i, cs, w, hb, _, _ => ⟨w, rfl, by simpa using hb, rfl, rfl, rfl, rfl, fun _ _ => rfl⟩
  | v :: rest, i, cs, w, hb, h1, hl => by
    have hi : off + i < cs.size := by simp at hl; omega
    have hcell : w.cell? ⟨b, off + i, none⟩ = some cs[off + i] := by rw [cell_of_blk hb]; simp [hi]
    have hfz : w.frozen? ⟨b, off + i, none⟩ = false := frozen_of_row w b (off + i) cs T hb
    have hs : (store ((⟨b, off, none⟩ : Addr).add i) v).run P w = .ok () (w.setCell ⟨b, off + i, none⟩ v) := by
      rw [add_block, run_store P w _ v .plain (h1 v (by simp)), hcell]; simp [hfz]
    have hb' : (w.setCell ⟨b, off + i, none⟩ v).heap[b]? = some (.cells (cs.setIfInBounds (off + i) v) T (0, 0)) := by
      have := heap_setCell_same w b (off + i) cs T v hb
      simpa using this
    obtain ⟨w', hrun, hbw, e1, e2, e3, e4, e5⟩ := run_storeCells_put P (b := b) (off := off) (T := T) rest (i + 1) _ _ hb' (fun u hu => h1 u (by simp [hu])) (by simp at hl ⊢; omega)
    refine ⟨w', ?_, ?_, e1, e2, e3, by rw [e4]; simp [World.setCell], fun k hk => (e5 k hk).trans (heap_setCell_other w _ k v hk)⟩
    · simp only [storeCells, Sem.run_bind, hs, Result.andThen_ok, hrun]
    · simpa using hbw
def tySizeB (P : Program) (t : TypeId) (n : Nat) : Bool := match P.info? t with | some i => i.size == n | none => false
theorem Ef_store {a x : Operand} {t b off n : Nat} {T : TypeId} (v : Value) {cs cs' : Array Value} {Hr : List SA} (ha : ev σ a = .pointer (some ⟨b, off, none⟩)) (hx : ev σ x = v) [hp : Pick b H (.cells cs T (0, 0)) Hr] [hput : Put cs off v cs']
    (hsz : v.cells.size = n) (hone : ∀ u ∈ v.cells.toList, u.oneCell' = true) (ht : tySizeB P t n = true) (h : K undef (blk b (.cells cs' T (0, 0)) :: Hr)) : Ef P w0 H σ ⟨d, .store t a x, ty, pos, aft, g⟩ K := fun w hw => by
  have hw' := hw.sub hp.sub
  have hb : w.heap[b]? = some (.cells cs T (0, 0)) := hw'.holds (blk b _) (by simp)
  have hi : ∃ i, P.info? t = some i ∧ i.size = n := by
    unfold tySizeB at ht
    split at ht
    · rename_i i hi; exact ⟨i, hi, by simpa using ht⟩
    · cases ht
  obtain ⟨i, hi, his⟩ := hi
  obtain ⟨w', hrun, hbw, e1, e2, e3, e4, e5⟩ := run_storeCells_put P (off := off) v.cells.toList 0 cs w hb hone (by have := hput.room; simp; omega)
  have hlt : b < w.heap.size := (Array.getElem?_eq_some_iff.1 hb).1
  have hcs' : (v.cells.toList.zipIdx 0).foldl (fun cs (c, j) => cs.setIfInBounds (off + j) c) cs = cs' := by
    rw [← hput.ok, putCells, ← Array.foldl_toList]
    simp
  rw [hcs'] at hbw
  simp only [execOp, ha, hx, Instr.storeAt, Instr.sureAddr, storeVar, Sem.run_bind, Sem.run_pure, Result.andThen_ok, run_sizeOf_of hi, his, hsz, ne_eq, not_true_eq_false, if_false, hrun, upon]
  refine ⟨_, h, hw'.swap e1 e2 e3 (by omega) (fun k _ hk => e5 k (by simpa [blk] using hk)) hbw (by simp [blk]) (fun k hk => ?_)⟩
  simp [blk] at hk
  subst hk
  exact ⟨.inl (by simp [blk]), by omega⟩
theorem Ef_store1 {a x : Operand} {t b off : Nat} {T : TypeId} (v : Value) {cs cs' : Array Value} {Hr : List SA} (ha : ev σ a = .pointer (some ⟨b, off, none⟩)) (hx : ev σ x = v) [hp : Pick b H (.cells cs T (0, 0)) Hr] [hput : Put cs off v cs'] [ho : One v]
    [ht : Ty1 P t] (h : K undef (blk b (.cells cs' T (0, 0)) :: Hr)) : Ef P w0 H σ ⟨d, .store t a x, ty, pos, aft, g⟩ K :=
  Ef_store (n := 1) v ha hx (by rw [cells_one ho.ok]; rfl) (by rw [cells_one ho.ok]; simp [ho.ok]) (by obtain ⟨_, i, _, _, hi, hs⟩ := ht.spec; simp [tySizeB, hi, hs]) h
theorem Ef_storeN {a x : Operand} {t b off n : Nat} {T : TypeId} {vs cs cs' : Array Value} {Hr : List SA} (ha : ev σ a = .pointer (some ⟨b, off, none⟩)) (hx : ev σ x = .agg vs) [hp : Pick b H (.cells cs T (0, 0)) Hr] [hput : Put cs off (.agg vs) cs'] [hc : Cells vs n]
    [ht : TyN P t n] (h : K undef (blk b (.cells cs' T (0, 0)) :: Hr)) : Ef P w0 H σ ⟨d, .store t a x, ty, pos, aft, g⟩ K :=
  Ef_store (n := n) _ ha hx hc.size hc.one (by obtain ⟨_, i, _, _, hi, hs⟩ := ht.spec; simp [tySizeB, hi, hs]) h

theorem Ef_append {s x : Operand} {t e sz bytes m : Nat} {i : TypeInfo} {z : Value} (sv xv : Value) {xs news : List Value} {Hr : List SA} (hs : ev σ s = sv) (hx : ev σ x = xv) (hr : ∀ w, St w0 H w → St w0 (row sv e sz xs :: Hr) w) (hn : ∀ w, St w0 H w → CellsAt w xv sz news)
    (ht : P.underlying t = some (.slice e)) (hi : P.info? e = some i) (hz : i.zero = some z) (hsz : i.size = sz) (hby : i.bytes = bytes) (hzs : z.cells.size = sz) (hpos : 0 < sz)
    (hm : news.length = m * sz) (h1 : ∀ u ∈ news, u.oneCell' = true) (h63 : xs.length + news.length ≤ 281474976710656) (hb : (xs.length + news.length) * bytes ≤ 140737488355328)
    (h : ∀ v', K v' (row v' e sz (xs ++ news) :: Hr)) : Ef P w0 H σ ⟨d, .call ⟨.builtin .append, #[s, x], #[t, t]⟩, ty, pos, aft, g⟩ K := fun w hw => by
  obtain ⟨v', w', hrun, hw'⟩ := run_append_sx (ty := ty) ht hi hz hsz hby hzs hpos (hr w hw) (hn w hw) hm h1 h63 hb
  have : (execOp (ev σ) ⟨d, .call ⟨.builtin .append, #[s, x], #[t, t]⟩, ty, pos, aft, g⟩).run P w = .ok (.value v') w' := by
    simp [execOp, resolve, invoke, builtin, hs, hx, hrun]
  rw [this]
  exact ⟨_, h v', hw'⟩

/-- The slice type t: elements of type e, of sz cells, of 'bytes' bytes. -/
class TySl (P : Program) (t : TypeId) (e sz bytes : outParam Nat) : Prop where
  ht : P.underlying t = some (.slice e)
  hi : (match P.info? e with | some i => i.size == sz && i.bytes == bytes && (match i.zero with | some z => z.cells.size == sz | none => false) | none => false) = true
  pos : 0 < sz
theorem TySl.spec {P : Program} {t e sz bytes : Nat} (h : TySl P t e sz bytes) : ∃ i z, P.info? e = some i ∧ i.zero = some z ∧ i.size = sz ∧ i.bytes = bytes ∧ z.cells.size = sz := by
  have := h.hi
  split at this
  · rename_i i hi
    simp only [Bool.and_eq_true, beq_iff_eq] at this
    obtain ⟨⟨h1, h2⟩, h3⟩ := this
    split at h3
    · rename_i z hz; exact ⟨i, z, hi, hz, h1, h2, by simpa using h3⟩
    · cases h3
  · cases this
/-- A row of our own with value v stands in H (or v is nil). -/
class PickR (v : Value) (H : List SA) (e sz : Nat) (xs : outParam (List Value)) (Hr : outParam (List SA)) : Prop where
  ok : SubP (row v e sz xs :: Hr) H ∨ (v = .slice none 0 0 ∧ xs = [] ∧ SubP Hr H)
theorem SubP.both {x : SA} {H H' : List SA} (h : SubP H' H) : SubP (x :: H') (x :: H) := by
  obtain ⟨l, hp, hs⟩ := h
  exact ⟨x :: l, hp.cons x, hs.cons_cons x⟩
instance PickR.tail {v : Value} {H Hr : List SA} {e sz : Nat} {xs : List Value} {x : SA} [h : PickR v H e sz xs Hr] : PickR v (x :: H) e sz xs (x :: Hr) :=
  ⟨h.ok.imp SubP.swap2 fun ⟨h1, h2, h3⟩ => ⟨h1, h2, h3.both⟩⟩
instance PickR.head {v : Value} {H : List SA} {e sz : Nat} {xs : List Value} : PickR v (row v e sz xs :: H) e sz xs H := ⟨.inl (.refl _)⟩
instance (priority := high) PickR.nil {H : List SA} {e sz : Nat} : PickR (.slice none 0 0) H e sz [] H := ⟨.inr ⟨rfl, rfl, .refl _⟩⟩
theorem PickR.st {v : Value} {H Hr : List SA} {e sz : Nat} {xs : List Value} (h : PickR v H e sz xs Hr) {w0 w : World} (hw : St w0 H w) : St w0 (row v e sz xs :: Hr) w := by
  rcases h.ok with h1 | ⟨rfl, rfl, h1⟩
  · exact hw.sub h1
  · exact (hw.sub h1).addNil e sz
class PickB (v : Value) (H : List SA) (e : Nat) (l : outParam (List UInt8)) (Hr : outParam (List SA)) : Prop where
  ok : SubP (row v e 1 (bytesV l) :: Hr) H ∨ (v = .slice none 0 0 ∧ l = [] ∧ SubP Hr H)
instance PickB.tail {v : Value} {H Hr : List SA} {e : Nat} {l : List UInt8} {x : SA} [h : PickB v H e l Hr] : PickB v (x :: H) e l (x :: Hr) :=
  ⟨h.ok.imp SubP.swap2 fun ⟨h1, h2, h3⟩ => ⟨h1, h2, h3.both⟩⟩
instance PickB.head {v : Value} {H : List SA} {e : Nat} {l : List UInt8} : PickB v (row v e 1 (bytesV l) :: H) e l H := ⟨.inl (.refl _)⟩
instance (priority := high) PickB.nil {H : List SA} {e : Nat} : PickB (.slice none 0 0) H e [] H := ⟨.inr ⟨rfl, rfl, .refl _⟩⟩
theorem PickB.st {v : Value} {H Hr : List SA} {e : Nat} {l : List UInt8} (h : PickB v H e l Hr) {w0 w : World} (hw : St w0 H w) : St w0 (row v e 1 (bytesV l) :: Hr) w := by
  rcases h.ok with h1 | ⟨rfl, rfl, h1⟩
  · exact hw.sub h1
  · exact (hw.sub h1).addNil e 1
theorem St.addNilB {w0 w : World} {H : List SA} (e : TypeId) (h : St w0 H w) : St w0 (row (.slice none ([] : List UInt8).length 0) e 1 (bytesV []) :: H) w := h.addNil e 1
theorem St.addNilV {w0 w : World} {H : List SA} (e : TypeId) (h : St w0 H w) : St w0 (row (.slice none ([] : List Value).length 0) e 1 [] :: H) w := h.addNil e 1

theorem row_form {v : Value} {e : TypeId} {xs : List Value} {w0 w : World} {H : List SA} (h : St w0 (row v e 1 xs :: H) w) : ∃ a c, v = .slice a xs.length c := by
  obtain ⟨a, n, c, hv, hl, -⟩ := h.holds (row v e 1 xs) (by simp)
  exact ⟨a, c, by rw [hv, hl, Nat.mul_one]⟩
theorem Ef.mono {o : Oper} {K K' : Value → List SA → Prop} (h : Ef P w0 H σ o K) (hk : ∀ v H' w, K v H' → St w0 H' w → ∃ H'', K' v H'' ∧ St w0 H'' w) : Ef P w0 H σ o K' := fun w hw => by
  have h1 := h w hw
  revert h1
  generalize (execOp (ev σ) o).run P w = r
  cases r with
  | halt _ _ => exact id
  | ok nx w' =>
    cases nx <;> simp only [upon] <;> try exact id
    case value v => exact fun ⟨H', h1, h2⟩ => hk _ _ _ h1 h2
    case skip => exact fun ⟨H', h1, h2⟩ => hk _ _ _ h1 h2
    case enter f args => exact fun hc => hc.mono fun e w'' ⟨v, he, H', h1, h2⟩ => ⟨v, he, hk _ _ _ h1 h2⟩
/-- append of what is read, elements of one cell. -/
theorem Ef_append1 {s x : Operand} {t e bytes : Nat} {sv xv : Value} {xs news : List Value} {Hr : List SA} (hs : ev σ s = sv) (hx : ev σ x = xv) [ht : TySl P t e 1 bytes] [hr : PickR sv H e 1 xs Hr] [hn : RdC w0 H xv 1 news]
    (h1 : ∀ u ∈ news, u.oneCell' = true) (hb : xs.length + news.length ≤ 4294967296) (hby : Nat.ble bytes 32768 = true)
    (h : ∀ a c, K (.slice a (xs ++ news).length c) (row (.slice a (xs ++ news).length c) e 1 (xs ++ news) :: Hr)) : Ef P w0 H σ ⟨d, .call ⟨.builtin .append, #[s, x], #[t, t]⟩, ty, pos, aft, g⟩ K := by
  obtain ⟨i, z, hi, hz, hsz, hby', hzs⟩ := ht.spec
  have hby2 := Nat.le_of_ble_eq_true hby
  refine (Ef_append (K := fun v H' => H' = row v e 1 (xs ++ news) :: Hr) (m := news.length) sv xv hs hx (fun w hw => hr.st hw) hn.rd ht.ht hi hz hsz hby' hzs ht.pos (by simp) h1 (by omega) ?_ (fun _ => rfl)).mono ?_
  · calc (xs.length + news.length) * bytes ≤ 4294967296 * 32768 := Nat.mul_le_mul hb hby2
      _ ≤ 140737488355328 := by decide
  · intro v H' w hH hw
    subst hH
    obtain ⟨a, c, rfl⟩ := row_form hw
    exact ⟨_, h a c, hw⟩
theorem bytesV_append (l l' : List UInt8) : bytesV l ++ bytesV l' = bytesV (l ++ l') := by simp [bytesV]
@[simp] theorem bytesV_length (l : List UInt8) : (bytesV l).length = l.length := by simp [bytesV]
theorem bytesV_one (l : List UInt8) : ∀ u ∈ bytesV l, u.oneCell' = true := by
  intro u hu
  obtain ⟨b, _, rfl⟩ := List.mem_map.1 hu
  rfl
theorem Ef_appendB {s x : Operand} {t e bytes : Nat} {sv xv : Value} {l l' : List UInt8} {Hr : List SA} (hs : ev σ s = sv) (hx : ev σ x = xv) [ht : TySl P t e 1 bytes] [hr : PickB sv H e l Hr] [hn : RdB w0 H xv l']
    (hb : l.length + l'.length ≤ 4294967296) (hby : Nat.ble bytes 32768 = true)
    (h : ∀ a c, K (.slice a (l ++ l').length c) (row (.slice a (l ++ l').length c) e 1 (bytesV (l ++ l')) :: Hr)) : Ef P w0 H σ ⟨d, .call ⟨.builtin .append, #[s, x], #[t, t]⟩, ty, pos, aft, g⟩ K := by
  obtain ⟨i, z, hi, hz, hsz, hby', hzs⟩ := ht.spec
  have hby2 := Nat.le_of_ble_eq_true hby
  refine (Ef_append (K := fun v H' => H' = row v e 1 (bytesV l ++ bytesV l') :: Hr) (m := l'.length) sv xv hs hx (fun w hw => hr.st hw) hn.rd ht.ht hi hz hsz hby' hzs ht.pos (by simp) (bytesV_one l') (by simp; omega) ?_ (fun _ => rfl)).mono ?_
  · calc ((bytesV l).length + (bytesV l').length) * bytes ≤ 4294967296 * 32768 := Nat.mul_le_mul (by simpa using hb) hby2
      _ ≤ 140737488355328 := by decide
  · intro v H' w hH hw
    subst hH
    rw [bytesV_append] at hw
    obtain ⟨a, c, rfl⟩ := row_form hw
    rw [bytesV_length] at hw
    exact ⟨_, by simpa using h a c, hw⟩
def u8Of (x : Int) : UInt8 := UInt8.ofNat x.toNat
theorem byteV_u8Of {x : Int} (h0 : 0 ≤ x) (h1 : x < 256) : byteV (u8Of x) = .int .u8 x := by
  simp only [byteV, u8Of]
  congr 1
  rw [UInt8.toNat_ofNat']
  omega
theorem wrap_u8_range (x : Int) : 0 ≤ IntKind.u8.wrap x ∧ IntKind.u8.wrap x < 256 := by
  simp [IntKind.wrap, IntKind.bits, IntKind.signed]; omega
/-- append of one byte that was put into a slice of its own. -/
theorem Ef_appendb {s x : Operand} {t e bytes : Nat} {sv xv : Value} {l : List UInt8} {n : Int} {Hr : List SA} (hs : ev σ s = sv) (hx : ev σ x = xv) [ht : TySl P t e 1 bytes] [hr : PickB sv H e l Hr] [hn : RdC w0 H xv 1 [.int .u8 n]]
    (h0 : 0 ≤ n ∧ n < 256) (hb : l.length ≤ 4294967295) (hby : Nat.ble bytes 32768 = true)
    (h : ∀ a c, K (.slice a (l ++ [u8Of n]).length c) (row (.slice a (l ++ [u8Of n]).length c) e 1 (bytesV (l ++ [u8Of n])) :: Hr)) : Ef P w0 H σ ⟨d, .call ⟨.builtin .append, #[s, x], #[t, t]⟩, ty, pos, aft, g⟩ K := by
  have hn' : RdB w0 H xv [u8Of n] := ⟨fun w hw => by
    have := hn.rd w hw
    simp only [BytesAt, bytesV, List.map_cons, List.map_nil, byteV_u8Of h0.1 h0.2]; exact this⟩
  exact Ef_appendB hs hx (by simp; omega) hby h

/-- '[]T{x}' with one element of one cell, and '[]T{}': a row of our own. -/
theorem Ef_slice1 {x : Operand} {t e bytes : Nat} {v : Value} (hx : ev σ x = v) [ho : One v] [hts : TySl P t e 1 bytes]
    (h : ∀ a c, K (.slice a 1 c) (row (.slice a 1 c) e 1 [v] :: H)) : Ef P w0 H σ ⟨d, .buildSlice t 1 #[(0, x)], ty, pos, aft, g⟩ K := fun w hw => by
  obtain ⟨i, z, hi, hz, hsz, -, hzs⟩ := hts.spec
  have ht := hts.ht
  have hz' : (P.info? e).bind (·.zero) = some z := by simp [hi, hz]
  have hr : (execOp (ev σ) ⟨d, .buildSlice t 1 #[(0, x)], ty, pos, aft, g⟩).run P w = .ok (.value (.slice (some ⟨w.heap.size, 0, none⟩) 1 1)) (w.alloc (.cells #[v] e)) := by
    have hc := cells_one ho.ok
    have hzz : z.cells.size % z.cells.size = 0 := by simp
    have hrg : ((Array.map (fun x => z.cells[x % 1]!) (Array.range 1)).setIfInBounds 0 v) = #[v] := by
      apply Array.ext (by simp)
      intro i h1 h2
      have : i = 0 := by simp at h2; omega
      subst this
      simp
    simp [execOp, Instr.buildSlice, run_underlying ht, run_sizeOf_of hi, hsz, run_zeroValue_of hz', hx, Instr.fill, hc, hzs, newRow, World.alloc_eq, hrg]
  rw [hr]
  refine ⟨_, h _ _, hw.fresh rfl rfl rfl (by simp) (fun k hk => heap_alloc_old w _ hk) ⟨_, _, _, rfl, by simp, Nat.le_refl _, by unfold maxLen; omega, by simp, fun _ => ⟨_, _, rfl, heap_alloc_new w _, by simp, by simp⟩⟩ (by simp [row, rowFp]) (by simp [row, rowFp])⟩
theorem Ef_slice0 {t e sz bytes : Nat} [hts : TySl P t e sz bytes]
    (h : ∀ a c, K (.slice a 0 c) (row (.slice a 0 c) e sz [] :: H)) : Ef P w0 H σ ⟨d, .buildSlice t 0 #[], ty, pos, aft, g⟩ K := fun w hw => by
  obtain ⟨i, z, hi, hz, hsz, -, hzs⟩ := hts.spec
  have ht := hts.ht
  have hr : (execOp (ev σ) ⟨d, .buildSlice t 0 #[], ty, pos, aft, g⟩).run P w = .ok (.value (.slice (some ⟨w.heap.size, 0, none⟩) 0 0)) (w.alloc (.cells #[] e)) := by
    have hrg : (Array.map (fun _ => (default : Value)) (Array.range 0)) = #[] := by apply Array.ext <;> simp
    simp [hrg, execOp, Instr.buildSlice, run_underlying ht, run_sizeOf_of hi, hsz, Instr.fill, newRow, World.alloc_eq]
  rw [hr]
  refine ⟨_, h _ _, hw.fresh rfl rfl rfl (by simp) (fun k hk => heap_alloc_old w _ hk) ⟨_, _, _, rfl, by simp, Nat.le_refl _, by unfold maxLen; omega, by simp, fun h => absurd rfl h⟩ (by simp [row, rowFp]) (by simp [row, rowFp])⟩
end
instance PickB.head0 {v : Value} {H : List SA} {e : Nat} : PickB v (row v e 1 [] :: H) e [] H := ⟨.inl (.refl _)⟩

/-! ## Calls -/
def CT (P : Program) (w0 : World) (H : List SA) (f : FuncId) (args : List Value) {α : Type} (val : α → Value) (H' : α → List SA) : Prop :=
  ∀ w, St w0 H w → Calls P f args.toArray w fun e w' => ∃ x, e = .returned (val x) ∧ St w0 (H' x) w'

theorem Ef_call {P : Program} {w0 : World} {σ : Env} {H : List SA} {d : Option Nat} {ty : TypeId} {pos : String} {aft : Array Edge} {g : Option (Nat × Bool)} {K : Value → List SA → Prop}
    {f : FuncId} {args : List Operand} {ats : Array TypeId} {argv : List Value} {α : Type} {val : α → Value} {H' : α → List SA} [hf : FnOk P f] (hc : CT P w0 H f argv val H') (ha : args.map (ev σ) = argv) (h : ∀ x, K (val x) (H' x)) :
    Ef P w0 H σ ⟨d, .call ⟨.value (.func f), args.toArray, ats⟩, ty, pos, aft, g⟩ K := fun w hw => by
  have hok := hf.ok
  split at hok
  · rename_i fn hfn
    simp only [Bool.and_eq_true, Bool.not_eq_true', beq_eq_false_iff_ne, ne_eq] at hok
    obtain ⟨h1, h2⟩ := hok
    obtain ⟨bd, hbd⟩ := Option.isSome_iff_exists.1 h2
    have : (execOp (ev σ) ⟨d, .call ⟨.value (.func f), args.toArray, ats⟩, ty, pos, aft, g⟩).run P w = .ok (.enter f argv.toArray) w := by
      subst ha
      simp [execOp, resolve, invoke, ev, Deferred.ofValue, callFunc, hfn, h1, hbd]
    rw [this]
    refine (hc w hw).mono fun e w' ⟨x, he, hs⟩ => ⟨val x, he, H' x, h x, hs⟩
  · cases hok

section
variable {P : Program} {n : Fr} {w0 : World} {σ : Env} {H : List SA} {Q : Post}
theorem TL_split {all : Array Oper} {l : List Oper} (s : Nat) {b : Bool} (hb : σ s = .bool b) (h1 : b = true → TL P n w0 all l σ H Q) (h2 : b = false → TL P n w0 all l σ H Q) : TL P n w0 all l σ H Q := by
  cases b
  · exact h2 rfl
  · exact h1 rfl
theorem DL_split {S : List SA} {ops : Array Oper} {r : List (Nat × Bool)} (s : Nat) {b : Bool} (hb : σ s = .bool b) (h1 : b = true → DL P n w0 S ops r σ H Q) (h2 : b = false → DL P n w0 S ops r σ H Q) : DL P n w0 S ops r σ H Q := by
  cases b
  · exact h2 rfl
  · exact h1 rfl
theorem yielded_undef {ops : Array Oper} {a : Act} {j s : Nat} (ha : Rep n a σ) (hs : (ops[j]?).bind (·.dst) = some s) (hb : σ s = undef) : yielded ops a.tmps j = none := by
  have hb' := ha.2.2 s
  rw [hb] at hb'
  rcases Nat.lt_or_ge s a.tmps.size with hlt | hge
  · simp [Array.getD, hlt] at hb'
    simp [yielded, hs, hlt, hb', undef]
  · simp [yielded, hs, Array.getElem?_eq_none hge]
theorem TL_passU {all : Array Oper} {rest : List Oper} {d j s : Nat} {want : Bool} {op : Op} {ty : TypeId} {pos : String} {aft : Array Edge} (hs : (all[j]?).bind (·.dst) = some s) (hb : σ s = undef) (hd : Nat.blt d n.n = true)
    (h : TL P n w0 all rest (upd σ d undef) H Q) : TL P n w0 all (⟨some d, op, ty, pos, aft, some (j, want)⟩ :: rest) σ H Q := fun a w ha hw => by
  have h1 := h (a.put (some d) undef) w (ha.put hd) hw
  have hy := yielded_undef ha hs hb
  simp only [wpList, Region.wanted, hy] at h1 ⊢
  rw [if_neg (by simp)]
  exact h1
theorem DL_passU {S : List SA} {ops : Array Oper} {r : List (Nat × Bool)} {i d j s : Nat} {want : Bool} {op : Op} {ty : TypeId} {pos : String} {aft : Array Edge} (hns : Region.noSelect ops = true) (hi : ops[i]? = some ⟨some d, op, ty, pos, aft, some (j, want)⟩) (hs : (ops[j]?).bind (·.dst) = some s) (hb : σ s = undef)
    (hd : Nat.blt d n.n = true) (h : DL P n w0 S ops r (upd σ d undef) H Q) : DL P n w0 S ops ((i, true) :: r) σ H Q :=
  DL_yield hns hi (fun a ha => .inr ⟨by simp only [Region.wanted, yielded_undef ha hs hb]; rfl, rfl⟩) (fun a ha => ha.put hd) h
/-- A number that was to come as it comes, but whose guard says no. -/
theorem DL_skip {S : List SA} {ops : Array Oper} {r : List (Nat × Bool)} {i : Nat} {o : Oper} {σ' : Env} (hi : ops[i]? = some o) (hnot : ∀ a, Rep n a σ → Region.wanted o (yielded ops a.tmps) = false)
    (hput : ∀ a, Rep n a σ → Rep n (a.put o.dst undef) σ') (h : DL P n w0 S ops r σ' H Q) : DL P n w0 S ops ((i, false) :: r) σ H Q := fun a w ha hw hS fuel listed hf hok => by
  subst hf
  simp only [okOrd, Bool.and_eq_true, beq_iff_eq] at hok
  refine wpAnyH_all hok.1 (by simp) fun j hj => ?_
  obtain rfl : j = i := by simpa using hj
  unfold wpOp
  simp only [hi, hnot a ha, Bool.false_eq_true, if_false]
  exact ⟨hS, h _ _ (hput a ha) hw hS _ _ rfl hok.2⟩
theorem DL_passF {S : List SA} {ops : Array Oper} {r : List (Nat × Bool)} {i d j s : Nat} {want b : Bool} {op : Op} {ty : TypeId} {pos : String} {aft : Array Edge} (hi : ops[i]? = some ⟨some d, op, ty, pos, aft, some (j, want)⟩) (hs : (ops[j]?).bind (·.dst) = some s) (hb : σ s = .bool b) (hbw : b = !want)
    (hd : Nat.blt d n.n = true) (h : DL P n w0 S ops r (upd σ d undef) H Q) : DL P n w0 S ops ((i, false) :: r) σ H Q :=
  DL_skip hi (fun a ha => by simp only [Region.wanted, yielded_of ha hs hb, hbw]; cases want <;> rfl) (fun a ha => ha.put hd) h
theorem DL_passUF {S : List SA} {ops : Array Oper} {r : List (Nat × Bool)} {i d j s : Nat} {want : Bool} {op : Op} {ty : TypeId} {pos : String} {aft : Array Edge} (hi : ops[i]? = some ⟨some d, op, ty, pos, aft, some (j, want)⟩) (hs : (ops[j]?).bind (·.dst) = some s) (hb : σ s = undef)
    (hd : Nat.blt d n.n = true) (h : DL P n w0 S ops r (upd σ d undef) H Q) : DL P n w0 S ops ((i, false) :: r) σ H Q :=
  DL_skip hi (fun a ha => by simp only [Region.wanted, yielded_undef ha hs hb]; rfl) (fun a ha => ha.put hd) h
theorem DL_pure {S : List SA} {ops : Array Oper} {r : List (Nat × Bool)} {p : Prop} (h : p → DL P n w0 S ops r σ H Q) : DL P n w0 S ops r σ (pu p :: H) Q := fun a w ha hw => h hw.pure a w ha hw.tail
theorem DL_conv {S H' : List SA} {ops : Array Oper} {r : List (Nat × Bool)} (hs : ∀ w, St w0 H w → St w0 H' w) (h : DL P n w0 S ops r σ H' Q) : DL P n w0 S ops r σ H Q := fun a w ha hw => h a w ha (hs w hw)
section
variable {S : List SA} {ops : Array Oper} {i d : Nat} {r : List (Nat × Bool)} {op : Op} {ty : TypeId} {pos : String} {aft : Array Edge} {gd : Nat × Bool}
/-- An operation whose guard says yes, as it comes. -/
theorem DL_eg {j s : Nat} {want b : Bool} (hi : ops[i]? = some ⟨some d, op, ty, pos, aft, some (j, want)⟩) (hs : (ops[j]?).bind (·.dst) = some s) (hb : σ s = .bool b) (hbw : b = want) (hd : Nat.blt d n.n = true)
    (h : Ef P w0 H σ ⟨some d, op, ty, pos, aft, some (j, want)⟩ fun v H' => (∀ w, St w0 H' w → St w0 S w) ∧ DL P n w0 S ops r (upd σ d v) H' Q) : DL P n w0 S ops ((i, false) :: r) σ H Q :=
  DL_step hi (fun a ha => by simp only [Region.wanted, yielded_of ha hs hb, hbw, beq_self_eq_true]) (h.mono fun v H' w ⟨h1, h2⟩ hw => ⟨H', ⟨h1, _, fun a ha => ha.put hd, h2⟩, hw⟩)
end
end

/-! ## Entry and exit -/
def initE : Nat → List Value → Env → Env
  | _, [], σ => σ
  | i, v :: vs, σ => initE (i + 1) vs (upd σ i v)
theorem initE_spec : ∀ (vs : List Value) (i : Nat) (σ : Env) (t : Nat), initE i vs σ t = if h : i ≤ t ∧ t < i + vs.length then vs[t - i]'(by omega) else σ t
  | [], i, σ, t => by simp [initE]; omega
  | v :: vs, i, σ, t => by
    rw [initE, initE_spec vs (i + 1) (upd σ i v) t]
    by_cases h : i + 1 ≤ t ∧ t < i + 1 + vs.length
    · rw [dif_pos h, dif_pos (by simp; omega)]
      obtain ⟨k, hk⟩ : ∃ k, t - i = k + 1 := ⟨t - i - 1, by omega⟩
      have : t - (i + 1) = k := by omega
      simp [hk, this]
    · rw [dif_neg h]
      by_cases e : t = i
      · subst e
        have : Nat.beq t t = true := Nat.beq_refl t
        simp [upd, this]
      · have : Nat.beq i t = false := by
          cases hb : Nat.beq i t
          · rfl
          · exact absurd (Nat.eq_of_beq_eq_true hb).symm e
        simp only [upd, this, cond_false]
        rw [dif_neg (by simp; omega)]
theorem rep_init {n : Nat} {args : List Value} (h : args.length ≤ n) : Rep ⟨n, []⟩ { tmps := args.toArray ++ Array.replicate (n - args.toArray.size) undef, defers := [] } (initE 0 args env0) := by
  refine ⟨by simp; omega, rfl, fun t => ?_⟩
  rw [initE_spec]
  by_cases ht : t < args.length
  · rw [dif_pos ⟨Nat.zero_le _, by simpa using ht⟩]
    simp [Array.getD, Array.getElem_append, ht]
    intro h'; omega
  · rw [dif_neg (by simp; omega)]
    simp only [Array.getD, env0]
    split
    · show (args.toArray ++ Array.replicate (n - args.toArray.size) undef)[t] = undef
      rw [Array.getElem_append_right (by simp; omega)]
      simp
    · rfl

def ResAre (P : Program) (w0 : World) (H : List SA) (σ : Env) : List ResultVar → List Value → Prop
  | [], [] => True
  | .tmp t :: rs, v :: vs => σ t = v ∧ ResAre P w0 H σ rs vs
  | .cell a t :: rs, v :: vs => (∃ ad, σ a = .pointer (some ad) ∧ ∀ w, St w0 H w → (loadVar t ad).run P w = .ok v w) ∧ ResAre P w0 H σ rs vs
  | _, _ => False
def retVal : List Value → Value
  | [v] => v
  | vs => .tuple vs.toArray
def retQ (P : Program) (n : Fr) (w0 : World) (fn : Func) {α : Type} (val : α → Value) (H' : α → List SA) : Post := fun e σ w => match e with
  | .normal | .ret => ∃ x, (∀ a, Rep n a σ → (results fn a.tmps).run P w = .ok (val x) w) ∧ St w0 (H' x) w
  | _ => False
def resF (tmps : Array Value) : ResultVar → Sem Value
  | .tmp t => pure (tmps.getD t undef)
  | .cell a t => do loadVar t (← asAddr (tmps.getD a undef))
theorem results_eq (fn : Func) (tmps : Array Value) : results fn tmps = (do
    let vs ← fn.results.mapM (resF tmps)
    pure (if h : vs.size = 1 then vs[0] else .tuple vs)) := rfl
theorem run_results {P : Program} {w0 w : World} {H : List SA} {σ : Env} (hw : St w0 H w) {tmps : Array Value} (ht : ∀ t, tmps.getD t undef = σ t) : ∀ (rs : List ResultVar) (vs : List Value), ResAre P w0 H σ rs vs →
    (rs.mapM (resF tmps)).run P w = .ok vs w
  | [], [], _ => rfl
  | .tmp t :: rs, v :: vs, h => by
    rw [List.mapM_cons]
    simp only [Sem.run_bind, run_results hw ht rs vs h.2, resF, Sem.run_pure, Result.andThen_ok, ht, h.1]
  | .cell a t :: rs, v :: vs, h => by
    obtain ⟨⟨ad, h1, h2⟩, h3⟩ := h
    rw [List.mapM_cons]
    simp only [Sem.run_bind, run_results hw ht rs vs h3, resF, Sem.run_pure, Result.andThen_ok, ht, h1, asAddr, h2 w hw]
theorem X_ret {P : Program} {n : Fr} {w0 : World} {H : List SA} {σ : Env} {fn : Func} {α : Type} {val : α → Value} {H' : α → List SA} {rs : List ResultVar} {e : Exit} (x : α) (vs : List Value) (hr : fn.results = rs.toArray)
    (hv : ResAre P w0 H σ rs vs) (hx : retVal vs = val x) (hH : ∀ w, St w0 H w → St w0 (H' x) w) (he : e = .normal ∨ e = .ret := by simp) : X w0 e (retQ P n w0 fn val H') σ H := fun w hw => by
  have key : ∃ x, (∀ a, Rep n a σ → (results fn a.tmps).run P w = .ok (val x) w) ∧ St w0 (H' x) w := by
    refine ⟨x, fun a ha => ?_, hH w hw⟩
    have h1 := run_results hw ha.2.2 rs vs hv
    have hlen : (rs.length = 1 → ∃ v, vs = [v]) ∧ (rs.length ≠ 1 → vs.length ≠ 1) := by
      have : ∀ (rs : List ResultVar) (vs : List Value), ResAre P w0 H σ rs vs → rs.length = vs.length := by
        intro rs
        induction rs with
        | nil => intro vs h; cases vs <;> simp_all [ResAre]
        | cons r rs ih => intro vs h; cases vs with
          | nil => cases r <;> simp [ResAre] at h
          | cons v vs => cases r <;> simp [ResAre] at h <;> simp [ih vs h.2]
      have := this rs vs hv
      refine ⟨fun h => ?_, fun h => by omega⟩
      rw [this] at h
      exact List.length_eq_one_iff.1 h
    rw [← hx]
    have h2 : (rs.toArray.mapM (resF a.tmps)).run P w = .ok vs.toArray w := by
      rw [List.mapM_toArray]
      simp only [Sem.run_map, h1, Result.andThen_ok]
    rw [results_eq, hr]
    simp only [Sem.run_bind, h2, Result.andThen_ok, Sem.run_pure]
    congr 1
    by_cases hl : vs.length = 1
    · obtain ⟨v, rfl⟩ := List.length_eq_one_iff.1 hl
      simp [retVal]
    · simp only [List.size_toArray, hl, dif_neg, not_false_eq_true]
      cases vs with
      | nil => rfl
      | cons v vs => cases vs with
        | nil => simp at hl
        | cons u us => rfl
  rcases he with rfl | rfl <;> exact key

theorem CT_intro {P : Program} {w0 : World} {H : List SA} {f n : Nat} {args : List Value} {α : Type} {val : α → Value} {H' : α → List SA} {fn : Func} {c : Code} (hf : P.funcs[f]? = some fn) (hb : fn.body = some c) (hn : fn.ntmps = n) (hl : Nat.ble args.length n = true)
    (h : T P ⟨n, []⟩ w0 c (initE 0 args env0) H (retQ P ⟨n, []⟩ w0 fn val H')) : CT P w0 H f args val H' := fun w hw => by
  refine calls_of_wp hf hb ?_
  have ha := rep_init (args := args) (n := n) (Nat.le_of_ble_eq_true hl)
  rw [hn]
  refine wp_mono (h _ w ha hw) fun e a w' hq => ?_
  cases e with
  | normal =>
    obtain ⟨σ', h1, x, h2, h3⟩ := hq
    exact ⟨h1.2.1, val x, h2 a h1, x, rfl, h3⟩
  | ret =>
    obtain ⟨σ', h1, x, h2, h3⟩ := hq
    exact ⟨h1.2.1, val x, h2 a h1, x, rfl, h3⟩
  | panic c => exact hq.2.elim
  | outgrown => exact hq.elim
  | exit j => obtain ⟨σ', _, h2⟩ := hq; exact h2.elim
  | goto j => obtain ⟨σ', _, h2⟩ := hq; exact h2.elim

/-! ## Loops and cuts -/
def memN : List Nat → Nat → Bool
  | [], _ => false
  | s :: ss, i => bif Nat.beq s i then true else memN ss i
def mix (ws : List Nat) (τ σ : Env) : Env := fun i => bif memN ws i then τ i else σ i
def setAll : Env → List Nat → List Value → Env
  | σ, s :: ss, v :: vs => setAll (upd σ s v) ss vs
  | σ, _, _ => σ
def agree (ws : List Nat) (σ σ' : Env) : Prop := ∀ i, memN ws i = false → σ' i = σ i
theorem agree_refl {ws : List Nat} {σ : Env} : agree ws σ σ := fun _ _ => rfl
theorem agree_upd {ws : List Nat} {σ σ' : Env} {s : Nat} {v : Value} (hs : memN ws s = true) (h : agree ws σ σ') : agree ws σ (upd σ' s v) := fun i hi => by
  have : Nat.beq s i = false := by
    cases hb : Nat.beq s i
    · rfl
    · rw [Nat.eq_of_beq_eq_true hb, hi] at hs; cases hs
  simp only [upd, this, cond_false]
  exact h i hi
theorem agree_mix {ws ws' : List Nat} {σ σ' τ : Env} (hs : ws'.all (memN ws) = true) (h : agree ws σ σ') : agree ws σ (mix ws' τ σ') := fun i hi => by
  have : memN ws' i = false := by
    have key : ∀ l : List Nat, l.all (memN ws) = true → memN l i = false := by
      intro l
      induction l with
      | nil => intro _; rfl
      | cons s ss ih =>
        intro hl
        simp only [List.all_cons, Bool.and_eq_true] at hl
        have : Nat.beq s i = false := by
          cases hb : Nat.beq s i
          · rfl
          · rw [Nat.eq_of_beq_eq_true hb, hi] at hl; exact absurd hl.1 (by simp)
        simp only [memN, this, cond_false]
        exact ih hl.2
    exact key ws' hs
  simp only [mix, this, cond_false]
  exact h i hi
theorem agree_setAll {ws : List Nat} {σ σ' : Env} : ∀ {ss : List Nat} {vs : List Value}, ss.all (memN ws) = true → agree ws σ σ' → agree ws σ (setAll σ' ss vs)
  | [], _, _, h => h
  | _ :: _, [], _, h => h
  | s :: ss, v :: vs, hs, h => by
    simp only [List.all_cons, Bool.and_eq_true] at hs
    exact agree_setAll (ss := ss) (vs := vs) hs.2 (agree_upd hs.1 h)
theorem mix_self {ws : List Nat} {σ σ' : Env} (h : agree ws σ σ') : mix ws σ' σ = σ' := by
  funext i
  simp only [mix]
  cases hm : memN ws i
  · simp [h i hm]
  · simp
theorem upd_self (σ : Env) (s : Nat) : upd σ s (σ s) = σ := by
  funext i
  simp only [upd]
  cases hb : Nat.beq s i
  · simp
  · simp [Nat.eq_of_beq_eq_true hb]
theorem setAll_self (σ : Env) : ∀ ss : List Nat, setAll σ ss (ss.map σ) = σ
  | [] => rfl
  | s :: ss => by simp only [List.map_cons, setAll, upd_self, setAll_self σ ss]

section
variable {P : Program} {n : Fr} {w0 : World} {σ : Env} {H : List SA} {Q : Post}
theorem TL_drop {all : Array Oper} {l : List Oper} (H' : List SA) [hs : Subs H' H] (h : TL P n w0 all l σ H' Q) : TL P n w0 all l σ H Q := TL_conv hs.st h
def loopQ (w0 : World) (σ0 : Env) (ws slots : List Nat) (I : List Value → List SA → Prop) (μ : List Value → Nat) (m : Nat) (Q : Post) : Post := fun e σ w => match e with
  | .normal => agree ws σ0 σ ∧ ∃ H', I (slots.map σ) H' ∧ μ (slots.map σ) < m ∧ St w0 H' w
  | e => Q e σ w
theorem T_loop {c : Code} {H0 : List SA} (ws slots : List Nat) (I : List Value → List SA → Prop) (μ : List Value → Nat) (h0 : I (slots.map σ) H0) (hH : ∀ w, St w0 H w → St w0 H0 w)
    (hr : ∀ τ vs H', I vs H' → vs.length = slots.length → T P n w0 c (setAll (mix ws τ σ) slots vs) H' (loopQ w0 σ ws slots I μ (μ vs) Q)) : T P n w0 (.loop c) σ H Q := fun a w ha hw => by
  refine wp_loop (fun a w => ∃ σ', Rep n a σ' ∧ agree ws σ σ' ∧ ∃ H', I (slots.map σ') H' ∧ St w0 H' w) (fun a _ => μ (slots.map fun s => a.tmps.getD s undef)) ⟨σ, ha, agree_refl, H0, h0, hH w hw⟩ ?_
  rintro a w ⟨σ', h1, h2, H', h3, h4⟩
  have e1 : (slots.map fun s => a.tmps.getD s undef) = slots.map σ' := List.map_congr_left fun s _ => h1.2.2 s
  have hround := hr σ' (slots.map σ') H' h3 (by simp)
  rw [mix_self h2, setAll_self] at hround
  refine wp_mono (hround a w h1 h4) fun e a' w' hq => ?_
  cases e with
  | normal =>
    obtain ⟨σ'', g1, g2, H'', g3, g4, g5⟩ := hq
    have e2 : (slots.map fun s => a'.tmps.getD s undef) = slots.map σ'' := List.map_congr_left fun s _ => g1.2.2 s
    refine ⟨⟨σ'', g1, g2, H'', g3, g5⟩, ?_⟩
    rw [e1, e2]; exact g4
  | _ => exact hq
theorem X_loop {σ0 : Env} {ws slots : List Nat} {I : List Value → List SA → Prop} {μ : List Value → Nat} {m : Nat} (H' : List SA) (ha : agree ws σ0 σ) (hI : I (slots.map σ) H') (hm : μ (slots.map σ) < m) (hH : ∀ w, St w0 H w → St w0 H' w) :
    X w0 .normal (loopQ w0 σ0 ws slots I μ m Q) σ H := fun w hw => ⟨ha, H', hI, hm, hH w hw⟩
theorem X_loop_exit {σ0 : Env} {ws slots : List Nat} {I : List Value → List SA → Prop} {μ : List Value → Nat} {m j : Nat} (h : X w0 (.exit j) Q σ H) : X w0 (.exit j) (loopQ w0 σ0 ws slots I μ m Q) σ H := h
theorem X_loop_ret {σ0 : Env} {ws slots : List Nat} {I : List Value → List SA → Prop} {μ : List Value → Nat} {m : Nat} (h : X w0 .ret Q σ H) : X w0 .ret (loopQ w0 σ0 ws slots I μ m Q) σ H := h

/-- A loop with a number beside the frame that falls in every round. -/
theorem wp_loop_ghost {c : Code} {Q : Exit → Act → World → Prop} {a : Act} {w : World} (J : Act → World → Nat → Prop) (m0 : Nat) (h₀ : J a w m0)
    (round : ∀ a w m, J a w m → c.wp P (Exit.then (fun a' w' => ∃ m', m' < m ∧ J a' w' m') Q) a w) : (Code.loop c).wp P Q a w := by
  intro b k cs
  have key : ∀ m a w, J a w m → ∃ e a' w', Q e a' w' ∧ Arrives P (lone (b.at a (.code c :: .inLoop c :: k)) cs w) b k cs e a' w' := by
    intro m
    induction m using Nat.strongRecOn with
    | _ m ih =>
      intro a w hJ
      obtain ⟨e, a₁, w₁, hq, harr⟩ := round a w m hJ b (.inLoop c :: k) cs
      cases e with
      | normal =>
        obtain ⟨m', hlt, hJ'⟩ := hq
        obtain ⟨e₂, a₂, w₂, hq₂, harr₂⟩ := ih m' hlt a₁ w₁ hJ'
        exact ⟨e₂, a₂, w₂, hq₂, .of_steps (Steps.trans harr (.one step_inLoop)) harr₂⟩
      | exit id => exact ⟨_, a₁, w₁, hq, .pass (x := .inLoop c) rfl (fun _ _ => .inl (by simp)) harr⟩
      | goto l => exact ⟨_, a₁, w₁, hq, .pass (x := .inLoop c) rfl (fun _ _ => .inl (by simp)) harr⟩
      | ret => exact ⟨_, a₁, w₁, hq, .pass (x := .inLoop c) rfl (fun _ _ => .inl (by simp)) harr⟩
      | panic ch => exact ⟨_, a₁, w₁, hq, .pass (x := .inLoop c) rfl (fun _ _ => .inl (by simp)) harr⟩
      | outgrown => exact ⟨_, a₁, w₁, hq, .pass (x := .inLoop c) rfl (fun _ _ => .inl (by simp)) harr⟩
  obtain ⟨e, a', w', hq, harr⟩ := key _ a w h₀
  exact ⟨e, a', w', hq, .of_steps (.one step_loop) harr⟩
def loopgQ (w0 : World) (σ0 : Env) (ws slots : List Nat) (I : List Value → List SA → Nat → Prop) (m : Nat) (Q : Post) : Post := fun e σ w => match e with
  | .normal => agree ws σ0 σ ∧ ∃ H' m', I (slots.map σ) H' m' ∧ m' < m ∧ St w0 H' w
  | e => Q e σ w
theorem T_loopg {c : Code} {H0 : List SA} {m0 : Nat} (ws slots : List Nat) (I : List Value → List SA → Nat → Prop) (h0 : I (slots.map σ) H0 m0) (hH : ∀ w, St w0 H w → St w0 H0 w)
    (hr : ∀ τ vs H' m, I vs H' m → vs.length = slots.length → T P n w0 c (setAll (mix ws τ σ) slots vs) H' (loopgQ w0 σ ws slots I m Q)) : T P n w0 (.loop c) σ H Q := fun a w ha hw => by
  refine wp_loop_ghost (fun a w m => ∃ σ', Rep n a σ' ∧ agree ws σ σ' ∧ ∃ H', I (slots.map σ') H' m ∧ St w0 H' w) m0 ⟨σ, ha, agree_refl, H0, h0, hH w hw⟩ ?_
  rintro a w m ⟨σ', h1, h2, H', h3, h4⟩
  have hround := hr σ' (slots.map σ') H' m h3 (by simp)
  rw [mix_self h2, setAll_self] at hround
  refine wp_mono (hround a w h1 h4) fun e a' w' hq => ?_
  cases e with
  | normal =>
    obtain ⟨σ'', g1, g2, H'', m', g3, g4, g5⟩ := hq
    exact ⟨m', g4, σ'', g1, g2, H'', g3, g5⟩
  | _ => exact hq
theorem X_loopg {σ0 : Env} {ws slots : List Nat} {I : List Value → List SA → Nat → Prop} {m m' : Nat} (H' : List SA) (ha : agree ws σ0 σ) (hI : I (slots.map σ) H' m') (hm : m' < m) (hH : ∀ w, St w0 H w → St w0 H' w) :
    X w0 .normal (loopgQ w0 σ0 ws slots I m Q) σ H := fun w hw => ⟨ha, H', m', hI, hm, hH w hw⟩
theorem X_loopg_exit {σ0 : Env} {ws slots : List Nat} {I : List Value → List SA → Nat → Prop} {m j : Nat} (h : X w0 (.exit j) Q σ H) : X w0 (.exit j) (loopgQ w0 σ0 ws slots I m Q) σ H := h
def cutQ (w0 : World) (σ0 : Env) (ws slots : List Nat) (J : List Value → List SA → Prop) (Q : Post) : Post := fun e σ w => match e with
  | .normal => agree ws σ0 σ ∧ ∃ H', J (slots.map σ) H' ∧ St w0 H' w
  | e => Q e σ w
/-- The ways through c meet again behind it. -/
theorem T_cut {c y : Code} (ws slots : List Nat) (J : List Value → List SA → Prop) (hc : T P n w0 c σ H (cutQ w0 σ ws slots J Q))
    (hr : ∀ τ vs H', J vs H' → vs.length = slots.length → T P n w0 y (setAll (mix ws τ σ) slots vs) H' Q) : T P n w0 (.seq c y) σ H Q := fun a w ha hw => by
  refine wp_seq (wp_mono (hc a w ha hw) fun e a' w' hq => ?_)
  cases e with
  | normal =>
    obtain ⟨σ', g1, g2, H', g3, g4⟩ := hq
    have := hr σ' (slots.map σ') H' g3 (by simp)
    rw [mix_self g2, setAll_self] at this
    exact this a' w' g1 g4
  | _ => exact hq
theorem X_cut {σ0 : Env} {ws slots : List Nat} {J : List Value → List SA → Prop} (H' : List SA) (ha : agree ws σ0 σ) (hJ : J (slots.map σ) H') (hH : ∀ w, St w0 H w → St w0 H' w) :
    X w0 .normal (cutQ w0 σ0 ws slots J Q) σ H := fun w hw => ⟨ha, H', hJ, hH w hw⟩
end
end Go.Sx
