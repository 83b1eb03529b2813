/- Maps in the small symbolic-execution layer: made, looked up, stored into, deleted from, ranged over. General. -/
import Derived.Test.YtgeknnclmhfjlaaGreatDoorSvP
set_option linter.unusedSimpArgs false
set_option linter.unusedVariables false
namespace Go.Sx
open Go.RowKit

/-- Keys of type K, as the values of κ. -/
class Key (P : Program) (K : TypeId) {κ : Type} [DecidableEq κ] (enc : κ → Value) : Prop where
  eq : ∀ (x y : κ) (w : World), (Op.equal K (enc x) (enc y)).run P w = .ok (decide (x = y)) w
  now : ∀ (d : TypeDesc), P.underlying K = some d → ∀ x y : κ, Instr.sameNow d (enc x) (enc y) = none ∨ Instr.sameNow d (enc x) (enc y) = some (decide (x = y))
  there : (P.underlying K).isSome = true
  check : ∀ (k : κ) (empty : Bool) (w : World), (Instr.checkKey empty 10000 K (enc k)).run P w = .ok () w
  same : ∀ k : κ, Instr.sameBits 10000 (enc k) (enc k) = true
structure Ent (κ ν : Type) where
  k : κ
  v : ν
  b : Nat
section
variable {κ ν : Type} [DecidableEq κ]
def entV (enc : κ → Value) (ev : ν → Value) (e : Ent κ ν) : MapEntry := ⟨enc e.k, ev e.v, e.b⟩
def mapO (enc : κ → Value) (ev : ν → Value) (es : List (Ent κ ν)) (clock : Nat) : Obj := .map (es.map (entV enc ev)).toArray clock
def getE (es : List (Ent κ ν)) (k : κ) : Option ν := (es.find? fun e => decide (k = e.k)).map (·.v)
def hasE (es : List (Ent κ ν)) (k : κ) : Bool := (getE es k).isSome
def putE : List (Ent κ ν) → κ → ν → Nat → List (Ent κ ν)
  | [], k, v, c => [⟨k, v, c⟩]
  | e :: es, k, v, c => if k = e.k then ⟨k, v, e.b⟩ :: es else e :: putE es k v c
def delE : List (Ent κ ν) → κ → List (Ent κ ν)
  | [], _ => []
  | e :: es, k => if k = e.k then es else e :: delE es k
def clockE (es : List (Ent κ ν)) (k : κ) (c : Nat) : Nat := bif hasE es k then c else c + 1
/-- Keys once each, stamps once each and below the clock. -/
structure GoodM (es : List (Ent κ ν)) (clock : Nat) : Prop where
  keys : (es.map (·.k)).Nodup
  born : (es.map (·.b)).Nodup
  lt : ∀ e ∈ es, e.b < clock
omit [DecidableEq κ] in
theorem GoodM.nil : GoodM ([] : List (Ent κ ν)) 0 := ⟨by simp, by simp, by simp⟩

def idxE : List (Ent κ ν) → κ → Nat → Option (Nat × ν)
  | [], _, _ => none
  | e :: es, k, i => if k = e.k then some (i, e.v) else idxE es k (i + 1)
theorem idxE_get (es : List (Ent κ ν)) (k : κ) : ∀ i, (idxE es k i).map (·.2) = getE es k := by
  induction es with
  | nil => intro i; rfl
  | cons e es ih =>
    intro i
    by_cases h : k = e.k
    · simp [idxE, getE, h]
    · simp only [idxE, h, if_false, ih]
      simp [getE, h]
variable {P : Program} {K : TypeId} {enc : κ → Value} {ev : ν → Value}
theorem findAsking_run [hk : Key P K enc] (k : κ) (w : World) : ∀ (es : List (Ent κ ν)) (i : Nat), (Instr.findAsking K (enc k) (es.map (entV enc ev)) i).run P w = .ok ((idxE es k i).map fun p => (p.1, ev p.2)) w
  | [], i => rfl
  | e :: es, i => by
    simp only [List.map_cons, Instr.findAsking, Sem.run_bind, entV, hk.eq, Result.andThen_ok]
    by_cases h : k = e.k
    · simp [h, idxE]
    · simp only [h, decide_false, Bool.false_eq_true, if_false, idxE]
      exact findAsking_run k w es (i + 1)
theorem findNow_or [hk : Key P K enc] (d : TypeDesc) (hd : P.underlying K = some d) (k : κ) : ∀ (es : List (Ent κ ν)) (i : Nat), Instr.findNow d (enc k) (es.map (entV enc ev)) i = none ∨ Instr.findNow d (enc k) (es.map (entV enc ev)) i = some ((idxE es k i).map fun p => (p.1, ev p.2))
  | [], i => .inr rfl
  | e :: es, i => by
    simp only [List.map_cons, Instr.findNow, entV]
    rcases hk.now d hd k e.k with h | h
    · left; rw [h]
    · rw [h]
      by_cases he : k = e.k
      · right; simp [he, idxE]
      · simp only [he, decide_false, idxE, if_false]
        exact findNow_or d hd k es (i + 1)
theorem findKey_run [hk : Key P K enc] (k : κ) (es : List (Ent κ ν)) (w : World) : (Instr.findKey K (enc k) (es.map (entV enc ev))).run P w = .ok ((idxE es k 0).map fun p => (p.1, ev p.2)) w := by
  obtain ⟨d, hd⟩ := Option.isSome_iff_exists.1 hk.there
  simp only [Instr.findKey, Sem.run_bind, run_underlying hd, Result.andThen_ok]
  rcases findNow_or (P := P) (K := K) (enc := enc) (ev := ev) d hd k es 0 with h | h
  · rw [h]; exact findAsking_run k w es 0
  · rw [h]; rfl
theorem getObj_run {w : World} {r : Nat} {es : Array MapEntry} {c : Nat} (h : w.heap[r]? = some (.map es c)) : (getObj r).run P w = .ok (.map es c) w := by
  simp [getObj, Sem.run, h]
theorem setObj_run {w : World} {r : Nat} {es : Array MapEntry} {c : Nat} (h : w.heap[r]? = some (.map es c)) (o : Obj) : (setObj r o).run P w = .ok () { w with heap := w.heap.setIfInBounds r o } := by
  simp [setObj, Sem.run, h]
theorem St.setObj {w0 w : World} {H : List SA} {r : Nat} {o o' : Obj} (h : St w0 (blk r o :: H) w) : St w0 (blk r o' :: H) { w with heap := w.heap.setIfInBounds r o' } := by
  have hr : w.heap[r]? = some o := h.holds (blk r o) (by simp)
  have hlt : r < w.heap.size := (Array.getElem?_eq_some_iff.1 hr).1
  refine h.swap rfl rfl rfl (by simp) (fun k _ hk => ?_) ?_ (by simp [blk]) ?_
  · have : r ≠ k := fun e => hk (by simp [blk, e])
    simp [Array.getElem?_setIfInBounds, this]
  · show (w.heap.setIfInBounds r o')[r]? = some o'
    simp [hlt]
  · intro b hb; simp [blk] at hb; subst hb; exact ⟨.inl (by simp [blk]), by simpa using hlt⟩

variable {w0 : World} {σ : Env} {H : List SA} {d : Option Nat} {ty : TypeId} {pos : String} {aft : Array Edge} {g : Option (Nat × Bool)}
omit [DecidableEq κ] in
theorem Ef_makeMap {t : TypeId} {K' : Value → List SA → Prop} (enc : κ → Value) (ev : ν → Value) (h : ∀ r, K' (.map (some r)) (blk r (mapO enc ev [] 0) :: H)) :
    Ef P w0 H σ ⟨d, .makeMap t none, ty, pos, aft, g⟩ K' := fun w hw => by
  simp only [execOp, Instr.makeMap, Option.map_none, Sem.run_bind, run_newObj, Result.andThen_ok, Sem.run_pure, upon]
  exact ⟨_, h w.heap.size, hw.alloc _⟩
theorem Qt_lookup2 {x k : Operand} {t r c : Nat} {E : TypeId} {es : List (Ent κ ν)} {key : κ} (z : ν) (hx : Sx.ev σ x = .map (some r)) (hkey : Sx.ev σ k = enc key) [hk : Key P K enc] [hm : Mem w0 H r (mapO enc ev es c)]
    (ht : P.underlying t = some (.map K E)) (hz : (P.info? E).bind (·.zero) = some (ev z)) :
    Qt P w0 H σ ⟨d, .lookup t x k true, ty, pos, aft, g⟩ (.tuple #[ev ((getE es key).getD z), .bool (hasE es key)]) := fun w hw => by
  simp only [execOp, hx, hkey, Instr.lookup, Sem.run_bind, run_underlying ht, Result.andThen_ok, getObj_run (hm.get w hw), Sem.run_pure, hk.check, findKey_run]
  rw [← idxE_get es key 0]
  simp only [hasE, ← idxE_get es key 0]
  cases hi : idxE es key 0 with
  | none => simp [run_zeroValue_of hz, hi]
  | some p => simp [hi]
theorem Qt_lookup1 {x k : Operand} {t r c : Nat} {E : TypeId} {es : List (Ent κ ν)} {key : κ} (z : ν) (hx : Sx.ev σ x = .map (some r)) (hkey : Sx.ev σ k = enc key) [hk : Key P K enc] [hm : Mem w0 H r (mapO enc ev es c)]
    (ht : P.underlying t = some (.map K E)) (hz : (P.info? E).bind (·.zero) = some (ev z)) :
    Qt P w0 H σ ⟨d, .lookup t x k false, ty, pos, aft, g⟩ (ev ((getE es key).getD z)) := fun w hw => by
  simp only [execOp, hx, hkey, Instr.lookup, Sem.run_bind, run_underlying ht, Result.andThen_ok, getObj_run (hm.get w hw), Sem.run_pure, hk.check, findKey_run]
  rw [← idxE_get es key 0]
  cases hi : idxE es key 0 with
  | none => simp [run_zeroValue_of hz]
  | some p => simp
theorem idxE_none (es : List (Ent κ ν)) (k : κ) : ∀ i, idxE es k i = none ↔ hasE es k = false := by
  intro i
  have := idxE_get es k i
  cases h : idxE es k i with
  | none => simp [h] at this; simp [hasE, ← this]
  | some p => simp [h] at this; simp [hasE, ← this]
theorem putE_none : ∀ (es : List (Ent κ ν)) (k : κ) (v : ν) (c : Nat), hasE es k = false → putE es k v c = es ++ [⟨k, v, c⟩]
  | [], _, _, _, _ => rfl
  | e :: es, k, v, c, h => by
    have hne : ¬ k = e.k := fun he => by simp [hasE, getE, he] at h
    have : hasE es k = false := by simpa [hasE, getE, hne] using h
    simp [putE, hne, putE_none es k v c this]
theorem putE_some : ∀ (es : List (Ent κ ν)) (k : κ) (v : ν) (c i j : Nat) (u : ν), idxE es k j = some (i, u) → j ≤ i ∧ i - j < es.length ∧ ((es.map (entV enc ev))[i - j]?).map (·.key) = some (enc k) ∧
    (es.map (entV enc ev)).modify (i - j) (fun e => { e with key := enc k, val := ev v }) = (putE es k v c).map (entV enc ev)
  | [], _, _, _, _, _, _, h => by simp [idxE] at h
  | e :: es, k, v, c, i, j, u, h => by
    by_cases hk : k = e.k
    · simp [idxE, hk] at h
      obtain ⟨rfl, rfl⟩ := h
      simp [putE, hk, entV]
    · simp only [idxE, hk, if_false] at h
      obtain ⟨h1, h2, h3, h4⟩ := putE_some es k v c i (j + 1) u h
      obtain ⟨m, hm⟩ : ∃ m, i - j = m + 1 := ⟨i - j - 1, by omega⟩
      have hm' : i - (j + 1) = m := by omega
      rw [hm'] at h2 h3 h4
      rw [hm]
      refine ⟨by omega, by simpa using h2, by simpa using h3, ?_⟩
      simp only [List.map_cons, List.modify_succ_cons, h4, putE, hk, if_false]
theorem Ef_mapUpdate {m k x : Operand} {t r c : Nat} {E : TypeId} {es : List (Ent κ ν)} {key : κ} {Hr : List SA} {K' : Value → List SA → Prop} (v : ν) (hm : Sx.ev σ m = .map (some r)) (hkey : Sx.ev σ k = enc key) (hx : Sx.ev σ x = ev v) [hk : Key P K enc]
    [hp : Pick r H (mapO enc ev es c) Hr] (ht : P.underlying t = some (.map K E)) (h : K' undef (blk r (mapO enc ev (putE es key v c) (clockE es key c)) :: Hr)) : Ef P w0 H σ ⟨d, .mapUpdate t m k x, ty, pos, aft, g⟩ K' := fun w hw => by
  have hw' := hw.sub hp.sub
  have hb : w.heap[r]? = some (mapO enc ev es c) := hw'.holds (blk r _) (by simp)
  simp only [execOp, hm, hkey, hx, Instr.mapUpdate, Sem.run_bind, run_underlying ht, Result.andThen_ok, getObj_run hb, hk.check, findKey_run]
  cases hi : idxE es key 0 with
  | none =>
    have hn := (idxE_none es key 0).1 hi
    simp only [Option.map_none, setObj_run hb, Result.andThen_ok, Sem.run_pure, upon]
    refine ⟨_, h, ?_⟩
    have : mapO enc ev (putE es key v c) (clockE es key c) = .map ((es.map (entV enc ev)).toArray.push { key := enc key, val := ev v, born := c }) (c + 1) := by
      simp [mapO, putE_none es key v c hn, clockE, hn, entV]
    rw [this]
    exact hw'.setObj
  | some p =>
    obtain ⟨i, u⟩ := p
    obtain ⟨-, h2, h3, h4⟩ := putE_some (enc := enc) (ev := ev) es key v c i 0 u hi
    simp only [Nat.sub_zero] at h2 h3 h4
    have hs : hasE es key = true := by
      cases hh : hasE es key
      · rw [(idxE_none es key 0).2 hh] at hi; cases hi
      · rfl
    have hkeep : (Instr.keyThatStays ((((es.map (entV enc ev)).toArray[i]?).map (·.key)).getD (enc key)) (enc key)).run P w = .ok (enc key) w := by
      have : ((((es.map (entV enc ev)).toArray[i]?).map (·.key)).getD (enc key)) = enc key := by
        rw [List.getElem?_toArray, h3]; rfl
      rw [this]
      simp [Instr.keyThatStays, hk.same]
    simp only [Option.map_some, Sem.run_bind, hkeep, Result.andThen_ok, setObj_run hb, Sem.run_pure, upon]
    refine ⟨_, h, ?_⟩
    have : mapO enc ev (putE es key v c) (clockE es key c) = .map ((es.map (entV enc ev)).toArray.modify i fun e => { e with key := enc key, val := ev v }) c := by
      simp only [mapO, clockE, hs, cond_true, ← h4]
      simp
    rw [this]
    exact hw'.setObj
theorem delE_none : ∀ (es : List (Ent κ ν)) (k : κ), hasE es k = false → delE es k = es
  | [], _, _ => rfl
  | e :: es, k, h => by
    have hne : ¬ k = e.k := fun he => by simp [hasE, getE, he] at h
    have : hasE es k = false := by simpa [hasE, getE, hne] using h
    simp [delE, hne, delE_none es k this]
theorem delE_some : ∀ (es : List (Ent κ ν)) (k : κ) (i j : Nat) (u : ν), idxE es k j = some (i, u) → j ≤ i ∧ i - j < es.length ∧ (es.map (entV enc ev)).eraseIdx (i - j) = (delE es k).map (entV enc ev)
  | [], _, _, _, _, h => by simp [idxE] at h
  | e :: es, k, i, j, u, h => by
    by_cases hk : k = e.k
    · simp [idxE, hk] at h
      obtain ⟨rfl, rfl⟩ := h
      simp [delE, hk]
    · simp only [idxE, hk, if_false] at h
      obtain ⟨h1, h2, h3⟩ := delE_some es k i (j + 1) u h
      obtain ⟨m, hm⟩ : ∃ m, i - j = m + 1 := ⟨i - j - 1, by omega⟩
      have hm' : i - (j + 1) = m := by omega
      rw [hm'] at h2 h3
      rw [hm]
      exact ⟨by omega, by simpa using h2, by simp [delE, hk, h3]⟩
theorem Ef_delete {m k : Operand} {t u r c : Nat} {E : TypeId} {es : List (Ent κ ν)} {key : κ} {Hr : List SA} {K' : Value → List SA → Prop} (hm : Sx.ev σ m = .map (some r)) (hkey : Sx.ev σ k = enc key) [hk : Key P K enc]
    [hp : Pick r H (mapO enc ev es c) Hr] (ht : P.underlying t = some (.map K E)) (h : K' (.tuple #[]) (blk r (mapO enc ev (delE es key) c) :: Hr)) : Ef P w0 H σ ⟨d, .call ⟨.builtin .delete, #[m, k], #[t, u]⟩, ty, pos, aft, g⟩ K' := fun w hw => by
  have hw' := hw.sub hp.sub
  have hb : w.heap[r]? = some (mapO enc ev es c) := hw'.holds (blk r _) (by simp)
  simp only [execOp, resolve, List.map_toArray, List.map_cons, List.map_nil, invoke, builtin, Builtin.delete_, hm, hkey, List.getElem?_toArray, List.getElem?_cons_zero, List.getElem?_cons_succ, Sem.run_bind, Sem.run_pure, run_underlying ht, Result.andThen_ok, getObj_run hb, hk.check, findKey_run]
  cases hi : idxE es key 0 with
  | none =>
    have hn := (idxE_none es key 0).1 hi
    simp only [Option.map_none, Sem.run_bind, setObj_run hb, Result.andThen_ok, Sem.run_pure, upon]
    refine ⟨_, h, ?_⟩
    rw [delE_none es key hn]
    exact hw'.setObj
  | some p =>
    obtain ⟨i, u'⟩ := p
    obtain ⟨-, h2, h3⟩ := delE_some (enc := enc) (ev := ev) es key i 0 u' hi
    simp only [Nat.sub_zero] at h2 h3
    simp only [Option.map_some, Sem.run_bind, setObj_run hb, Result.andThen_ok, Sem.run_pure, upon]
    refine ⟨_, h, ?_⟩
    have : mapO enc ev (delE es key) c = .map ((es.map (entV enc ev)).toArray.eraseIdxIfInBounds i) c := by
      simp only [mapO, ← h3, Array.eraseIdxIfInBounds]
      rw [dif_pos (by simpa using h2)]
      simp
    rw [this]
    exact hw'.setObj

/-! ### Ranging -/
omit [DecidableEq κ] in
theorem Ef_range {x : Operand} {t r c : Nat} {K E : TypeId} {es : List (Ent κ ν)} {K' : Value → List SA → Prop} (hx : Sx.ev σ x = .map (some r)) [hm : Mem w0 H r (mapO enc ev es c)] (ht : P.underlying t = some (.map K E))
    (h : ∀ it, K' (.pointer (some ⟨it, 0, none⟩)) (blk it (.mapIter (some r) c #[] c) :: H)) : Ef P w0 H σ ⟨d, .range t x, ty, pos, aft, g⟩ K' := fun w hw => by
  simp only [execOp, hx, Instr.range, Sem.run_bind, run_underlying ht, Result.andThen_ok, getObj_run (hm.get w hw), Sem.run_pure, run_newObj, upon]
  exact ⟨_, h w.heap.size, hw.alloc _⟩
def leftE (es : List (Ent κ ν)) (seen : Array Nat) : List (Ent κ ν) := es.filter fun e => !seen.contains e.b
theorem getIter_run {w : World} {r : Nat} {m : Option Nat} {since last : Nat} {seen : Array Nat} (h : w.heap[r]? = some (.mapIter m since seen last)) : (getObj r).run P w = .ok (.mapIter m since seen last) w := by
  simp [getObj, Sem.run, h]
theorem setIter_run {w : World} {r : Nat} {m : Option Nat} {since last : Nat} {seen : Array Nat} (h : w.heap[r]? = some (.mapIter m since seen last)) (o : Obj) : (setObj r o).run P w = .ok () { w with heap := w.heap.setIfInBounds r o } := by
  simp [setObj, Sem.run, h]
theorem St.drawn {w : World} {H : List SA} (h : St w0 H w) (n : Nat) : St w0 H { w with drawn := n } :=
  ⟨⟨h.below.os, h.below.tape, h.below.output, h.below.size, h.below.block⟩, h.nodup, fun x hx => x.stab w _ (fun _ _ => rfl) (h.holds x hx), h.lo⟩
omit [DecidableEq κ] in
theorem Ef_next {x : Operand} {it r since last c : Nat} {seen : Array Nat} {es : List (Ent κ ν)} {Hr : List SA} {K' : Value → List SA → Prop} (hx : Sx.ev σ x = .pointer (some ⟨it, 0, none⟩)) [hp : Pick it H (.mapIter (some r) since seen last) Hr] [hm : Mem w0 H r (mapO enc ev es c)]
    (hs : ∀ e ∈ es, e.b < since) (hl : ∀ e ∈ es, e.b < last) (h0 : leftE es seen = [] → K' (.tuple #[.bool false]) (blk it (.mapIter (some r) since seen last) :: Hr))
    (h1 : ∀ e ∈ leftE es seen, K' (.tuple #[.bool true, enc e.k, ev e.v]) (blk it (.mapIter (some r) since (seen.push e.b) c) :: Hr)) : Ef P w0 H σ ⟨d, .next x false, ty, pos, aft, g⟩ K' := fun w hw => by
  have hw' := hw.sub hp.sub
  have hb : w.heap[it]? = some (.mapIter (some r) since seen last) := hw'.holds (blk it _) (by simp)
  have hmr := hm.get w hw
  simp only [execOp, hx, Instr.next, Sem.run_bind, getIter_run hb, Result.andThen_ok, getObj_run hmr]
  have hall : (!seen.isEmpty && !(es.map (entV enc ev)).toArray.isEmpty && (es.map (entV enc ev)).toArray.all fun x => decide (x.born ≥ last)) = false := by
    cases es with
    | nil => simp
    | cons e es =>
      have := hl e (by simp)
      have hne : ¬ (e.b ≥ last) := by omega
      simp [entV, hne]
  rw [hall]
  simp only [Bool.false_eq_true, if_false, Sem.run_bind, Sem.run_pure, Result.andThen_ok]
  have hleft : (Array.filter (fun e : MapEntry => !seen.contains e.born) (es.map (entV enc ev)).toArray) = ((leftE es seen).map (entV enc ev)).toArray := by
    rw [List.filter_toArray]; simp only [leftE]
    congr 1
    rw [List.filter_map]
    rfl
  have hold : (Array.filter (fun e : MapEntry => decide (e.born < since)) ((leftE es seen).map (entV enc ev)).toArray) = ((leftE es seen).map (entV enc ev)).toArray := by
    rw [List.filter_toArray]
    congr 1
    rw [List.filter_eq_self]
    intro a ha
    obtain ⟨e, he, rfl⟩ := List.mem_map.1 ha
    have := hs e (List.mem_filter.1 he).1
    exact decide_eq_true this
  have hnew : (Array.filter (fun e : MapEntry => decide (e.born ≥ since)) ((leftE es seen).map (entV enc ev)).toArray) = #[] := by
    rw [List.filter_toArray]
    congr 1
    rw [List.filter_eq_nil_iff]
    intro a ha
    obtain ⟨e, he, rfl⟩ := List.mem_map.1 ha
    have := hs e (List.mem_filter.1 he).1
    simpa [entV] using this
  rw [hleft, hold, hnew]
  cases hlf : leftE es seen with
  | nil =>
    have hch : (choose (.mapNext 1)).run P w = .ok 0 w := by simp [run_choose, Question.forced]
    simp only [List.map_nil, Array.append_empty, List.map_toArray, Array.isEmpty]
    simp [hch, Question.forced, upon]
    exact ⟨_, h0 hlf, hw'⟩
  | cons e0 l0 =>
    have hn : ((((e0 :: l0).map (entV enc ev)).toArray ++ #[]).map some).size = (e0 :: l0).length := by simp
    have hne : (((e0 :: l0).map (entV enc ev)).toArray).isEmpty = false := by simp
    simp only [hne, Bool.false_eq_true, if_false, Array.empty_append]
    have hchoose : ∃ i w', (choose (.mapNext ((((e0 :: l0).map (entV enc ev)).toArray ++ #[]).map some).size)).run P w = .ok i w' ∧ i < (e0 :: l0).length ∧ ∃ m, w' = { w with drawn := m } := by
      rw [hn, run_choose]
      split
      · exact ⟨0, w, rfl, by simp, w.drawn, rfl⟩
      · refine ⟨_, _, rfl, ?_, _, rfl⟩
        simp only [Question.cut]
        exact Nat.mod_lt _ (by simp)
    obtain ⟨i, w', hc, hi, m, hw2⟩ := hchoose
    obtain ⟨e, he⟩ : ∃ e, (e0 :: l0)[i]? = some e := ⟨_, List.getElem?_eq_getElem hi⟩
    have hcand : ((((e0 :: l0).map (entV enc ev)).toArray ++ #[]).map some)[i]? = some (some (entV enc ev e)) := by
      rw [Array.append_empty, Array.getElem?_map, List.getElem?_toArray, List.getElem?_map, he]
      rfl
    have hb' : w'.heap[it]? = some (.mapIter (some r) since seen last) := by rw [hw2]; exact hb
    simp only [hc, Result.andThen_ok, hcand, Sem.run_bind, setIter_run hb', Sem.run_pure, upon]
    refine ⟨_, h1 e (by rw [hlf]; exact List.mem_of_getElem? he), ?_⟩
    subst hw2
    exact (hw'.drawn m).setObj
omit [DecidableEq κ] in
theorem Qt_entry {x : Operand} {it r since c : Nat} {seen : Array Nat} {es : List (Ent κ ν)} (e : Ent κ ν) (hx : Sx.ev σ x = .pointer (some ⟨it, 0, none⟩)) [hi : Mem w0 H it (.mapIter (some r) since (seen.push e.b) c)] [hm : Mem w0 H r (mapO enc ev es c)]
    (he : e ∈ es) (hn : (es.map (·.b)).Nodup) : Qt P w0 H σ ⟨d, .entry x, ty, pos, aft, g⟩ (.tuple #[enc e.k, ev e.v]) := fun w hw => by
  have hfind : ((es.map (entV enc ev)).toArray.find? fun y => y.born == e.b) = some (entV enc ev e) := by
    rw [List.find?_toArray, List.find?_map]
    have : es.find? ((fun y : MapEntry => y.born == e.b) ∘ entV enc ev) = some e := by
      clear hm
      induction es with
      | nil => cases he
      | cons a l ih =>
        simp only [List.map_cons, List.nodup_cons] at hn
        rcases List.mem_cons.1 he with rfl | he
        · simp [entV]
        · have hne : ¬ a.b = e.b := fun h => hn.1 (h ▸ List.mem_map.2 ⟨e, he, rfl⟩)
          simp only [List.find?_cons, Function.comp, entV]
          have : (a.b == e.b) = false := by simpa using hne
          rw [this]
          exact ih he hn.2
    rw [this]
    rfl
  simp only [execOp, hx, Instr.entry, Sem.run_bind, getIter_run (hi.get w hw), Result.andThen_ok, getObj_run (hm.get w hw), Array.back?_push]
  simp only [bne_self_eq_false, Bool.false_eq_true, if_false, Sem.run_bind, Sem.run_pure, Result.andThen_ok, hfind]
  rfl
end
end Go.Sx
namespace Go.Sx
/-- A key type whose values are of one form, none of Go's fast ones. -/
theorem sameNow_agg (d : TypeDesc) (x y : Array Value) : Instr.sameNow d (.agg x) (.agg y) = none := by cases d <;> rfl
end Go.Sx
