/- Maps in the small symbolic-execution layer: made, looked up, stored into, deleted from, ranged over. General. -/
import Derived.Test.YtnijomppbgdmnaaGreatSvP
set_option linter.unusedSimpArgs false
set_option linter.unusedVariables false
namespace Go.Sx
open Go.RowKit

/-- Keys of type K, as the values of κ. -/
class Key (P : Program) (K : TypeId) {κ : Type} [DecidableEq κ] (enc : κ → Value) : Prop where
  eq : ∀ (x y : κ) (w : World), (Op.equal K (enc x) (enc y)).run P w = .ok (decide (x = y)) w
  now : ∀ (d : TypeDesc), P.underlying K = some d → ∀ x y : κ, Instr.sameNow d (enc x) (enc y) = none ∨ Instr.sameNow d (enc x) (enc y) = some (decide (x = y))
  there : (P.underlying K).isSome = true
  check : ∀ (k : κ) (empty : Bool) (w : World), (Instr.checkKey empty 10000 K (enc k)).run P w = .ok () w
  same : ∀ k : κ, Instr.sameBits 10000 (enc k) (enc k) = true
structure Ent (κ ν : Type) where
  k : κ
  v : ν
  b : Nat
section
variable {κ ν : Type} [DecidableEq κ]
def entV (enc : κ → Value) (ev : ν → Value) (e : Ent κ ν) : MapEntry := ⟨enc e.k, ev e.v, e.b⟩
def mapO (enc : κ → Value) (ev : ν → Value) (es : List (Ent κ ν)) (clock : Nat) : Obj := .map (es.map (entV enc ev)).toArray clock
def getE (es : List (Ent κ ν)) (k : κ) : Option ν := (es.find? fun e => decide (k = e.k)).map (·.v)
def hasE (es : List (Ent κ ν)) (k : κ) : Bool := (getE es k).isSome
def putE : List (Ent κ ν) → κ → ν → Nat → List (Ent κ ν)
  | [], k, v, c => [⟨k, v, c⟩]
  | e :: es, k, v, c => if k = e.k then ⟨k, v, e.b⟩ :: es else e :: putE es k v c
def clockE (es : List (Ent κ ν)) (k : κ) (c : Nat) : Nat := bif hasE es k then c else c + 1
/-- Keys once each, stamps once each and below the clock. -/
structure GoodM (es : List (Ent κ ν)) (clock : Nat) : Prop where
  keys : (es.map (·.k)).Nodup
  born : (es.map (·.b)).Nodup
  lt : ∀ e ∈ es, e.b < clock
omit [DecidableEq κ] in
theorem GoodM.nil : GoodM ([] : List (Ent κ ν)) 0 := ⟨by simp, by simp, by simp⟩

def idxE : List (Ent κ ν) → κ → Nat → Option (Nat × ν)
  | [], _, _ => none
  | e :: es, k, i => if k = e.k then some (i, e.v) else idxE es k (i + 1)
theorem idxE_get (es : List (Ent κ ν)) (k : κ) : ∀ i, (idxE es k i).map (·.2) = getE es k := by
  induction es with
  | nil => intro i; rfl
  | cons e es ih =>
    intro i
    by_cases h : k = e.k
    · simp [idxE, getE, h]
    · simp only [idxE, h, if_false, ih]
      simp [getE, h]
variable {P : Program} {K : TypeId} {enc : κ → Value} {ev : ν → Value}
theorem findAsking_run [hk : Key P K enc] (k : κ) (w : World) : ∀ (es : List (Ent κ ν)) (i : Nat), (Instr.findAsking K (enc k) (es.map (entV enc ev)) i).run P w = .ok ((idxE es k i).map fun p => (p.1, ev p.2)) w
  | [], i => rfl
  | e :: es, i => by
    simp only [List.map_cons, Instr.findAsking, Sem.run_bind, entV, hk.eq, Result.andThen_ok]
    by_cases h : k = e.k
    · simp [h, idxE]
    · simp only [h, decide_false, Bool.false_eq_true, if_false, idxE]
      exact findAsking_run k w es (i + 1)
theorem findNow_or [hk : Key P K enc] (d : TypeDesc) (hd : P.underlying K = some d) (k : κ) : ∀ (es : List (Ent κ ν)) (i : Nat), Instr.findNow d (enc k) (es.map (entV enc ev)) i = none ∨ Instr.findNow d (enc k) (es.map (entV enc ev)) i = some ((idxE es k i).map fun p => (p.1, ev p.2))
  | [], i => .inr rfl
  | e :: es, i => by
    simp only [List.map_cons, Instr.findNow, entV]
    rcases hk.now d hd k e.k with h | h
    · left; rw [h]
    · rw [h]
      by_cases he : k = e.k
      · right; simp [he, idxE]
      · simp only [he, decide_false, idxE, if_false]
        exact findNow_or d hd k es (i + 1)
theorem findKey_run [hk : Key P K enc] (k : κ) (es : List (Ent κ ν)) (w : World) : (Instr.findKey K (enc k) (es.map (entV enc ev))).run P w = .ok ((idxE es k 0).map fun p => (p.1, ev p.2)) w := by
  obtain ⟨d, hd⟩ := Option.isSome_iff_exists.1 hk.there
  simp only [Instr.findKey, Sem.run_bind, run_underlying hd, Result.andThen_ok]
  rcases findNow_or (P := P) (K := K) (enc := enc) (ev := ev) d hd k es 0 with h | h
  · rw [h]; exact findAsking_run k w es 0
  · rw [h]; rfl
theorem getObj_run {w : World} {r : Nat} {es : Array MapEntry} {c : Nat} (h : w.heap[r]? = some (.map es c)) : (getObj r).run P w = .ok (.map es c) w := by
  simp [getObj, Sem.run, h]
theorem setObj_run {w : World} {r : Nat} {es : Array MapEntry} {c : Nat} (h : w.heap[r]? = some (.map es c)) (o : Obj) : (setObj r o).run P w = .ok () { w with heap := w.heap.setIfInBounds r o } := by
  simp [setObj, Sem.run, h]
theorem St.setObj {w0 w : World} {H : List SA} {r : Nat} {o o' : Obj} (h : St w0 (blk r o :: H) w) : St w0 (blk r o' :: H) { w with heap := w.heap.setIfInBounds r o' } := by
  have hr : w.heap[r]? = some o := h.holds (blk r o) (by simp)
  have hlt : r < w.heap.size := (Array.getElem?_eq_some_iff.1 hr).1
  refine h.swap rfl rfl rfl (by simp) (fun k _ hk => ?_) ?_ (by simp [blk]) ?_
  · have : r ≠ k := fun e => hk (by simp [blk, e])
    simp [Array.getElem?_setIfInBounds, this]
  · show (w.heap.setIfInBounds r o')[r]? = some o'
    simp [hlt]
  · intro b hb; simp [blk] at hb; subst hb; exact ⟨.inl (by simp [blk]), by simpa using hlt⟩

variable {w0 : World} {σ : Env} {H : List SA} {d : Option Nat} {ty : TypeId} {pos : String} {aft : Array Edge} {g : Option (Nat × Bool)}
omit [DecidableEq κ] in
theorem Ef_makeMap {t : TypeId} {K' : Value → List SA → Prop} (enc : κ → Value) (ev : ν → Value) (h : ∀ r, K' (.map (some r)) (blk r (mapO enc ev [] 0) :: H)) :
    Ef P w0 H σ ⟨d, .makeMap t none, ty, pos, aft, g⟩ K' := fun w hw => by
  simp only [execOp, Instr.makeMap, Option.map_none, Sem.run_bind, run_newObj, Result.andThen_ok, Sem.run_pure, upon]
  exact ⟨_, h w.heap.size, hw.alloc _⟩
theorem Qt_lookup1 {x k : Operand} {t r c : Nat} {E : TypeId} {es : List (Ent κ ν)} {key : κ} (z : ν) (hx : Sx.ev σ x = .map (some r)) (hkey : Sx.ev σ k = enc key) [hk : Key P K enc] [hm : Mem w0 H r (mapO enc ev es c)]
    (ht : P.underlying t = some (.map K E)) (hz : (P.info? E).bind (·.zero) = some (ev z)) :
    Qt P w0 H σ ⟨d, .lookup t x k false, ty, pos, aft, g⟩ (ev ((getE es key).getD z)) := fun w hw => by
  simp only [execOp, hx, hkey, Instr.lookup, Sem.run_bind, run_underlying ht, Result.andThen_ok, getObj_run (hm.get w hw), Sem.run_pure, hk.check, findKey_run]
  rw [← idxE_get es key 0]
  cases hi : idxE es key 0 with
  | none => simp [run_zeroValue_of hz]
  | some p => simp
theorem idxE_none (es : List (Ent κ ν)) (k : κ) : ∀ i, idxE es k i = none ↔ hasE es k = false := by
  intro i
  have := idxE_get es k i
  cases h : idxE es k i with
  | none => simp [h] at this; simp [hasE, ← this]
  | some p => simp [h] at this; simp [hasE, ← this]
theorem putE_none : ∀ (es : List (Ent κ ν)) (k : κ) (v : ν) (c : Nat), hasE es k = false → putE es k v c = es ++ [⟨k, v, c⟩]
  | [], _, _, _, _ => rfl
  | e :: es, k, v, c, h => by
    have hne : ¬ k = e.k := fun he => by simp [hasE, getE, he] at h
    have : hasE es k = false := by simpa [hasE, getE, hne] using h
    simp [putE, hne, putE_none es k v c this]
theorem putE_some : ∀ (es : List (Ent κ ν)) (k : κ) (v : ν) (c i j : Nat) (u : ν), idxE es k j = some (i, u) → j ≤ i ∧ i - j < es.length ∧ ((es.map (entV enc ev))[i - j]?).map (·.key) = some (enc k) ∧
    (es.map (entV enc ev)).modify (i - j) (fun e => { e with key := enc k, val := ev v }) = (putE es k v c).map (entV enc ev)
  | [], _, _, _, _, _, _, h => by simp [idxE] at h
  | e :: es, k, v, c, i, j, u, h => by
    by_cases hk : k = e.k
    · simp [idxE, hk] at h
      obtain ⟨rfl, rfl⟩ := h
      simp [putE, hk, entV]
    · simp only [idxE, hk, if_false] at h
      obtain ⟨h1, h2, h3, h4⟩ := putE_some es k v c i (j + 1) u h
      obtain ⟨m, hm⟩ : ∃ m, i - j = m + 1 := ⟨i - j - 1, by omega⟩
      have hm' : i - (j + 1) = m := by omega
      rw [hm'] at h2 h3 h4
      rw [hm]
      refine ⟨by omega, by simpa using h2, by simpa using h3, ?_⟩
      simp only [List.map_cons, List.modify_succ_cons, h4, putE, hk, if_false]
theorem Ef_mapUpdate {m k x : Operand} {t r c : Nat} {E : TypeId} {es : List (Ent κ ν)} {key : κ} {Hr : List SA} {K' : Value → List SA → Prop} (v : ν) (hm : Sx.ev σ m = .map (some r)) (hkey : Sx.ev σ k = enc key) (hx : Sx.ev σ x = ev v) [hk : Key P K enc]
    [hp : Pick r H (mapO enc ev es c) Hr] (ht : P.underlying t = some (.map K E)) (h : K' undef (blk r (mapO enc ev (putE es key v c) (clockE es key c)) :: Hr)) : Ef P w0 H σ ⟨d, .mapUpdate t m k x, ty, pos, aft, g⟩ K' := fun w hw => by
  have hw' := hw.sub hp.sub
  have hb : w.heap[r]? = some (mapO enc ev es c) := hw'.holds (blk r _) (by simp)
  simp only [execOp, hm, hkey, hx, Instr.mapUpdate, Sem.run_bind, run_underlying ht, Result.andThen_ok, getObj_run hb, hk.check, findKey_run]
  cases hi : idxE es key 0 with
  | none =>
    have hn := (idxE_none es key 0).1 hi
    simp only [Option.map_none, setObj_run hb, Result.andThen_ok, Sem.run_pure, upon]
    refine ⟨_, h, ?_⟩
    have : mapO enc ev (putE es key v c) (clockE es key c) = .map ((es.map (entV enc ev)).toArray.push { key := enc key, val := ev v, born := c }) (c + 1) := by
      simp [mapO, putE_none es key v c hn, clockE, hn, entV]
    rw [this]
    exact hw'.setObj
  | some p =>
    obtain ⟨i, u⟩ := p
    obtain ⟨-, h2, h3, h4⟩ := putE_some (enc := enc) (ev := ev) es key v c i 0 u hi
    simp only [Nat.sub_zero] at h2 h3 h4
    have hs : hasE es key = true := by
      cases hh : hasE es key
      · rw [(idxE_none es key 0).2 hh] at hi; cases hi
      · rfl
    have hkeep : (Instr.keyThatStays ((((es.map (entV enc ev)).toArray[i]?).map (·.key)).getD (enc key)) (enc key)).run P w = .ok (enc key) w := by
      have : ((((es.map (entV enc ev)).toArray[i]?).map (·.key)).getD (enc key)) = enc key := by
        rw [List.getElem?_toArray, h3]; rfl
      rw [this]
      simp [Instr.keyThatStays, hk.same]
    simp only [Option.map_some, Sem.run_bind, hkeep, Result.andThen_ok, setObj_run hb, Sem.run_pure, upon]
    refine ⟨_, h, ?_⟩
    have : mapO enc ev (putE es key v c) (clockE es key c) = .map ((es.map (entV enc ev)).toArray.modify i fun e => { e with key := enc key, val := ev v }) c := by
      simp only [mapO, clockE, hs, cond_true, ← h4]
      simp
    rw [this]
    exact hw'.setObj
end
end Go.Sx
namespace Go.Sx
/-- A key type whose values are of one form, none of Go's fast ones. -/
theorem sameNow_agg (d : TypeDesc) (x y : Array Value) : Instr.sameNow d (.agg x) (.agg y) = none := by cases d <;> rfl
end Go.Sx
