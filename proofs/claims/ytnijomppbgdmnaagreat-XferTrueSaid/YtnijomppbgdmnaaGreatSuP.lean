/- Function values that are called; slices of slices put behind each other: more rules of the small symbolic-execution layer. General. -/
import Derived.Test.YtnijomppbgdmnaaGreatSrP
set_option linter.unusedSimpArgs false
set_option linter.unusedVariables false
namespace Go.Sx
open Go.RowKit
section
variable {P : Program} {n : Fr} {w0 : World} {σ : Env} {H : List SA} {d : Option Nat} {ty : TypeId} {pos : String} {aft : Array Edge} {g : Option (Nat × Bool)} {K : Value → List SA → Prop}
theorem Qt_makeFunc {f : FuncId} {caps : List Operand} {args : List Value} (hc : caps.map (ev σ) = args) :
    Qt P w0 H σ ⟨d, .makeFunc (.func f) #[] caps.toArray, ty, pos, aft, g⟩ (.func (.func f) #[] args.toArray) := fun w _ => by
  simp [execOp, Instr.makeFunc, hc]
theorem Ef_callF {f : FuncId} {x : Operand} {args : List Operand} {ats : Array TypeId} {argv caps : List Value} {α : Type} {val : α → Value} {H' : α → List SA} [hf : FnOk P f] (hc : CT P w0 H f (argv ++ caps) val H') (hx : ev σ x = .func (.func f) #[] caps.toArray) (ha : args.map (ev σ) = argv) (h : ∀ x, K (val x) (H' x)) :
    Ef P w0 H σ ⟨d, .call ⟨.value x, args.toArray, ats⟩, ty, pos, aft, g⟩ K := fun w hw => by
  have hok := hf.ok
  split at hok
  · rename_i fn hfn
    simp only [Bool.and_eq_true, Bool.not_eq_true', beq_eq_false_iff_ne, ne_eq] at hok
    obtain ⟨h1, h2⟩ := hok
    obtain ⟨bd, hbd⟩ := Option.isSome_iff_exists.1 h2
    have : (execOp (ev σ) ⟨d, .call ⟨.value x, args.toArray, ats⟩, ty, pos, aft, g⟩).run P w = .ok (.enter f (argv ++ caps).toArray) w := by
      subst ha
      simp [execOp, resolve, invoke, hx, Deferred.ofValue, callFunc, hfn, h1, hbd]
    rw [this]
    refine (hc w hw).mono fun e w' ⟨x, he, hs⟩ => ⟨val x, he, H' x, h x, hs⟩
  · cases hok
end
instance RdE.append {w0 : World} {H : List SA} {xs ys : List BS} [h : RdE w0 H xs] [h2 : RdE w0 H ys] : RdE w0 H (xs ++ ys) := ⟨fun z hz w hw => by
  rcases List.mem_append.1 hz with hz | hz
  · exact h.rd z hz w hw
  · exact h2.rd z hz w hw⟩
section
variable {κ ν : Type} [DecidableEq κ] {P : Program} {K : TypeId} {enc : κ → Value} {ev : ν → Value}
variable {w0 : World} {σ : Env} {H : List SA} {d : Option Nat} {ty : TypeId} {pos : String} {aft : Array Edge} {g : Option (Nat × Bool)}
/-- The stamp of a key's entry: of one that is not there yet the clock's. -/
def bornE (es : List (Ent κ ν)) (k : κ) (c : Nat) : Nat := ((es.find? fun e => decide (k = e.k)).map (·.b)).getD c
theorem bornE_none {es : List (Ent κ ν)} {k : κ} {c : Nat} (h : hasE es k = false) : bornE es k c = c := by
  unfold hasE getE at h
  unfold bornE
  cases hf : es.find? fun e => decide (k = e.k) with
  | none => rfl
  | some e => rw [hf] at h; cases h
theorem idxE_born : ∀ (es : List (Ent κ ν)) (k : κ) (c i j : Nat) (u : ν), idxE es k j = some (i, u) → ((es.map (entV enc ev))[i - j]?).map (·.born) = some (bornE es k c)
  | [], _, _, _, _, _, h => by simp [idxE] at h
  | e :: es, k, c, i, j, u, h => by
    by_cases hk : k = e.k
    · simp [idxE, hk] at h
      obtain ⟨rfl, rfl⟩ := h
      simp [hk, entV, bornE]
    · simp only [idxE, hk, if_false] at h
      have h1 := (putE_some (enc := enc) (ev := ev) es k u c i (j + 1) u h).1
      have h2 := idxE_born es k c i (j + 1) u h
      obtain ⟨m, hm⟩ : ∃ m, i - j = m + 1 := ⟨i - j - 1, by omega⟩
      have hm' : i - (j + 1) = m := by omega
      rw [hm'] at h2
      rw [hm, List.map_cons, List.getElem?_cons_succ, h2]
      simp [bornE, hk]
theorem putE_keep : ∀ (es : List (Ent κ ν)) (k : κ) (c i j : Nat) (u : ν), idxE es k j = some (i, u) → (es.map (entV enc ev)).modify (i - j) (fun e => { e with key := enc k }) = (putE es k u c).map (entV enc ev)
  | [], _, _, _, _, _, h => by simp [idxE] at h
  | e :: es, k, c, i, j, u, h => by
    by_cases hk : k = e.k
    · simp [idxE, hk] at h
      obtain ⟨rfl, rfl⟩ := h
      simp [putE, hk, entV]
    · simp only [idxE, hk, if_false] at h
      have h1 := (putE_some (enc := enc) (ev := ev) es k u c i (j + 1) u h).1
      have h4 := putE_keep es k c i (j + 1) u h
      obtain ⟨m, hm⟩ : ∃ m, i - j = m + 1 := ⟨i - j - 1, by omega⟩
      have hm' : i - (j + 1) = m := by omega
      rw [hm'] at h4
      rw [hm]
      simp only [List.map_cons, List.modify_succ_cons, h4, putE, hk, if_false]
theorem Ef_mapEntry {m k : Operand} {t r c : Nat} {E : TypeId} {es : List (Ent κ ν)} {key : κ} {Hr : List SA} {K' : Value → List SA → Prop} (z : ν) (hm : Sx.ev σ m = .map (some r)) (hkey : Sx.ev σ k = enc key) [hk : Key P K enc]
    [hp : Pick r H (mapO enc ev es c) Hr] (ht : P.underlying t = some (.map K E)) (hz : (P.info? E).bind (·.zero) = some (ev z))
    (h : K' (.tuple #[ev ((getE es key).getD z), .int .i64 (bornE es key c : Int)]) (blk r (mapO enc ev (putE es key ((getE es key).getD z) c) (clockE es key c)) :: Hr)) : Ef P w0 H σ ⟨d, .mapEntry t m k, ty, pos, aft, g⟩ K' := fun w hw => by
  have hw' := hw.sub hp.sub
  have hb : w.heap[r]? = some (mapO enc ev es c) := hw'.holds (blk r _) (by simp)
  simp only [execOp, hm, hkey, Instr.mapEntry, Sem.run_bind, run_underlying ht, Result.andThen_ok, getObj_run hb, hk.check, findKey_run]
  cases hi : idxE es key 0 with
  | none =>
    have hn := (idxE_none es key 0).1 hi
    have hg : getE es key = none := by simpa [hasE] using hn
    simp only [Option.map_none, run_zeroValue_of hz, Sem.run_bind, Result.andThen_ok, setObj_run hb, Sem.run_pure, upon, goInt]
    rw [hg, bornE_none hn] at h
    refine ⟨_, h, ?_⟩
    have : mapO enc ev (putE es key ((none : Option ν).getD z) c) (clockE es key c) = .map ((es.map (entV enc ev)).toArray.push { key := enc key, val := ev z, born := c }) (c + 1) := by
      simp [mapO, putE_none es key _ c hn, clockE, hn, entV]
    rw [this]
    exact hw'.setObj
  | some p =>
    obtain ⟨i, u⟩ := p
    obtain ⟨-, h2, h3, -⟩ := putE_some (enc := enc) (ev := ev) es key u c i 0 u hi
    have h4 := putE_keep (enc := enc) (ev := ev) es key c i 0 u hi
    have h5 := idxE_born (enc := enc) (ev := ev) es key c i 0 u hi
    simp only [Nat.sub_zero] at h2 h3 h4 h5
    have hgu : getE es key = some u := by rw [← idxE_get es key 0, hi]; rfl
    have hs : hasE es key = true := by simp [hasE, hgu]
    have hkeep : (Instr.keyThatStays ((((es.map (entV enc ev)).toArray[i]?).map (·.key)).getD (enc key)) (enc key)).run P w = .ok (enc key) w := by
      have : ((((es.map (entV enc ev)).toArray[i]?).map (·.key)).getD (enc key)) = enc key := by
        rw [List.getElem?_toArray, h3]; rfl
      rw [this]
      simp [Instr.keyThatStays, hk.same]
    simp only [Option.map_some, Sem.run_bind, hkeep, Result.andThen_ok, setObj_run hb, Sem.run_pure, upon, goInt]
    rw [hgu] at h
    have hbo : (((es.map (entV enc ev)).toArray[i]?).map (fun x : MapEntry => (x.born : Int))).getD 0 = (bornE es key c : Int) := by
      obtain ⟨me, hme, hbe⟩ := Option.map_eq_some_iff.1 h5
      rw [List.getElem?_toArray, hme, ← hbe]; rfl
    rw [hbo]
    refine ⟨_, h, ?_⟩
    have : mapO enc ev (putE es key ((some u).getD z) c) (clockE es key c) = .map ((es.map (entV enc ev)).toArray.modify i fun e => { e with key := enc key }) c := by
      simp only [mapO, clockE, hs, cond_true, Option.getD_some, ← h4]
      simp
    rw [this]
    exact hw'.setObj
theorem store_at : ∀ (es : List (Ent κ ν)) (key : κ) (v : ν) (b c : Nat), (es.map (·.b)).Nodup → (es.find? fun e => decide (key = e.k)).map (·.b) = some b →
    ∃ i, (es.map (entV enc ev)).findIdx? (fun e => (e.born : Int) == (b : Int)) = some i ∧ (es.map (entV enc ev)).modify i (fun e => { e with val := ev v }) = (putE es key v c).map (entV enc ev)
  | [], _, _, _, _, _, h => by simp at h
  | e :: es, key, v, b, c, hn, h => by
    rw [List.map_cons, List.nodup_cons] at hn
    by_cases hk : key = e.k
    · simp [hk] at h
      subst h
      exact ⟨0, by simp [List.findIdx?_cons, entV], by simp [putE, hk, entV]⟩
    · rw [List.find?_cons_of_neg (by simp [hk])] at h
      obtain ⟨i, h1, h2⟩ := store_at es key v b c hn.2 h
      have hb : b ∈ es.map (·.b) := by
        obtain ⟨e', he', hb⟩ := Option.map_eq_some_iff.1 h
        exact List.mem_map.2 ⟨e', List.mem_of_find?_eq_some he', hb⟩
      have hne : e.b ≠ b := fun e' => hn.1 (e' ▸ hb)
      have hne' : ((e.b : Int) == (b : Int)) = false := by simp; omega
      refine ⟨i + 1, ?_, ?_⟩
      · rw [List.map_cons, List.findIdx?_cons]
        simp only [entV, hne', Bool.false_eq_true, if_false]
        have h1' : (es.map (entV enc ev)).findIdx? (fun e => (e.born : Int) == (b : Int)) = some i := h1
        rw [h1']; rfl
      · simp only [List.map_cons, List.modify_succ_cons, h2, putE, hk, if_false]
theorem Ef_entryStore {m s x : Operand} {t r c b : Nat} {es : List (Ent κ ν)} {key : κ} {Hr : List SA} {K' : Value → List SA → Prop} (v : ν) (hm : Sx.ev σ m = .map (some r)) (hs : Sx.ev σ s = .int .i64 (b : Int)) (hx : Sx.ev σ x = ev v)
    [hp : Pick r H (mapO enc ev es c) Hr] (hn : (es.map (·.b)).Nodup) (hb : (es.find? fun e => decide (key = e.k)).map (·.b) = some b)
    (h : K' undef (blk r (mapO enc ev (putE es key v c) c) :: Hr)) : Ef P w0 H σ ⟨d, .entryStore t m s x, ty, pos, aft, g⟩ K' := fun w hw => by
  have hw' := hw.sub hp.sub
  have hbl : w.heap[r]? = some (mapO enc ev es c) := hw'.holds (blk r _) (by simp)
  obtain ⟨i, h1, h2⟩ := store_at (enc := enc) (ev := ev) es key v b c hn hb
  have h1' : ((es.map (entV enc ev)).toArray).findIdx? (fun e => (e.born : Int) == (b : Int)) = some i := by rw [List.findIdx?_toArray]; exact h1
  simp only [execOp, hm, hs, hx, Instr.entryStore, Sem.run_bind, Result.andThen_ok, getObj_run hbl, asInt, asIntOf, Sem.run_pure, h1', setObj_run hbl, upon]
  refine ⟨_, h, ?_⟩
  have : mapO enc ev (putE es key v c) c = .map ((es.map (entV enc ev)).toArray.modify i fun e => { e with val := ev v }) c := by
    simp only [mapO, ← h2]
    simp
  rw [this]
  exact hw'.setObj
theorem putE_find : ∀ (es : List (Ent κ ν)) (k : κ) (v : ν) (c : Nat), ((putE es k v c).find? fun e => decide (k = e.k)).map (·.b) = some (bornE es k c)
  | [], k, v, c => by simp [putE, bornE]
  | e :: es, k, v, c => by
    by_cases hk : k = e.k
    · simp [putE, hk, bornE]
    · have := putE_find es k v c
      simp only [putE, hk, if_false, bornE] at this ⊢
      rw [List.find?_cons_of_neg (by simp [hk]), List.find?_cons_of_neg (by simp [hk])]
      exact this
theorem putE_putE : ∀ (es : List (Ent κ ν)) (k : κ) (u v : ν) (c c' : Nat), putE (putE es k u c) k v c' = putE es k v c
  | [], k, u, v, c, c' => by simp [putE]
  | e :: es, k, u, v, c, c' => by
    by_cases hk : k = e.k
    · simp [putE, hk]
    · simp only [putE, hk, if_false]
      rw [putE_putE es k u v c c']
theorem putE_keys : ∀ (es : List (Ent κ ν)) (k : κ) (v : ν) (c : Nat), hasE es k = true → (putE es k v c).map (·.k) = es.map (·.k) ∧ (putE es k v c).map (·.b) = es.map (·.b)
  | [], _, _, _, h => by simp [hasE, getE] at h
  | e :: es, k, v, c, h => by
    by_cases hk : k = e.k
    · simp [putE, hk]
    · have h' : hasE es k = true := by simpa [hasE, getE, hk] using h
      obtain ⟨h1, h2⟩ := putE_keys es k v c h'
      simp [putE, hk, h1, h2]
theorem putE_goodK {es : List (Ent κ ν)} {c : Nat} (h : GoodM es c) (k : κ) (v : ν) : GoodM (putE es k v c) (clockE es k c) := by
  cases hh : hasE es k
  · have hk : ∀ e ∈ es, e.k ≠ k := fun e he hke => by
      have : (es.find? fun e => decide (k = e.k)).isSome = true := List.find?_isSome.2 ⟨e, he, by simp [hke]⟩
      simp only [hasE, getE, Option.isSome_map] at hh
      rw [this] at hh; cases hh
    rw [putE_none es k v c hh]
    have hc : clockE es k c = c + 1 := by simp [clockE, hh]
    rw [hc]
    refine ⟨?_, ?_, fun e he => ?_⟩
    · rw [List.map_append, List.nodup_append]
      exact ⟨h.keys, by simp, fun a ha b hb => by
        obtain ⟨e, he, rfl⟩ := List.mem_map.1 ha
        simp at hb; subst hb
        exact hk e he⟩
    · rw [List.map_append, List.nodup_append]
      exact ⟨h.born, by simp, fun a ha b hb => by
        obtain ⟨e, he, rfl⟩ := List.mem_map.1 ha
        simp at hb; subst hb
        have := h.lt e he; omega⟩
    · rcases List.mem_append.1 he with he | he
      · have := h.lt e he; omega
      · simp at he; subst he; exact Nat.lt_succ_self c
  · obtain ⟨h1, h2⟩ := putE_keys es k v c hh
    have hc : clockE es k c = c := by simp [clockE, hh]
    rw [hc]
    refine ⟨h1 ▸ h.keys, h2 ▸ h.born, fun e he => ?_⟩
    have : e.b ∈ (putE es k v c).map (·.b) := List.mem_map.2 ⟨e, he, rfl⟩
    rw [h2] at this
    obtain ⟨e', he', hb⟩ := List.mem_map.1 this
    rw [← hb]; exact h.lt e' he'
theorem getE_putK (es : List (Ent κ ν)) (k key : κ) (v : ν) (c : Nat) : getE (putE es k v c) key = if key = k then some v else getE es key := by
  induction es with
  | nil => by_cases h : key = k <;> simp [putE, getE, h]
  | cons e es ih =>
    by_cases hk : k = e.k
    · by_cases h : key = k
      · subst h; simp [putE, getE, hk]
      · have : ¬ key = e.k := fun h' => h (h'.trans hk.symm)
        simp [putE, getE, hk, h, this]
    · simp only [putE, hk, if_false]
      by_cases h2 : key = e.k
      · have : ¬ key = k := fun h' => hk (h'.symm.trans h2)
        simp [getE, h2, this]
        intro h3; exact absurd (h2.trans h3) this |> fun h => h
      · have e1 : ∀ L : List (Ent κ ν), getE (e :: L) key = getE L key := fun L => by simp [getE, h2]
        rw [e1, e1, ih]
end
end Go.Sx
