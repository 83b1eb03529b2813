/- Arguments opened with what their sizes tell: no slice of more bytes than a machine reaches. General. -/
import Derived.Test.YtpdpapcmfnhgpaaSk
import Derived.SizedLaws
set_option linter.unusedSimpArgs false
set_option linter.unusedVariables false
namespace Go.Sx
open Go.RowKit
/-- As Opn, where each slice of the reading is within reach. -/
class OpnZ (P : Program) (t : TypeId) (α : outParam Type) (enc : outParam (α → List Value)) (Rd : outParam (World → α → Prop)) : Prop where
  ok : ∀ {H : Type} (en : TypeId × Value → H) (w : World) (sp : Nat → Bool) (fuel : Nat) (cs : List Value) (x : DataW H × List MemPlace), DataW.trod en P w 0 sp true fuel t cs = some x → (∀ n ∈ DataW.weights P t x.1, n ≤ reachBytes) → ∃ y : α, cs = enc y ∧ Rd w y
theorem OpnZ.of {P : Program} {t : TypeId} {α : Type} {enc : α → List Value} {Rd : World → α → Prop} (O : Opn P t α enc Rd) : OpnZ P t α enc Rd := ⟨fun en w sp fuel cs x h _ => O.ok en w sp fuel cs x h⟩
theorem weights_mem_all {H : Type} {P : Program} {e : TypeId} : ∀ {ds : List (DataW H)} {d : DataW H}, d ∈ ds → ∀ n ∈ DataW.weights P e d, n ∈ DataW.weightsAll P e ds
  | d0 :: ds, d, hd, n, hn => by
    simp only [DataW.weightsAll, List.mem_append]
    rcases List.mem_cons.1 hd with rfl | hd
    · exact .inl hn
    · exact .inr (weights_mem_all hd n hn)
theorem sized_field {H : Type} {P : Program} {t : TypeId} {fs : Array Field} {f : Field} {x : DataW H × List MemPlace} {xs : List (DataW H × List MemPlace)} {y : DataW H × List MemPlace} {ps : List MemPlace} (hx : x = (.agg (xs.map (·.1)), ps)) (ht : P.underlying t = some (.struct fs)) (i : Nat) (hf : fs[i]? = some f) (hy : xs[i]? = some y) (n : Nat)
    (hn : n ∈ DataW.weights P f.type y.1) : n ∈ DataW.weights P t x.1 := by
  subst hx
  simp only [DataW.weights, ht]
  exact DataW.weights_mem_each (j := i) (t := f.type) (by simp [hf]) (by simp [hy]) n hn
theorem opz_bytes {P : Program} {t e : TypeId} (ht : P.underlying t = some (.slice e)) (he : P.underlying e = some (.int .u8)) (hc : P.cellsOf e = 1) (hb : P.bytesOf e = 1) :
    OpnZ P t BS (fun x => [x.val]) (fun w x => BytesAt w x.val x.l ∧ x.l.length ≤ reachBytes) :=
  ⟨fun en w sp fuel cs x h hz => by
    obtain ⟨y, hy, hr⟩ := (opn_bytes ht he hc).ok en w sp fuel cs x h
    refine ⟨y, hy, hr, ?_⟩
    rcases DataW.trod_slice ht h with ⟨h1, _⟩ | ⟨a, len, cap, elems, rest, m, _, h1, hx, _, _, _, hel, _⟩
    · rw [hy] at h1
      simp only [List.cons.injEq, Value.slice.injEq, and_true] at h1
      rw [h1.2.1]; exact Nat.zero_le _
    · rw [hy] at h1
      simp only [List.cons.injEq, Value.slice.injEq, and_true] at h1
      have := hz ((elems.length + rest.length) * 1) (by subst hx; simp [DataW.weights, ht, hb])
      rw [h1.2.1]; omega⟩
theorem slice_openZ {P : Program} {t e : TypeId} {n : Nat} {α : Type} {enc : α → List Value} {Rd : World → α → Prop} (O : OpnZ P e α enc Rd) (ht : P.underlying t = some (.slice e)) (hn : P.cellsOf e = n) (hpos : 0 < n) (hlen : ∀ y, (enc y).length = n)
    {H : Type} {en : TypeId × Value → H} {w : World} {sp : Nat → Bool} {fuel : Nat} {cs : List Value} {x : DataW H × List MemPlace} (h : DataW.trod en P w 0 sp true fuel t cs = some x) (hz : ∀ n ∈ DataW.weights P t x.1, n ≤ reachBytes) :
    ∃ (a : Option Addr) (c : Nat) (ls : List α), cs = [.slice a ls.length c] ∧ CellsAt w (.slice a ls.length c) n (ls.flatMap enc) ∧ ∀ y ∈ ls, Rd w y := by
  rcases DataW.trod_slice ht h with ⟨hc, _⟩ | ⟨a, len, cap, elems, rest, m, _, hcs, hxx, _, hl, hm, hel, hi, _⟩
  · exact ⟨none, 0, [], by simpa using hc, ⟨none, 0, 0, rfl, by simp, Nat.le_refl _, by unfold maxLen; omega, by simp⟩, by simp⟩
  · rw [hn] at hi
    have hex : ∀ i, i < len → ∃ y, w.cells? 0 (a.add (i * n)) n = some (enc y) ∧ Rd w y := fun i hlt => by
      have h1 := hi i hlt
      rw [List.getElem?_eq_getElem (by omega)] at h1
      simp only [Option.bind_eq_some_iff] at h1
      obtain ⟨c1, h2, h3⟩ := h1
      obtain ⟨y, rfl, hy⟩ := O.ok en w sp m c1 _ h3 (fun k hk => hz k (by
        subst hxx
        simp only [DataW.weights, ht, List.mem_cons, List.mem_append]
        exact .inr (.inl (weights_mem_all (List.mem_map.2 ⟨_, List.getElem_mem (by omega), rfl⟩) k hk))))
      exact ⟨y, h2, hy⟩
    obtain ⟨ls, hls, hp⟩ := list_pick len hex
    have hcell : ∀ i (hi : i < ls.length) j, j < n → w.cell? ((a.add (i * n)).add j) = (enc ls[i])[j]? := fun i hi j hj => cells?_get (hp i hi).1 j hj
    have hspot : 0 < len → a.spot = none := fun h0 => by
      have h1 := hcell 0 (by omega) 0 hpos
      rw [show (a.add (0 * n)).add 0 = a by simp [Addr.add], List.getElem?_eq_getElem (by rw [hlen]; exact hpos)] at h1
      unfold World.cell? at h1
      split at h1
      · split at h1
        · cases h1
        · rename_i hs; simpa using hs
      · cases h1
    refine ⟨some a, cap, ls, by rw [hls]; exact hcs, ⟨some a, ls.length, cap, rfl, flat_len enc n hlen ls, by omega, hm, fun h0 => ?_⟩, fun y hy => ?_⟩
    · have h0' : 0 < len := by
        rw [flat_len enc n hlen ls, hls] at h0
        rcases Nat.eq_zero_or_pos len with h | h
        · subst h; simp at h0
        · exact h
      refine ⟨a.block, a.off, ?_, fun j u hj => ?_⟩
      · have := hspot h0'
        cases a; simp_all
      · have hjl : j < ls.length * n := by
          have := (List.getElem?_eq_some_iff.1 hj).1
          rwa [flat_len enc n hlen ls] at this
        have hq : j / n < ls.length := Nat.div_lt_of_lt_mul (by rwa [Nat.mul_comm] at hjl)
        have hr : j % n < n := Nat.mod_lt _ hpos
        have hjd : j / n * n + j % n = j := by rw [Nat.mul_comm]; exact Nat.div_add_mod j n
        have h1 := hcell (j / n) hq (j % n) hr
        rw [← flat_get enc n hlen ls (j / n) (j % n) hq hr, hjd, hj] at h1
        have e : (a.add (j / n * n)).add (j % n) = ⟨a.block, a.off + j, none⟩ := by
          have hs := hspot h0'
          obtain ⟨ab, ao, as⟩ := a
          simp only at hs
          subst hs
          rw [add_off, add_off, Nat.add_assoc, hjd]
        rw [e] at h1
        exact h1
    · obtain ⟨i, hi, rfl⟩ := List.getElem_of_mem hy
      exact (hp i hi).2
theorem opz_parts {P : Program} {t e u : TypeId} (ht : P.underlying t = some (.slice e)) (he : P.underlying e = some (.slice u)) (hu : P.underlying u = some (.int .u8)) (hc : P.cellsOf e = 1) (hc' : P.cellsOf u = 1) (hb : P.bytesOf u = 1) :
    OpnZ P t PS (fun x => [.slice x.a x.ls.length x.c]) (fun w x => CellsAt w (.slice x.a x.ls.length x.c) 1 (x.ls.map BS.val) ∧ ∀ y ∈ x.ls, BytesAt w y.val y.l ∧ y.l.length ≤ reachBytes) :=
  ⟨fun en w sp fuel cs x h hz => by
    obtain ⟨a, c, ls, h1, h2, h3⟩ := slice_openZ (opz_bytes he hu hc' hb) ht hc (by omega) (fun _ => rfl) h hz
    rw [flatMap_vals] at h2
    exact ⟨⟨a, c, ls⟩, h1, h2, h3⟩⟩
theorem open_aggZ {P : Program} {w : World} {t : TypeId} {v : Value} {b : Nat} {d : TypeDesc} {α : Type} {enc : α → List Value} {Rd : World → α → Prop} (O : OpnZ P t α enc Rd) (hd : P.underlying t = some d) (hs : (match d with | .struct _ | .array _ _ => true | _ => false) = true) (h : Value.okWide P w .any b t v)
    {H : Type} {en : TypeId × Value → H} {sp : Nat → Bool} {x : DataW H} {ps : List MemPlace} (hx : DataW.Trod en P w 0 sp true t v x ps) (hz : ∀ n ∈ DataW.weights P t x, n ≤ reachBytes) : ∃ y : α, v = .agg (enc y).toArray ∧ Rd w y := by
  obtain ⟨cs, rfl⟩ := agg_of_okWide hd hs h
  obtain ⟨fuel, hf⟩ := hx
  obtain ⟨y, hy, hr⟩ := O.ok en w sp fuel _ _ hf hz
  refine ⟨y, ?_, hr⟩
  rw [← hy]
  rfl
theorem sized_at {H : Type} {P : Program} {ts : List TypeId} {ds : List (DataW H)} (h : (DataW.weightsEach P ts ds).all (· ≤ reachBytes) = true) (j : Nat) {t : TypeId} {d : DataW H} (ht : ts[j]? = some t) (hd : ds[j]? = some d) : ∀ n ∈ DataW.weights P t d, n ≤ reachBytes := fun n hn => by
  have := List.all_eq_true.1 h n (DataW.weights_mem_each ht hd n hn)
  simpa using this
end Go.Sx
