/- Walks: the keys of a map, at keys that are structs, collected. -/
import Derived.Sort.MapsRangeIn
import Derived.WalkKit
import Derived.OwnWalkIn
import Derived.TacticsInMore
import Derived.RegionIn
import Derived.LoopNIn
import Derived.LoopIn
import Derived.RangeFuncNested
import Derived.Shelf.Abstract
import Derived.Test.YtdjbhpdfkopdgaaAa
namespace Go.Proofs.Ytdjbhpdfkopdgaa
open Go.RowKit Go.Sx
set_option maxRecDepth 100000
set_option linter.unusedSimpArgs false
set_option linter.unusedVariables false
open Go.Maps
section
variable {P : Program} {F : Fence} {n : Nat} {ops : Array Oper} {rest : List Oper} {o : Oper} {a : Act} {Q : Exit → Act → World → Prop} {κ ν : Type} {enc : κ → Value} {ev : ν → Value}
theorem run_rangeM (w : World) {t k e : TypeId} {r c : Nat} {es : List (Ent κ ν)} (ht : P.underlying t = some (.map k e)) (h : w.heap[r]? = some (mapO enc ev es c)) :
    (Instr.range t (.map (some r))).run P w = .ok (.pointer (some ⟨w.heap.size, 0, none⟩)) (w.alloc (.mapIter (some r) c #[] c)) := by
  simp only [Instr.range, Sem.run_bind, run_underlying ht, Result.andThen_ok, getObj_run h, Sem.run_pure, run_newObj]
  rfl
theorem run_nextM (w : World) (ty : TypeId) {it r since last c : Nat} {seen : Array Nat} {es : List (Ent κ ν)} (hb : w.heap[it]? = some (.mapIter (some r) since seen last)) (hmr : w.heap[r]? = some (mapO enc ev es c)) (hs : ∀ e ∈ es, e.b < since) (hl : ∀ e ∈ es, e.b < last) :
    (leftE es seen = [] ∧ (Instr.next (.pointer (some ⟨it, 0, none⟩)) false ty).run P w = .ok (.tuple #[.bool false]) w) ∨
    ∃ e ∈ leftE es seen, ∃ m, (Instr.next (.pointer (some ⟨it, 0, none⟩)) false ty).run P w = .ok (.tuple #[.bool true, enc e.k, ev e.v]) { w with drawn := m, heap := w.heap.setIfInBounds it (.mapIter (some r) since (seen.push e.b) c) } := by
  simp only [Instr.next, Sem.run_bind, getIter_run hb, Result.andThen_ok, getObj_run hmr]
  have hall : (!seen.isEmpty && !(es.map (entV enc ev)).toArray.isEmpty && (es.map (entV enc ev)).toArray.all fun x => decide (x.born ≥ last)) = false := by
    cases es with
    | nil => simp
    | cons e es =>
      have := hl e (by simp)
      have hne : ¬ (e.b ≥ last) := by omega
      simp [entV, hne]
  rw [hall]
  simp only [Bool.false_eq_true, if_false, Sem.run_bind, Sem.run_pure, Result.andThen_ok]
  have hleft : (Array.filter (fun e : MapEntry => !seen.contains e.born) (es.map (entV enc ev)).toArray) = ((leftE es seen).map (entV enc ev)).toArray := by
    rw [List.filter_toArray]; simp only [leftE]
    congr 1
    rw [List.filter_map]
    rfl
  have hold : (Array.filter (fun e : MapEntry => decide (e.born < since)) ((leftE es seen).map (entV enc ev)).toArray) = ((leftE es seen).map (entV enc ev)).toArray := by
    rw [List.filter_toArray]
    congr 1
    rw [List.filter_eq_self]
    intro a ha
    obtain ⟨e, he, rfl⟩ := List.mem_map.1 ha
    have := hs e (List.mem_filter.1 he).1
    exact decide_eq_true this
  have hnew : (Array.filter (fun e : MapEntry => decide (e.born ≥ since)) ((leftE es seen).map (entV enc ev)).toArray) = #[] := by
    rw [List.filter_toArray]
    congr 1
    rw [List.filter_eq_nil_iff]
    intro a ha
    obtain ⟨e, he, rfl⟩ := List.mem_map.1 ha
    have := hs e (List.mem_filter.1 he).1
    simpa [entV] using this
  rw [hleft, hold, hnew]
  cases hlf : leftE es seen with
  | nil =>
    have hch : (choose (.mapNext 1)).run P w = .ok 0 w := by simp [run_choose, Question.forced]
    simp only [List.map_nil, Array.append_empty, List.map_toArray, Array.isEmpty]
    simp [hch, Question.forced]
  | cons e0 l0 =>
    right
    have hn : ((((e0 :: l0).map (entV enc ev)).toArray ++ #[]).map some).size = (e0 :: l0).length := by simp
    have hne : (((e0 :: l0).map (entV enc ev)).toArray).isEmpty = false := by simp
    simp only [hne, Bool.false_eq_true, if_false, Array.empty_append]
    have hchoose : ∃ i w', (choose (.mapNext ((((e0 :: l0).map (entV enc ev)).toArray ++ #[]).map some).size)).run P w = .ok i w' ∧ i < (e0 :: l0).length ∧ ∃ m, w' = { w with drawn := m } := by
      rw [hn, run_choose]
      split
      · exact ⟨0, w, rfl, by simp, w.drawn, rfl⟩
      · refine ⟨_, _, rfl, ?_, _, rfl⟩
        simp only [Question.cut]
        exact Nat.mod_lt _ (by simp)
    obtain ⟨i, w', hc, hi, m, hw2⟩ := hchoose
    obtain ⟨e, he⟩ : ∃ e, (e0 :: l0)[i]? = some e := ⟨_, List.getElem?_eq_getElem hi⟩
    have hcand : ((((e0 :: l0).map (entV enc ev)).toArray ++ #[]).map some)[i]? = some (some (entV enc ev e)) := by
      rw [Array.append_empty, Array.getElem?_map, List.getElem?_toArray, List.getElem?_map, he]
      rfl
    have hb' : w'.heap[it]? = some (.mapIter (some r) since seen last) := by rw [hw2]; exact hb
    refine ⟨e, List.mem_of_getElem? he, m, ?_⟩
    simp only [hc, Result.andThen_ok, hcand, Sem.run_bind, setIter_run hb', Sem.run_pure]
    subst hw2
    rfl
theorem run_entryM (w : World) {it r since c : Nat} {seen : Array Nat} {es : List (Ent κ ν)} (e : Ent κ ν) (hi : w.heap[it]? = some (.mapIter (some r) since (seen.push e.b) c)) (hm : w.heap[r]? = some (mapO enc ev es c))
    (he : e ∈ es) (hn : (es.map (·.b)).Nodup) : (Instr.entry (.pointer (some ⟨it, 0, none⟩))).run P w = .ok (.tuple #[enc e.k, ev e.v]) w := by
  have hfind : ((es.map (entV enc ev)).toArray.find? fun y => y.born == e.b) = some (entV enc ev e) := by
    rw [List.find?_toArray, List.find?_map]
    have : es.find? ((fun y : MapEntry => y.born == e.b) ∘ entV enc ev) = some e := by
      clear hm
      induction es with
      | nil => cases he
      | cons a l ih =>
        simp only [List.map_cons, List.nodup_cons] at hn
        rcases List.mem_cons.1 he with rfl | he
        · simp [entV]
        · have hne : ¬ a.b = e.b := fun h => hn.1 (h ▸ List.mem_map.2 ⟨e, he, rfl⟩)
          simp only [List.find?_cons, Function.comp, entV]
          have : (a.b == e.b) = false := by simpa using hne
          rw [this]
          exact ih he hn.2
    rw [this]
    rfl
  simp only [Instr.entry, Sem.run_bind, getIter_run hi, Result.andThen_ok, getObj_run hm, Array.back?_push]
  simp only [bne_self_eq_false, Bool.false_eq_true, if_false, Sem.run_bind, Sem.run_pure, Result.andThen_ok, hfind]
  rfl
theorem wpListIn_rangeM (w : World) (hg : o.guard = none) (x : Operand) (t k e : TypeId) (hop : o.op = Op.range t x) {r c : Nat} {es : List (Ent κ ν)} (ht : P.underlying t = some (.map k e)) (hx : a.eval x = .map (some r)) (h : w.heap[r]? = some (mapO enc ev es c))
    (hK : wpListIn F n P ops Q rest (a.put o.dst (.pointer (some ⟨w.heap.size, 0, none⟩))) (w.alloc (.mapIter (some r) c #[] c))) : wpListIn F n P ops Q (o :: rest) a w := by
  refine wpListIn_plain hg fun K' hK' => ?_
  have hrun := run_rangeM (P := P) w ht h
  unfold Oper.wpIn
  refine ⟨by simp [Oper.about, hop], ?_⟩
  rw [Oper.semAt_plain F _ _ (by rw [hop]; intro c hc'; cases hc')]
  simp [execOp, hop, hx, hrun, Result.andThen]
  exact hK' _ _ hK
structure TurnedM (w w' : World) (it : Nat) (m : Option Nat) (since last b : Nat) (seen : Array Nat) : Prop where
  gr : w.grownBy w' (some it)
  at_ : w'.heap[it]? = some (.mapIter m since (seen.push b) last)
theorem TurnedM.of (w : World) {it : Nat} {o : Obj} (h : w.heap[it]? = some o) (dr : Nat) (m : Option Nat) (since last b : Nat) (seen : Array Nat) : TurnedM w { w with drawn := dr, heap := w.heap.setIfInBounds it (.mapIter m since (seen.push b) last) } it m since last b seen :=
  ⟨⟨rfl, rfl, rfl, by simp, fun k _ hk => by show (w.heap.setIfInBounds _ _)[k]? = _; rw [Array.getElem?_setIfInBounds_ne (fun e => hk (by rw [e]))]⟩, by show (w.heap.setIfInBounds _ _)[_]? = _; rw [Array.getElem?_setIfInBounds_self_of_lt (Array.getElem?_eq_some_iff.1 h).1]⟩
theorem wpListIn_nextM (w : World) (hg : o.guard = none) (x : Operand) (hop : o.op = Op.next x false) {it r since last c : Nat} {seen : Array Nat} {es : List (Ent κ ν)} (hx : a.eval x = .pointer (some ⟨it, 0, none⟩)) (hb : w.heap[it]? = some (.mapIter (some r) since seen last)) (hmr : w.heap[r]? = some (mapO enc ev es c)) (hs : ∀ e ∈ es, e.b < since) (hl : ∀ e ∈ es, e.b < last)
    (hDone : leftE es seen = [] → wpListIn F n P ops Q rest (a.put o.dst (.tuple #[.bool false])) w)
    (hMore : ∀ e ∈ leftE es seen, ∀ w', TurnedM w w' it (some r) since c e.b seen → wpListIn F n P ops Q rest (a.put o.dst (.tuple #[.bool true, enc e.k, ev e.v])) w') : wpListIn F n P ops Q (o :: rest) a w := by
  refine wpListIn_plain hg fun K' hK' => ?_
  unfold Oper.wpIn
  refine ⟨by simp [Oper.about, hop], ?_⟩
  rw [Oper.semAt_plain F _ _ (by rw [hop]; intro c hc'; cases hc')]
  rcases run_nextM (P := P) w o.type hb hmr hs hl with ⟨h0, hrun⟩ | ⟨e, he, m, hrun⟩
  · simp [execOp, hop, hx, hrun, Result.andThen]
    exact hK' _ _ (hDone h0)
  · simp [execOp, hop, hx, hrun, Result.andThen]
    exact hK' _ _ (hMore e he _ (TurnedM.of w hb m (some r) since c e.b seen))
end
theorem nodup_len : ∀ (l m : List Nat), l.Nodup → (∀ x ∈ l, x ∈ m) → l.length ≤ m.length
  | [], _, _, _ => Nat.zero_le _
  | x :: l, m, hn, h => by
    obtain ⟨h1, h2⟩ := List.nodup_cons.1 hn
    have hx := h x (by simp)
    have := nodup_len l (m.erase x) h2 (fun y hy => (List.mem_erase_of_ne (by rintro rfl; exact h1 hy)).2 (h y (by simp [hy])))
    rw [List.length_erase_of_mem hx] at this
    have := List.length_pos_of_mem hx
    simp only [List.length_cons]
    omega
theorem nodup_of_map {α β : Type} {f : α → β} {l : List α} (h : (l.map f).Nodup) : l.Nodup := (List.pairwise_map.1 h).imp fun h e => h (by rw [e])
theorem leftE_nil {κ ν : Type} {es gs : List (Ent κ ν)} (hsub : ∀ g ∈ gs, g ∈ es) (hnd : (gs.map (·.b)).Nodup) (hes : (es.map (·.b)).Nodup) (h : leftE es (gs.map (·.b)).toArray = []) : gs.Perm es := by
  have n1 : gs.Nodup := nodup_of_map hnd
  have n2 : es.Nodup := nodup_of_map hes
  rw [List.perm_ext_iff_of_nodup n1 n2]
  intro e
  refine ⟨hsub e, fun he => ?_⟩
  have h1 : e ∉ leftE es (gs.map (·.b)).toArray := by rw [h]; simp
  have h2 : e.b ∈ gs.map (·.b) := by
    refine Classical.byContradiction fun hn => h1 (List.mem_filter.2 ⟨he, ?_⟩)
    simpa using hn
  obtain ⟨g, hg, hgb⟩ := List.mem_map.1 h2
  have : g = e := by
    have hp := List.pairwise_iff_getElem.1 (List.nodup_iff_pairwise_ne.1 hes)
    obtain ⟨i, hi, rfl⟩ := List.getElem_of_mem (hsub g hg)
    obtain ⟨j, hj, rfl⟩ := List.getElem_of_mem he
    rcases Nat.lt_trichotomy i j with h | h | h
    · exact absurd (by rw [List.getElem_map, List.getElem_map]; exact hgb) (hp i j (by simpa using hi) (by simpa using hj) h)
    · subst h; rfl
    · exact absurd (by rw [List.getElem_map, List.getElem_map]; exact hgb.symm) (hp j i (by simpa using hj) (by simpa using hi) h)
  exact this ▸ hg
theorem gs_len {κ ν : Type} {es gs : List (Ent κ ν)} (hsub : ∀ g ∈ gs, g ∈ es) (hnd : (gs.map (·.b)).Nodup) : gs.length ≤ es.length := by
  have := nodup_len (gs.map (·.b)) (es.map (·.b)) hnd (fun x hx => by obtain ⟨g, hg, rfl⟩ := List.mem_map.1 hx; exact List.mem_map.2 ⟨g, hsub g hg, rfl⟩)
  simpa using this
set_option maxRecDepth 100000 in
set_option maxHeartbeats 1000000 in
theorem keysS_in (F : Fence) (n : Nat) (hF : F.fn 61) (hro : F.round = none) (hn : 1 ≤ n) (l Bm r c : Nat) (es : List (Ent EraV VoteV)) (hg : GoodM es c) (J Jx : List EraV → World → Prop)
    (hY : ∀ pre x W, J pre W → pre.length < es.length → YieldAt F (n - 1) Try.prog l #[encE x] W fun e W' => (e = .returned (.bool true) ∧ J (pre ++ [x]) W' ∧ KeepsWalks W W') ∨ (e = .returned (.bool false) ∧ Jx (pre ++ [x]) W'))
    (W : World) (hJ : AbidesFrom W.heap.size J) (hm : W.cell? ⟨Bm, 0, none⟩ = some (.map (some r))) (hr : W.heap[r]? = some (mapO encE encV es c)) (h0 : J [] W) :
    CallsIn F n Try.prog 61 #[.func (.yield l) #[] #[], .pointer (some ⟨Bm, 0, none⟩)] W fun e W' => (∃ v, e = .returned v) ∧ ((∃ ss : List EraV, ss.Perm (es.map (·.k)) ∧ J ss W') ∨ (∃ pre, True ∧ Jx pre W')) := by
  refine callsIn_of_wp Try.func61 rfl hF ?_ hro
  simp only [Try.ntmps61, List.size_toArray, List.length_cons, List.length_nil, Nat.reduceAdd, Nat.reduceSub, Array.replicate_succ, Array.replicate_zero, List.push_toArray, List.append_toArray, List.nil_append, List.cons_append]
  gi_wp2_with (first
    | (gi_at_range; refine wpListIn_rangeM _ rfl _ 55 _ _ rfl Try.underlying55 rfl hr ?_)
    | gi_in)
  go_frame
  gi_loopw [3] (fun _ wr => ∃ gs : List (Ent EraV VoteV), wr.heap[W.heap.size]? = some (.mapIter (some r) c (gs.map (·.b)).toArray c) ∧ wr.heap[r]? = some (mapO encE encV es c) ∧ (∀ g ∈ gs, g ∈ es) ∧ (gs.map (·.b)).Nodup ∧ J (gs.map (·.k)) wr)
    (fun _ wr => match wr.heap[W.heap.size]? with | some (.mapIter _ _ seen _) => es.length - seen.size | _ => 0)
  case atStart =>
    refine ⟨[], World.alloc_heap_new W _, (Below.heap_alloc _ _ r (Array.getElem?_eq_some_iff.1 hr).1).trans hr, by simp, by simp, hJ [] W _ none h0 (World.grownBy_alloc W _ none) (fun r e => by cases e)⟩
  case round =>
    obtain ⟨gs, hit, hmr, hsub, hnd, hJs⟩ := hrel
    gi_wp2_with (first
      | (gi_at_next; refine wpListIn_nextM _ rfl _ rfl rfl hit hmr (fun e he => hg.lt e he) (fun e he => hg.lt e he) ?_ ?_)
      | gi_in)
    · intro hl0
      gi_wp2
      go_end0
      exact ⟨⟨_, rfl⟩, .inl ⟨_, (leftE_nil hsub hnd hg.born hl0).map _, hJs⟩⟩
    · intro e he w2 hw2
      obtain ⟨hees, hnew⟩ := List.mem_filter.1 he
      have hnew : e.b ∉ gs.map (·.b) := by simpa using hnew
      have hsub2 : ∀ g ∈ gs ++ [e], g ∈ es := fun g hg => (List.mem_append.1 hg).elim (hsub g) (fun h => by obtain rfl : g = e := (by simpa using h); exact hees)
      have hnd2 : ((gs ++ [e]).map (·.b)).Nodup := by
        rw [List.map_append, List.nodup_append]
        exact ⟨hnd, by simp, fun a ha b hb => by obtain rfl : b = e.b := (by simpa using hb); rintro rfl; exact hnew ha⟩
      have hlen := gs_len hsub2 hnd2
      rw [List.length_append] at hlen
      have hlen : gs.length + 1 ≤ es.length := hlen
      have hlt : W.heap.size < wr.heap.size := (Array.getElem?_eq_some_iff.1 hit).1
      have hgr := hw2.gr
      have hJ2 : J (gs.map (·.k)) w2 := hJ _ wr w2 (some W.heap.size) hJs hgr (fun r e => by cases e; exact ⟨Nat.le_refl _, _, hit, rfl⟩)
      have hit2 := hw2.at_
      have hne : r ≠ W.heap.size := by intro h; rw [h, hit] at hmr; cases hmr
      have hmr2 : w2.heap[r]? = some (mapO encE encV es c) := (hgr.block r (Array.getElem?_eq_some_iff.1 hmr).1 (fun h => hne (by cases h; rfl))).trans hmr
      have hen := run_entryM (P := Try.prog) w2 e hit2 hmr2 hees hg.born
      have hek : encE e.k = .agg #[.int .i64 e.k.view, .int .i64 e.k.reg] := rfl
      rw [hek] at hen ⊢
      have hJa : J (gs.map (·.k)) (w2.alloc (.cells #[.int .i64 e.k.view, .int .i64 e.k.reg] 57)) := hJ _ w2 _ none hJ2 (World.grownBy_alloc w2 _ none) (fun r e => by cases e)
      obtain ⟨fn, tmps, assign, body, hy, hR⟩ := hY _ e.k _ hJa (by simp; omega)
      rw [hek] at hy
      have hita : (w2.alloc (.cells #[.int .i64 e.k.view, .int .i64 e.k.reg] 57)).heap[W.heap.size]? = some (.mapIter (some r) c ((gs.map (·.b)).toArray.push e.b) c) := (Below.heap_alloc _ _ _ (Array.getElem?_eq_some_iff.1 hit2).1).trans hit2
      have hmra : (w2.alloc (.cells #[.int .i64 e.k.view, .int .i64 e.k.reg] 57)).heap[r]? = some (mapO encE encV es c) := (Below.heap_alloc _ _ _ (Array.getElem?_eq_some_iff.1 hmr2).1).trans hmr2
      clear hw2
      gi_wp2
      refine hR.mono ?_
      rintro e' W3 (⟨rfl, hJ3, hk3⟩ | ⟨rfl, hJx3⟩)
      · gi_wp2
        have hit3 := hk3.same _ _ hita rfl
        go_roundw
        case rel => exact ⟨gs ++ [e], by rw [hit3]; simp, hk3.same _ _ hmra rfl, hsub2, hnd2, by simpa using hJ3⟩
        case measure => rw [hit3, hit]; simp; omega
      · gi_wp2
        refine bodyPost_ret (results_none rfl _ _ _) rfl ?_
        exact ⟨⟨_, rfl⟩, .inr ⟨_, trivial, hJx3⟩⟩
theorem keysS_stops (F : Fence) (n : Nat) (hF : F.fn 61) (hro : F.round = none) (hn : 1 ≤ n) (Bm r c : Nat) (es : List (Ent EraV VoteV)) (hg : GoodM es c) (w : World) (hBm : Bm < w.heap.size) (hm : w.cell? ⟨Bm, 0, none⟩ = some (.map (some r))) (hr : w.heap[r]? = some (mapO encE encV es c)) :
    SeqStopsA F n Try.prog 61 #[.pointer (some ⟨Bm, 0, none⟩)] (fun x => #[encE x]) (fun ss => ss.Perm (es.map (·.k))) (fun _ => True) es.length w := fun l J Jx W hW hJ _ hY h0 =>
  keysS_in F n hF hro hn l Bm r c es hg J Jx hY W hJ ((hW.cell (p := ⟨Bm, 0, none⟩) hBm).trans hm) ((hW.block r (Array.getElem?_eq_some_iff.1 hr).1).trans hr) h0
end Go.Proofs.Ytdjbhpdfkopdgaa
