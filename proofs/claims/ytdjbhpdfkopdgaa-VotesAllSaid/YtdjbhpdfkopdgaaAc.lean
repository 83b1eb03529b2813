/- Walks: AppendSeq and Collect at structs. -/
import Derived.Test.YtdjbhpdfkopdgaaAb
namespace Go.Proofs.Ytdjbhpdfkopdgaa
open Go.RowKit Go.Sx
set_option maxRecDepth 100000
set_option linter.unusedSimpArgs false
set_option linter.unusedVariables false
open Go.Maps
def Held (p : Prop) : Prop := p
theorem Held.of {p : Prop} (h : Held p) : p := h
theorem cells_two (W : World) (t : TypeId) (a b : Value) : ∀ j u, [a, b][j]? = some u → (W.alloc (.cells #[a, b] t)).cell? ((⟨W.heap.size, 0, none⟩ : Addr).add j) = some u := fun j u h => by
  have hb : (W.alloc (.cells #[a, b] t)).heap[W.heap.size]? = some (.cells #[a, b] t (0, 0)) := World.alloc_heap_new W _
  rw [add_block, cell_of_blk hb]
  simpa using h
/-- Between two rounds: what the box holds. -/
def ApI (w : World) (ss : List EraV) (W : World) : Prop :=
  (∃ v, W.heap[w.heap.size]? = some (.cells #[v] 82 (0, 0)) ∧ W.ownsRow w.heap.size 57 2 v ss.length (ss.flatMap EraV.list) ∧ (v = .slice none 0 0 ↔ ss = [])) ∧ Below w.heap.size w W
theorem ApI.own (w : World) (B : Nat) (hB : w.heap.size < B) : OwnFrom B (ApI w) := fun s W W' row h hg hr => by
  obtain ⟨⟨v, hv, hrow, hn⟩, hb⟩ := h
  refine ⟨⟨v, (hg.block _ (Array.getElem?_eq_some_iff.1 hv).1 (fun e => by have := (hr _ e.symm).1; omega)).trans hv, hrow.kept hg ?_, hn⟩, hb.grown hg hb.size (fun k e => by have := (hr k e).1; omega)⟩
  rcases hrow.2 with ⟨rfl, _⟩ | ⟨g, cap, cur, rfl, _, hgb, _⟩
  · exact .inl rfl
  · refine .inr fun e' => ?_
    obtain ⟨-, o, ho, hw⟩ := hr g (by simpa [Value.ownBlock] using e'.symm)
    rw [hgb] at ho; cases ho; cases hw
set_option maxRecDepth 100000 in
set_option maxHeartbeats 2000000 in
theorem appendS_in (F : Fence) (n : Nat) (h11 : F.fn 63) (hro : F.round = none) (hn : 2 ≤ n) (g : Nat) (lb : Array Value) (hFg : F.fn g) (eg : ∀ args w, (callFunc g args).run Try.prog w = .ok (.enter g args) w) (Sx : List EraV → Prop) (N : Nat) (hN : N ≤ 100000) (w : World)
    (hseq : SeqStopsA F (n - 1) Try.prog g lb (fun x => #[encE x]) Sx (fun _ => True) N w) :
    CallsIn F n Try.prog 63 #[.slice none 0 0, .func (.func g) #[] lb] w fun e w' => ∃ (v : Value) (ss : List EraV), e = .returned v ∧ Sx ss ∧ w'.ownsRow w.heap.size 57 2 v ss.length (ss.flatMap EraV.list) ∧ Below w.heap.size w w' := by
  have h1 : 1 ≤ n := by omega
  refine callsIn_of_wp_marks Try.func63 rfl h11 ?_ hro
  simp only [Try.ntmps63, List.size_toArray, List.length_cons, List.length_nil, Nat.reduceAdd, Nat.reduceSub, Array.replicate_succ, Array.replicate_zero, List.push_toArray, List.append_toArray, List.nil_append, List.cons_append]
  gi_wp2
  obtain ⟨W0, hW0⟩ : ∃ W0, w.alloc (.cells #[.slice none 0 0] 82) = W0 := ⟨_, rfl⟩
  have hs0 : W0.heap.size = w.heap.size + 1 := by rw [← hW0]; simp
  have hv0 : W0.heap[w.heap.size]? = some (.cells #[.slice none 0 0] 82 (0, 0)) := by rw [← hW0]; exact World.alloc_heap_new w _
  have hb0 : Below w.heap.size w W0 := by rw [← hW0]; exact (Below.refl _ w).alloc (Nat.le_refl _) _
  rw [hW0]
  refine wpIn_rangeFunc_ownH hro h1 (gf := g) (lb := lb) rfl hFg eg (seqStopsA_iff.1 hseq) walksK_t walksK_b hb0 (fun _ => rfl) (ApI w) (fun _ _ _ => False) (ApI.own w _ (by omega)) (fun _ _ _ _ _ h => h.elim)
    ⟨⟨_, hv0, ⟨rfl, .inl ⟨rfl, rfl⟩⟩, by simp⟩, hb0⟩
    (fun x a' W => ∃ Bx, w.heap.size < Bx ∧ W.heap[Bx]? = some (.cells x.cells 57 (0, 0)) ∧ a' = { tmps := #[.slice none 0 0, .func (.func g) #[] lb, .pointer (some ⟨w.heap.size, 0, none⟩), undef, .slice none 0 0, .pointer (some ⟨Bx, 0, none⟩), .func (.func g) #[] lb, encE x, undef, undef, undef, undef, undef], defers := [] })
    (fun x a' _ X Y row hs hg hr => by obtain ⟨Bx, h1, h2, h3⟩ := hs; exact ⟨Bx, h1, (hg.block _ (Array.getElem?_eq_some_iff.1 h2).1 (fun e => by obtain ⟨-, o, ho, hc⟩ := hr _ e.symm; rw [h2] at ho; cases ho; cases hc)).trans h2, h3⟩)
    ?assign ?body ?done (fun _ _ _ _ _ _ h => h.elim)
  case assign =>
    rintro l pre x W K hI hK
    have hex : encE x = .agg #[.int .i64 x.view, .int .i64 x.reg] := rfl
    have hK := fun a' W' h1 h2 h3 h4 => hK a' W' h1 h2 h3 h4
    simp only [hex] at hK ⊢
    gi_wp2_with (rw [Oper.semAt_eq _ _ _ (fun c h => by cases h)]; go_simp; try go_bits)
    exact hK _ _ ((KeepsOthers.alloc _ _).from _) (KeepsWalks.alloc _ _) ((ApI.own w (w.heap.size + 1) (by omega)).alloc _ hI) ⟨W.heap.size, by have := hI.2.size; obtain ⟨⟨v, hv, -⟩, -⟩ := hI; exact (Array.getElem?_eq_some_iff.1 hv).1, World.alloc_heap_new W _, rfl⟩
  case body =>
    rintro l pre x a' W hl ⟨r, hr⟩ hI ⟨Bx, hBx, bX, rfl⟩ hlt
    obtain ⟨⟨v, hv, hrow, hnil⟩, hbe⟩ := hI
    have hc : W.cell? ⟨w.heap.size, 0, none⟩ = some v := by rw [cell_of_blk hv]; rfl
    have hf : W.frozen? ⟨w.heap.size, 0, none⟩ = false := by simp [World.frozen?, hv]
    have hx0 : W.cell? ⟨Bx, 0, none⟩ = some (.int .i64 x.view) := by rw [cell_of_blk bX]; rfl
    have hx1 : W.cell? ⟨Bx, 1, none⟩ = some (.int .i64 x.reg) := by rw [cell_of_blk bX]; rfl
    obtain ⟨i0, hi, hz0, hz1, hz2⟩ := info_parts (P := Try.prog) (e := 57) (z := .agg #[.int .i64 0, .int .i64 0]) (size := 2) (bytes := 16) (by kernel_rfl)
    have hbv : Boxed W w.heap.size 82 v := hv
    have hsz := hbe.size
    gi_wp2_with (first | (gi_at_builtin; refine Held.of ?_) | (rw [Oper.semAt_eq _ _ _ (fun c h => by cases h)]; go_simp; try go_bits))
    unfold Held
    refine wpListIn_append_own _ rfl _ _ 82 rfl w.heap.size 57 i0 (.agg #[.int .i64 0, .int .i64 0]) 2 16 Try.underlying82 hi hz0 hz1 hz2 rfl (by decide) v pre.length _ rfl (hrow.alloc _) ⟨W.heap.size, 0, none⟩ 1 1 [.int .i64 x.view, .int .i64 x.reg] rfl rfl (cells_two W _ _ _) (by simp [Value.oneCell']) (by unfold maxLen; omega) (by omega) (by simp; omega) ?_
    intro v' w3 hown' hg3 hnil3
    obtain ⟨g', cap', rfl⟩ := ownsRow_succ hown'
    obtain ⟨hb3, hbs, hrs, hko, hbl⟩ := Boxed.appended hbv (by decide) hrow hbe.size (Nat.le_refl _) hown' hg3
    have hc3 := hb3.cell
    have hf3 := hb3.frozen
    go_frame
    gi_wp2_with (rw [Oper.semAt_eq _ _ _ (fun c h => by cases h)]; go_simp; try go_bits)
    exact ⟨hko.from _, hko.walks, ⟨_, hbs, by simpa [EraV.list] using hrs, by simp⟩, hbe.trans hbl⟩
  case done =>
    rintro D xs W hD hS ⟨⟨v, hv, hrow, hnil⟩, hbe⟩ hK
    have hc : W.cell? ⟨w.heap.size, 0, none⟩ = some v := by rw [cell_of_blk hv]; rfl
    have hf : W.frozen? ⟨w.heap.size, 0, none⟩ = false := by simp [World.frozen?, hv]
    gi_wp2
    refine ⟨by simp, .inl ⟨_, _, rfl, run_takeDeferred hK, ?_⟩⟩
    exact ⟨_, results_tmp rfl _ _ _, v, xs, rfl, hS, ownsRow_putObj hrow _ hK rfl, hbe.grown (grownBy_putObj' _ _ _) hbe.size (fun k e => by cases e; omega)⟩
set_option maxRecDepth 100000 in
set_option maxHeartbeats 1000000 in
theorem collectS_in (F : Fence) (n : Nat) (h8 : F.fn 59) (h11 : F.fn 63) (hro : F.round = none) (hn : 3 ≤ n) (g : Nat) (lb : Array Value) (hFg : F.fn g) (eg : ∀ args w, (callFunc g args).run Try.prog w = .ok (.enter g args) w) (Sx : List EraV → Prop) (N : Nat) (hN : N ≤ 100000) (w : World)
    (hseq : SeqStopsA F (n - 1 - 1) Try.prog g lb (fun x => #[encE x]) Sx (fun _ => True) N w) :
    CallsIn F n Try.prog 59 #[.func (.func g) #[] lb] w fun e w' => ∃ (v : Value) (ss : List EraV), e = .returned v ∧ Sx ss ∧ w'.ownsRow w.heap.size 57 2 v ss.length (ss.flatMap EraV.list) ∧ Below w.heap.size w w' := by
  have h1 : 1 ≤ n := by omega
  have e11 : ∀ args w, (callFunc 63 args).run Try.prog w = .ok (.enter 63 args) w := enters_of Try.func63 (by kernel_rfl) rfl
  refine callsIn_of_wp Try.func59 rfl h8 ?_ hro
  simp only [Try.ntmps59, List.size_toArray, List.length_cons, List.length_nil, Nat.reduceAdd, Nat.reduceSub, Array.replicate_succ, Array.replicate_zero, List.push_toArray, List.append_toArray, List.nil_append, List.cons_append]
  gi_wp2_with (gi_at_call 63; refine (appendS_in F (n - 1) h11 hro (by omega) g lb hFg eg Sx N hN _ hseq).mono ?_; rintro e w' ⟨v, ss, rfl, hS, hrow, hb⟩)
  go_ret
  exact ⟨v, ss, rfl, hS, hrow, hb⟩
end Go.Proofs.Ytdjbhpdfkopdgaa
