/- Walks: the sorted keys of a map without entries, at keys that are structs. -/
import Derived.Shelf.SlIter.Nil
import Derived.RangeFuncOne
import Derived.Test.YtldnfbghjnhklaaGreatDoorPa
import Derived.Test.YtldnfbghjnhklaaGreatDoorSu
namespace Go.Proofs.YtldnfbghjnhklaaGreatDoor
open Go.RowKit Go.Sx
set_option maxRecDepth 100000
set_option linter.unusedSimpArgs false
set_option linter.unusedVariables false
open Go.Maps Go.Sort Go.Shelf
set_option maxHeartbeats 1000000 in
theorem len64_0_c {w0 : World} {H : List SA}  :
    CT Tryz.prog w0 (H) 302 [.int .u64 0] (α := Unit) (fun _ => .int .i64 0) (fun _ => H) := by
  refine CT_intro Tryz.func302 rfl Tryz.ntmps302 rfl ?_
  refine T_seq ?_
  refine T_region ?_
  refine TL_q (Qt_assign (.int .i64 _) rfl) rfl ?_
  refine TL_nil ?_
  refine X_then ?_
  refine T_seq ?_
  refine T_seq ?_
  refine T_region ?_
  refine TL_q (Qt_move (.int .u64 _) rfl) rfl ?_
  refine TL_q (Qt_geq rfl rfl) rfl ?_
  refine TL_nil ?_
  refine X_then ?_
  refine T_cond_false rfl (by first | rfl | decide) ?_
  refine T_skip ?_
  refine X_then ?_
  refine T_seq ?_
  refine T_seq ?_
  refine T_region ?_
  refine TL_q (Qt_move (.int .u64 _) rfl) rfl ?_
  refine TL_q (Qt_geq rfl rfl) rfl ?_
  refine TL_nil ?_
  refine X_then ?_
  refine T_cond_false rfl (by first | rfl | decide) ?_
  refine T_skip ?_
  refine X_then ?_
  refine T_seq ?_
  refine T_seq ?_
  refine T_region ?_
  refine TL_q (Qt_move (.int .u64 _) rfl) rfl ?_
  refine TL_q (Qt_geq rfl rfl) rfl ?_
  refine TL_nil ?_
  refine X_then ?_
  refine T_cond_false rfl (by first | rfl | decide) ?_
  refine T_skip ?_
  refine X_then ?_
  refine T_seq ?_
  refine T_region ?_
  refine TL_q (Qt_move (.int .i64 _) rfl) rfl ?_
  refine TL_q (Qt_move (.int .u64 _) rfl) rfl ?_
  refine TL_q (Qt_conv rfl rfl Tryz.underlying5) rfl ?_
  refine TL_q (Qt_index_str (j := 0) (0 : UInt8) rfl rfl Tryz.underlying9 (by kernel_rfl)) rfl ?_
  refine TL_q (Qt_conv rfl rfl Tryz.underlying3) rfl ?_
  refine TL_q (Qt_val (v' := .int .i64 0) (Qt_addw rfl rfl) (by simp [IntKind.wrap, IntKind.bits, IntKind.signed])) rfl ?_
  refine TL_q (Qt_assign (.int .i64 _) rfl) rfl ?_
  refine TL_nil ?_
  refine X_then ?_
  refine T_ret ?_
  exact X_ret () [_] Tryz.results302 ⟨rfl, trivial⟩ rfl (Subs.st inferInstance)
set_option maxHeartbeats 1000000 in
theorem len_0_c {w0 : World} {H : List SA}  :
    CT Tryz.prog w0 (H) 233 [.int .u64 0] (α := Unit) (fun _ => .int .i64 0) (fun _ => H) := by
  refine CT_intro Tryz.func233 rfl Tryz.ntmps233 rfl ?_
  refine T_seq ?_
  refine T_region ?_
  refine TL_q (Qt_assign (.int .i64 _) rfl) rfl ?_
  refine TL_nil ?_
  refine X_then ?_
  refine T_seq ?_
  refine T_cond_false rfl (by first | rfl | decide) ?_
  refine T_skip ?_
  refine X_then ?_
  refine T_seq ?_
  refine T_region ?_
  refine TL_q (Qt_move (.int .u64 _) rfl) rfl ?_
  refine TL_e rfl (Ef_call (len64_0_c) rfl (fun x7 => ?_))
  refine TL_q (Qt_assign (.int .i64 _) rfl) rfl ?_
  refine TL_nil ?_
  refine X_then ?_
  refine T_ret ?_
  exact X_ret () [_] Tryz.results233 ⟨rfl, trivial⟩ rfl (Subs.st inferInstance)
set_option maxHeartbeats 1000000 in
theorem ins0_c {w0 : World} {H : List SA} {a : Option Addr} {c : Nat} {f : Value} :
    CT Tryz.prog w0 (H) 370 [.slice a 0 c, .int .i64 0, .int .i64 0, f] (α := Unit) (fun _ => .tuple #[]) (fun _ => H) := by
  refine CT_intro Tryz.func370 rfl Tryz.ntmps370 rfl ?_
  refine T_seq ?_
  refine T_region ?_
  refine TL_q (Qt_move (.int .i64 _) rfl) rfl ?_
  first
    | refine TL_q (Qt_add rfl rfl (by omega) (by omega)) rfl ?_
    | refine TL_q (Qt_addw rfl rfl) rfl ?_
  refine TL_q (Qt_assign (.int .i64 _) rfl) rfl ?_
  refine TL_nil ?_
  refine X_then ?_
  refine T_block ?_
  refine T_unroll (TU_round ?_)
  refine T_seq ?_
  refine T_seq ?_
  refine T_region ?_
  refine TL_q (Qt_move (.int .i64 _) rfl) rfl ?_
  refine TL_q (Qt_move (.int .i64 _) rfl) rfl ?_
  refine TL_q (Qt_lss rfl rfl) rfl ?_
  refine TL_nil ?_
  refine X_then ?_
  refine T_cond_false rfl (by first | rfl | decide) ?_
  refine T_exit ?_
  refine X_then_exit ?_
  refine X_again_exit ?_
  refine X_block_exit ?_
  exact X_ret () [] Tryz.results370 trivial rfl (Subs.st inferInstance)
set_option maxHeartbeats 1000000 in
theorem pdq0_c {w0 : World} {H : List SA} {a : Option Addr} {c : Nat} {f : Value} {l : Int} :
    CT Tryz.prog w0 (H) 348 [.slice a 0 c, .int .i64 0, .int .i64 0, .int .i64 l, f] (α := Unit) (fun _ => .tuple #[]) (fun _ => H) := by
  refine CT_intro Tryz.func348 rfl Tryz.ntmps348 rfl ?_
  refine T_seq ?_
  refine T_region ?_
  refine TL_q (Qt_assign (.bool _) rfl) rfl ?_
  refine TL_nil ?_
  refine X_then ?_
  refine T_seq ?_
  refine T_region ?_
  refine TL_q (Qt_assign (.bool _) rfl) rfl ?_
  refine TL_nil ?_
  refine X_then ?_
  refine T_block ?_
  refine T_unroll (TU_round ?_)
  refine T_block ?_
  refine T_seq ?_
  refine T_region ?_
  refine TL_q (Qt_move (.int .i64 _) rfl) rfl ?_
  refine TL_q (Qt_move (.int .i64 _) rfl) rfl ?_
  first
    | refine TL_q (Qt_sub rfl rfl (by omega) (by omega)) rfl ?_
    | refine TL_q (Qt_subw rfl rfl) rfl ?_
  refine TL_q (Qt_assign (.int .i64 _) rfl) rfl ?_
  refine TL_nil ?_
  refine X_then ?_
  refine T_seq ?_
  refine T_seq ?_
  refine T_region ?_
  refine TL_q (Qt_move (.int .i64 _) rfl) rfl ?_
  refine TL_q (Qt_leq rfl rfl) rfl ?_
  refine TL_nil ?_
  refine X_then ?_
  refine T_cond_true rfl (by first | rfl | decide) ?_
  refine T_seq ?_
  refine T_region ?_
  refine TL_q (Qt_move (.slice _ _ _) rfl) rfl ?_
  refine TL_q (Qt_move (.int .i64 _) rfl) rfl ?_
  refine TL_q (Qt_move (.int .i64 _) rfl) rfl ?_
  refine TL_q (Qt_move _ rfl) rfl ?_
  refine TL_e rfl (Ef_call (ins0_c) rfl (fun x30 => ?_))
  refine TL_nil ?_
  refine X_then ?_
  refine T_ret ?_
  refine X_then_ret ?_
  refine X_block_ret ?_
  refine X_again_ret ?_
  refine X_block_ret ?_
  exact X_ret () [] Tryz.results348 trivial rfl (Subs.st inferInstance)
set_option maxHeartbeats 1000000 in
theorem sortF0_c {w0 : World} {H : List SA} {a : Option Addr} {c : Nat} {f : Value} :
    CT Tryz.prog w0 (H) 316 [.slice a 0 c, f] (α := Unit) (fun _ => .tuple #[]) (fun _ => H) := by
  refine CT_intro Tryz.func316 rfl Tryz.ntmps316 rfl ?_
  refine T_seq ?_
  refine T_region ?_
  refine TL_q (Qt_move (.slice _ _ _) rfl) rfl ?_
  refine TL_q (Qt_len_slice rfl Tryz.underlying381) rfl ?_
  refine TL_q (Qt_assign (.int .i64 _) rfl) rfl ?_
  refine TL_nil ?_
  refine X_then ?_
  refine T_region ?_
  refine TL_q (Qt_move (.slice _ _ _) rfl) rfl ?_
  refine TL_q (Qt_move (.int .i64 _) rfl) rfl ?_
  refine TL_q (Qt_move (.int .i64 _) rfl) rfl ?_
  refine TL_q (Qt_conv rfl rfl Tryz.underlying246) rfl ?_
  refine TL_e rfl (Ef_call (len_0_c) rfl (fun x11 => ?_))
  refine TL_q (Qt_move _ rfl) rfl ?_
  refine TL_e rfl (Ef_call (pdq0_c) rfl (fun x13 => ?_))
  refine TL_nil ?_
  exact X_ret () [] Tryz.results316 trivial rfl (Subs.st inferInstance)
set_option maxHeartbeats 1000000 in
theorem keysF_c {w0 : World} {H : List SA} {r : Nat} :
    CT Tryz.prog w0 (H) 248 [.map (some r)] (α := Nat) (fun b => .func (.func 317) #[] #[.pointer (some ⟨b, 0, none⟩)]) (fun b => blk b (.cells #[.map (some r)] 254 (0, 0)) :: H) := by
  refine CT_intro Tryz.func248 rfl Tryz.ntmps248 rfl ?_
  refine T_seq ?_
  refine T_region ?_
  refine TL_e rfl (Ef_box1 (.map _) rfl (fun b1 => ?_))
  refine TL_q (Qt_assign _ rfl) rfl ?_
  refine TL_nil ?_
  refine X_then ?_
  refine T_seq ?_
  refine T_region ?_
  refine TL_q (Qt_makeFunc (args := [.pointer _]) rfl) rfl ?_
  refine TL_q (Qt_assign _ rfl) rfl ?_
  refine TL_nil ?_
  refine X_then ?_
  refine T_ret ?_
  exact X_ret b1 [_] Tryz.results248 ⟨rfl, trivial⟩ rfl (Subs.st inferInstance)
theorem run_range_noMap {P : Program} (w : World) {t k e : TypeId} {r c : Nat} (ht : P.underlying t = some (.map k e)) (h : w.heap[r]? = some (.map #[] c)) :
    (Instr.range t (.map (some r))).run P w = .ok (.pointer (some ⟨w.heap.size, 0, none⟩)) (w.alloc (.mapIter (some r) c #[] c)) := by
  simp only [Instr.range, Sem.run_bind, run_underlying ht, Result.andThen_ok, getObj_run h, Sem.run_pure, run_newObj]
  rfl
theorem run_next_noMap {P : Program} (w : World) (ty : TypeId) {r c : Nat} (h : w.heap[r]? = some (.map #[] c)) :
    (Instr.next (.pointer (some ⟨w.heap.size, 0, none⟩)) false ty).run P (w.alloc (.mapIter (some r) c #[] c)) = .ok (.tuple #[.bool false]) (w.alloc (.mapIter (some r) c #[] c)) := by
  have h1 : (w.alloc (.mapIter (some r) c #[] c)).heap[r]? = some (.map #[] c) := by
    have hlt := (Array.getElem?_eq_some_iff.1 h).1
    show (w.heap.push _)[r]? = _
    rw [Array.getElem?_push, if_neg (by omega), h]
  have h2 : (w.alloc (.mapIter (some r) c #[] c)).heap[w.heap.size]? = some (.mapIter (some r) c #[] c) := heap_alloc_new w _
  simp only [Instr.next, Sem.run_bind, getIter_run h2, Result.andThen_ok, getObj_run h1]
  have hch : (choose (.mapNext 1)).run P (w.alloc (.mapIter (some r) c #[] c)) = .ok 0 (w.alloc (.mapIter (some r) c #[] c)) := by simp [run_choose, Question.forced]
  have hf : ∀ p : MapEntry → Bool, Array.filter p #[] 0 0 = #[] := fun p => rfl
  simp [hf, hch, Question.forced]
set_option maxRecDepth 100000 in
set_option maxHeartbeats 1000000 in
theorem keysE_in (F : Fence) (n : Nat) (hF : F.fn 317) (hro : F.round = none) (l Bm r c : Nat) (J : List Empty → World → Prop) (W : World) (hJ : AbidesFrom W.heap.size J)
    (hm : W.cell? ⟨Bm, 0, none⟩ = some (.map (some r))) (hr : W.heap[r]? = some (.map #[] c)) (h0 : J [] W) :
    CallsIn F n Tryz.prog 317 #[.func (.yield l) #[] #[], .pointer (some ⟨Bm, 0, none⟩)] W fun e W' => (∃ v, e = .returned v) ∧ J [] W' := by
  refine callsIn_of_wp Tryz.func317 rfl hF ?_ hro
  simp only [Tryz.ntmps317, List.size_toArray, List.length_cons, List.length_nil, Nat.reduceAdd, Nat.reduceSub, Array.replicate_succ, Array.replicate_zero, List.push_toArray, List.append_toArray, List.nil_append, List.cons_append]
  have hrg := run_range_noMap (P := Tryz.prog) W Tryz.underlying254 hr
  have hnx : ∀ ty, (Instr.next (.pointer (some ⟨W.heap.size, 0, none⟩)) false ty).run Tryz.prog (W.alloc (.mapIter (some r) c #[] c)) = _ := fun ty => run_next_noMap _ ty hr
  gi_wp2
  refine wpIn_loop_rounds 1 ?_
  rw [roundsIn_succ]
  gi_wp2
  go_end0
  exact ⟨⟨_, rfl⟩, hJ [] W _ none h0 (World.grownBy_alloc W _ none) (fun r e => by cases e)⟩
theorem range0_in {F : Fence} {n : Nat} {P : Program} {t : Tmp} {ps : Array Tmp} {assign body : Code} {Q : Exit → Act → World → Prop} {a : Act} {W0 : World} (hro : F.round = none) (h1 : 1 ≤ n) {gf : Nat} {lb : Array Value} (hg : a.eval (.tmp t) = .func (.func gf) #[] lb) (hFg : F.fn gf)
    (eg : ∀ args w, (callFunc gf args).run P w = .ok (.enter gf args) w)
    (hcall : ∀ (l : Nat) (J : List Empty → World → Prop) (W : World), Below W0.heap.size W0 W → AbidesFrom W.heap.size J → J [] W → CallsIn F (n - 1) P gf (#[.func (.yield l) #[] #[]] ++ lb) W fun e W' => (∃ v, e = .returned v) ∧ J [] W')
    (hdone : ∀ (D : Nat) (W : World), Below W0.heap.size W0 W → W0.heap.size ≤ D → W.heap[D]? = some (.deferred (some [])) → Q .normal { a with defers := { target := .collected D, args := #[] } :: a.defers } W) :
    (Code.rangeFunc (.tmp t) ps assign body).wpIn F n P Q a W0 := by
  refine wpIn_rangeFunc ?_
  intro fn hfn
  rw [hro]
  obtain ⟨rc, hrc⟩ : ∃ rc : Loop, rc = { state := .ready, pending := none, fn, tmps := a.tmps, params := ps, assign, body, defers := W0.heap.size } := ⟨_, rfl⟩
  obtain ⟨W1, hW1⟩ : ∃ W1, (W0.alloc (.deferred (some []))).alloc (.loop rc) = W1 := ⟨_, rfl⟩
  have hb1 : Below W0.heap.size W0 W1 := by rw [← hW1]; exact ((Below.refl _ W0).alloc (Nat.le_refl _) _).alloc (by simp) _
  have hL : W1.heap[W0.heap.size + 1]? = some (.loop rc) := by rw [← hW1]; have := World.alloc_heap_new (W0.alloc (.deferred (some []))) (.loop rc); rwa [World.size_alloc] at this
  have hK : W1.heap[W0.heap.size]? = some (.deferred (some [])) := by rw [← hW1]; exact (Below.heap_alloc _ _ _ (by simp)).trans (World.alloc_heap_new W0 _)
  refine ⟨W0.heap.size + 1, [{ target := .collected W0.heap.size, args := #[] }], W1, { target := .fn (.func gf) lb, args := #[.func (.yield (W0.heap.size + 1)) #[] #[]] }, W1, gf,
    #[.func (.yield (W0.heap.size + 1)) #[] #[]] ++ lb, W1, ?_, ?_, ?_, ?_, fun _ => h1, ?_⟩
  · rw [← hW1, hrc]; exact run_enterLoop_outer _ _ _ _ _
  · have hg' := hg
    simp [go_sem] at hg'
    simp [resolve, go_sem, hg']
  · intro f' hf'; simp [Target.leads] at hf'; subst hf'; exact hFg
  · simp [invoke, go_sem, eg]
  · refine (hcall (W0.heap.size + 1) (fun _ W => W.heap[W0.heap.size + 1]? = some (.loop rc) ∧ W.heap[W0.heap.size]? = some (.deferred (some [])) ∧ Below W0.heap.size W0 W) W1 hb1 (fun s W W' row h hg hrow => ?_) ⟨hL, hK, hb1⟩).mono ?_
    · have hrow' : ∀ r, row = some r → ∃ o : Obj, W.heap[r]? = some o ∧ o.isWalk = true := fun r e => (hrow r e).2
      exact ⟨(grownBy_keeps hg hrow' h.1 rfl).trans h.1, (grownBy_keeps hg hrow' h.2.1 rfl).trans h.2.1, h.2.2.grown hg h.2.2.size (fun k e => Nat.le_trans hb1.size (hrow k e).1)⟩
    rintro e W2 ⟨⟨v0, rfl⟩, h2, h3, h4⟩
    have hend := run_endLoop (P := P) h2 (by rw [hrc]; simp)
    have hpn : rc.pending = none := by rw [hrc]
    rw [hpn] at hend
    refine ⟨none, _, hend, ?_⟩
    exact hdone W0.heap.size _ (h4.grown (grownBy_putObj_a W2 _ _) h4.size (fun k e => by cases e; omega)) (Nat.le_refl _) ((World.putObj_heap_other (by omega)).trans h3)
set_option maxRecDepth 100000 in
set_option maxHeartbeats 1000000 in
theorem appendE_in (F : Fence) (n : Nat) (h11 : F.fn 347) (h10 : F.fn 317) (hro : F.round = none) (hn : 2 ≤ n) (Bm r c : Nat) (w : World) (hBm : Bm < w.heap.size) (hm : w.cell? ⟨Bm, 0, none⟩ = some (.map (some r))) (hr : w.heap[r]? = some (.map #[] c)) :
    CallsIn F n Tryz.prog 347 #[.slice none 0 0, .func (.func 317) #[] #[.pointer (some ⟨Bm, 0, none⟩)]] w fun e w' => e = .returned (.slice none 0 0) ∧ Below w.heap.size w w' := by
  have h1 : 1 ≤ n := by omega
  refine callsIn_of_wp_marks Tryz.func347 rfl h11 ?_ hro
  simp only [Tryz.ntmps347, List.size_toArray, List.length_cons, List.length_nil, Nat.reduceAdd, Nat.reduceSub, Array.replicate_succ, Array.replicate_zero, List.push_toArray, List.append_toArray, List.nil_append, List.cons_append]
  gi_wp2
  have hrl := (Array.getElem?_eq_some_iff.1 hr).1
  have hb0 : Below w.heap.size w (w.alloc (.cells #[.slice none 0 0] 381)) := (Below.refl _ w).alloc (Nat.le_refl _) _
  have hv0 : (w.alloc (.cells #[.slice none 0 0] 381)).heap[w.heap.size]? = some (.cells #[.slice none 0 0] 381 (0, 0)) := World.alloc_heap_new w _
  have hs0 : (w.alloc (.cells #[.slice none 0 0] 381)).heap.size = w.heap.size + 1 := by simp
  refine range0_in hro h1 (gf := 317) (lb := #[.pointer (some ⟨Bm, 0, none⟩)]) rfl h10 (enters_of Tryz.func317 (by kernel_rfl) rfl) (fun l J W hW hJ h0 => ?_) (fun D W hW hD hK => ?_)
  · refine keysE_in F (n - 1) h10 hro l Bm r c J W hJ ?_ ?_ h0
    · exact ((hW.cell (p := ⟨Bm, 0, none⟩) (by rw [hs0]; show Bm < _; omega)).trans (hb0.cell (p := ⟨Bm, 0, none⟩) hBm)).trans hm
    · exact ((hW.block r (by rw [hs0]; omega)).trans (hb0.block r hrl)).trans hr
  · have hv : W.heap[w.heap.size]? = some (.cells #[.slice none 0 0] 381 (0, 0)) := (hW.block _ (by rw [hs0]; omega)).trans hv0
    obtain ⟨hc3, hf3⟩ := cell_of_box_a hv
    have hbw : Below w.heap.size w W := hb0.trans ⟨hW.os, hW.tape, hW.output, by have := hW.size; omega, fun k hk => hW.block k (by rw [hs0]; omega)⟩
    gi_wp2
    refine ⟨by simp, .inl ⟨_, _, rfl, run_takeDeferred hK, ?_⟩⟩
    exact ⟨_, results_tmp rfl _ _ _, rfl, hbw.grown (grownBy_putObj_a _ _ _) hbw.size (fun k e => by cases e; omega)⟩
theorem appendE_c {w0 : World} {H : List SA} {b r c : Nat} [hb : Mem w0 H b (.cells #[.map (some r)] 254 (0, 0))] [hm : Mem w0 H r (mapO encEr encVt [] c)] : CT Tryz.prog w0 H 347 [.slice none 0 0, .func (.func 317) #[] #[.pointer (some ⟨b, 0, none⟩)]] (α := Unit) (fun _ => .slice none 0 0) (fun _ => H) := fun w hw => by
  have h1 := hb.get w hw
  refine (callsIn_wide.1 (appendE_in Fence.wide 5 trivial trivial rfl (by omega) b r c w (Array.getElem?_eq_some_iff.1 h1).1 (by rw [cell_of_blk h1]; rfl) (hm.get w hw))).mono ?_
  rintro e w' ⟨rfl, h⟩
  exact ⟨(), rfl, St.later hw h⟩
set_option maxHeartbeats 1000000 in
theorem collectE_c {w0 : World} {H : List SA} {b r c : Nat} [hb : Mem w0 H b (.cells #[.map (some r)] 254 (0, 0))] [hm : Mem w0 H r (mapO encEr encVt [] c)] :
    CT Tryz.prog w0 (H) 315 [.func (.func 317) #[] #[.pointer (some ⟨b, 0, none⟩)]] (α := Unit) (fun _ => .slice none 0 0) (fun _ => H) := by
  refine CT_intro Tryz.func315 rfl Tryz.ntmps315 rfl ?_
  refine T_seq ?_
  refine T_region ?_
  refine TL_q (Qt_assign (.slice _ _ _) rfl) rfl ?_
  refine TL_nil ?_
  refine X_then ?_
  refine T_seq ?_
  refine T_region ?_
  refine TL_q (Qt_move _ rfl) rfl ?_
  refine TL_e rfl (Ef_call (appendE_c (b := b) (r := r) (c := c)) rfl (fun x4 => ?_))
  refine TL_q (Qt_assign (.slice _ _ _) rfl) rfl ?_
  refine TL_nil ?_
  refine X_then ?_
  refine T_ret ?_
  exact X_ret () [_] Tryz.results315 ⟨rfl, trivial⟩ rfl (Subs.st inferInstance)
set_option maxHeartbeats 1000000 in
theorem sortedE_c {w0 : World} {H : List SA} {b r c : Nat} [hb : Mem w0 H b (.cells #[.map (some r)] 254 (0, 0))] [hm : Mem w0 H r (mapO encEr encVt [] c)] {f : Value} :
    CT Tryz.prog w0 (H) 247 [.func (.func 317) #[] #[.pointer (some ⟨b, 0, none⟩)], f] (α := Unit) (fun _ => .slice none 0 0) (fun _ => H) := by
  refine CT_intro Tryz.func247 rfl Tryz.ntmps247 rfl ?_
  refine T_seq ?_
  refine T_region ?_
  refine TL_q (Qt_assign (.slice _ _ _) rfl) rfl ?_
  refine TL_nil ?_
  refine X_then ?_
  refine T_seq ?_
  refine T_region ?_
  refine TL_q (Qt_move _ rfl) rfl ?_
  refine TL_e rfl (Ef_call (collectE_c (b := b) (r := r) (c := c)) rfl (fun x7 => ?_))
  refine TL_q (Qt_assign (.slice _ _ _) rfl) rfl ?_
  refine TL_nil ?_
  refine X_then ?_
  refine T_seq ?_
  refine T_region ?_
  refine TL_q (Qt_move (.slice _ _ _) rfl) rfl ?_
  refine TL_q (Qt_move _ rfl) rfl ?_
  refine TL_e rfl (Ef_call (sortF0_c) rfl (fun x10 => ?_))
  refine TL_nil ?_
  refine X_then ?_
  refine T_seq ?_
  refine T_region ?_
  refine TL_q (Qt_move (.slice _ _ _) rfl) rfl ?_
  refine TL_q (Qt_assign (.slice _ _ _) rfl) rfl ?_
  refine TL_nil ?_
  refine X_then ?_
  refine T_ret ?_
  exact X_ret () [_] Tryz.results247 ⟨rfl, trivial⟩ rfl (Subs.st inferInstance)
@[reducible] def bookM (r : Nat) : BookV := { BookV.zero with wrote := some r }
set_option maxHeartbeats 1000000 in
theorem vnewS_c {w0 : World} {H : List SA}  :
    CT Tryz.prog w0 (H) 79 [] (α := Nat × Nat) (fun y => .pointer (some ⟨y.1, 0, none⟩)) (fun y => blk y.1 (.cells (bookM y.2).cells 259 (0, 0)) :: blk y.2 (mapO encEr encVt [] 0) :: H) := by
  refine CT_intro Tryz.func79 rfl Tryz.ntmps79 rfl ?_
  refine T_seq ?_
  refine T_region ?_
  refine TL_q (Qt_assign (.pointer _) rfl) rfl ?_
  refine TL_nil ?_
  refine X_then ?_
  refine T_seq ?_
  refine T_region ?_
  refine TL_e rfl (Ef_makeMap encEr encVt (fun r1 => ?_))
  refine TL_q (Qt_build [(3, (.map _))] rfl (by kernel_rfl)) rfl ?_
  refine TL_e rfl (Ef_boxN rfl (fun b3 => ?_))
  refine TL_q (Qt_assign (.pointer _) rfl) rfl ?_
  refine TL_nil ?_
  refine X_then ?_
  refine T_ret ?_
  exact X_ret (b3, r1) [_] Tryz.results79 ⟨rfl, trivial⟩ rfl (Subs.st inferInstance)
set_option maxHeartbeats 1000000 in
theorem accepted0_c {w0 : World} {H : List SA} {p r : Nat} :
    CT Tryz.prog w0 (blk p (.cells (bookM r).cells 259 (0, 0)) :: blk r (mapO encEr encVt [] 0) :: H) 201 [.pointer (some ⟨p, 0, none⟩)] (α := Unit) (fun _ => .tuple #[.agg VoteV.zero.cells, .bool false]) (fun _ => blk p (.cells (bookM r).cells 259 (0, 0)) :: blk r (mapO encEr encVt [] 0) :: H) := by
  refine CT_intro Tryz.func201 rfl Tryz.ntmps201 rfl ?_
  refine T_seq ?_
  refine T_region ?_
  refine TL_e rfl (Ef_allocN (fun b2 => ?_))
  refine TL_q (Qt_assign (.bool _) rfl) rfl ?_
  refine TL_nil ?_
  refine X_then ?_
  refine T_seq ?_
  refine T_seq ?_
  refine T_region ?_
  refine TL_q (Qt_move (.pointer _) rfl) rfl ?_
  refine TL_q (Qt_ptr_nil rfl rfl Tryz.underlying145) rfl ?_
  refine TL_q (Qt_move (.bool _) rfl) rfl ?_
  refine TL_split 6 rfl (fun h6 => ?_) (fun h6 => ?_)
  ·
    have p6 := h6
    try simp only [decide_eq_true_eq, decide_eq_false_iff_not, Bool.not_eq_true', Bool.not_eq_false', Option.isNone_iff_eq_none, ne_eq, Decidable.not_not, Int.not_lt, Int.not_le] at p6
    cases h6
  ·
    have p6 := h6
    try simp only [decide_eq_true_eq, decide_eq_false_iff_not, Bool.not_eq_true', Bool.not_eq_false', Option.isNone_iff_eq_none, ne_eq, Decidable.not_not, Int.not_lt, Int.not_le] at p6
    refine TL_take rfl rfl h6 ?_
    refine TL_q (Qt_move (.pointer _) rfl) rfl ?_
    refine TL_take rfl rfl h6 ?_
    refine TL_q (Qt_nilCheck rfl) rfl ?_
    refine TL_take rfl rfl h6 ?_
    refine TL_q (Qt_fieldAddr 5 rfl rfl) rfl ?_
    refine TL_take rfl rfl h6 ?_
    refine TL_q (Qt_load1 rfl) rfl ?_
    refine TL_take rfl rfl h6 ?_
    refine TL_q (Qt_ptr_nil rfl rfl Tryz.underlying257) rfl ?_
    refine TL_q (Qt_pick_f (.bool _) rfl h6 rfl) rfl ?_
    refine TL_nil ?_
    refine X_then ?_
    refine T_cond_true rfl (by first | rfl | decide) ?_
    refine T_seq ?_
    refine T_region ?_
    refine TL_q (Qt_build [] rfl (by kernel_rfl)) rfl ?_
    refine TL_n (Ef_storeN rfl rfl (?_))
    refine TL_q (Qt_assign (.bool _) rfl) rfl ?_
    refine TL_nil ?_
    refine X_then ?_
    refine T_ret ?_
    refine X_then_ret ?_
    exact X_ret () [_, _] Tryz.results201 ⟨⟨_, rfl, res_cellN rfl⟩, rfl, trivial⟩ rfl (Subs.st inferInstance)
set_option maxHeartbeats 1000000 in
theorem all0_c {w0 : World} {H : List SA} {p r : Nat} :
    CT Tryz.prog w0 (blk p (.cells (bookM r).cells 259 (0, 0)) :: blk r (mapO encEr encVt [] 0) :: H) 169 [.pointer (some ⟨p, 0, none⟩)] (α := Unit) (fun _ => .slice none 0 0) (fun _ => blk p (.cells (bookM r).cells 259 (0, 0)) :: blk r (mapO encEr encVt [] 0) :: H) := by
  refine CT_intro Tryz.func169 rfl Tryz.ntmps169 rfl ?_
  refine T_seq ?_
  refine T_region ?_
  refine TL_q (Qt_assign (.slice _ _ _) rfl) rfl ?_
  refine TL_nil ?_
  refine X_then ?_
  refine T_seq ?_
  refine T_seq ?_
  refine T_region ?_
  refine TL_q (Qt_move (.pointer _) rfl) rfl ?_
  refine TL_q (Qt_ptr_nil rfl rfl Tryz.underlying145) rfl ?_
  refine TL_nil ?_
  refine X_then ?_
  refine T_cond_false rfl (by first | rfl | decide) ?_
  refine T_skip ?_
  refine X_then ?_
  refine T_seq ?_
  refine T_region ?_
  refine TL_q (Qt_assign (.slice _ _ _) rfl) rfl ?_
  refine TL_nil ?_
  refine X_then ?_
  refine T_seq ?_
  refine T_seq ?_
  refine T_region ?_
  refine TL_q (Qt_move (.pointer _) rfl) rfl ?_
  refine TL_q (Qt_nilCheck rfl) rfl ?_
  refine TL_q (Qt_fieldAddr 2 rfl rfl) rfl ?_
  refine TL_q (Qt_load1 rfl) rfl ?_
  refine TL_nil ?_
  refine X_then ?_
  refine T_cond_false rfl (by first | rfl | decide) ?_
  refine T_skip ?_
  refine X_then ?_
  refine T_seq ?_
  refine T_region ?_
  refine TL_q (Qt_move (.pointer _) rfl) rfl ?_
  refine TL_q (Qt_nilCheck rfl) rfl ?_
  refine TL_q (Qt_fieldAddr 4 rfl rfl) rfl ?_
  refine TL_q (Qt_load1 rfl) rfl ?_
  refine TL_e rfl (Ef_call (keysF_c (r := r)) rfl (fun x33 => ?_))
  refine TL_e rfl (Ef_call (sortedE_c (b := x33) (r := r) (c := 0)) rfl (fun x34 => ?_))
  refine TL_q (Qt_assign (.slice _ _ _) rfl) rfl ?_
  refine TL_nil ?_
  refine X_then ?_
  refine T_seq ?_
  refine T_seq ?_
  refine T_region ?_
  refine TL_q (Qt_move (.slice _ _ _) rfl) rfl ?_
  refine TL_q (Qt_len_slice rfl Tryz.underlying381) rfl ?_
  refine TL_q (Qt_move (.int .i64 _) rfl) rfl ?_
  refine TL_nil ?_
  refine X_then ?_
  refine T_block ?_
  refine T_unroll (TU_round ?_)
  refine T_seq ?_
  refine T_region ?_
  refine TL_q (Qt_lss rfl rfl) rfl ?_
  refine TL_nil ?_
  refine X_then ?_
  refine T_seq ?_
  refine T_cond_false rfl (by first | rfl | decide) ?_
  refine T_exit ?_
  refine X_then_exit ?_
  refine X_again_exit ?_
  refine X_block_exit ?_
  refine X_then ?_
  refine T_seq ?_
  refine T_seq ?_
  refine T_region ?_
  refine TL_q (Qt_move (.pointer _) rfl) rfl ?_
  refine TL_conv (fun w hw => (Subs.st inferInstance w hw : St w0 (blk p (.cells (bookM r).cells 259 (0, 0)) :: blk r (mapO encEr encVt [] 0) :: H) w)) ?_
  refine TL_e rfl (Ef_call (accepted0_c (p := p) (r := r)) rfl (fun x54 => ?_))
  refine TL_q (Qt_move (.tuple _) rfl) rfl ?_
  refine TL_q (Qt_extract rfl) rfl ?_
  refine TL_q (Qt_extract rfl) rfl ?_
  refine TL_e rfl (Ef_allocN (fun b7 => ?_))
  refine TL_n (Ef_storeN rfl rfl (?_))
  refine TL_q (Qt_assign (.bool _) rfl) rfl ?_
  refine TL_nil ?_
  refine X_then ?_
  refine T_seq ?_
  refine T_region ?_
  refine TL_q (Qt_move (.bool _) rfl) rfl ?_
  refine TL_nil ?_
  refine X_then ?_
  refine T_cond_false rfl (by first | rfl | decide) ?_
  refine T_skip ?_
  refine X_then ?_
  refine T_seq ?_
  refine T_region ?_
  refine TL_q (Qt_move (.slice _ _ _) rfl) rfl ?_
  refine TL_q (Qt_assign (.slice _ _ _) rfl) rfl ?_
  refine TL_nil ?_
  refine X_then ?_
  refine T_ret ?_
  exact X_ret () [_] Tryz.results169 ⟨rfl, trivial⟩ rfl (Subs.st inferInstance)
end Go.Proofs.YtldnfbghjnhklaaGreatDoor
