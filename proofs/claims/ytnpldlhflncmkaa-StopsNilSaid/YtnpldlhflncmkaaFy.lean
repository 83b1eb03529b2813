/- Walks: stops Count, greatest, Some, Enough. -/
import Derived.Test.YtnpldlhflncmkaaFx
namespace Go.Proofs.Ytnpldlhflncmkaa
open Go.RowKit Go.Sx
set_option maxRecDepth 100000
set_option linter.unusedSimpArgs false
set_option linter.unusedVariables false
def countE (es : EM) (reg : Int) : Nat := (es.filter fun e => decide (reg ≤ e.v)).length
theorem countE_le (es : EM) (reg : Int) : countE es reg ≤ es.length := List.length_filter_le _ _
theorem split_one (f : Ent Int Int → Bool) : ∀ (L : EM) (e : Ent Int Int), (L.map (·.b)).Nodup → e ∈ L → (L.filter f).length = (bif f e then 1 else 0) + ((L.filter fun x => !(x.b == e.b)).filter f).length
  | [], e, _, he => by cases he
  | x :: L, e, hn, he => by
    simp only [List.map_cons, List.nodup_cons] at hn
    rcases List.mem_cons.1 he with rfl | he
    · have h1 : L.filter (fun x => !(x.b == e.b)) = L := List.filter_eq_self.2 fun y hy => by
        have : y.b ≠ e.b := fun h => hn.1 (h ▸ List.mem_map.2 ⟨y, hy, rfl⟩)
        simpa using this
      rw [List.filter_cons (p := fun x : Ent Int Int => !(x.b == e.b))]
      simp only [beq_self_eq_true, Bool.not_true, Bool.false_eq_true, if_false, h1, List.filter_cons]
      cases f e <;> simp [Nat.add_comm]
    · have hne : x.b ≠ e.b := fun h => hn.1 (h ▸ List.mem_map.2 ⟨e, he, rfl⟩)
      have ih := split_one f L e hn.2 he
      rw [List.filter_cons (p := fun x : Ent Int Int => !(x.b == e.b))]
      simp only [show (!(x.b == e.b)) = true from by simpa using hne, if_true, List.filter_cons]
      cases f x
      · simp only [Bool.false_eq_true, if_false]; exact ih
      · simp only [if_true, List.length_cons]; omega
theorem leftE_push (es : EM) (seen : Array Nat) (b : Nat) : leftE es (seen.push b) = (leftE es seen).filter fun x => !(x.b == b) := by
  unfold leftE
  rw [List.filter_filter]
  congr 1
  funext x
  simp only [Array.contains_push, Bool.not_or]
  cases seen.contains x.b <;> cases h : (x.b == b) <;> simp_all
theorem left_nodup {es : EM} {seen : Array Nat} (h : (es.map (·.b)).Nodup) : ((leftE es seen).map (·.b)).Nodup := by
  unfold leftE
  exact h.sublist (List.filter_sublist.map _)
theorem left_less {es : EM} {seen : Array Nat} {e : Ent Int Int} (h : (es.map (·.b)).Nodup) (he : e ∈ leftE es seen) : (leftE es (seen.push e.b)).length < (leftE es seen).length := by
  have := split_one (fun _ => true) _ e (left_nodup (seen := seen) h) he
  rw [leftE_push]
  have e1 : ∀ l : EM, l.filter (fun _ => true) = l := fun l => List.filter_eq_self.2 (fun _ _ => rfl)
  rw [e1, e1] at this
  simp only [cond_true] at this
  omega
theorem left_count {es : EM} {seen : Array Nat} {e : Ent Int Int} (h : (es.map (·.b)).Nodup) (he : e ∈ leftE es seen) (reg : Int) : countE (leftE es seen) reg = (if reg ≤ e.v then 1 else 0) + countE (leftE es (seen.push e.b)) reg := by
  have := split_one (fun x => decide (reg ≤ x.v)) _ e (left_nodup (seen := seen) h) he
  unfold countE
  rw [leftE_push, this]
  by_cases h1 : reg ≤ e.v <;> simp [h1]
theorem left_all (es : EM) : leftE es #[] = es := by simp [leftE]
/-- What greatest answers. -/
def Gr (es : EM) (above many x : Int) : Prop := (x = -1 ∨ (above < x ∧ 0 ≤ x ∧ x ≤ 40 ∧ 0 < many ∧ many ≤ (countE es x : Int))) ∧ ∀ q : Int, x < q → above < q → 0 ≤ q → q ≤ 40 → ¬ (0 < many ∧ many ≤ (countE es q : Int))

set_option maxHeartbeats 1000000 in
theorem scount_c {w0 : World} {H : List SA} {p r c : Nat} {es : EM} {num : Int} {mk : Nat} {sa : Option Addr} {sc : Nat} {ls : List BS} {rt : Sl} (hg : GoodM es c) (hes : es.length ≤ 100000) {reg : Int} :
    CT Try.prog w0 (blk p (.cells (StopsV.mk (KeysV.mk ⟨sa, sc, ls⟩ rt) (ViewV.mk num (mk : Int)) (some r)).cells 107 (0, 0)) :: blk r (mapO encI encI es c) :: H) 25 [.pointer (some ⟨p, 0, none⟩), .int .i64 reg] (α := Unit) (fun _ => .int .i64 (countE es reg : Int)) (fun _ => blk p (.cells (StopsV.mk (KeysV.mk ⟨sa, sc, ls⟩ rt) (ViewV.mk num (mk : Int)) (some r)).cells 107 (0, 0)) :: blk r (mapO encI encI es c) :: H) := by
  refine CT_intro Try.func25 rfl Try.ntmps25 rfl ?_
  refine T_seq ?_
  refine T_region ?_
  refine TL_q (Qt_assign (.int .i64 _) rfl) rfl ?_
  refine TL_nil ?_
  refine X_then ?_
  refine T_seq ?_
  refine T_seq ?_
  refine T_region ?_
  refine TL_q (Qt_move (.pointer _) rfl) rfl ?_
  refine TL_q (Qt_ptr_nil rfl rfl Try.underlying58) rfl ?_
  refine TL_nil ?_
  refine X_then ?_
  refine T_cond rfl (fun h9 => ?_) (fun h9 => ?_)
  ·
    have p9 := h9
    try simp only [decide_eq_true_eq, decide_eq_false_iff_not, Bool.not_eq_true', Bool.not_eq_false', Option.isNone_iff_eq_none, ne_eq, Decidable.not_not, Int.not_lt, Int.not_le] at p9
    cases h9
  ·
    have p9 := h9
    try simp only [decide_eq_true_eq, decide_eq_false_iff_not, Bool.not_eq_true', Bool.not_eq_false', Option.isNone_iff_eq_none, ne_eq, Decidable.not_not, Int.not_lt, Int.not_le] at p9
    refine T_skip ?_
    refine X_then ?_
    refine T_seq ?_
    refine T_region ?_
    refine TL_q (Qt_assign (.int .i64 _) rfl) rfl ?_
    refine TL_nil ?_
    refine X_then ?_
    refine T_seq ?_
    refine T_seq ?_
    refine T_region ?_
    refine TL_q (Qt_move (.pointer _) rfl) rfl ?_
    refine TL_q (Qt_nilCheck rfl) rfl ?_
    refine TL_q (Qt_fieldAddr 4 rfl rfl) rfl ?_
    refine TL_q (Qt_load1 rfl) rfl ?_
    refine TL_e rfl (Ef_range rfl Try.underlying105 (fun it14 => ?_))
    refine TL_nil ?_
    refine X_then ?_
    refine T_block ?_
    refine T_loopg (m0 := (leftE es #[]).length) [5, 7, 15, 16, 17, 18, 19, 20, 21, 22, 23] [5] (fun us H' m => ∃ (n : Nat) (seen : Array Nat), us = [.int .i64 (n : Int)] ∧ blk it14 (.mapIter (some r) c seen c) :: blk p (.cells (StopsV.mk (KeysV.mk ⟨sa, sc, ls⟩ rt) (ViewV.mk num (mk : Int)) (some r)).cells 107 (0, 0)) :: blk r (mapO encI encI es c) :: H = H' ∧ m = (leftE es seen).length ∧ n + countE (leftE es seen) reg = countE es reg) ⟨0, #[], rfl, rfl, rfl, by rw [left_all, Nat.zero_add]⟩ (Subs.st inferInstance) ?_
    rintro τ0 _ _ m ⟨n, seen, rfl, rfl, rfl, hn⟩ _
    refine T_seq ?_
    refine T_region ?_
    refine TL_e rfl (Ef_next rfl hg.lt hg.lt (fun hz15 => ?_) (fun en15 hen15 => ?_))
    ·
      rw [hz15] at hn
      have hn2 : n = countE es reg := hn
      rw [hn2]
      refine TL_q (Qt_extract rfl) rfl ?_
      refine TL_nil ?_
      refine X_then ?_
      refine T_seq ?_
      refine T_cond_false rfl rfl ?_
      refine T_exit ?_
      refine X_then_exit ?_
      refine X_loopg_exit ?_
      refine X_block_exit ?_
      refine X_then ?_
      refine T_seq ?_
      refine T_region ?_
      refine TL_q (Qt_move (.int .i64 _) rfl) rfl ?_
      refine TL_q (Qt_assign (.int .i64 _) rfl) rfl ?_
      refine TL_nil ?_
      refine X_then ?_
      refine T_ret ?_
      exact X_ret () [_] Try.results25 ⟨rfl, trivial⟩ rfl (Subs.st inferInstance)
    ·
      have hmem : en15 ∈ es := (List.mem_filter.1 hen15).1
      refine TL_q (Qt_extract rfl) rfl ?_
      refine TL_nil ?_
      refine X_then ?_
      refine T_seq ?_
      refine T_cond_true rfl rfl ?_
      refine T_skip ?_
      refine X_then ?_
      refine T_block ?_
      refine T_seq ?_
      refine T_region ?_
      refine TL_q (Qt_entry en15 rfl hmem hg.born) rfl ?_
      refine TL_q (Qt_extract rfl) rfl ?_
      refine TL_q (Qt_assign (.int .i64 _) rfl) rfl ?_
      refine TL_nil ?_
      refine X_then ?_
      refine T_seq ?_
      refine T_region ?_
      refine TL_q (Qt_move (.int .i64 _) rfl) rfl ?_
      refine TL_q (Qt_move (.int .i64 _) rfl) rfl ?_
      refine TL_q (Qt_geq rfl rfl) rfl ?_
      refine TL_nil ?_
      refine X_then ?_
      refine T_cond rfl (fun h21 => ?_) (fun h21 => ?_)
      ·
        have p21 := h21
        try simp only [decide_eq_true_eq, decide_eq_false_iff_not, Bool.not_eq_true', Bool.not_eq_false', Option.isNone_iff_eq_none, ne_eq, Decidable.not_not, Int.not_lt, Int.not_le] at p21
        refine T_region ?_
        refine TL_q (Qt_move (.int .i64 _) rfl) rfl ?_
        have hb1 := countE_le es reg
        have hb2 := left_count hg.born hen15 reg
        rw [if_pos (by omega)] at hb2
        refine TL_q (Qt_val (Qt_add rfl rfl (by omega) (by omega)) (congrArg (Value.int .i64) (show (n : Int) + 1 = ((n + 1 : Nat) : Int) from by omega))) rfl ?_
        refine TL_q (Qt_assign (.int .i64 _) rfl) rfl ?_
        refine TL_nil ?_
        refine X_block ?_
        refine X_loopg _ (by repeat (first | with_reducible exact agree_refl | refine agree_upd rfl ?_ | refine agree_mix rfl ?_ | refine agree_setAll rfl ?_)) (⟨_, seen.push en15.b, rfl, rfl, rfl, by have := left_count hg.born hen15 reg; first | (rw [if_pos (by omega)] at this; omega) | (rw [if_neg (by omega)] at this; omega)⟩) (left_less hg.born hen15) ((Subs.st inferInstance))
      ·
        have p21 := h21
        try simp only [decide_eq_true_eq, decide_eq_false_iff_not, Bool.not_eq_true', Bool.not_eq_false', Option.isNone_iff_eq_none, ne_eq, Decidable.not_not, Int.not_lt, Int.not_le] at p21
        refine T_skip ?_
        refine X_block ?_
        refine X_loopg _ (by repeat (first | with_reducible exact agree_refl | refine agree_upd rfl ?_ | refine agree_mix rfl ?_ | refine agree_setAll rfl ?_)) (⟨_, seen.push en15.b, rfl, rfl, rfl, by have := left_count hg.born hen15 reg; first | (rw [if_pos (by omega)] at this; omega) | (rw [if_neg (by omega)] at this; omega)⟩) (left_less hg.born hen15) ((Subs.st inferInstance))
set_option maxHeartbeats 1000000 in
theorem sgreat_c {w0 : World} {H : List SA} {p r c : Nat} {es : EM} {num : Int} {mk : Nat} {sa : Option Addr} {sc : Nat} {ls : List BS} {rt : Sl} (hg : GoodM es c) (hes : es.length ≤ 100000) {above many : Int} :
    CT Try.prog w0 (blk p (.cells (StopsV.mk (KeysV.mk ⟨sa, sc, ls⟩ rt) (ViewV.mk num (mk : Int)) (some r)).cells 107 (0, 0)) :: blk r (mapO encI encI es c) :: H) 48 [.pointer (some ⟨p, 0, none⟩), .int .i64 above, .int .i64 many] (α := Int) (fun x => .int .i64 x) (fun x => pu (Gr es above many x) :: blk p (.cells (StopsV.mk (KeysV.mk ⟨sa, sc, ls⟩ rt) (ViewV.mk num (mk : Int)) (some r)).cells 107 (0, 0)) :: blk r (mapO encI encI es c) :: H) := by
  refine CT_intro Try.func48 rfl Try.ntmps48 rfl ?_
  refine T_seq ?_
  refine T_region ?_
  refine TL_q (Qt_assign (.int .i64 _) rfl) rfl ?_
  refine TL_nil ?_
  refine X_then ?_
  refine T_seq ?_
  refine T_seq ?_
  refine T_region ?_
  refine TL_q (Qt_assign (.int .i64 _) rfl) rfl ?_
  refine TL_nil ?_
  refine X_then ?_
  refine T_block ?_
  refine T_loop [6, 7, 8, 9, 10, 11, 12, 13, 14, 15, 16, 17, 18, 19, 20, 21, 22, 23, 24, 25, 26] [7] (fun us H' => ∃ (x : Int), us = [.int .i64 x] ∧ blk p (.cells (StopsV.mk (KeysV.mk ⟨sa, sc, ls⟩ rt) (ViewV.mk num (mk : Int)) (some r)).cells 107 (0, 0)) :: blk r (mapO encI encI es c) :: H = H' ∧ -1 ≤ x ∧ x ≤ 40 ∧ ∀ q : Int, x < q → above < q → 0 ≤ q → q ≤ 40 → ¬ (0 < many ∧ many ≤ (countE es q : Int))) (fun us => match us with | .int _ i :: _ => (i + 1).toNat | _ => 0) ⟨40, rfl, rfl, by omega, by omega, fun q h1 _ _ h2 => by omega⟩ (Subs.st inferInstance) ?_
  rintro τ0 _ _  ⟨x, rfl, rfl, hx0, hx1, hq⟩ _
  refine T_seq ?_
  refine T_seq ?_
  refine T_region ?_
  refine TL_q (Qt_move (.int .i64 _) rfl) rfl ?_
  refine TL_q (Qt_move (.int .i64 _) rfl) rfl ?_
  refine TL_q (Qt_gtr rfl rfl) rfl ?_
  refine TL_q (Qt_move (.bool _) rfl) rfl ?_
  refine TL_split 11 rfl (fun h11 => ?_) (fun h11 => ?_)
  ·
    have p11 := h11
    try simp only [decide_eq_true_eq, decide_eq_false_iff_not, Bool.not_eq_true', Bool.not_eq_false', Option.isNone_iff_eq_none, ne_eq, Decidable.not_not, Int.not_lt, Int.not_le] at p11
    refine TL_take rfl rfl h11 ?_
    refine TL_q (Qt_move (.int .i64 _) rfl) rfl ?_
    refine TL_take rfl rfl h11 ?_
    refine TL_q (Qt_geq rfl rfl) rfl ?_
    refine TL_q (Qt_pick_t (.bool _) rfl h11 rfl) rfl ?_
    refine TL_nil ?_
    refine X_then ?_
    refine T_cond rfl (fun h14 => ?_) (fun h14 => ?_)
    ·
      have p14 := h14
      try simp only [decide_eq_true_eq, decide_eq_false_iff_not, Bool.not_eq_true', Bool.not_eq_false', Option.isNone_iff_eq_none, ne_eq, Decidable.not_not, Int.not_lt, Int.not_le] at p14
      refine T_skip ?_
      refine X_then ?_
      refine T_seq ?_
      refine T_block ?_
      refine T_seq ?_
      refine T_region ?_
      refine TL_q (Qt_move (.int .i64 _) rfl) rfl ?_
      refine TL_q (Qt_gtr rfl rfl) rfl ?_
      refine TL_q (Qt_move (.bool _) rfl) rfl ?_
      refine TL_split 19 rfl (fun h19 => ?_) (fun h19 => ?_)
      ·
        have p19 := h19
        try simp only [decide_eq_true_eq, decide_eq_false_iff_not, Bool.not_eq_true', Bool.not_eq_false', Option.isNone_iff_eq_none, ne_eq, Decidable.not_not, Int.not_lt, Int.not_le] at p19
        refine TL_take rfl rfl h19 ?_
        refine TL_q (Qt_move (.pointer _) rfl) rfl ?_
        refine TL_take rfl rfl h19 ?_
        refine TL_q (Qt_move (.int .i64 _) rfl) rfl ?_
        refine TL_take rfl rfl h19 ?_
        refine TL_e rfl (Ef_call (scount_c hg hes) rfl (fun x22 => ?_))
        refine TL_take rfl rfl h19 ?_
        refine TL_q (Qt_move (.int .i64 _) rfl) rfl ?_
        refine TL_take rfl rfl h19 ?_
        refine TL_q (Qt_geq rfl rfl) rfl ?_
        refine TL_q (Qt_pick_t (.bool _) rfl h19 rfl) rfl ?_
        refine TL_nil ?_
        refine X_then ?_
        refine T_cond rfl (fun h25 => ?_) (fun h25 => ?_)
        ·
          have p25 := h25
          try simp only [decide_eq_true_eq, decide_eq_false_iff_not, Bool.not_eq_true', Bool.not_eq_false', Option.isNone_iff_eq_none, ne_eq, Decidable.not_not, Int.not_lt, Int.not_le] at p25
          refine T_seq ?_
          refine T_region ?_
          refine TL_q (Qt_move (.int .i64 _) rfl) rfl ?_
          refine TL_q (Qt_assign (.int .i64 _) rfl) rfl ?_
          refine TL_nil ?_
          refine X_then ?_
          refine T_ret ?_
          refine X_block_ret ?_
          refine X_then_ret ?_
          refine X_loop_ret ?_
          refine X_block_ret ?_
          refine X_then_ret ?_
          exact X_ret x [_] Try.results48 ⟨rfl, trivial⟩ rfl (fun w hw => (Subs.st inferInstance w hw : St w0 (blk p (.cells (StopsV.mk (KeysV.mk ⟨sa, sc, ls⟩ rt) (ViewV.mk num (mk : Int)) (some r)).cells 107 (0, 0)) :: blk r (mapO encI encI es c) :: H) w).addPure ⟨.inr ⟨by omega, by omega, by omega, by omega, by omega⟩, hq⟩)
        ·
          have p25 := h25
          try simp only [decide_eq_true_eq, decide_eq_false_iff_not, Bool.not_eq_true', Bool.not_eq_false', Option.isNone_iff_eq_none, ne_eq, Decidable.not_not, Int.not_lt, Int.not_le] at p25
          refine T_skip ?_
          refine X_block ?_
          refine X_then ?_
          refine T_region ?_
          refine TL_q (Qt_move (.int .i64 _) rfl) rfl ?_
          first
            | refine TL_q (Qt_sub rfl rfl (by omega) (by omega)) rfl ?_
            | refine TL_q (Qt_subw rfl rfl) rfl ?_
          refine TL_q (Qt_assign (.int .i64 _) rfl) rfl ?_
          refine TL_nil ?_
          refine X_loop _ (by repeat (first | with_reducible exact agree_refl | refine agree_upd rfl ?_ | refine agree_mix rfl ?_ | refine agree_setAll rfl ?_)) (⟨x - 1, rfl, rfl, by omega, by omega, fun q h1 h2 h3 h4 => by rcases Int.lt_or_le x q with h5 | h5; exact hq q h5 h2 h3 h4; obtain rfl : q = x := (by omega); omega⟩) (by show (x - 1 + 1).toNat < (x + 1).toNat; omega) ((Subs.st inferInstance))
      ·
        have p19 := h19
        try simp only [decide_eq_true_eq, decide_eq_false_iff_not, Bool.not_eq_true', Bool.not_eq_false', Option.isNone_iff_eq_none, ne_eq, Decidable.not_not, Int.not_lt, Int.not_le] at p19
        refine TL_pass rfl rfl h19 rfl ?_
        refine TL_pass rfl rfl h19 rfl ?_
        refine TL_pass rfl rfl h19 rfl ?_
        refine TL_pass rfl rfl h19 rfl ?_
        refine TL_pass rfl rfl h19 rfl ?_
        refine TL_q (Qt_pick_f (.bool _) rfl h19 rfl) rfl ?_
        refine TL_nil ?_
        refine X_then ?_
        refine T_cond_false rfl rfl ?_
        refine T_skip ?_
        refine X_block ?_
        refine X_then ?_
        refine T_region ?_
        refine TL_q (Qt_move (.int .i64 _) rfl) rfl ?_
        first
          | refine TL_q (Qt_sub rfl rfl (by omega) (by omega)) rfl ?_
          | refine TL_q (Qt_subw rfl rfl) rfl ?_
        refine TL_q (Qt_assign (.int .i64 _) rfl) rfl ?_
        refine TL_nil ?_
        refine X_loop _ (by repeat (first | with_reducible exact agree_refl | refine agree_upd rfl ?_ | refine agree_mix rfl ?_ | refine agree_setAll rfl ?_)) (⟨x - 1, rfl, rfl, by omega, by omega, fun q h1 h2 h3 h4 => by rcases Int.lt_or_le x q with h5 | h5; exact hq q h5 h2 h3 h4; obtain rfl : q = x := (by omega); omega⟩) (by show (x - 1 + 1).toNat < (x + 1).toNat; omega) ((Subs.st inferInstance))
    ·
      have p14 := h14
      try simp only [decide_eq_true_eq, decide_eq_false_iff_not, Bool.not_eq_true', Bool.not_eq_false', Option.isNone_iff_eq_none, ne_eq, Decidable.not_not, Int.not_lt, Int.not_le] at p14
      refine T_exit ?_
      refine X_then_exit ?_
      refine X_loop_exit ?_
      refine X_block_exit ?_
      refine X_then ?_
      refine T_seq ?_
      refine T_region ?_
      refine TL_q (Qt_assign (.int .i64 _) rfl) rfl ?_
      refine TL_nil ?_
      refine X_then ?_
      refine T_ret ?_
      exact X_ret (-1) [_] Try.results48 ⟨rfl, trivial⟩ rfl (fun w hw => (Subs.st inferInstance w hw : St w0 (blk p (.cells (StopsV.mk (KeysV.mk ⟨sa, sc, ls⟩ rt) (ViewV.mk num (mk : Int)) (some r)).cells 107 (0, 0)) :: blk r (mapO encI encI es c) :: H) w).addPure ⟨.inl rfl, fun q h1 h2 h3 h4 => by rcases Int.lt_or_le x q with h5 | h5; exact hq q h5 h2 h3 h4; omega⟩)
  ·
    have p11 := h11
    try simp only [decide_eq_true_eq, decide_eq_false_iff_not, Bool.not_eq_true', Bool.not_eq_false', Option.isNone_iff_eq_none, ne_eq, Decidable.not_not, Int.not_lt, Int.not_le] at p11
    refine TL_pass rfl rfl h11 rfl ?_
    refine TL_pass rfl rfl h11 rfl ?_
    refine TL_q (Qt_pick_f (.bool _) rfl h11 rfl) rfl ?_
    refine TL_nil ?_
    refine X_then ?_
    refine T_cond_false rfl rfl ?_
    refine T_exit ?_
    refine X_then_exit ?_
    refine X_loop_exit ?_
    refine X_block_exit ?_
    refine X_then ?_
    refine T_seq ?_
    refine T_region ?_
    refine TL_q (Qt_assign (.int .i64 _) rfl) rfl ?_
    refine TL_nil ?_
    refine X_then ?_
    refine T_ret ?_
    exact X_ret (-1) [_] Try.results48 ⟨rfl, trivial⟩ rfl (fun w hw => (Subs.st inferInstance w hw : St w0 (blk p (.cells (StopsV.mk (KeysV.mk ⟨sa, sc, ls⟩ rt) (ViewV.mk num (mk : Int)) (some r)).cells 107 (0, 0)) :: blk r (mapO encI encI es c) :: H) w).addPure ⟨.inl rfl, fun q h1 h2 h3 h4 => by rcases Int.lt_or_le x q with h5 | h5; exact hq q h5 h2 h3 h4; omega⟩)
set_option maxHeartbeats 1000000 in
theorem ssome_c {w0 : World} {H : List SA} {p r c : Nat} {es : EM} {num : Int} {mk : Nat} {sa : Option Addr} {sc : Nat} {ls : List BS} {rt : Sl} (hg : GoodM es c) (hes : es.length ≤ 100000) (hmk : mk < 65536) {above : Int} :
    CT Try.prog w0 (blk p (.cells (StopsV.mk (KeysV.mk ⟨sa, sc, ls⟩ rt) (ViewV.mk num (mk : Int)) (some r)).cells 107 (0, 0)) :: blk r (mapO encI encI es c) :: H) 23 [.pointer (some ⟨p, 0, none⟩), .int .i64 above] (α := Int) (fun x => .int .i64 x) (fun x => pu (Gr es above (someV num mk : Int) x) :: blk p (.cells (StopsV.mk (KeysV.mk ⟨sa, sc, ls⟩ rt) (ViewV.mk num (mk : Int)) (some r)).cells 107 (0, 0)) :: blk r (mapO encI encI es c) :: H) := by
  refine CT_intro Try.func23 rfl Try.ntmps23 rfl ?_
  refine T_seq ?_
  refine T_region ?_
  refine TL_q (Qt_assign (.int .i64 _) rfl) rfl ?_
  refine TL_nil ?_
  refine X_then ?_
  refine T_seq ?_
  refine T_seq ?_
  refine T_region ?_
  refine TL_q (Qt_move (.pointer _) rfl) rfl ?_
  refine TL_q (Qt_ptr_nil rfl rfl Try.underlying58) rfl ?_
  refine TL_nil ?_
  refine X_then ?_
  refine T_cond rfl (fun h6 => ?_) (fun h6 => ?_)
  ·
    have p6 := h6
    try simp only [decide_eq_true_eq, decide_eq_false_iff_not, Bool.not_eq_true', Bool.not_eq_false', Option.isNone_iff_eq_none, ne_eq, Decidable.not_not, Int.not_lt, Int.not_le] at p6
    cases h6
  ·
    have p6 := h6
    try simp only [decide_eq_true_eq, decide_eq_false_iff_not, Bool.not_eq_true', Bool.not_eq_false', Option.isNone_iff_eq_none, ne_eq, Decidable.not_not, Int.not_lt, Int.not_le] at p6
    refine T_skip ?_
    refine X_then ?_
    refine T_seq ?_
    refine T_region ?_
    refine TL_q (Qt_move (.pointer _) rfl) rfl ?_
    refine TL_q (Qt_move (.int .i64 _) rfl) rfl ?_
    refine TL_q (Qt_move (.pointer _) rfl) rfl ?_
    refine TL_q (Qt_nilCheck rfl) rfl ?_
    refine TL_q (Qt_fieldAddr 2 rfl rfl) rfl ?_
    refine TL_q (Qt_loadN rfl rfl) rfl ?_
    refine TL_e rfl (Ef_call (some_v hmk) rfl (fun x13 => ?_))
    refine TL_e rfl (Ef_call (sgreat_c hg hes) rfl (fun x14 => ?_))
    refine TL_pure (fun hgr => ?_)
    refine TL_q (Qt_assign (.int .i64 _) rfl) rfl ?_
    refine TL_nil ?_
    refine X_then ?_
    refine T_ret ?_
    exact X_ret x14 [_] Try.results23 ⟨rfl, trivial⟩ rfl (fun w hw => (Subs.st inferInstance w hw : St w0 (blk p (.cells (StopsV.mk (KeysV.mk ⟨sa, sc, ls⟩ rt) (ViewV.mk num (mk : Int)) (some r)).cells 107 (0, 0)) :: blk r (mapO encI encI es c) :: H) w).addPure hgr)
set_option maxHeartbeats 1000000 in
theorem ssomeNil_c {w0 : World} {H : List SA} {above : Int} :
    CT Try.prog w0 (H) 23 [.pointer none, .int .i64 above] (α := Unit) (fun _ => .int .i64 (-1)) (fun _ => H) := by
  refine CT_intro Try.func23 rfl Try.ntmps23 rfl ?_
  refine T_seq ?_
  refine T_region ?_
  refine TL_q (Qt_assign (.int .i64 _) rfl) rfl ?_
  refine TL_nil ?_
  refine X_then ?_
  refine T_seq ?_
  refine T_seq ?_
  refine T_region ?_
  refine TL_q (Qt_move (.pointer _) rfl) rfl ?_
  refine TL_q (Qt_ptr_nil rfl rfl Try.underlying58) rfl ?_
  refine TL_nil ?_
  refine X_then ?_
  refine T_cond rfl (fun h6 => ?_) (fun h6 => ?_)
  ·
    have p6 := h6
    try simp only [decide_eq_true_eq, decide_eq_false_iff_not, Bool.not_eq_true', Bool.not_eq_false', Option.isNone_iff_eq_none, ne_eq, Decidable.not_not, Int.not_lt, Int.not_le] at p6
    refine T_seq ?_
    refine T_region ?_
    refine TL_q (Qt_assign (.int .i64 _) rfl) rfl ?_
    refine TL_nil ?_
    refine X_then ?_
    refine T_ret ?_
    refine X_then_ret ?_
    exact X_ret () [_] Try.results23 ⟨rfl, trivial⟩ rfl (Subs.st inferInstance)
  ·
    have p6 := h6
    try simp only [decide_eq_true_eq, decide_eq_false_iff_not, Bool.not_eq_true', Bool.not_eq_false', Option.isNone_iff_eq_none, ne_eq, Decidable.not_not, Int.not_lt, Int.not_le] at p6
    cases h6
set_option maxHeartbeats 1000000 in
theorem senough_c {w0 : World} {H : List SA} {p r c : Nat} {es : EM} {num : Int} {mk : Nat} {sa : Option Addr} {sc : Nat} {ls : List BS} {rt : Sl} (hg : GoodM es c) (hes : es.length ≤ 100000) (hmk : mk < 65536) {above : Int} :
    CT Try.prog w0 (blk p (.cells (StopsV.mk (KeysV.mk ⟨sa, sc, ls⟩ rt) (ViewV.mk num (mk : Int)) (some r)).cells 107 (0, 0)) :: blk r (mapO encI encI es c) :: H) 24 [.pointer (some ⟨p, 0, none⟩), .int .i64 above] (α := Int) (fun x => .int .i64 x) (fun x => pu (Gr es above (enoughV num mk : Int) x) :: blk p (.cells (StopsV.mk (KeysV.mk ⟨sa, sc, ls⟩ rt) (ViewV.mk num (mk : Int)) (some r)).cells 107 (0, 0)) :: blk r (mapO encI encI es c) :: H) := by
  refine CT_intro Try.func24 rfl Try.ntmps24 rfl ?_
  refine T_seq ?_
  refine T_region ?_
  refine TL_q (Qt_assign (.int .i64 _) rfl) rfl ?_
  refine TL_nil ?_
  refine X_then ?_
  refine T_seq ?_
  refine T_seq ?_
  refine T_region ?_
  refine TL_q (Qt_move (.pointer _) rfl) rfl ?_
  refine TL_q (Qt_ptr_nil rfl rfl Try.underlying58) rfl ?_
  refine TL_nil ?_
  refine X_then ?_
  refine T_cond rfl (fun h6 => ?_) (fun h6 => ?_)
  ·
    have p6 := h6
    try simp only [decide_eq_true_eq, decide_eq_false_iff_not, Bool.not_eq_true', Bool.not_eq_false', Option.isNone_iff_eq_none, ne_eq, Decidable.not_not, Int.not_lt, Int.not_le] at p6
    cases h6
  ·
    have p6 := h6
    try simp only [decide_eq_true_eq, decide_eq_false_iff_not, Bool.not_eq_true', Bool.not_eq_false', Option.isNone_iff_eq_none, ne_eq, Decidable.not_not, Int.not_lt, Int.not_le] at p6
    refine T_skip ?_
    refine X_then ?_
    refine T_seq ?_
    refine T_region ?_
    refine TL_q (Qt_move (.pointer _) rfl) rfl ?_
    refine TL_q (Qt_move (.int .i64 _) rfl) rfl ?_
    refine TL_q (Qt_move (.pointer _) rfl) rfl ?_
    refine TL_q (Qt_nilCheck rfl) rfl ?_
    refine TL_q (Qt_fieldAddr 2 rfl rfl) rfl ?_
    refine TL_q (Qt_loadN rfl rfl) rfl ?_
    refine TL_e rfl (Ef_call (enough_v hmk) rfl (fun x13 => ?_))
    refine TL_e rfl (Ef_call (sgreat_c hg hes) rfl (fun x14 => ?_))
    refine TL_pure (fun hgr => ?_)
    refine TL_q (Qt_assign (.int .i64 _) rfl) rfl ?_
    refine TL_nil ?_
    refine X_then ?_
    refine T_ret ?_
    exact X_ret x14 [_] Try.results24 ⟨rfl, trivial⟩ rfl (fun w hw => (Subs.st inferInstance w hw : St w0 (blk p (.cells (StopsV.mk (KeysV.mk ⟨sa, sc, ls⟩ rt) (ViewV.mk num (mk : Int)) (some r)).cells 107 (0, 0)) :: blk r (mapO encI encI es c) :: H) w).addPure hgr)
set_option maxHeartbeats 1000000 in
theorem senoughNil_c {w0 : World} {H : List SA} {above : Int} :
    CT Try.prog w0 (H) 24 [.pointer none, .int .i64 above] (α := Unit) (fun _ => .int .i64 (-1)) (fun _ => H) := by
  refine CT_intro Try.func24 rfl Try.ntmps24 rfl ?_
  refine T_seq ?_
  refine T_region ?_
  refine TL_q (Qt_assign (.int .i64 _) rfl) rfl ?_
  refine TL_nil ?_
  refine X_then ?_
  refine T_seq ?_
  refine T_seq ?_
  refine T_region ?_
  refine TL_q (Qt_move (.pointer _) rfl) rfl ?_
  refine TL_q (Qt_ptr_nil rfl rfl Try.underlying58) rfl ?_
  refine TL_nil ?_
  refine X_then ?_
  refine T_cond rfl (fun h6 => ?_) (fun h6 => ?_)
  ·
    have p6 := h6
    try simp only [decide_eq_true_eq, decide_eq_false_iff_not, Bool.not_eq_true', Bool.not_eq_false', Option.isNone_iff_eq_none, ne_eq, Decidable.not_not, Int.not_lt, Int.not_le] at p6
    refine T_seq ?_
    refine T_region ?_
    refine TL_q (Qt_assign (.int .i64 _) rfl) rfl ?_
    refine TL_nil ?_
    refine X_then ?_
    refine T_ret ?_
    refine X_then_ret ?_
    exact X_ret () [_] Try.results24 ⟨rfl, trivial⟩ rfl (Subs.st inferInstance)
  ·
    have p6 := h6
    try simp only [decide_eq_true_eq, decide_eq_false_iff_not, Bool.not_eq_true', Bool.not_eq_false', Option.isNone_iff_eq_none, ne_eq, Decidable.not_not, Int.not_lt, Int.not_le] at p6
    cases h6
set_option maxHeartbeats 1000000 in
theorem stakeNil_c {w0 : World} {H : List SA} {a : Option Addr} {n c : Nat} :
    CT Try.prog w0 (H) 22 [.pointer none, .slice a n c] (α := Unit) (fun _ => .int .i64 16) (fun _ => H) := by
  refine CT_intro Try.func22 rfl Try.ntmps22 rfl ?_
  refine T_seq ?_
  refine T_region ?_
  refine TL_q (Qt_assign (.int .i64 _) rfl) rfl ?_
  refine TL_nil ?_
  refine X_then ?_
  refine T_seq ?_
  refine T_seq ?_
  refine T_region ?_
  refine TL_q (Qt_move (.pointer _) rfl) rfl ?_
  refine TL_q (Qt_ptr_nil rfl rfl Try.underlying58) rfl ?_
  refine TL_nil ?_
  refine X_then ?_
  refine T_cond rfl (fun h10 => ?_) (fun h10 => ?_)
  ·
    have p10 := h10
    try simp only [decide_eq_true_eq, decide_eq_false_iff_not, Bool.not_eq_true', Bool.not_eq_false', Option.isNone_iff_eq_none, ne_eq, Decidable.not_not, Int.not_lt, Int.not_le] at p10
    refine T_seq ?_
    refine T_region ?_
    refine TL_q (Qt_assign (.int .i64 _) rfl) rfl ?_
    refine TL_nil ?_
    refine X_then ?_
    refine T_ret ?_
    refine X_then_ret ?_
    exact X_ret () [_] Try.results22 ⟨rfl, trivial⟩ rfl (Subs.st inferInstance)
  ·
    have p10 := h10
    try simp only [decide_eq_true_eq, decide_eq_false_iff_not, Bool.not_eq_true', Bool.not_eq_false', Option.isNone_iff_eq_none, ne_eq, Decidable.not_not, Int.not_lt, Int.not_le] at p10
    cases h10
set_option maxHeartbeats 1000000 in
theorem scountNil_c {w0 : World} {H : List SA} {reg : Int} :
    CT Try.prog w0 (H) 25 [.pointer none, .int .i64 reg] (α := Unit) (fun _ => .int .i64 0) (fun _ => H) := by
  refine CT_intro Try.func25 rfl Try.ntmps25 rfl ?_
  refine T_seq ?_
  refine T_region ?_
  refine TL_q (Qt_assign (.int .i64 _) rfl) rfl ?_
  refine TL_nil ?_
  refine X_then ?_
  refine T_seq ?_
  refine T_seq ?_
  refine T_region ?_
  refine TL_q (Qt_move (.pointer _) rfl) rfl ?_
  refine TL_q (Qt_ptr_nil rfl rfl Try.underlying58) rfl ?_
  refine TL_nil ?_
  refine X_then ?_
  refine T_cond rfl (fun h9 => ?_) (fun h9 => ?_)
  ·
    have p9 := h9
    try simp only [decide_eq_true_eq, decide_eq_false_iff_not, Bool.not_eq_true', Bool.not_eq_false', Option.isNone_iff_eq_none, ne_eq, Decidable.not_not, Int.not_lt, Int.not_le] at p9
    refine T_seq ?_
    refine T_region ?_
    refine TL_q (Qt_assign (.int .i64 _) rfl) rfl ?_
    refine TL_nil ?_
    refine X_then ?_
    refine T_ret ?_
    refine X_then_ret ?_
    exact X_ret () [_] Try.results25 ⟨rfl, trivial⟩ rfl (Subs.st inferInstance)
  ·
    have p9 := h9
    try simp only [decide_eq_true_eq, decide_eq_false_iff_not, Bool.not_eq_true', Bool.not_eq_false', Option.isNone_iff_eq_none, ne_eq, Decidable.not_not, Int.not_lt, Int.not_le] at p9
    cases h9
end Go.Proofs.Ytnpldlhflncmkaa
