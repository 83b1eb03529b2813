/- Walks: the law CertsShare. -/
import Derived.Test.YtgjkgdjjolnhdaaDoorCc
namespace Go.Proofs.YtgjkgdjjolnhdaaDoor
open Go.RowKit Go.Sx
set_option maxRecDepth 100000
set_option linter.unusedSimpArgs false
set_option linter.unusedVariables false
structure TwoV where
  p : PS
  q : PS
def TwoV.list (v : TwoV) : List Value := [.slice v.p.a v.p.ls.length v.p.c, .slice v.q.a v.q.ls.length v.q.c]
def TwoV.cells (v : TwoV) : Array Value := v.list.toArray
instance two0 {v : TwoV} : Cells v.cells 2 := Cells.list rfl rfl
instance two1 {v : TwoV} : CellAt v.cells 0 (.slice v.p.a v.p.ls.length v.p.c) := ⟨rfl⟩
instance two2 {v : TwoV} : CellAt v.cells 1 (.slice v.q.a v.q.ls.length v.q.c) := ⟨rfl⟩
theorem nodup_le {α : Type} [DecidableEq α] : ∀ {l m : List α}, l.Nodup → (∀ x ∈ l, x ∈ m) → l.length ≤ m.length
  | [], _, _, _ => Nat.zero_le _
  | a :: l, m, hl, hs => by
    have ha : a ∈ m := hs a (List.mem_cons_self ..)
    have h1 := nodup_le (l := l) (m := m.erase a) (List.nodup_cons.1 hl).2 fun x hx => (List.mem_erase_of_ne (fun e : x = a => (List.nodup_cons.1 hl).1 (e ▸ hx))).2 (hs x (List.mem_cons_of_mem _ hx))
    have h2 : 0 < m.length := List.length_pos_of_mem ha
    rw [List.length_erase_of_mem ha] at h1
    simp; omega
theorem filter_len {α : Type} (p : α → Bool) : ∀ l : List α, (l.filter p).length + (l.filter fun x => !p x).length = l.length
  | [] => rfl
  | x :: l => by
    have ih := filter_len p l
    rw [List.filter_cons, List.filter_cons]
    cases p x <;> simp <;> omega
def bothN (l W : List Nat) : Nat := (l.filter fun i => decide (i ∈ W)).length
theorem bothN_snoc (l W : List Nat) (i : Nat) : bothN (l ++ [i]) W = bothN l W + if i ∈ W then 1 else 0 := by
  unfold bothN
  rw [List.filter_append, List.length_append]
  by_cases h : i ∈ W <;> simp [h]
def eqN (i : Nat) (l : List Nat) : Nat := (l.filter fun j => decide (i = j)).length
theorem eqN_snoc (i : Nat) (l : List Nat) (j : Nat) : eqN i (l ++ [j]) = eqN i l + if i = j then 1 else 0 := by
  unfold eqN
  rw [List.filter_append, List.length_append]
  by_cases h : i = j <;> simp [h]
theorem eqN_nodup {i : Nat} : ∀ {l : List Nat}, l.Nodup → eqN i l = if i ∈ l then 1 else 0
  | [], _ => by simp [eqN]
  | j :: l, h => by
    have ih := eqN_nodup (i := i) (List.nodup_cons.1 h).2
    unfold eqN at ih ⊢
    rw [List.filter_cons]
    by_cases e : i = j
    · subst e
      have : i ∉ l := (List.nodup_cons.1 h).1
      rw [if_neg this] at ih
      simp [ih]
    · simp [e, ih]
theorem eqN_le (i : Nat) (l : List Nat) : eqN i l ≤ l.length := List.length_filter_le _ _
theorem bothN_le (l W : List Nat) : bothN l W ≤ l.length := List.length_filter_le _ _
theorem set_sub {K : List (List UInt8)} {num : Int} {mk : Nat} {m : MsgD} {P : List (List UInt8)} : ∀ i ∈ memK (setD num m (P.map (opn K mk))), i ∈ memK mk := fun i hi => by
  rw [setD_mem (fun v hv => by obtain ⟨l, -, rfl⟩ := List.mem_map.1 hv; exact opn_frm _ _ _)] at hi
  obtain ⟨v, hv, hc, he⟩ := hi
  obtain ⟨l, -, rfl⟩ := List.mem_map.1 hv
  have h1 : (opn K mk l).kind ≠ 0 := by simp only [cntD, decide_eq_true_eq] at hc; exact hc.2.1
  have := opn_has h1
  rwa [he, Int.toNat_natCast] at this
theorem setP_lt {K : List (List UInt8)} {num : Int} {mk : Nat} {m : MsgD} {P : List (List UInt8)} : setD num m (P.map (opn K mk)) < 65536 := setD_lt _ (fun v hv => by obtain ⟨l, -, rfl⟩ := List.mem_map.1 hv; exact opn_frm _ _ _)
theorem writD_ok {K : List (List UInt8)} {num : Int} {mk : Nat} {reg slot : Int} {h : Vector UInt8 32} {P : List (List UInt8)} (hw : writD K num mk reg slot h P = 0) : rightV num mk = true ∧ P.length ≤ 16 ∧ quorumV num mk ≤ (memK (setD num (wMsg 2 num reg slot h) (P.map (opn K mk)))).length := by
  unfold writD at hw
  split at hw
  · rename_i h
    refine ⟨h.1, h.2.1, ?_⟩
    have := h.2.2
    rw [enoughD, decide_eq_true_eq, ones16_mem setP_lt] at this
    exact this
  · cases hw
/-- Two quorums have more members in both than a view bears faults. -/
theorem share_law {num : Int} {mk : Nat} (hmk : mk < 65536) (hr : rightV num mk = true) {W X : List Nat} (hW : W.Nodup) (hX : X.Nodup) (hWs : ∀ i ∈ W, i ∈ memK mk) (hXs : ∀ i ∈ X, i ∈ memK mk) (h1 : quorumV num mk ≤ W.length) (h2 : quorumV num mk ≤ X.length) : faultsV num mk < bothN W X := by
  have hsz : sizeV num mk = (memK mk).length := by rw [sizeV, if_pos hr, ones16_mem hmk]
  have hu : ((W.filter fun i => decide (i ∉ X)) ++ X).length ≤ (memK mk).length := by
    refine nodup_le (List.nodup_append.2 ⟨List.Pairwise.filter _ hW, hX, fun a ha b hb e => ?_⟩) fun i hi => ?_
    · subst e; simp at ha; exact ha.2 hb
    · rcases List.mem_append.1 hi with h | h
      · exact hWs i (List.mem_filter.1 h).1
      · exact hXs i h
  rw [List.length_append] at hu
  have hs : bothN W X + (W.filter fun i => decide (i ∉ X)).length = W.length := by
    have := filter_len (fun i => decide (i ∈ X)) W
    simpa [bothN] using this
  have hq : quorumV num mk = (sizeV num mk + faultsV num mk) / 2 + 1 := if_neg (by have := (show 4 ≤ sizeV num mk from by rw [sizeV, if_pos hr]; simp only [rightV, decide_eq_true_eq] at hr; omega); omega)
  omega
attribute [local irreducible] sealK openOfK keyT writD opn setD memK bothN eqN longC

set_option maxHeartbeats 1000000 in
theorem certsShare_c {w0 : World} {H : List SA} [G : Glob w0] {num : Int} {mk : Nat} (hmk : mk < 65536) {m : MsgV} {h2 : Vector UInt8 32} {tv : TwoV} [hp1 : RdC w0 H (.slice tv.p.a tv.p.ls.length tv.p.c) 1 (tv.p.ls.map BS.val)] [he1 : RdE w0 H tv.p.ls] [hp2 : RdC w0 H (.slice tv.q.a tv.q.ls.length tv.q.c) 1 (tv.q.ls.map BS.val)] [he2 : RdE w0 H tv.q.ls] :
    CT Tryd.prog w0 (H) 3 [.agg (AskV.mk (ViewV.mk num (mk : Int)) m).cells, .agg (hlist h2).toArray, .agg tv.cells] (α := Unit) (fun _ => .bool true) (fun _ => H) := by
  refine CT_intro Tryd.func3 rfl Tryd.ntmps3 rfl ?_
  refine T_seq ?_
  refine T_region ?_
  refine TL_e rfl (Ef_boxN rfl (fun b3 => ?_))
  refine TL_e rfl (Ef_boxN rfl (fun b4 => ?_))
  refine TL_e rfl (Ef_boxN rfl (fun b5 => ?_))
  refine TL_q (Qt_assign (.bool _) rfl) rfl ?_
  refine TL_nil ?_
  refine X_then ?_
  refine T_seq ?_
  refine T_seq ?_
  refine T_region ?_
  refine TL_e rfl (Ef_call (wakes17_c) rfl (fun x15 => ?_))
  refine TL_q (Qt_not rfl) rfl ?_
  refine TL_nil ?_
  refine X_then ?_
  refine T_cond rfl (fun h16 => ?_) (fun h16 => ?_)
  ·
    have p16 := h16
    try simp only [decide_eq_true_eq, decide_eq_false_iff_not, Bool.not_eq_true', Bool.not_eq_false', Option.isNone_iff_eq_none, ne_eq, Decidable.not_not, Int.not_lt, Int.not_le] at p16
    cases h16
  ·
    have p16 := h16
    try simp only [decide_eq_true_eq, decide_eq_false_iff_not, Bool.not_eq_true', Bool.not_eq_false', Option.isNone_iff_eq_none, ne_eq, Decidable.not_not, Int.not_lt, Int.not_le] at p16
    refine T_skip ?_
    refine X_then ?_
    refine T_seq ?_
    refine T_seq ?_
    refine T_region ?_
    refine TL_q (Qt_indexAddr_arrC (sz := 1) 0 0 rfl rfl Tryd.underlying33 rfl rfl rfl rfl) rfl ?_
    refine TL_q (Qt_load1 rfl) rfl ?_
    refine TL_e rfl (Ef_call (long17_c (ps := tv.p.ls)) rfl (fun x19 => ?_))
    refine TL_q (Qt_move (.bool _) rfl) rfl ?_
    refine TL_split 20 rfl (fun h20 => ?_) (fun h20 => ?_)
    ·
      have p20 := h20
      try simp only [decide_eq_true_eq, decide_eq_false_iff_not, Bool.not_eq_true', Bool.not_eq_false', Option.isNone_iff_eq_none, ne_eq, Decidable.not_not, Int.not_lt, Int.not_le] at p20
      refine TL_pass rfl rfl h20 rfl ?_
      refine TL_pass rfl rfl h20 rfl ?_
      refine TL_pass rfl rfl h20 rfl ?_
      refine TL_q (Qt_pick_t (.bool _) rfl h20 rfl) rfl ?_
      refine TL_nil ?_
      refine X_then ?_
      refine T_cond_true rfl rfl ?_
      refine T_seq ?_
      refine T_region ?_
      refine TL_q (Qt_assign (.bool _) rfl) rfl ?_
      refine TL_nil ?_
      refine X_then ?_
      refine T_ret ?_
      refine X_then_ret ?_
      exact X_ret () [_] Tryd.results3 ⟨rfl, trivial⟩ rfl (Subs.st inferInstance)
    ·
      have p20 := h20
      try simp only [decide_eq_true_eq, decide_eq_false_iff_not, Bool.not_eq_true', Bool.not_eq_false', Option.isNone_iff_eq_none, ne_eq, Decidable.not_not, Int.not_lt, Int.not_le] at p20
      have hlp : longC (tv.p.ls.map BS.l) = false := h20
      refine TL_take rfl rfl h20 ?_
      refine TL_q (Qt_indexAddr_arrC (sz := 1) 1 1 rfl rfl Tryd.underlying33 rfl rfl rfl rfl) rfl ?_
      refine TL_take rfl rfl h20 ?_
      refine TL_q (Qt_load1 rfl) rfl ?_
      refine TL_take rfl rfl h20 ?_
      refine TL_e rfl (Ef_call (long17_c (ps := tv.q.ls)) rfl (fun x23 => ?_))
      refine TL_q (Qt_pick_f (.bool _) rfl h20 rfl) rfl ?_
      refine TL_nil ?_
      refine X_then ?_
      refine T_cond rfl (fun h24 => ?_) (fun h24 => ?_)
      ·
        have p24 := h24
        try simp only [decide_eq_true_eq, decide_eq_false_iff_not, Bool.not_eq_true', Bool.not_eq_false', Option.isNone_iff_eq_none, ne_eq, Decidable.not_not, Int.not_lt, Int.not_le] at p24
        refine T_seq ?_
        refine T_region ?_
        refine TL_q (Qt_assign (.bool _) rfl) rfl ?_
        refine TL_nil ?_
        refine X_then ?_
        refine T_ret ?_
        refine X_then_ret ?_
        exact X_ret () [_] Tryd.results3 ⟨rfl, trivial⟩ rfl (Subs.st inferInstance)
      ·
        have p24 := h24
        try simp only [decide_eq_true_eq, decide_eq_false_iff_not, Bool.not_eq_true', Bool.not_eq_false', Option.isNone_iff_eq_none, ne_eq, Decidable.not_not, Int.not_lt, Int.not_le] at p24
        have hlq : longC (tv.q.ls.map BS.l) = false := h24
        refine T_skip ?_
        refine X_then ?_
        refine T_seq ?_
        refine T_region ?_
        refine TL_e rfl (Ef_call (table17_c) rfl (fun x25 => ?_))
        refine TL_pure (fun hk25 => ?_)
        refine TL_e rfl (Ef_allocN (fun b7 => ?_))
        refine TL_n (Ef_storeN rfl rfl (?_))
        refine TL_nil ?_
        refine X_then ?_
        refine T_seq ?_
        refine T_seq ?_
        refine T_region ?_
        refine TL_q (Qt_loadN rfl rfl) rfl ?_
        refine TL_q (Qt_fieldAddr 0 rfl rfl) rfl ?_
        refine TL_q (Qt_loadN rfl rfl) rfl ?_
        refine TL_q (Qt_fieldAddr 2 rfl rfl) rfl ?_
        refine TL_q (Qt_fieldAddr 5 rfl rfl) rfl ?_
        refine TL_q (Qt_load1 rfl) rfl ?_
        refine TL_q (Qt_fieldAddr 2 rfl rfl) rfl ?_
        refine TL_q (Qt_fieldAddr 6 rfl rfl) rfl ?_
        refine TL_q (Qt_load1 rfl) rfl ?_
        refine TL_q (Qt_fieldAddr 2 rfl rfl) rfl ?_
        refine TL_q (Qt_fieldAddr 7 rfl rfl) rfl ?_
        refine TL_q (Qt_loadN rfl rfl) rfl ?_
        refine TL_q (Qt_indexAddr_arrC (sz := 1) 0 0 rfl rfl Tryd.underlying33 rfl rfl rfl rfl) rfl ?_
        refine TL_q (Qt_load1 rfl) rfl ?_
        refine TL_e rfl (Ef_call (written_c (num := num) hmk (sa := x25.1.a) (sc := x25.1.c) (ls := x25.1.ls) (rt := ⟨none, 0, 0⟩) (a := tv.p.a) (c := tv.p.c) (ps := tv.p.ls) (keyT_small hk25).2 (fun x hx => by have := (longC_small hlp).2 x hx; omega) (by have := (longC_small hlp).1; omega) (reg := m.reg) (slot := m.slot) (h := m.hash)) rfl (fun x40 => ?_))
        refine TL_q (Qt_neq rfl rfl) rfl ?_
        refine TL_q (Qt_move (.bool _) rfl) rfl ?_
        refine TL_split 42 rfl (fun h42 => ?_) (fun h42 => ?_)
        ·
          have p42 := h42
          try simp only [decide_eq_true_eq, decide_eq_false_iff_not, Bool.not_eq_true', Bool.not_eq_false', Option.isNone_iff_eq_none, ne_eq, Decidable.not_not, Int.not_lt, Int.not_le] at p42
          refine TL_pass rfl rfl h42 rfl ?_
          refine TL_pass rfl rfl h42 rfl ?_
          refine TL_pass rfl rfl h42 rfl ?_
          refine TL_pass rfl rfl h42 rfl ?_
          refine TL_pass rfl rfl h42 rfl ?_
          refine TL_pass rfl rfl h42 rfl ?_
          refine TL_pass rfl rfl h42 rfl ?_
          refine TL_pass rfl rfl h42 rfl ?_
          refine TL_pass rfl rfl h42 rfl ?_
          refine TL_pass rfl rfl h42 rfl ?_
          refine TL_pass rfl rfl h42 rfl ?_
          refine TL_pass rfl rfl h42 rfl ?_
          refine TL_pass rfl rfl h42 rfl ?_
          refine TL_pass rfl rfl h42 rfl ?_
          refine TL_q (Qt_pick_t (.bool _) rfl h42 rfl) rfl ?_
          refine TL_nil ?_
          refine X_then ?_
          refine T_cond_true rfl rfl ?_
          refine T_seq ?_
          refine T_region ?_
          refine TL_q (Qt_assign (.bool _) rfl) rfl ?_
          refine TL_nil ?_
          refine X_then ?_
          refine T_ret ?_
          refine X_then_ret ?_
          exact X_ret () [_] Tryd.results3 ⟨rfl, trivial⟩ rfl (Subs.st inferInstance)
        ·
          have p42 := h42
          try simp only [decide_eq_true_eq, decide_eq_false_iff_not, Bool.not_eq_true', Bool.not_eq_false', Option.isNone_iff_eq_none, ne_eq, Decidable.not_not, Int.not_lt, Int.not_le] at p42
          refine TL_take rfl rfl h42 ?_
          refine TL_q (Qt_loadN rfl rfl) rfl ?_
          refine TL_take rfl rfl h42 ?_
          refine TL_q (Qt_fieldAddr 0 rfl rfl) rfl ?_
          refine TL_take rfl rfl h42 ?_
          refine TL_q (Qt_loadN rfl rfl) rfl ?_
          refine TL_take rfl rfl h42 ?_
          refine TL_q (Qt_fieldAddr 2 rfl rfl) rfl ?_
          refine TL_take rfl rfl h42 ?_
          refine TL_q (Qt_fieldAddr 5 rfl rfl) rfl ?_
          refine TL_take rfl rfl h42 ?_
          refine TL_q (Qt_load1 rfl) rfl ?_
          refine TL_take rfl rfl h42 ?_
          refine TL_q (Qt_fieldAddr 2 rfl rfl) rfl ?_
          refine TL_take rfl rfl h42 ?_
          refine TL_q (Qt_fieldAddr 6 rfl rfl) rfl ?_
          refine TL_take rfl rfl h42 ?_
          refine TL_q (Qt_load1 rfl) rfl ?_
          refine TL_take rfl rfl h42 ?_
          refine TL_q (Qt_loadN rfl rfl) rfl ?_
          refine TL_take rfl rfl h42 ?_
          refine TL_q (Qt_indexAddr_arrC (sz := 1) 1 1 rfl rfl Tryd.underlying33 rfl rfl rfl rfl) rfl ?_
          refine TL_take rfl rfl h42 ?_
          refine TL_q (Qt_load1 rfl) rfl ?_
          refine TL_take rfl rfl h42 ?_
          refine TL_e rfl (Ef_call (written_c (num := num) hmk (sa := x25.1.a) (sc := x25.1.c) (ls := x25.1.ls) (rt := ⟨none, 0, 0⟩) (a := tv.q.a) (c := tv.q.c) (ps := tv.q.ls) (keyT_small hk25).2 (fun x hx => by have := (longC_small hlq).2 x hx; omega) (by have := (longC_small hlq).1; omega) (reg := m.reg) (slot := m.slot) (h := h2)) rfl (fun x55 => ?_))
          refine TL_take rfl rfl h42 ?_
          refine TL_q (Qt_neq rfl rfl) rfl ?_
          refine TL_q (Qt_pick_f (.bool _) rfl h42 rfl) rfl ?_
          refine TL_nil ?_
          refine X_then ?_
          refine T_cond rfl (fun h57 => ?_) (fun h57 => ?_)
          ·
            have p57 := h57
            try simp only [decide_eq_true_eq, decide_eq_false_iff_not, Bool.not_eq_true', Bool.not_eq_false', Option.isNone_iff_eq_none, ne_eq, Decidable.not_not, Int.not_lt, Int.not_le] at p57
            refine T_seq ?_
            refine T_region ?_
            refine TL_q (Qt_assign (.bool _) rfl) rfl ?_
            refine TL_nil ?_
            refine X_then ?_
            refine T_ret ?_
            refine X_then_ret ?_
            exact X_ret () [_] Tryd.results3 ⟨rfl, trivial⟩ rfl (Subs.st inferInstance)
          ·
            have p57 := h57
            try simp only [decide_eq_true_eq, decide_eq_false_iff_not, Bool.not_eq_true', Bool.not_eq_false', Option.isNone_iff_eq_none, ne_eq, Decidable.not_not, Int.not_lt, Int.not_le] at p57
            refine T_skip ?_
            refine X_then ?_
            refine T_seq ?_
            refine T_region ?_
            refine TL_q (Qt_fieldAddr 0 rfl rfl) rfl ?_
            refine TL_q (Qt_fieldAddr 0 rfl rfl) rfl ?_
            refine TL_q (Qt_load1 rfl) rfl ?_
            refine TL_q (Qt_fieldAddr 2 rfl rfl) rfl ?_
            refine TL_q (Qt_fieldAddr 5 rfl rfl) rfl ?_
            refine TL_q (Qt_load1 rfl) rfl ?_
            refine TL_q (Qt_fieldAddr 2 rfl rfl) rfl ?_
            refine TL_q (Qt_fieldAddr 6 rfl rfl) rfl ?_
            refine TL_q (Qt_load1 rfl) rfl ?_
            refine TL_q (Qt_fieldAddr 2 rfl rfl) rfl ?_
            refine TL_q (Qt_fieldAddr 7 rfl rfl) rfl ?_
            refine TL_q (Qt_loadN rfl rfl) rfl ?_
            refine TL_q (Qt_build [(0, (.int .i64 _)), (2, (.int .i64 _)), (3, (.int .i64 _)), (4, (.int .i64 _)), (5, (.agg _))] rfl (by kernel_rfl)) rfl ?_
            refine TL_e rfl (Ef_allocN (fun b8 => ?_))
            refine TL_n (Ef_storeN rfl rfl (?_))
            refine TL_nil ?_
            refine X_then ?_
            refine T_seq ?_
            refine T_region ?_
            refine TL_q (Qt_loadN rfl rfl) rfl ?_
            refine TL_e rfl (Ef_allocN (fun b9 => ?_))
            refine TL_n (Ef_storeN rfl rfl (?_))
            refine TL_nil ?_
            refine X_then ?_
            refine T_seq ?_
            refine T_region ?_
            refine TL_q (Qt_loadN rfl rfl) rfl ?_
            refine TL_q (Qt_fieldAddr 5 rfl rfl) rfl ?_
            refine TL_n (Ef_storeN rfl rfl (?_))
            refine TL_nil ?_
            refine X_then ?_
            refine T_seq ?_
            refine T_region ?_
            refine TL_q (Qt_assign (.int .i64 _) rfl) rfl ?_
            refine TL_nil ?_
            refine X_then ?_
            refine T_seq ?_
            refine T_seq ?_
            refine T_region ?_
            refine TL_q (Qt_loadN rfl rfl) rfl ?_
            refine TL_q (Qt_fieldAddr 0 rfl rfl) rfl ?_
            refine TL_q (Qt_loadN rfl rfl) rfl ?_
            refine TL_q (Qt_loadN rfl rfl) rfl ?_
            refine TL_q (Qt_indexAddr_arrC (sz := 1) 0 0 rfl rfl Tryd.underlying33 rfl rfl rfl rfl) rfl ?_
            refine TL_q (Qt_load1 rfl) rfl ?_
            refine TL_e rfl (Ef_call (who_c (num := num) hmk (sa := x25.1.a) (sc := x25.1.c) (ls := x25.1.ls) (rt := ⟨none, 0, 0⟩) (a := tv.p.a) (c := tv.p.c) (ps := tv.p.ls) (keyT_small hk25).2 (fun x hx => by have := (longC_small hlp).2 x hx; omega) (by have := (longC_small hlp).1; omega) (m := ⟨2, 0, num, m.reg, m.slot, m.hash, ⟨none, 0, []⟩, ⟨none, 0, []⟩⟩)) rfl (fun x80 => ?_))
            obtain ⟨W, hW⟩ : ∃ W, W = (memK (setD num (MsgV.abs ⟨2, 0, num, m.reg, m.slot, m.hash, ⟨none, 0, []⟩, ⟨none, 0, []⟩⟩) ((tv.p.ls.map BS.l).map (opn (x25.1.ls.map BS.l) mk)))) := ⟨_, rfl⟩
            obtain ⟨X, hX⟩ : ∃ X, X = (memK (setD num (MsgV.abs ⟨2, 0, num, m.reg, m.slot, h2, ⟨none, 0, []⟩, ⟨none, 0, []⟩⟩) ((tv.q.ls.map BS.l).map (opn (x25.1.ls.map BS.l) mk)))) := ⟨_, rfl⟩
            rw [← hW]
            have hWl : W.length ≤ 16 := hW ▸ memK_len _
            have hXl : X.length ≤ 16 := hX ▸ memK_len _
            refine TL_q (Qt_len_slice rfl Tryd.underlying42) rfl ?_
            refine TL_q (Qt_move (.int .i64 _) rfl) rfl ?_
            refine TL_nil ?_
            refine X_then ?_
            refine T_block ?_
            refine T_loop [10, 12, 14, 82, 83, 84, 85, 86, 87, 88, 89, 90, 91, 92, 93, 94, 95, 96, 97, 98, 99, 100, 101, 102, 103, 104] [82, 10] (fun us H' => ∃ (i : Nat) (b : Nat), us = [.int .i64 (i : Int), .int .i64 (b : Int)] ∧ row (.slice x80.a W.length x80.c) 3 1 (W.flatMap encN) :: blk b3 (.cells (AskV.mk (ViewV.mk num (mk : Int)) m).cells 32 (0, 0)) :: blk b4 (.cells (hlist h2).toArray 26 (0, 0)) :: blk b5 (.cells tv.cells 33 (0, 0)) :: blk b7 (.cells (KeysV.mk ⟨x25.1.a, x25.1.c, x25.1.ls⟩ ⟨none, 0, 0⟩).cells 38 (0, 0)) :: blk b8 (.cells (MsgV.mk 2 0 num m.reg m.slot m.hash ⟨none, 0, []⟩ ⟨none, 0, []⟩).cells 30 (0, 0)) :: blk b9 (.cells (MsgV.mk 2 0 num m.reg m.slot h2 ⟨none, 0, []⟩ ⟨none, 0, []⟩).cells 30 (0, 0)) :: dat x25.2 (Deep.leads (PS.mk x25.1.a x25.1.c x25.1.ls)) :: H = H' ∧ i ≤ W.length ∧ (b = bothN (W.take i) X)) (fun us => match us with | .int _ i :: _ => W.length - i.toNat | _ => 0) ⟨0, 0, rfl, rfl, by omega, by simp [bothN]⟩ (Subs.st inferInstance) ?_
            rintro τ0 _ _  ⟨i, b, rfl, rfl, hi0, hbi⟩ _
            refine T_seq ?_
            refine T_region ?_
            refine TL_q (Qt_lss rfl rfl) rfl ?_
            refine TL_nil ?_
            refine X_then ?_
            refine T_seq ?_
            refine T_cond rfl (fun h83 => ?_) (fun h83 => ?_)
            ·
              have p83 := h83
              try simp only [decide_eq_true_eq, decide_eq_false_iff_not, Bool.not_eq_true', Bool.not_eq_false', Option.isNone_iff_eq_none, ne_eq, Decidable.not_not, Int.not_lt, Int.not_le] at p83
              have hki : i < W.length := by omega
              refine T_skip ?_
              refine X_then ?_
              refine T_seq ?_
              refine T_block ?_
              refine T_seq ?_
              refine T_region ?_
              refine TL_q (Qt_indexR rfl rfl (by omega) (by rw [encN_len]; omega)) rfl ?_
              refine TL_q (Qt_loadR (.int .i64 (W[i] : Int)) rfl (encN_get _ i hki)) rfl ?_
              refine TL_q (Qt_assign (.int .i64 _) rfl) rfl ?_
              refine TL_nil ?_
              refine X_then ?_
              refine T_seq ?_
              refine T_region ?_
              refine TL_q (Qt_loadN rfl rfl) rfl ?_
              refine TL_q (Qt_fieldAddr 0 rfl rfl) rfl ?_
              refine TL_q (Qt_loadN rfl rfl) rfl ?_
              refine TL_q (Qt_loadN rfl rfl) rfl ?_
              refine TL_q (Qt_indexAddr_arrC (sz := 1) 1 1 rfl rfl Tryd.underlying33 rfl rfl rfl rfl) rfl ?_
              refine TL_q (Qt_load1 rfl) rfl ?_
              refine TL_e rfl (Ef_call (who_c (num := num) hmk (sa := x25.1.a) (sc := x25.1.c) (ls := x25.1.ls) (rt := ⟨none, 0, 0⟩) (a := tv.q.a) (c := tv.q.c) (ps := tv.q.ls) (keyT_small hk25).2 (fun x hx => by have := (longC_small hlq).2 x hx; omega) (by have := (longC_small hlq).1; omega) (m := ⟨2, 0, num, m.reg, m.slot, h2, ⟨none, 0, []⟩, ⟨none, 0, []⟩⟩)) rfl (fun x92 => ?_))
              rw [← hX]
              refine TL_q (Qt_len_slice rfl Tryd.underlying42) rfl ?_
              refine TL_q (Qt_move (.int .i64 _) rfl) rfl ?_
              refine TL_nil ?_
              refine X_then ?_
              refine T_block ?_
              refine T_loop [10, 14, 94, 95, 96, 97, 98, 99, 100, 101, 102, 103] [94, 10] (fun us H' => ∃ (j : Nat) (b2 : Nat), us = [.int .i64 (j : Int), .int .i64 (b2 : Int)] ∧ row (.slice x92.a X.length x92.c) 3 1 (X.flatMap encN) :: row (.slice x80.a W.length x80.c) 3 1 (W.flatMap encN) :: blk b3 (.cells (AskV.mk (ViewV.mk num (mk : Int)) m).cells 32 (0, 0)) :: blk b4 (.cells (hlist h2).toArray 26 (0, 0)) :: blk b5 (.cells tv.cells 33 (0, 0)) :: blk b7 (.cells (KeysV.mk ⟨x25.1.a, x25.1.c, x25.1.ls⟩ ⟨none, 0, 0⟩).cells 38 (0, 0)) :: blk b8 (.cells (MsgV.mk 2 0 num m.reg m.slot m.hash ⟨none, 0, []⟩ ⟨none, 0, []⟩).cells 30 (0, 0)) :: blk b9 (.cells (MsgV.mk 2 0 num m.reg m.slot h2 ⟨none, 0, []⟩ ⟨none, 0, []⟩).cells 30 (0, 0)) :: dat x25.2 (Deep.leads (PS.mk x25.1.a x25.1.c x25.1.ls)) :: H = H' ∧ j ≤ X.length ∧ (b2 = b + eqN W[i] (X.take j))) (fun us => match us with | .int _ i :: _ => X.length - i.toNat | _ => 0) ⟨0, b, rfl, rfl, by omega, by simp [eqN]⟩ (Subs.st inferInstance) ?_
              rintro τ1 _ _  ⟨j, b2, rfl, rfl, hj0, hbj⟩ _
              refine T_seq ?_
              refine T_region ?_
              refine TL_q (Qt_lss rfl rfl) rfl ?_
              refine TL_nil ?_
              refine X_then ?_
              refine T_seq ?_
              refine T_cond rfl (fun h95 => ?_) (fun h95 => ?_)
              ·
                have p95 := h95
                try simp only [decide_eq_true_eq, decide_eq_false_iff_not, Bool.not_eq_true', Bool.not_eq_false', Option.isNone_iff_eq_none, ne_eq, Decidable.not_not, Int.not_lt, Int.not_le] at p95
                have hkj : j < X.length := by omega
                refine T_skip ?_
                refine X_then ?_
                refine T_seq ?_
                refine T_block ?_
                refine T_seq ?_
                refine T_region ?_
                refine TL_q (Qt_indexR rfl rfl (by omega) (by rw [encN_len]; omega)) rfl ?_
                refine TL_q (Qt_loadR (.int .i64 (X[j] : Int)) rfl (encN_get _ j hkj)) rfl ?_
                refine TL_q (Qt_assign (.int .i64 _) rfl) rfl ?_
                refine TL_nil ?_
                refine X_then ?_
                refine T_seq ?_
                refine T_region ?_
                refine TL_q (Qt_move (.int .i64 _) rfl) rfl ?_
                refine TL_q (Qt_move (.int .i64 _) rfl) rfl ?_
                refine TL_q (Qt_eql rfl rfl) rfl ?_
                refine TL_nil ?_
                refine X_then ?_
                refine T_cond rfl (fun h100 => ?_) (fun h100 => ?_)
                ·
                  have p100 := h100
                  try simp only [decide_eq_true_eq, decide_eq_false_iff_not, Bool.not_eq_true', Bool.not_eq_false', Option.isNone_iff_eq_none, ne_eq, Decidable.not_not, Int.not_lt, Int.not_le] at p100
                  have hb16 : b + eqN W[i] (X.take j) ≤ 32 := by have h1 := bothN_le (W.take i) X; have h2 := eqN_le W[i] (X.take j); rw [List.length_take] at h1 h2; omega
                  have hst : eqN W[i] (X.take (j + 1)) = eqN W[i] (X.take j) + 1 := by rw [List.take_succ_eq_append_getElem hkj, eqN_snoc, if_pos (by omega)]
                  refine T_region ?_
                  refine TL_q (Qt_move (.int .i64 _) rfl) rfl ?_
                  first
                    | refine TL_q (Qt_add rfl rfl (by omega) (by omega)) rfl ?_
                    | refine TL_q (Qt_addw rfl rfl) rfl ?_
                  refine TL_q (Qt_assign (.int .i64 _) rfl) rfl ?_
                  refine TL_nil ?_
                  refine X_block ?_
                  refine X_then ?_
                  refine T_region ?_
                  first
                    | refine TL_q (Qt_add rfl rfl (by omega) (by omega)) rfl ?_
                    | refine TL_q (Qt_addw rfl rfl) rfl ?_
                  refine TL_q (Qt_move (.int .i64 _) rfl) rfl ?_
                  refine TL_nil ?_
                  apply X_loop
                  case ha => exact (by repeat (first | with_reducible exact agree_refl | refine agree_upd rfl ?_ | refine agree_mix rfl ?_ | refine agree_setAll rfl ?_))
                  case hI => exact by first | exact ⟨j + 1, b2 + 1, rfl, rfl, by omega, by omega⟩ | exact ⟨j + 1, b2, rfl, rfl, by omega, by omega⟩
                  case hm => exact by show X.length - (j + 1 : Int).toNat < X.length - (j : Int).toNat; omega
                  case hH => exact (Subs.st inferInstance)
                ·
                  have p100 := h100
                  try simp only [decide_eq_true_eq, decide_eq_false_iff_not, Bool.not_eq_true', Bool.not_eq_false', Option.isNone_iff_eq_none, ne_eq, Decidable.not_not, Int.not_lt, Int.not_le] at p100
                  have hst : eqN W[i] (X.take (j + 1)) = eqN W[i] (X.take j) := by rw [List.take_succ_eq_append_getElem hkj, eqN_snoc, if_neg (by omega)]; rfl
                  refine T_skip ?_
                  refine X_block ?_
                  refine X_then ?_
                  refine T_region ?_
                  first
                    | refine TL_q (Qt_add rfl rfl (by omega) (by omega)) rfl ?_
                    | refine TL_q (Qt_addw rfl rfl) rfl ?_
                  refine TL_q (Qt_move (.int .i64 _) rfl) rfl ?_
                  refine TL_nil ?_
                  apply X_loop
                  case ha => exact (by repeat (first | with_reducible exact agree_refl | refine agree_upd rfl ?_ | refine agree_mix rfl ?_ | refine agree_setAll rfl ?_))
                  case hI => exact by first | exact ⟨j + 1, b2 + 1, rfl, rfl, by omega, by omega⟩ | exact ⟨j + 1, b2, rfl, rfl, by omega, by omega⟩
                  case hm => exact by show X.length - (j + 1 : Int).toNat < X.length - (j : Int).toNat; omega
                  case hH => exact (Subs.st inferInstance)
              ·
                have p95 := h95
                try simp only [decide_eq_true_eq, decide_eq_false_iff_not, Bool.not_eq_true', Bool.not_eq_false', Option.isNone_iff_eq_none, ne_eq, Decidable.not_not, Int.not_lt, Int.not_le] at p95
                have hjX : j = X.length := by omega
                rw [hjX, List.take_length, eqN_nodup (hX ▸ memK_nodup _)] at hbj
                have hbs : b2 = bothN (W.take (i + 1)) X := by rw [List.take_succ_eq_append_getElem hki, bothN_snoc, ← hbi]; exact hbj
                refine T_exit ?_
                refine X_then_exit ?_
                refine X_loop_exit ?_
                refine X_block_exit ?_
                refine X_block ?_
                refine X_then ?_
                refine T_region ?_
                first
                  | refine TL_q (Qt_add rfl rfl (by omega) (by omega)) rfl ?_
                  | refine TL_q (Qt_addw rfl rfl) rfl ?_
                refine TL_q (Qt_move (.int .i64 _) rfl) rfl ?_
                refine TL_nil ?_
                apply X_loop
                case ha => exact (by repeat (first | with_reducible exact agree_refl | refine agree_upd rfl ?_ | refine agree_mix rfl ?_ | refine agree_setAll rfl ?_))
                case hI => exact ⟨i + 1, b2, rfl, rfl, by omega, hbs⟩
                case hm => exact by show W.length - (i + 1 : Int).toNat < W.length - (i : Int).toNat; omega
                case hH => exact (Subs.st inferInstance)
            ·
              have p83 := h83
              try simp only [decide_eq_true_eq, decide_eq_false_iff_not, Bool.not_eq_true', Bool.not_eq_false', Option.isNone_iff_eq_none, ne_eq, Decidable.not_not, Int.not_lt, Int.not_le] at p83
              have hiW : i = W.length := by omega
              rw [hiW, List.take_length] at hbi
              refine T_exit ?_
              refine X_then_exit ?_
              refine X_loop_exit ?_
              refine X_block_exit ?_
              refine X_then ?_
              refine T_seq ?_
              refine T_region ?_
              refine TL_q (Qt_move (.int .i64 _) rfl) rfl ?_
              refine TL_q (Qt_fieldAddr 0 rfl rfl) rfl ?_
              refine TL_q (Qt_loadN rfl rfl) rfl ?_
              refine TL_e rfl (Ef_call (rFaults_c (num := num) hmk) rfl (fun x108 => ?_))
              refine TL_q (Qt_gtr rfl rfl) rfl ?_
              refine TL_q (Qt_assign (.bool _) rfl) rfl ?_
              refine TL_nil ?_
              refine X_then ?_
              refine T_ret ?_
              have hw1 := writD_ok (show writD (x25.1.ls.map BS.l) num mk m.reg m.slot m.hash (tv.p.ls.map BS.l) = 0 by simp_all)
              have hw2 := writD_ok (show writD (x25.1.ls.map BS.l) num mk m.reg m.slot h2 (tv.q.ls.map BS.l) = 0 by simp_all)
              have hfin := share_law hmk hw1.1 (W := W) (X := X) (hW ▸ memK_nodup _) (hX ▸ memK_nodup _) (hW ▸ set_sub) (hX ▸ set_sub) (hW ▸ hw1.2.2) (hX ▸ hw2.2.2)
              exact X_ret () [.bool true] Tryd.results3 ⟨congrArg Value.bool (by simp only [decide_eq_true_eq]; omega), trivial⟩ rfl (Subs.st inferInstance)
end Go.Proofs.YtgjkgdjjolnhdaaDoor
