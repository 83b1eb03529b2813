/- The law VotesTake: a book is what the votes that came make. -/
import Derived.Test.YtdjbhpdfkopdgaaBs
import Derived.Test.YtdjbhpdfkopdgaaSd
namespace Go.Proofs.Ytdjbhpdfkopdgaa
open Go.RowKit Go.Sx
set_option maxRecDepth 100000
set_option linter.unusedSimpArgs false
set_option linter.unusedVariables false
theorem slot_grow : ∀ (l : List VoteV) (n : Int), n ≤ l.foldl slotS n ∧ ∀ v ∈ l, 1 < v.kind → v.slot ≤ l.foldl slotS n
  | [], n => ⟨Int.le_refl _, fun _ h => by cases h⟩
  | u :: l, n => by
    obtain ⟨h1, h2⟩ := slot_grow l (slotS n u)
    have h0 : n ≤ slotS n u ∧ (1 < u.kind → u.slot ≤ slotS n u) := by unfold slotS; split <;> exact ⟨by omega, fun _ => by omega⟩
    refine ⟨Int.le_trans h0.1 h1, fun v hv hk => ?_⟩
    rcases List.mem_cons.1 hv with rfl | hv
    · exact Int.le_trans (h0.2 hk) h1
    · exact h2 v hv hk
theorem slotL_snoc (l : List VoteV) (v : VoteV) : slotL (l ++ [v]) = slotS (slotL l) v := by simp [slotL]
theorem regL_snoc (l : List VoteV) (v : VoteV) : regL (l ++ [v]) = regS (regL l) v := by simp [regL]
theorem find_snoc {α : Type} (p : α → Bool) (l : List α) (v : α) : (l ++ [v]).find? p = (l.find? p).or (if p v then some v else none) := by
  rw [List.find?_append]; cases h : p v <;> simp [List.find?, h]
theorem acc_none (s : Int) : ∀ (l : List VoteV) (o : Option VoteV), (∀ v ∈ l, v.kind = 3 → v.slot < s) → l.foldl (accS s) o = o
  | [], _, _ => rfl
  | v :: l, o, h => by
    rw [List.foldl_cons, show accS s o v = o from if_pos (by have := h v (by simp); omega)]
    exact acc_none s l o fun u hu => h u (by simp [hu])
/-- A book, as data, is what votes that came make. -/
structure SameD (b : BookD) (l : List VoteV) : Prop where
  ent : b.entered = decide (0 ≤ (regL l).1)
  now : b.entered = true → b.now = ⟨(regL l).1, (regL l).2⟩
  nown : b.entered = false → b.now = ⟨0, 0⟩
  slot : b.slot = slotL l
  acc : b.acc = (accL l).map VoteV.abs
  wrote : ∀ a, b.get a = (wroteL l a).map VoteV.abs
theorem SameD.same {y : BkS} {l : List VoteV} (h : SameD y.abs l) : SameL y l where
  reg := fun h0 => by
    have := h.now (h.ent.trans (decide_eq_true h0))
    exact ⟨congrArg EraV.view this, congrArg EraV.reg this⟩
  noreg := fun h0 => by
    have := h.nown (h.ent.trans (decide_eq_false (by omega)))
    exact ⟨congrArg EraV.view this, congrArg EraV.reg this⟩
  slot := h.slot
  acc := h.acc
  wrote := fun a => by rw [← BkS.get]; exact h.wrote a
theorem SameD.start : SameD BookD.zero [] := ⟨rfl, fun h => (by cases h), fun _ => rfl, rfl, rfl, fun _ => rfl⟩
theorem get_begin (b : BookD) (s : Int) (h : ¬ s < b.slot) (a : EraV) : (beginD b s).get a = if b.slot < s then none else b.get a := by
  unfold beginD
  split <;> rfl
theorem get_write (b : BookD) (a x : EraV) (v : VoteD) : (writeD b a v).get x = (b.get x).or (if x = a then some v else none) := by
  unfold writeD
  split
  · rename_i h
    by_cases e : x = a
    · subst e
      obtain ⟨u, hu⟩ := Option.isSome_iff_exists.1 h
      simp [hu]
    · simp [e]
  · rename_i h
    simp only [BookD.get, List.find?_append, List.find?_cons, List.find?_nil]
    by_cases e : x = a
    · subst e
      cases hf : List.find? (fun e => decide (x = e.1)) b.wrote <;> simp
    · simp [e]
theorem get_accept (b : BookD) (a x : EraV) (v : VoteD) : (acceptD b a v).get x = b.get x := by
  unfold acceptD
  split
  · rfl
  · split <;> rfl
theorem slotS_ge {n : Int} {v : VoteV} (hk : 1 < v.kind) (h : ¬ v.slot < n) : slotS n v = v.slot := by
  unfold slotS; split
  · rfl
  · omega
/-- What a further vote of a slot that is reached turns. -/
theorem wrote_snoc {l : List VoteV} {v : VoteV} (hk : 1 < v.kind) (h : ¬ v.slot < slotL l) (a : EraV) : wroteL (l ++ [v]) a = (if slotL l < v.slot then none else wroteL l a).or (if isW v.slot a v then some v else none) := by
  have e := slotL_snoc l v
  rw [slotS_ge hk h] at e
  unfold wroteL
  rw [e, find_snoc]
  by_cases hlt : slotL l < v.slot
  · rw [if_pos hlt]
    congr 1
    rw [List.find?_eq_none]
    intro u hu
    have := (slot_grow l 0).2 u hu
    simp only [isW, Bool.and_eq_true, decide_eq_true_eq]
    rintro ⟨⟨⟨h1, h2⟩, -⟩, -⟩
    have h3 := this (by omega)
    have h4 : slotL l = l.foldl slotS 0 := rfl
    omega
  · rw [if_neg hlt, show v.slot = slotL l from by omega]
theorem acc_snoc {l : List VoteV} {v : VoteV} (hk : 1 < v.kind) (h : ¬ v.slot < slotL l) : accL (l ++ [v]) = accS v.slot (if slotL l < v.slot then none else accL l) v := by
  have e := slotL_snoc l v
  rw [slotS_ge hk h] at e
  unfold accL
  rw [e, List.foldl_append]
  show accS v.slot _ v = _
  split
  · rename_i hlt
    rw [acc_none]
    intro u hu h3
    have h5 := (slot_grow l 0).2 u hu (by omega)
    have h4 : slotL l = l.foldl slotS 0 := rfl
    omega
  · rw [show v.slot = slotL l from by omega]
theorem reg_skip {p : Int × Int} {v : VoteV} (h : v.kind ≠ 1) : regS p v = p := if_neg (by omega)
theorem begin_facts {b : BookD} {l : List VoteV} (hs : SameD b l) (s : Int) : (beginD b s).entered = b.entered ∧ (beginD b s).now = b.now ∧ (beginD b s).acc = if slotL l < s then none else b.acc := by
  unfold beginD
  rw [← hs.slot]
  split <;> exact ⟨rfl, rfl, rfl⟩
theorem take_same {b : BookD} {l : List VoteV} {v : VoteV} (hs : SameD b l) : (takeD b v.abs).2 = takeL l v ∧ ((takeD b v.abs).2 = 0 → SameD (takeD b v.abs).1 (l ++ [v])) ∧ ((takeD b v.abs).2 ≠ 0 → SameD (takeD b v.abs).1 l) := by
  rcases takeD_cases b v.abs with ⟨e, hp⟩ | ⟨e, hp, hk⟩ | ⟨e, hp, hk, hl⟩ | ⟨e, hp, hk, hl⟩ | ⟨e, hp, hk1, hk2, hl⟩ <;> rw [e]
  · exact ⟨(if_pos hp).symm, fun h => by simp at h, fun _ => hs⟩
  · have hk : v.kind = 1 := hk
    obtain ⟨-, -, ⟨hv0, hv1⟩, ⟨hr0, hr1⟩, -⟩ := (formed_spec v.abs).1 (formed_of_put hp)
    have hv0 : 0 ≤ v.view := hv0
    refine ⟨by unfold takeL; rw [if_neg (by simpa using hp), if_neg (by omega)], fun _ => ?_, fun h => absurd rfl h⟩
    have es : slotL (l ++ [v]) = slotL l := by rw [slotL_snoc]; unfold slotS; rw [if_neg (by omega)]
    have ea : accL (l ++ [v]) = accL l := by
      unfold accL; rw [es, List.foldl_append]; exact if_pos (by omega)
    have ew : ∀ a, wroteL (l ++ [v]) a = wroteL l a := fun a => by
      unfold wroteL; rw [es, find_snoc, if_neg (by simp [isW, hk])]; simp
    have er : regL (l ++ [v]) = if (regL l).1 < v.view ∨ (v.view = (regL l).1 ∧ (regL l).2 < v.reg) then (v.view, v.reg) else regL l := by
      rw [regL_snoc]; unfold regS; simp only [hk, true_and]
    have hcond : (!b.entered || afterB ⟨v.view, v.reg⟩ b.now) = decide ((regL l).1 < v.view ∨ (v.view = (regL l).1 ∧ (regL l).2 < v.reg)) := by
      cases he : b.entered
      · have h1 : ¬ 0 ≤ (regL l).1 := of_decide_eq_false (hs.ent.symm.trans he)
        simp; omega
      · rw [hs.now he]
        rw [Bool.eq_iff_iff]
        simp [afterB]
    have h1 := begin_facts hs v.slot
    show SameD (bif !b.entered || afterB ⟨v.view, v.reg⟩ b.now then _ else b) _
    rw [hcond]
    by_cases hc : (regL l).1 < v.view ∨ (v.view = (regL l).1 ∧ (regL l).2 < v.reg)
    · rw [if_pos hc] at er
      rw [decide_eq_true hc, cond_true]
      exact ⟨by rw [er]; simp [hv0], fun _ => by rw [er]; rfl, fun h => (by cases h), by rw [es]; exact hs.slot, by rw [ea]; exact hs.acc, fun a => by rw [ew]; exact hs.wrote a⟩
    · rw [if_neg hc] at er
      rw [decide_eq_false hc, cond_false]
      exact ⟨by rw [er]; exact hs.ent, fun h => by rw [er]; exact hs.now h, hs.nown, by rw [es]; exact hs.slot, by rw [ea]; exact hs.acc, fun a => by rw [ew]; exact hs.wrote a⟩
  · have hk' : 1 < v.kind := by have := ((formed_spec v.abs).1 (formed_of_put hp)).1; have h2 : v.kind ≠ 1 := hk; have h3 : 1 ≤ v.kind := this; omega
    refine ⟨?_, fun h => by simp at h, fun _ => hs⟩
    unfold takeL
    rw [if_neg (by simpa using hp), if_pos ⟨hk', by rw [← hs.slot]; exact hl⟩]
  · have hk : v.kind = 2 := hk
    have hl : ¬ v.slot < slotL l := by rw [← hs.slot]; exact hl
    refine ⟨?_, fun _ => ?_, fun h => absurd rfl h⟩
    · unfold takeL
      rw [if_neg (by simpa using hp), if_neg (by omega)]
    · obtain ⟨w1, w2, w3, w4⟩ := write_now (beginD b v.abs.slot) ⟨v.view, v.reg⟩ v.abs
      obtain ⟨g1, g2, g3⟩ := begin_facts hs v.abs.slot
      have er : regL (l ++ [v]) = regL l := by rw [regL_snoc, reg_skip (by omega)]
      show SameD (writeD (beginD b v.abs.slot) ⟨v.view, v.reg⟩ v.abs) _
      refine ⟨by rw [w2, g1, er]; exact hs.ent, fun h => by rw [w1, g2, er]; exact hs.now (by rw [← g1, ← w2]; exact h), fun h => by rw [w1, g2]; exact hs.nown (by rw [← g1, ← w2]; exact h), ?_, ?_, fun a => ?_⟩
      · rw [w3, begin_slot b v.abs.slot (by rw [hs.slot]; exact hl), slotL_snoc, slotS_ge (by omega) hl]; rfl
      · rw [w4, g3, acc_snoc (by omega) hl, hs.acc]
        rw [show accS v.slot (if slotL l < v.slot then none else accL l) v = if slotL l < v.slot then none else accL l from if_pos (by omega)]
        show (if slotL l < v.slot then none else _) = _
        split <;> rfl
      · rw [get_write, get_begin b _ (by rw [hs.slot]; exact hl), wrote_snoc (by omega) hl, hs.wrote, hs.slot]
        show (if slotL l < v.slot then none else _).or _ = _
        have e1 : isW v.slot a v = decide (a = ⟨v.view, v.reg⟩) := by
          rw [Bool.eq_iff_iff]; simp [isW, hk, EraV.ext_iff']; omega
        rw [e1]
        by_cases ha : a = ⟨v.view, v.reg⟩ <;> by_cases hlt : slotL l < v.slot <;> simp [ha, hlt]
  · have hk1 : v.kind ≠ 1 := hk1
    have hk2 : v.kind ≠ 2 := hk2
    obtain ⟨hka, hkb, -⟩ := (formed_spec v.abs).1 (formed_of_put hp)
    have hk : v.kind = 3 := by have h1 : 1 ≤ v.kind := hka; have h2 : v.kind ≤ 3 := hkb; omega
    have hl : ¬ v.slot < slotL l := by rw [← hs.slot]; exact hl
    refine ⟨?_, fun _ => ?_, fun h => absurd rfl h⟩
    · unfold takeL
      rw [if_neg (by simpa using hp), if_neg (by omega)]
    · obtain ⟨w1, w2, w3⟩ := accept_now (beginD b v.abs.slot) ⟨v.view, v.reg⟩ v.abs
      obtain ⟨g1, g2, g3⟩ := begin_facts hs v.abs.slot
      have er : regL (l ++ [v]) = regL l := by rw [regL_snoc, reg_skip (by omega)]
      show SameD (acceptD (beginD b v.abs.slot) ⟨v.view, v.reg⟩ v.abs) _
      refine ⟨by rw [w2, g1, er]; exact hs.ent, fun h => by rw [w1, g2, er]; exact hs.now (by rw [← g1, ← w2]; exact h), fun h => by rw [w1, g2]; exact hs.nown (by rw [← g1, ← w2]; exact h), ?_, ?_, fun a => ?_⟩
      · rw [w3, begin_slot b v.abs.slot (by rw [hs.slot]; exact hl), slotL_snoc, slotS_ge (by omega) hl]; rfl
      · rw [acc_snoc (by omega) hl]
        have e0 : (beginD b v.abs.slot).acc = (if slotL l < v.slot then none else accL l).map VoteV.abs := by
          rw [g3, hs.acc]
          show (if slotL l < v.slot then none else _) = _
          split <;> rfl
        have hn : ¬ (v.kind ≠ 3 ∨ v.slot ≠ v.slot) := by omega
        generalize (if slotL l < v.slot then none else accL l) = o at e0 ⊢
        unfold acceptD accS
        rw [e0, if_neg hn]
        cases o with
        | none => rfl
        | some u =>
          simp only [Option.map_some]
          have e2 : afterB ⟨v.view, v.reg⟩ ⟨u.abs.view, u.abs.reg⟩ = decide (u.view < v.view ∨ (v.view = u.view ∧ u.reg < v.reg)) := by
            show (decide (u.view < v.view) || (decide (v.view = u.view) && decide (u.reg < v.reg))) = _
            rw [Bool.eq_iff_iff]; simp only [Bool.or_eq_true, Bool.and_eq_true, decide_eq_true_eq]
          rw [e2]
          by_cases hc : u.view < v.view ∨ (v.view = u.view ∧ u.reg < v.reg)
          · simp only [hc, decide_true, if_true]; rfl
          · simp only [hc, decide_false, Bool.false_eq_true, if_false]; exact e0
      · rw [get_accept, get_begin b _ (by rw [hs.slot]; exact hl), wrote_snoc (by omega) hl, hs.wrote, hs.slot]
        rw [show isW v.slot a v = false from by simp [isW, hk]]
        show (if slotL l < v.slot then none else _) = _
        by_cases hlt : slotL l < v.slot <;> simp [hlt]
theorem rds_sub {w0 : World} {H : List SA} {vs us : List VoteV} (h : RdVs w0 H vs) (hs : ∀ v ∈ us, v ∈ vs) : RdVs w0 H us := ⟨fun v hv => h.b v (hs v hv), fun v hv => h.c v (hs v hv), fun v hv => h.e v (hs v hv)⟩

set_option maxHeartbeats 1000000 in
theorem votesTake_c {w0 : World} {H : List SA} {a : Option Addr} {vs : List VoteV} {c : Nat} [hr : RdC w0 H (.slice a vs.length c) 38 (vs.flatMap VoteV.list)] [rv : RdVs w0 H vs] :
    CT Try.prog w0 (H) 5 [.slice a vs.length c] (α := Unit) (fun _ => .bool true) (fun _ => H) := by
  refine CT_intro Try.func5 rfl Try.ntmps5 rfl ?_
  refine T_seq ?_
  refine T_region ?_
  refine TL_q (Qt_assign (.bool _) rfl) rfl ?_
  refine TL_nil ?_
  refine X_then ?_
  refine T_seq ?_
  refine T_seq ?_
  refine T_region ?_
  refine TL_e rfl (Ef_call (wakes_c) rfl (fun x8 => ?_))
  refine TL_q (Qt_not rfl) rfl ?_
  refine TL_nil ?_
  refine X_then ?_
  refine T_cond rfl (fun h9 => ?_) (fun h9 => ?_)
  ·
    have p9 := h9
    try simp only [decide_eq_true_eq, decide_eq_false_iff_not, Bool.not_eq_true', Bool.not_eq_false', Option.isNone_iff_eq_none, ne_eq, Decidable.not_not, Int.not_lt, Int.not_le] at p9
    cases h9
  ·
    have p9 := h9
    try simp only [decide_eq_true_eq, decide_eq_false_iff_not, Bool.not_eq_true', Bool.not_eq_false', Option.isNone_iff_eq_none, ne_eq, Decidable.not_not, Int.not_lt, Int.not_le] at p9
    refine T_skip ?_
    refine X_then ?_
    refine T_seq ?_
    refine T_seq ?_
    refine T_region ?_
    refine TL_q (Qt_move (.slice _ _ _) rfl) rfl ?_
    refine TL_e rfl (Ef_call (long_c (vs := vs)) rfl (fun x11 => ?_))
    refine TL_nil ?_
    refine X_then ?_
    refine T_cond rfl (fun h11 => ?_) (fun h11 => ?_)
    ·
      have p11 := h11
      try simp only [decide_eq_true_eq, decide_eq_false_iff_not, Bool.not_eq_true', Bool.not_eq_false', Option.isNone_iff_eq_none, ne_eq, Decidable.not_not, Int.not_lt, Int.not_le] at p11
      refine T_seq ?_
      refine T_region ?_
      refine TL_q (Qt_assign (.bool _) rfl) rfl ?_
      refine TL_nil ?_
      refine X_then ?_
      refine T_ret ?_
      refine X_then_ret ?_
      exact X_ret () [_] Try.results5 ⟨rfl, trivial⟩ rfl (Subs.st inferInstance)
    ·
      have p11 := h11
      try simp only [decide_eq_true_eq, decide_eq_false_iff_not, Bool.not_eq_true', Bool.not_eq_false', Option.isNone_iff_eq_none, ne_eq, Decidable.not_not, Int.not_lt, Int.not_le] at p11
      have hlg : longB (vs.map VoteV.abs) = false := h11
      have h40 := long_len hlg
      rw [List.length_map] at h40
      refine T_skip ?_
      refine X_then ?_
      refine T_seq ?_
      refine T_region ?_
      refine TL_e rfl (Ef_call (new_c) rfl (fun x12 => ?_))
      refine TL_q (Qt_assign (.pointer _) rfl) rfl ?_
      refine TL_nil ?_
      refine X_then ?_
      refine T_seq ?_
      refine T_region ?_
      refine TL_q (Qt_assign (.slice _ _ _) rfl) rfl ?_
      refine TL_nil ?_
      refine X_then ?_
      refine T_seq ?_
      refine T_seq ?_
      refine T_region ?_
      refine TL_q (Qt_move (.slice _ _ _) rfl) rfl ?_
      refine TL_q (Qt_len_slice rfl Try.underlying30) rfl ?_
      refine TL_q (Qt_move (.int .i64 _) rfl) rfl ?_
      refine TL_nil ?_
      refine X_then ?_
      refine T_block ?_
      refine T_loop [2, 4, 6, 7, 15, 16, 17, 18, 19, 20, 21, 22, 23, 24, 25, 26, 27, 28, 29, 30, 31, 32, 33, 34, 35, 36, 37] [15, 4] (fun us H' => ∃ (k : Nat) (y : BkS) (cl : List VoteV) (a : Option Addr) (c : Nat), us = [.int .i64 (k : Int), .slice a cl.length c] ∧ BkS.H y x12.1 (row (.slice a cl.length c) 27 38 (cl.flatMap VoteV.list) :: H) = H' ∧ k ≤ vs.length ∧ y.Ok ∧ SameD y.abs cl ∧ (∀ v ∈ cl, v ∈ vs) ∧ cl.length ≤ k) (fun us => match us with | .int _ i :: _ => vs.length - i.toNat | _ => 0) ⟨0, BkS.made x12.2, [], none, 0, rfl, rfl, by omega, BkS.made_ok _, SameD.start, by simp, by simp⟩ (fun w hw => Subs.st (H' := BkS.H (BkS.made x12.2) x12.1 (row (.slice none 0 0) 27 38 [] :: H)) inferInstance w (St.addNil 27 38 hw)) ?_
      rintro τ0 _ _  ⟨k, y, cl, ac, cc, rfl, rfl, hk0, hy, hsd, hsub, hcl⟩ _
      refine T_seq ?_
      refine T_region ?_
      refine TL_q (Qt_lss rfl rfl) rfl ?_
      refine TL_nil ?_
      refine X_then ?_
      refine T_seq ?_
      refine T_cond rfl (fun h16 => ?_) (fun h16 => ?_)
      ·
        have p16 := h16
        try simp only [decide_eq_true_eq, decide_eq_false_iff_not, Bool.not_eq_true', Bool.not_eq_false', Option.isNone_iff_eq_none, ne_eq, Decidable.not_not, Int.not_lt, Int.not_le] at p16
        have hk : k < vs.length := by omega
        refine T_skip ?_
        refine X_then ?_
        refine T_seq ?_
        refine T_block ?_
        refine T_seq ?_
        refine T_region ?_
        refine TL_q (Qt_indexN rfl rfl (by omega) (by omega)) rfl ?_
        refine TL_q (Qt_loadVote (k := k) rfl hk) rfl ?_
        refine TL_e rfl (Ef_allocN (fun b6 => ?_))
        refine TL_n (Ef_storeN rfl rfl (?_))
        refine TL_nil ?_
        refine X_then ?_
        refine T_seq ?_
        refine T_region ?_
        refine TL_q (Qt_move (.pointer _) rfl) rfl ?_
        refine TL_q (Qt_loadN rfl rfl) rfl ?_
        refine TL_drop (BkS.H y x12.1 (blk b6 (.cells vs[k].cells 27 (0, 0)) :: row (.slice ac cl.length cc) 27 38 (cl.flatMap VoteV.list) :: H)) ?_
        have hvk := List.getElem_mem hk
        have rb := rv.b vs[k] hvk
        have rc := rv.c vs[k] hvk
        have re := rv.e vs[k] hvk
        have hsk := small_of_long hlg _ (List.mem_map.2 ⟨_, hvk, rfl⟩)
        obtain ⟨ht1, ht2, ht3⟩ := take_same (v := vs[k]) hsd
        refine TL_e rfl (Ef_call (take_c (y := y) (v := vs[k]) hy hsk) rfl (fun x21 => ?_))
        refine TL_pure (fun hz => ?_)
        rw [← hz.2] at ht2 ht3
        refine TL_q (Qt_assign (.int .i64 _) rfl) rfl ?_
        refine TL_nil ?_
        refine X_then ?_
        refine T_seq ?_
        refine T_seq ?_
        refine T_region ?_
        refine TL_q (Qt_move (.int .i64 _) rfl) rfl ?_
        refine TL_q (Qt_move (.slice _ _ _) rfl) rfl ?_
        refine TL_q (Qt_loadN rfl rfl) rfl ?_
        have rvc : RdVs w0 H cl := rds_sub rv hsub
        refine TL_e rfl (Ef_call (rTake_c (vs := cl) (v := vs[k]) (by omega) hsk) rfl (fun x25 => ?_))
        refine TL_q (Qt_neq rfl rfl) rfl ?_
        refine TL_nil ?_
        refine X_then ?_
        refine T_cond rfl (fun h26 => ?_) (fun h26 => ?_)
        ·
          have p26 := h26
          try simp only [decide_eq_true_eq, decide_eq_false_iff_not, Bool.not_eq_true', Bool.not_eq_false', Option.isNone_iff_eq_none, ne_eq, Decidable.not_not, Int.not_lt, Int.not_le] at p26
          exact absurd ht1 p26
        ·
          have p26 := h26
          try simp only [decide_eq_true_eq, decide_eq_false_iff_not, Bool.not_eq_true', Bool.not_eq_false', Option.isNone_iff_eq_none, ne_eq, Decidable.not_not, Int.not_lt, Int.not_le] at p26
          refine T_skip ?_
          refine X_then ?_
          refine T_seq ?_
          refine T_seq ?_
          refine T_region ?_
          refine TL_q (Qt_move (.int .i64 _) rfl) rfl ?_
          refine TL_q (Qt_eql rfl rfl) rfl ?_
          refine TL_nil ?_
          refine X_then ?_
          refine T_cond rfl (fun h28 => ?_) (fun h28 => ?_)
          ·
            have p28 := h28
            try simp only [decide_eq_true_eq, decide_eq_false_iff_not, Bool.not_eq_true', Bool.not_eq_false', Option.isNone_iff_eq_none, ne_eq, Decidable.not_not, Int.not_lt, Int.not_le] at p28
            have hsame := ht2 p28
            have hsub35 : ∀ v ∈ cl ++ [vs[k]], v ∈ vs := fun v hv => (List.mem_append.1 hv).elim (hsub v) (fun h => (by obtain rfl : v = vs[k] := (by simpa using h); exact hvk))
            have hcl35 : (cl ++ [vs[k]]).length ≤ k + 1 := by simp; omega
            have hn35 : (cl ++ [vs[k]]).length ≤ 1000000 := by omega
            have hsm35 : ∀ v ∈ cl ++ [vs[k]], SmallV v.abs := fun v hv => small_of_long hlg _ (List.mem_map.2 ⟨_, hsub35 v hv, rfl⟩)
            have rvc35 : RdVs w0 H (cl ++ [vs[k]]) := rds_sub rv hsub35
            refine T_region ?_
            refine TL_q (Qt_move (.slice _ _ _) rfl) rfl ?_
            refine TL_q (Qt_loadN rfl rfl) rfl ?_
            refine TL_e rfl (Ef_sliceN (m := [vs[k]].length) [.agg vs[k].cells] ([vs[k]].flatMap VoteV.list) rfl rfl rfl rfl (by simp [Value.cells, VoteV.size]) rfl rfl (fun a31 c31 => ?_))
            refine TL_e rfl (Ef_appendS VoteV.list (sv := .slice _ _ _) (xv := .slice _ _ _) (xs := cl) (ys := [vs[k]]) VoteV.list_len VoteV.list_one rfl rfl (by simp; omega) rfl rfl (fun a32 c32 => ?_))
            refine TL_q (Qt_assign (.slice _ _ _) rfl) rfl ?_
            refine TL_nil ?_
            refine X_then ?_
            refine T_seq ?_
            refine T_region ?_
            refine TL_q (Qt_move (.pointer _) rfl) rfl ?_
            refine TL_q (Qt_move (.slice _ _ _) rfl) rfl ?_
            refine TL_drop (BkS.H x21 x12.1 (row (.slice a32 (cl ++ [vs[k]]).length c32) 27 38 ((cl ++ [vs[k]]).flatMap VoteV.list) :: H)) ?_
            refine TL_e rfl (Ef_call (sameBook_c (y := x21) hn35 hz.1 hsame.same hsm35) rfl (fun x35 => ?_))
            refine TL_q (Qt_not rfl) rfl ?_
            refine TL_nil ?_
            refine X_then ?_
            refine T_cond rfl (fun h36 => ?_) (fun h36 => ?_)
            ·
              have p36 := h36
              try simp only [decide_eq_true_eq, decide_eq_false_iff_not, Bool.not_eq_true', Bool.not_eq_false', Option.isNone_iff_eq_none, ne_eq, Decidable.not_not, Int.not_lt, Int.not_le] at p36
              cases h36
            ·
              have p36 := h36
              try simp only [decide_eq_true_eq, decide_eq_false_iff_not, Bool.not_eq_true', Bool.not_eq_false', Option.isNone_iff_eq_none, ne_eq, Decidable.not_not, Int.not_lt, Int.not_le] at p36
              refine T_skip ?_
              refine X_block ?_
              refine X_then ?_
              refine T_region ?_
              first
                | refine TL_q (Qt_add rfl rfl (by omega) (by omega)) rfl ?_
                | refine TL_q (Qt_addw rfl rfl) rfl ?_
              refine TL_q (Qt_move (.int .i64 _) rfl) rfl ?_
              refine TL_nil ?_
              refine X_loop _ (by repeat (first | with_reducible exact agree_refl | refine agree_upd rfl ?_ | refine agree_mix rfl ?_ | refine agree_setAll rfl ?_)) (⟨k + 1, x21, _, _, _, rfl, rfl, by omega, hz.1, hsame, hsub35, hcl35⟩) (by show vs.length - (k + 1 : Int).toNat < vs.length - (k : Int).toNat; omega) (Subs.st inferInstance)
          ·
            have p28 := h28
            try simp only [decide_eq_true_eq, decide_eq_false_iff_not, Bool.not_eq_true', Bool.not_eq_false', Option.isNone_iff_eq_none, ne_eq, Decidable.not_not, Int.not_lt, Int.not_le] at p28
            have hsame := ht3 p28
            have hsub35 := hsub
            have hcl35 : cl.length ≤ k + 1 := by omega
            have hn35 : cl.length ≤ 1000000 := by omega
            have hsm35 : ∀ v ∈ cl, SmallV v.abs := fun v hv => small_of_long hlg _ (List.mem_map.2 ⟨_, hsub35 v hv, rfl⟩)
            refine T_skip ?_
            refine X_then ?_
            refine T_seq ?_
            refine T_region ?_
            refine TL_q (Qt_move (.pointer _) rfl) rfl ?_
            refine TL_q (Qt_move (.slice _ _ _) rfl) rfl ?_
            refine TL_drop (BkS.H x21 x12.1 (row (.slice ac cl.length cc) 27 38 (cl.flatMap VoteV.list) :: H)) ?_
            refine TL_e rfl (Ef_call (sameBook_c (y := x21) hn35 hz.1 hsame.same hsm35) rfl (fun x35 => ?_))
            refine TL_q (Qt_not rfl) rfl ?_
            refine TL_nil ?_
            refine X_then ?_
            refine T_cond rfl (fun h36 => ?_) (fun h36 => ?_)
            ·
              have p36 := h36
              try simp only [decide_eq_true_eq, decide_eq_false_iff_not, Bool.not_eq_true', Bool.not_eq_false', Option.isNone_iff_eq_none, ne_eq, Decidable.not_not, Int.not_lt, Int.not_le] at p36
              cases h36
            ·
              have p36 := h36
              try simp only [decide_eq_true_eq, decide_eq_false_iff_not, Bool.not_eq_true', Bool.not_eq_false', Option.isNone_iff_eq_none, ne_eq, Decidable.not_not, Int.not_lt, Int.not_le] at p36
              refine T_skip ?_
              refine X_block ?_
              refine X_then ?_
              refine T_region ?_
              first
                | refine TL_q (Qt_add rfl rfl (by omega) (by omega)) rfl ?_
                | refine TL_q (Qt_addw rfl rfl) rfl ?_
              refine TL_q (Qt_move (.int .i64 _) rfl) rfl ?_
              refine TL_nil ?_
              refine X_loop _ (by repeat (first | with_reducible exact agree_refl | refine agree_upd rfl ?_ | refine agree_mix rfl ?_ | refine agree_setAll rfl ?_)) (⟨k + 1, x21, _, _, _, rfl, rfl, by omega, hz.1, hsame, hsub35, hcl35⟩) (by show vs.length - (k + 1 : Int).toNat < vs.length - (k : Int).toNat; omega) (Subs.st inferInstance)
      ·
        have p16 := h16
        try simp only [decide_eq_true_eq, decide_eq_false_iff_not, Bool.not_eq_true', Bool.not_eq_false', Option.isNone_iff_eq_none, ne_eq, Decidable.not_not, Int.not_lt, Int.not_le] at p16
        refine T_exit ?_
        refine X_then_exit ?_
        refine X_loop_exit ?_
        refine X_block_exit ?_
        refine X_then ?_
        refine T_seq ?_
        refine T_region ?_
        refine TL_q (Qt_assign (.bool _) rfl) rfl ?_
        refine TL_nil ?_
        refine X_then ?_
        refine T_ret ?_
        exact X_ret () [_] Try.results5 ⟨rfl, trivial⟩ rfl (Subs.st inferInstance)
end Go.Proofs.Ytdjbhpdfkopdgaa
