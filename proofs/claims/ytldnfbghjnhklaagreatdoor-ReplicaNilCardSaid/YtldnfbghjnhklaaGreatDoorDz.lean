/- Disks: what acts leave stays right; walks: package disk: there, Rename, Delete. -/
import Derived.Test.YtldnfbghjnhklaaGreatDoorDm
namespace Go.Proofs.YtldnfbghjnhklaaGreatDoor
open Go.RowKit Go.Sx
set_option maxRecDepth 100000
set_option linter.unusedSimpArgs false
set_option linter.unusedVariables false
theorem getE_cons {κ ν : Type} [DecidableEq κ] (e : Ent κ ν) (es : List (Ent κ ν)) (k : κ) : getE (e :: es) k = if k = e.k then some e.v else getE es k := by
  unfold getE
  by_cases h : k = e.k <;> simp [List.find?_cons, h]
theorem getE_put_ne : ∀ (es : FM) (k key : ByteArray) (v : BS) (c : Nat), key ≠ k → getE (putE es k v c) key = getE es key
  | [], k, key, v, c, h => by simp [putE, getE, h]
  | e :: es, k, key, v, c, h => by
    unfold putE
    split
    · rename_i hk; subst hk; rw [getE_cons, getE_cons, if_neg h, if_neg h]
    · rw [getE_cons, getE_cons, getE_put_ne es k key v c h]
theorem getE_put_eq : ∀ (es : FM) (k : ByteArray) (v : BS) (c : Nat), getE (putE es k v c) k = some v
  | [], k, v, c => by simp [putE, getE]
  | e :: es, k, v, c => by
    unfold putE
    split
    · rw [getE_cons, if_pos rfl]
    · rename_i hk; rw [getE_cons, if_neg hk, getE_put_eq es k v c]
theorem getE_del_ne : ∀ (es : FM) (k key : ByteArray), key ≠ k → getE (delE es k) key = getE es key
  | [], k, key, h => rfl
  | e :: es, k, key, h => by
    unfold delE
    split
    · rename_i hk; subst hk; rw [getE_cons, if_neg h]
    · rw [getE_cons, getE_cons, getE_del_ne es k key h]
theorem getE_doE {es : FM} {a : ActV} {x : BS} {c : Nat} {key : ByteArray} (h1 : a.name ≠ key) (h2 : a.to ≠ key) : getE (doE es a x c) key = getE es key := by
  have h1' := Ne.symm h1
  have h2' := Ne.symm h2
  unfold doE
  split
  · exact getE_put_ne _ _ _ _ _ h1'
  · split
    · split
      · rw [getE_put_ne _ _ _ _ _ h2', getE_del_ne _ _ _ h1']
      · rfl
    · split
      · exact getE_del_ne _ _ _ h1'
      · rfl
theorem putF_map : ∀ (es : FM) (k : ByteArray) (v : BS) (c : Nat), hasE es k = true → (putE es k v c).map (·.k) = es.map (·.k) ∧ (putE es k v c).map (·.b) = es.map (·.b)
  | [], k, v, c, h => by simp [hasE, getE] at h
  | e :: es, k, v, c, h => by
    unfold putE
    split
    · rename_i hk; exact ⟨by simp [hk], by simp⟩
    · rename_i hk
      have h1 : hasE es k = true := by simpa [hasE, getE, List.find?_cons, hk] using h
      have := putF_map es k v c h1
      exact ⟨by simp [this.1], by simp [this.2]⟩
theorem putF_new (es : FM) (k : ByteArray) (v : BS) (c : Nat) (h : GoodM es c) (hh : hasE es k = false) : GoodM (putE es k v c) (c + 1) := by
  rw [putE_none _ _ _ _ hh]
  refine ⟨?_, ?_, ?_⟩
  · rw [List.map_append]
    refine List.nodup_append.2 ⟨h.keys, by simp, fun a ha b hb => ?_⟩
    obtain rfl : b = k := by simpa using hb
    rintro rfl
    obtain ⟨e, he, hek⟩ := List.mem_map.1 ha
    have : (getE es a).isSome = true := by
      simp only [getE, Option.isSome_map]
      rw [List.find?_isSome]
      exact ⟨e, he, by simp [hek]⟩
    rw [hasE, this] at hh
    cases hh
  · rw [List.map_append]
    refine List.nodup_append.2 ⟨h.born, by simp, fun a ha b hb => ?_⟩
    obtain rfl : b = c := by simpa using hb
    rintro rfl
    obtain ⟨e, he, hek⟩ := List.mem_map.1 ha
    have := h.lt e he
    omega
  · intro e he
    rcases List.mem_append.1 he with he | he
    · have := h.lt e he; omega
    · obtain rfl : e = ⟨k, v, c⟩ := by simpa using he
      show c < c + 1
      omega
theorem putF_good (es : FM) (k : ByteArray) (v : BS) (c : Nat) (h : GoodM es c) : GoodM (putE es k v c) (clockE es k c) := by
  cases hh : hasE es k with
  | false => unfold clockE; rw [hh]; exact putF_new es k v c h hh
  | true =>
    have hm := putF_map es k v c hh
    unfold clockE
    rw [hh]
    refine ⟨by rw [hm.1]; exact h.keys, by rw [hm.2]; exact h.born, fun e he => ?_⟩
    have hb : e.b ∈ (putE es k v c).map (·.b) := List.mem_map.2 ⟨e, he, rfl⟩
    rw [hm.2] at hb
    obtain ⟨e', he', hb'⟩ := List.mem_map.1 hb
    have := h.lt e' he'
    simp only [cond_true]
    omega
theorem delF_sub : ∀ (es : FM) (k : ByteArray), (delE es k).Sublist es
  | [], k => List.Sublist.refl _
  | e :: es, k => by
    unfold delE
    split
    · exact List.sublist_cons_self _ _
    · exact (delF_sub es k).cons_cons e
theorem delF_good {es : FM} {c : Nat} (h : GoodM es c) (k : ByteArray) : GoodM (delE es k) c :=
  ⟨h.keys.sublist ((delF_sub es k).map _), h.born.sublist ((delF_sub es k).map _), fun e he => h.lt e ((delF_sub es k).subset he)⟩
theorem doE_good {es : FM} {a : ActV} {x : BS} {c : Nat} (h : GoodM es c) : GoodM (doE es a x c) (doC es a c) := by
  unfold doE doC
  split
  · exact putF_good _ _ _ _ h
  · split
    · split
      · exact putF_good _ _ _ _ (delF_good h _)
      · exact h
    · split
      · exact delF_good h _
      · exact h
theorem putF_vals : ∀ (es : FM) (k : ByteArray) (v : BS) (c : Nat), ∀ e ∈ putE es k v c, e.v = v ∨ ∃ e' ∈ es, e.v = e'.v
  | [], k, v, c, e, he => by
    left
    have : e = ⟨k, v, c⟩ := by simpa [putE] using he
    rw [this]
  | d :: es, k, v, c, e, he => by
    unfold putE at he
    split at he
    · rcases List.mem_cons.1 he with rfl | he
      · exact .inl rfl
      · exact .inr ⟨e, by simp [he], rfl⟩
    · rcases List.mem_cons.1 he with rfl | he
      · exact .inr ⟨e, by simp, rfl⟩
      · rcases putF_vals es k v c e he with h | ⟨e', h1, h2⟩
        · exact .inl h
        · exact .inr ⟨e', by simp [h1], h2⟩
theorem doE_vals {es : FM} {a : ActV} {x : BS} {c : Nat} {bs : List BS} (hm : ∀ e ∈ es, e.v ∈ bs) (hz : zB ∈ bs) : ∀ e ∈ doE es a x c, e.v ∈ x :: bs := by
  intro e he
  have hold := oldE_mem hm hz
  unfold doE at he
  split at he
  · rcases putF_vals _ _ _ _ e he with h | ⟨e', h1, h2⟩
    · rw [h]; simp
    · rw [h2]; exact List.mem_cons_of_mem _ (hm e' h1)
  · split at he
    · split at he
      · rcases putF_vals _ _ _ _ e he with h | ⟨e', h1, h2⟩
        · rw [h]; exact List.mem_cons_of_mem _ (hold _)
        · rw [h2]; exact List.mem_cons_of_mem _ (hm e' ((delF_sub es _).subset h1))
      · exact List.mem_cons_of_mem _ (hm e he)
    · split at he
      · exact List.mem_cons_of_mem _ (hm e ((delF_sub es _).subset he))
      · exact List.mem_cons_of_mem _ (hm e he)
theorem putF_len : ∀ (es : FM) (k : ByteArray) (v : BS) (c : Nat), (putE es k v c).length ≤ es.length + 1
  | [], k, v, c => by simp [putE]
  | e :: es, k, v, c => by
    unfold putE
    split
    · simp
    · have := putF_len es k v c; simp; omega
theorem doE_len {es : FM} {a : ActV} {x : BS} {c : Nat} : (doE es a x c).length ≤ es.length + 1 := by
  unfold doE
  split
  · exact putF_len _ _ _ _
  · split
    · split
      · have h1 := putF_len (delE es a.name) a.to (oldE es a.name) c
        have h2 := (delF_sub es a.name).length_le
        omega
      · omega
    · split
      · have h2 := (delF_sub es a.name).length_le; omega
      · omega
theorem DS.Ok.mono {s : DS} {N M N' M' : Nat} (h : s.Ok N M) (hN : N ≤ N') (hM : M ≤ M') : s.Ok N' M' :=
  ⟨h.good1, h.good2, h.mem1, h.mem2, h.memp, h.zero, fun x hx => Nat.le_trans (h.len x hx) hM, h.short, Nat.le_trans h.n1 hN, Nat.le_trans h.n2 hN, Nat.le_trans h.np hN, h.room0, h.room1, h.fuse1⟩
theorem burnF_le {f : Int} (h : f ≤ 9223372036854775807) : burnF f ≤ 9223372036854775807 := by unfold burnF; split <;> omega
theorem newB_len {es : FM} {a : ActV} {bs : List BS} {M : Nat} (hm : ∀ e ∈ es, e.v ∈ bs) (hz : zB ∈ bs) (hl : ∀ x ∈ bs, x.l.length ≤ M) (ha : a.b.l.length ≤ 100000) : (newB es a).length ≤ M + 100000 := by
  have h1 := hl _ (oldE_mem hm hz a.name)
  unfold newB
  split
  · rw [List.length_append]; omega
  · split
    · omega
    · simp
theorem DoR.ok {s s' : DS} {N M : Nat} {a : ActV} {e : Int} (h : DoR s a s' e) (hok : s.Ok N M) (ha : a.b ∈ s.bs) (hb : a.b.l.length ≤ 100000) : s'.Ok (N + 1) (M + 100000) := by
  rcases h with ⟨-, -, rfl⟩ | ⟨-, -, x, pa, pc, fp, hx, rfl⟩
  · have h1 := hok.mono (Nat.le_add_right N 1) (Nat.le_add_right M 100000)
    exact ⟨h1.good1, h1.good2, h1.mem1, h1.mem2, h1.memp, h1.zero, h1.len, h1.short, h1.n1, h1.n2, h1.np, h1.room0, h1.room1, burnF_le h1.fuse1⟩
  · refine ⟨hok.good1, doE_good hok.good2, fun e he => List.mem_cons_of_mem _ (hok.mem1 e he), doE_vals hok.mem2 hok.zero, fun b hb' => ?_, List.mem_cons_of_mem _ hok.zero, fun y hy => ?_, fun b hb' => ?_, by have := hok.n1; show s.e1.length ≤ _; omega, by have h1 := doE_len (es := s.e2) (a := a) (x := x) (c := s.c2); have h2 := hok.n2; show (doE s.e2 a x s.c2).length ≤ _; omega, by have := hok.np; show (s.pend ++ [a]).length ≤ _; simp; omega, hok.room0, hok.room1, burnF_le hok.fuse1⟩
    · rcases List.mem_append.1 hb' with h1 | h1
      · exact List.mem_cons_of_mem _ (hok.memp b h1)
      · obtain rfl : b = a := by simpa using h1
        exact List.mem_cons_of_mem _ ha
    · rcases List.mem_cons.1 hy with rfl | hy
      · rw [hx]; exact newB_len hok.mem2 hok.zero hok.len hb
      · have := hok.len y hy; omega
    · rcases List.mem_append.1 hb' with h1 | h1
      · exact hok.short b h1
      · obtain rfl : b = a := by simpa using h1
        exact hb
theorem AppR.ok {k : Int} {less : Nat} {s s' : DS} {N M : Nat} {nm : ByteArray} {b : List UInt8} {e : Int} (h : AppR k less s nm b s' e) (hok : s.Ok N M) (hb : b.length ≤ 100000) (hbM : b.length ≤ M) : s'.Ok (N + 1) (M + 100000) := by
  have h1 := hok.mono (Nat.le_add_right N 1) (Nat.le_add_right M 100000)
  rcases h with ⟨-, -, rfl⟩ | ⟨-, -, -, rfl⟩ | ⟨-, -, -, -, rfl⟩ | ⟨-, -, -, cl, fp, hcl, hd⟩
  · exact h1
  · exact h1
  · exact h1
  · exact hd.ok (hok.addB (by rw [hcl]; exact hbM)) (List.mem_cons_self ..) (by show cl.l.length ≤ 100000; rw [hcl]; exact hb)
theorem SyncR.ok {s s' : DS} {N M : Nat} (h : SyncR s s') (hok : s.Ok N M) : s'.Ok N M := by
  rcases h with ⟨-, rfl⟩ | ⟨-, q1, q2, rfl⟩
  · exact ⟨hok.good1, hok.good2, hok.mem1, hok.mem2, hok.memp, hok.zero, hok.len, hok.short, hok.n1, hok.n2, hok.np, hok.room0, hok.room1, burnF_le hok.fuse1⟩
  · exact ⟨hok.good2, hok.good2, hok.mem2, hok.mem2, (fun _ h => by cases h), hok.zero, hok.len, (fun _ h => by cases h), hok.n2, hok.n2, Nat.zero_le _, hok.room0, hok.room1, burnF_le hok.fuse1⟩
set_option maxHeartbeats 1000000 in
theorem there_c {w0 : World} {H : List SA} {p : Nat} {s : DS} {nm : ByteArray} :
    CT Tryz.prog w0 (DS.H p s H) 310 [.pointer (some ⟨p, 0, none⟩), .string nm] (α := Unit) (fun _ => .bool (hasE s.e2 nm)) (fun _ => DS.H p s H) := by
  refine CT_intro Tryz.func310 rfl Tryz.ntmps310 rfl ?_
  refine T_seq ?_
  refine T_region ?_
  refine TL_q (Qt_assign (.bool _) rfl) rfl ?_
  refine TL_nil ?_
  refine X_then ?_
  refine T_seq ?_
  refine T_region ?_
  refine TL_q (Qt_move (.pointer _) rfl) rfl ?_
  refine TL_q (Qt_nilCheck rfl) rfl ?_
  refine TL_q (Qt_fieldAddr 2 rfl rfl) rfl ?_
  refine TL_q (Qt_load1 rfl) rfl ?_
  refine TL_q (Qt_move (.string _) rfl) rfl ?_
  refine TL_q (Qt_lookup2 (key := nm) (enc := encS) (ev := BS.val) (zB) rfl rfl Tryz.underlying103 bs_zero) rfl ?_
  refine TL_q (Qt_move (.tuple _) rfl) rfl ?_
  refine TL_q (Qt_extract rfl) rfl ?_
  refine TL_q (Qt_extract rfl) rfl ?_
  refine TL_q (Qt_assign (.slice _ _ _) rfl) rfl ?_
  refine TL_q (Qt_assign (.bool _) rfl) rfl ?_
  refine TL_nil ?_
  refine X_then ?_
  refine T_seq ?_
  refine T_region ?_
  refine TL_q (Qt_move (.bool _) rfl) rfl ?_
  refine TL_q (Qt_assign (.bool _) rfl) rfl ?_
  refine TL_nil ?_
  refine X_then ?_
  refine T_ret ?_
  exact X_ret () [_] Tryz.results310 ⟨rfl, trivial⟩ rfl (Subs.st inferInstance)
set_option maxHeartbeats 1000000 in
theorem rename_c {w0 : World} {H : List SA} {p : Nat} {s : DS} {N M : Nat} (hok : s.Ok N M) (hN : N ≤ 1000000) (hM : M ≤ 1000000000) {nm to : ByteArray} :
    CT Tryz.prog w0 (DS.H p s H) 238 [.pointer (some ⟨p, 0, none⟩), .string nm, .string to] (α := DS × Int) (fun y => .int .i64 y.2) (fun y => pu (MvR (⟨3, nm, to, ⟨none, 0, []⟩⟩ : ActV) (namedB nm && namedB to) s y.1 y.2) :: DS.H p y.1 H) := by
  refine CT_intro Tryz.func238 rfl Tryz.ntmps238 rfl ?_
  refine T_seq ?_
  refine T_region ?_
  refine TL_q (Qt_assign (.int .i64 _) rfl) rfl ?_
  refine TL_nil ?_
  refine X_then ?_
  refine T_seq ?_
  refine T_block ?_
  refine T_seq ?_
  refine T_region ?_
  refine TL_q (Qt_move (.pointer _) rfl) rfl ?_
  refine TL_q (Qt_ptr_nil rfl rfl Tryz.underlying63) rfl ?_
  refine TL_q (Qt_assign (.bool _) rfl) rfl ?_
  refine TL_nil ?_
  refine X_then ?_
  refine T_cond rfl (fun h7 => ?_) (fun h7 => ?_)
  ·
    have p7 := h7
    try simp only [decide_eq_true_eq, decide_eq_false_iff_not, Bool.not_eq_true', Bool.not_eq_false', Option.isNone_iff_eq_none, ne_eq, Decidable.not_not, Int.not_lt, Int.not_le] at p7
    cases h7
  ·
    have p7 := h7
    try simp only [decide_eq_true_eq, decide_eq_false_iff_not, Bool.not_eq_true', Bool.not_eq_false', Option.isNone_iff_eq_none, ne_eq, Decidable.not_not, Int.not_lt, Int.not_le] at p7
    refine T_seq ?_
    refine T_region ?_
    refine TL_q (Qt_move (.pointer _) rfl) rfl ?_
    refine TL_q (Qt_nilCheck rfl) rfl ?_
    refine TL_q (Qt_fieldAddr 5 rfl rfl) rfl ?_
    refine TL_q (Qt_load1 rfl) rfl ?_
    refine TL_q (Qt_assign (.bool _) rfl) rfl ?_
    refine TL_nil ?_
    refine X_then ?_
    refine T_cond rfl (fun h10 => ?_) (fun h10 => ?_)
    ·
      have p10 := h10
      try simp only [decide_eq_true_eq, decide_eq_false_iff_not, Bool.not_eq_true', Bool.not_eq_false', Option.isNone_iff_eq_none, ne_eq, Decidable.not_not, Int.not_lt, Int.not_le] at p10
      refine T_seq ?_
      refine T_region ?_
      refine TL_q (Qt_assign (.int .i64 _) rfl) rfl ?_
      refine TL_nil ?_
      refine X_then ?_
      refine T_ret ?_
      refine X_block_ret ?_
      refine X_then_ret ?_
      exact X_ret (s, 14) [_] Tryz.results238 ⟨rfl, trivial⟩ rfl (fun w hw => St.addPure (Subs.st inferInstance w hw) (.inl ⟨h10, rfl, rfl⟩))
    ·
      have p10 := h10
      try simp only [decide_eq_true_eq, decide_eq_false_iff_not, Bool.not_eq_true', Bool.not_eq_false', Option.isNone_iff_eq_none, ne_eq, Decidable.not_not, Int.not_lt, Int.not_le] at p10
      refine T_seq ?_
      refine T_region ?_
      refine TL_q (Qt_move (.string _) rfl) rfl ?_
      refine TL_e rfl (Ef_call (named_c) rfl (fun x17 => ?_))
      refine TL_q (Qt_not rfl) rfl ?_
      refine TL_q (Qt_move (.bool _) rfl) rfl ?_
      refine TL_split 19 rfl (fun h19 => ?_) (fun h19 => ?_)
      ·
        have p19 := h19
        try simp only [decide_eq_true_eq, decide_eq_false_iff_not, Bool.not_eq_true', Bool.not_eq_false', Option.isNone_iff_eq_none, ne_eq, Decidable.not_not, Int.not_lt, Int.not_le] at p19
        refine TL_pass rfl rfl h19 rfl ?_
        refine TL_pass rfl rfl h19 rfl ?_
        refine TL_pass rfl rfl h19 rfl ?_
        refine TL_q (Qt_pick_t (.bool _) rfl h19 rfl) rfl ?_
        refine TL_q (Qt_assign (.bool _) rfl) rfl ?_
        refine TL_nil ?_
        refine X_then ?_
        refine T_cond_true rfl rfl ?_
        refine T_seq ?_
        refine T_region ?_
        refine TL_q (Qt_assign (.int .i64 _) rfl) rfl ?_
        refine TL_nil ?_
        refine X_then ?_
        refine T_ret ?_
        refine X_block_ret ?_
        refine X_then_ret ?_
        exact X_ret (s, 15) [_] Tryz.results238 ⟨rfl, trivial⟩ rfl (fun w hw => St.addPure (Subs.st inferInstance w hw) (.inr (.inl ⟨h10, by simp_all, rfl, rfl⟩)))
      ·
        have p19 := h19
        try simp only [decide_eq_true_eq, decide_eq_false_iff_not, Bool.not_eq_true', Bool.not_eq_false', Option.isNone_iff_eq_none, ne_eq, Decidable.not_not, Int.not_lt, Int.not_le] at p19
        refine TL_take rfl rfl h19 ?_
        refine TL_q (Qt_move (.string _) rfl) rfl ?_
        refine TL_take rfl rfl h19 ?_
        refine TL_e rfl (Ef_call (named_c) rfl (fun x21 => ?_))
        refine TL_take rfl rfl h19 ?_
        refine TL_q (Qt_not rfl) rfl ?_
        refine TL_q (Qt_pick_f (.bool _) rfl h19 rfl) rfl ?_
        refine TL_q (Qt_assign (.bool _) rfl) rfl ?_
        refine TL_nil ?_
        refine X_then ?_
        refine T_cond rfl (fun h15 => ?_) (fun h15 => ?_)
        ·
          have p15 := h15
          try simp only [decide_eq_true_eq, decide_eq_false_iff_not, Bool.not_eq_true', Bool.not_eq_false', Option.isNone_iff_eq_none, ne_eq, Decidable.not_not, Int.not_lt, Int.not_le] at p15
          refine T_seq ?_
          refine T_region ?_
          refine TL_q (Qt_assign (.int .i64 _) rfl) rfl ?_
          refine TL_nil ?_
          refine X_then ?_
          refine T_ret ?_
          refine X_block_ret ?_
          refine X_then_ret ?_
          exact X_ret (s, 15) [_] Tryz.results238 ⟨rfl, trivial⟩ rfl (fun w hw => St.addPure (Subs.st inferInstance w hw) (.inr (.inl ⟨h10, by simp_all, rfl, rfl⟩)))
        ·
          have p15 := h15
          try simp only [decide_eq_true_eq, decide_eq_false_iff_not, Bool.not_eq_true', Bool.not_eq_false', Option.isNone_iff_eq_none, ne_eq, Decidable.not_not, Int.not_lt, Int.not_le] at p15
          refine T_seq ?_
          refine T_region ?_
          refine TL_q (Qt_move (.pointer _) rfl) rfl ?_
          refine TL_q (Qt_move (.string _) rfl) rfl ?_
          refine TL_e rfl (Ef_call (there_c (s := s)) rfl (fun x27 => ?_))
          refine TL_q (Qt_not rfl) rfl ?_
          refine TL_q (Qt_assign (.bool _) rfl) rfl ?_
          refine TL_nil ?_
          refine X_then ?_
          refine T_cond rfl (fun h24 => ?_) (fun h24 => ?_)
          ·
            have p24 := h24
            try simp only [decide_eq_true_eq, decide_eq_false_iff_not, Bool.not_eq_true', Bool.not_eq_false', Option.isNone_iff_eq_none, ne_eq, Decidable.not_not, Int.not_lt, Int.not_le] at p24
            refine T_seq ?_
            refine T_region ?_
            refine TL_q (Qt_assign (.int .i64 _) rfl) rfl ?_
            refine TL_nil ?_
            refine X_then ?_
            refine T_ret ?_
            refine X_block_ret ?_
            refine X_then_ret ?_
            exact X_ret (s, 13) [_] Tryz.results238 ⟨rfl, trivial⟩ rfl (fun w hw => St.addPure (Subs.st inferInstance w hw) (.inr (.inr (.inl ⟨h10, by simp_all, by simpa using h24, rfl, rfl⟩))))
          ·
            have p24 := h24
            try simp only [decide_eq_true_eq, decide_eq_false_iff_not, Bool.not_eq_true', Bool.not_eq_false', Option.isNone_iff_eq_none, ne_eq, Decidable.not_not, Int.not_lt, Int.not_le] at p24
            refine T_skip ?_
            refine X_block ?_
            refine X_then ?_
            refine T_seq ?_
            refine T_region ?_
            refine TL_q (Qt_move (.pointer _) rfl) rfl ?_
            refine TL_q (Qt_move (.string _) rfl) rfl ?_
            refine TL_q (Qt_move (.string _) rfl) rfl ?_
            refine TL_q (Qt_build [(0, (.int .i64 _)), (1, (.string _)), (2, (.string _))] rfl (by kernel_rfl)) rfl ?_
            refine TL_e rfl (Ef_call (ddo_c (s := s) hok hN (by omega) (a := ⟨3, nm, to, ⟨none, 0, []⟩⟩) hok.zero) rfl (fun x33 => ?_))
            refine TL_pure (fun hd => ?_)
            refine TL_q (Qt_assign (.int .i64 _) rfl) rfl ?_
            refine TL_nil ?_
            refine X_then ?_
            refine T_ret ?_
            exact X_ret x33 [_] Tryz.results238 ⟨rfl, trivial⟩ rfl (fun w hw => St.addPure (Subs.st inferInstance w hw) (.inr (.inr (.inr ⟨h10, by simp_all, by simpa using h24, hd⟩))))
set_option maxHeartbeats 1000000 in
theorem delete_c {w0 : World} {H : List SA} {p : Nat} {s : DS} {N M : Nat} (hok : s.Ok N M) (hN : N ≤ 1000000) (hM : M ≤ 1000000000) {nm : ByteArray} :
    CT Tryz.prog w0 (DS.H p s H) 239 [.pointer (some ⟨p, 0, none⟩), .string nm] (α := DS × Int) (fun y => .int .i64 y.2) (fun y => pu (MvR (⟨4, nm, ⟨#[]⟩, ⟨none, 0, []⟩⟩ : ActV) (namedB nm) s y.1 y.2) :: DS.H p y.1 H) := by
  refine CT_intro Tryz.func239 rfl Tryz.ntmps239 rfl ?_
  refine T_seq ?_
  refine T_region ?_
  refine TL_q (Qt_assign (.int .i64 _) rfl) rfl ?_
  refine TL_nil ?_
  refine X_then ?_
  refine T_seq ?_
  refine T_block ?_
  refine T_seq ?_
  refine T_region ?_
  refine TL_q (Qt_move (.pointer _) rfl) rfl ?_
  refine TL_q (Qt_ptr_nil rfl rfl Tryz.underlying63) rfl ?_
  refine TL_q (Qt_assign (.bool _) rfl) rfl ?_
  refine TL_nil ?_
  refine X_then ?_
  refine T_cond rfl (fun h5 => ?_) (fun h5 => ?_)
  ·
    have p5 := h5
    try simp only [decide_eq_true_eq, decide_eq_false_iff_not, Bool.not_eq_true', Bool.not_eq_false', Option.isNone_iff_eq_none, ne_eq, Decidable.not_not, Int.not_lt, Int.not_le] at p5
    cases h5
  ·
    have p5 := h5
    try simp only [decide_eq_true_eq, decide_eq_false_iff_not, Bool.not_eq_true', Bool.not_eq_false', Option.isNone_iff_eq_none, ne_eq, Decidable.not_not, Int.not_lt, Int.not_le] at p5
    refine T_seq ?_
    refine T_region ?_
    refine TL_q (Qt_move (.pointer _) rfl) rfl ?_
    refine TL_q (Qt_nilCheck rfl) rfl ?_
    refine TL_q (Qt_fieldAddr 5 rfl rfl) rfl ?_
    refine TL_q (Qt_load1 rfl) rfl ?_
    refine TL_q (Qt_assign (.bool _) rfl) rfl ?_
    refine TL_nil ?_
    refine X_then ?_
    refine T_cond rfl (fun h8 => ?_) (fun h8 => ?_)
    ·
      have p8 := h8
      try simp only [decide_eq_true_eq, decide_eq_false_iff_not, Bool.not_eq_true', Bool.not_eq_false', Option.isNone_iff_eq_none, ne_eq, Decidable.not_not, Int.not_lt, Int.not_le] at p8
      refine T_seq ?_
      refine T_region ?_
      refine TL_q (Qt_assign (.int .i64 _) rfl) rfl ?_
      refine TL_nil ?_
      refine X_then ?_
      refine T_ret ?_
      refine X_block_ret ?_
      refine X_then_ret ?_
      exact X_ret (s, 14) [_] Tryz.results239 ⟨rfl, trivial⟩ rfl (fun w hw => St.addPure (Subs.st inferInstance w hw) (.inl ⟨h8, rfl, rfl⟩))
    ·
      have p8 := h8
      try simp only [decide_eq_true_eq, decide_eq_false_iff_not, Bool.not_eq_true', Bool.not_eq_false', Option.isNone_iff_eq_none, ne_eq, Decidable.not_not, Int.not_lt, Int.not_le] at p8
      refine T_seq ?_
      refine T_region ?_
      refine TL_q (Qt_move (.string _) rfl) rfl ?_
      refine TL_e rfl (Ef_call (named_c) rfl (fun x15 => ?_))
      refine TL_q (Qt_not rfl) rfl ?_
      refine TL_q (Qt_assign (.bool _) rfl) rfl ?_
      refine TL_nil ?_
      refine X_then ?_
      refine T_cond rfl (fun h13 => ?_) (fun h13 => ?_)
      ·
        have p13 := h13
        try simp only [decide_eq_true_eq, decide_eq_false_iff_not, Bool.not_eq_true', Bool.not_eq_false', Option.isNone_iff_eq_none, ne_eq, Decidable.not_not, Int.not_lt, Int.not_le] at p13
        refine T_seq ?_
        refine T_region ?_
        refine TL_q (Qt_assign (.int .i64 _) rfl) rfl ?_
        refine TL_nil ?_
        refine X_then ?_
        refine T_ret ?_
        refine X_block_ret ?_
        refine X_then_ret ?_
        exact X_ret (s, 15) [_] Tryz.results239 ⟨rfl, trivial⟩ rfl (fun w hw => St.addPure (Subs.st inferInstance w hw) (.inr (.inl ⟨h8, by simpa using h13, rfl, rfl⟩)))
      ·
        have p13 := h13
        try simp only [decide_eq_true_eq, decide_eq_false_iff_not, Bool.not_eq_true', Bool.not_eq_false', Option.isNone_iff_eq_none, ne_eq, Decidable.not_not, Int.not_lt, Int.not_le] at p13
        refine T_seq ?_
        refine T_region ?_
        refine TL_q (Qt_move (.pointer _) rfl) rfl ?_
        refine TL_q (Qt_move (.string _) rfl) rfl ?_
        refine TL_e rfl (Ef_call (there_c (s := s)) rfl (fun x20 => ?_))
        refine TL_q (Qt_not rfl) rfl ?_
        refine TL_q (Qt_assign (.bool _) rfl) rfl ?_
        refine TL_nil ?_
        refine X_then ?_
        refine T_cond rfl (fun h17 => ?_) (fun h17 => ?_)
        ·
          have p17 := h17
          try simp only [decide_eq_true_eq, decide_eq_false_iff_not, Bool.not_eq_true', Bool.not_eq_false', Option.isNone_iff_eq_none, ne_eq, Decidable.not_not, Int.not_lt, Int.not_le] at p17
          refine T_seq ?_
          refine T_region ?_
          refine TL_q (Qt_assign (.int .i64 _) rfl) rfl ?_
          refine TL_nil ?_
          refine X_then ?_
          refine T_ret ?_
          refine X_block_ret ?_
          refine X_then_ret ?_
          exact X_ret (s, 13) [_] Tryz.results239 ⟨rfl, trivial⟩ rfl (fun w hw => St.addPure (Subs.st inferInstance w hw) (.inr (.inr (.inl ⟨h8, by simpa using h13, by simpa using h17, rfl, rfl⟩))))
        ·
          have p17 := h17
          try simp only [decide_eq_true_eq, decide_eq_false_iff_not, Bool.not_eq_true', Bool.not_eq_false', Option.isNone_iff_eq_none, ne_eq, Decidable.not_not, Int.not_lt, Int.not_le] at p17
          refine T_skip ?_
          refine X_block ?_
          refine X_then ?_
          refine T_seq ?_
          refine T_region ?_
          refine TL_q (Qt_move (.pointer _) rfl) rfl ?_
          refine TL_q (Qt_move (.string _) rfl) rfl ?_
          refine TL_q (Qt_build [(0, (.int .i64 _)), (1, (.string _))] rfl (by kernel_rfl)) rfl ?_
          refine TL_e rfl (Ef_call (ddo_c (s := s) hok hN (by omega) (a := ⟨4, nm, ⟨#[]⟩, ⟨none, 0, []⟩⟩) hok.zero) rfl (fun x25 => ?_))
          refine TL_pure (fun hd => ?_)
          refine TL_q (Qt_assign (.int .i64 _) rfl) rfl ?_
          refine TL_nil ?_
          refine X_then ?_
          refine T_ret ?_
          exact X_ret x25 [_] Tryz.results239 ⟨rfl, trivial⟩ rfl (fun w hw => St.addPure (Subs.st inferInstance w hw) (.inr (.inr (.inr ⟨h8, by simpa using h13, by simpa using h17, hd⟩))))
theorem MvR.ok {s s' : DS} {N M : Nat} {a : ActV} {ok : Bool} {e : Int} (h : MvR a ok s s' e) (hok : s.Ok N M) (ha : a.b = zB) : s'.Ok (N + 1) (M + 100000) := by
  have h1 := hok.mono (Nat.le_add_right N 1) (Nat.le_add_right M 100000)
  rcases h with ⟨-, -, rfl⟩ | ⟨-, -, -, rfl⟩ | ⟨-, -, -, -, rfl⟩ | ⟨-, -, -, hd⟩
  · exact h1
  · exact h1
  · exact h1
  · exact hd.ok hok (by rw [ha]; exact hok.zero) (by rw [ha]; exact Nat.zero_le _)
theorem burnF_neg {f : Int} (h : f = -1) : burnF f = -1 := by subst h; rfl
end Go.Proofs.YtldnfbghjnhklaaGreatDoor
