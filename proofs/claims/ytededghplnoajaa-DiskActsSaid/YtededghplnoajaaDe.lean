/- Walks: package disk: Crash. -/
import Derived.Test.YtededghplnoajaaDc
namespace Go.Proofs.Ytededghplnoajaa
open Go.RowKit Go.Sx
set_option maxRecDepth 100000
set_option linter.unusedSimpArgs false
set_option linter.unusedVariables false
theorem getE_cons {κ ν : Type} [DecidableEq κ] (e : Ent κ ν) (es : List (Ent κ ν)) (k : κ) : getE (e :: es) k = if k = e.k then some e.v else getE es k := by
  unfold getE
  by_cases h : k = e.k <;> simp [List.find?_cons, h]
theorem getE_put_ne : ∀ (es : FM) (k key : ByteArray) (v : BS) (c : Nat), key ≠ k → getE (putE es k v c) key = getE es key
  | [], k, key, v, c, h => by simp [putE, getE, h]
  | e :: es, k, key, v, c, h => by
    unfold putE
    split
    · rename_i hk; subst hk; rw [getE_cons, getE_cons, if_neg h, if_neg h]
    · rw [getE_cons, getE_cons, getE_put_ne es k key v c h]
theorem getE_put_eq : ∀ (es : FM) (k : ByteArray) (v : BS) (c : Nat), getE (putE es k v c) k = some v
  | [], k, v, c => by simp [putE, getE]
  | e :: es, k, v, c => by
    unfold putE
    split
    · rw [getE_cons, if_pos rfl]
    · rename_i hk; rw [getE_cons, if_neg hk, getE_put_eq es k v c]
theorem getE_del_ne : ∀ (es : FM) (k key : ByteArray), key ≠ k → getE (delE es k) key = getE es key
  | [], k, key, h => rfl
  | e :: es, k, key, h => by
    unfold delE
    split
    · rename_i hk; subst hk; rw [getE_cons, if_neg h]
    · rw [getE_cons, getE_cons, getE_del_ne es k key h]
theorem getE_doE {es : FM} {a : ActV} {x : BS} {c : Nat} {key : ByteArray} (h1 : a.name ≠ key) (h2 : a.to ≠ key) : getE (doE es a x c) key = getE es key := by
  have h1' := Ne.symm h1
  have h2' := Ne.symm h2
  unfold doE
  split
  · exact getE_put_ne _ _ _ _ _ h1'
  · split
    · split
      · rw [getE_put_ne _ _ _ _ _ h2', getE_del_ne _ _ _ h1']
      · rfl
    · split
      · exact getE_del_ne _ _ _ h1'
      · rfl
theorem putF_map : ∀ (es : FM) (k : ByteArray) (v : BS) (c : Nat), hasE es k = true → (putE es k v c).map (·.k) = es.map (·.k) ∧ (putE es k v c).map (·.b) = es.map (·.b)
  | [], k, v, c, h => by simp [hasE, getE] at h
  | e :: es, k, v, c, h => by
    unfold putE
    split
    · rename_i hk; exact ⟨by simp [hk], by simp⟩
    · rename_i hk
      have h1 : hasE es k = true := by simpa [hasE, getE, List.find?_cons, hk] using h
      have := putF_map es k v c h1
      exact ⟨by simp [this.1], by simp [this.2]⟩
theorem putF_new (es : FM) (k : ByteArray) (v : BS) (c : Nat) (h : GoodM es c) (hh : hasE es k = false) : GoodM (putE es k v c) (c + 1) := by
  rw [putE_none _ _ _ _ hh]
  refine ⟨?_, ?_, ?_⟩
  · rw [List.map_append]
    refine List.nodup_append.2 ⟨h.keys, by simp, fun a ha b hb => ?_⟩
    obtain rfl : b = k := by simpa using hb
    rintro rfl
    obtain ⟨e, he, hek⟩ := List.mem_map.1 ha
    have : (getE es a).isSome = true := by
      simp only [getE, Option.isSome_map]
      rw [List.find?_isSome]
      exact ⟨e, he, by simp [hek]⟩
    rw [hasE, this] at hh
    cases hh
  · rw [List.map_append]
    refine List.nodup_append.2 ⟨h.born, by simp, fun a ha b hb => ?_⟩
    obtain rfl : b = c := by simpa using hb
    rintro rfl
    obtain ⟨e, he, hek⟩ := List.mem_map.1 ha
    have := h.lt e he
    omega
  · intro e he
    rcases List.mem_append.1 he with he | he
    · have := h.lt e he; omega
    · obtain rfl : e = ⟨k, v, c⟩ := by simpa using he
      show c < c + 1
      omega
theorem putF_good (es : FM) (k : ByteArray) (v : BS) (c : Nat) (h : GoodM es c) : GoodM (putE es k v c) (clockE es k c) := by
  cases hh : hasE es k with
  | false => unfold clockE; rw [hh]; exact putF_new es k v c h hh
  | true =>
    have hm := putF_map es k v c hh
    unfold clockE
    rw [hh]
    refine ⟨by rw [hm.1]; exact h.keys, by rw [hm.2]; exact h.born, fun e he => ?_⟩
    have hb : e.b ∈ (putE es k v c).map (·.b) := List.mem_map.2 ⟨e, he, rfl⟩
    rw [hm.2] at hb
    obtain ⟨e', he', hb'⟩ := List.mem_map.1 hb
    have := h.lt e' he'
    simp only [cond_true]
    omega
theorem delF_sub : ∀ (es : FM) (k : ByteArray), (delE es k).Sublist es
  | [], k => List.Sublist.refl _
  | e :: es, k => by
    unfold delE
    split
    · exact List.sublist_cons_self _ _
    · exact (delF_sub es k).cons_cons e
theorem delF_good {es : FM} {c : Nat} (h : GoodM es c) (k : ByteArray) : GoodM (delE es k) c :=
  ⟨h.keys.sublist ((delF_sub es k).map _), h.born.sublist ((delF_sub es k).map _), fun e he => h.lt e ((delF_sub es k).subset he)⟩
theorem doE_good {es : FM} {a : ActV} {x : BS} {c : Nat} (h : GoodM es c) : GoodM (doE es a x c) (doC es a c) := by
  unfold doE doC
  split
  · exact putF_good _ _ _ _ h
  · split
    · split
      · exact putF_good _ _ _ _ (delF_good h _)
      · exact h
    · split
      · exact delF_good h _
      · exact h
theorem putF_vals : ∀ (es : FM) (k : ByteArray) (v : BS) (c : Nat), ∀ e ∈ putE es k v c, e.v = v ∨ ∃ e' ∈ es, e.v = e'.v
  | [], k, v, c, e, he => by
    left
    have : e = ⟨k, v, c⟩ := by simpa [putE] using he
    rw [this]
  | d :: es, k, v, c, e, he => by
    unfold putE at he
    split at he
    · rcases List.mem_cons.1 he with rfl | he
      · exact .inl rfl
      · exact .inr ⟨e, by simp [he], rfl⟩
    · rcases List.mem_cons.1 he with rfl | he
      · exact .inr ⟨e, by simp, rfl⟩
      · rcases putF_vals es k v c e he with h | ⟨e', h1, h2⟩
        · exact .inl h
        · exact .inr ⟨e', by simp [h1], h2⟩
theorem doE_vals {es : FM} {a : ActV} {x : BS} {c : Nat} {bs : List BS} (hm : ∀ e ∈ es, e.v ∈ bs) (hz : zB ∈ bs) : ∀ e ∈ doE es a x c, e.v ∈ x :: bs := by
  intro e he
  have hold := oldE_mem hm hz
  unfold doE at he
  split at he
  · rcases putF_vals _ _ _ _ e he with h | ⟨e', h1, h2⟩
    · rw [h]; simp
    · rw [h2]; exact List.mem_cons_of_mem _ (hm e' h1)
  · split at he
    · split at he
      · rcases putF_vals _ _ _ _ e he with h | ⟨e', h1, h2⟩
        · rw [h]; exact List.mem_cons_of_mem _ (hold _)
        · rw [h2]; exact List.mem_cons_of_mem _ (hm e' ((delF_sub es _).subset h1))
      · exact List.mem_cons_of_mem _ (hm e he)
    · split at he
      · exact List.mem_cons_of_mem _ (hm e ((delF_sub es _).subset he))
      · exact List.mem_cons_of_mem _ (hm e he)
theorem putF_len : ∀ (es : FM) (k : ByteArray) (v : BS) (c : Nat), (putE es k v c).length ≤ es.length + 1
  | [], k, v, c => by simp [putE]
  | e :: es, k, v, c => by
    unfold putE
    split
    · simp
    · have := putF_len es k v c; simp; omega
theorem doE_len {es : FM} {a : ActV} {x : BS} {c : Nat} : (doE es a x c).length ≤ es.length + 1 := by
  unfold doE
  split
  · exact putF_len _ _ _ _
  · split
    · split
      · have h1 := putF_len (delE es a.name) a.to (oldE es a.name) c
        have h2 := (delF_sub es a.name).length_le
        omega
      · omega
    · split
      · have h2 := (delF_sub es a.name).length_le; omega
      · omega
/-- What some pending things leave of what was synced. -/
structure CrP (s : DS) (N M k kp : Nat) (torn : Int) (e1 : FM) (c1 : Nat) (bs : List BS) : Prop where
  good : GoodM e1 c1
  mem : ∀ e ∈ e1, e.v ∈ bs
  sub : ∀ x ∈ s.bs, x ∈ bs
  len : ∀ x ∈ bs, x.l.length ≤ M + 1000 * k
  n : e1.length ≤ N + k
  keep : ∀ key : ByteArray, (∀ a ∈ s.pend.take k, a.name ≠ key ∧ a.to ≠ key) → getE e1 key = getE s.e1 key
  same : torn = -1 → kp = 0 → e1 = s.e1 ∧ c1 = s.c1
theorem CrP.start {s : DS} {N M kp : Nat} {torn : Int} (h : s.Ok N M) : CrP s N M 0 kp torn s.e1 s.c1 s.bs :=
  ⟨h.good1, h.mem1, fun _ h => h, fun x hx => by have := h.len x hx; omega, by have := h.n1; omega, fun _ _ => rfl, fun _ _ => ⟨rfl, rfl⟩⟩
theorem CrP.none {s : DS} {N M k kp : Nat} {torn : Int} {e1 : FM} {c1 : Nat} {bs : List BS} (h : CrP s N M k kp torn e1 c1 bs) (hk : k < s.pend.length) : CrP s N M (k + 1) kp torn e1 c1 bs :=
  ⟨h.good, h.mem, h.sub, fun x hx => by have := h.len x hx; omega, by have := h.n; omega, fun key hkey => h.keep key fun a ha => hkey a ((List.take_sublist_take_left (Nat.le_succ k)).subset ha), h.same⟩
theorem CrP.step {s : DS} {N M k kp : Nat} {torn : Int} {e1 : FM} {c1 : Nat} {bs : List BS} (h : CrP s N M k kp torn e1 c1 bs) (hok : s.Ok N M) (hk : k < s.pend.length) {x : BS} {m : Nat} (hx : x.l = newB e1 (leftA s.pend[k] m)) (hl : torn = -1 → kp = 0 → false = true) :
    CrP s N M (k + 1) kp torn (doE e1 (leftA s.pend[k] m) x c1) (doC e1 (leftA s.pend[k] m) c1) (x :: bs) := by
  have hz := h.sub _ hok.zero
  refine ⟨doE_good h.good, doE_vals h.mem hz, fun y hy => List.mem_cons_of_mem _ (h.sub y hy), fun y hy => ?_, by have h1 := h.n; have h2 := doE_len (es := e1) (a := leftA s.pend[k] m) (x := x) (c := c1); omega, fun key hkey => ?_, fun h1 h2 => by cases hl h1 h2⟩
  · rcases List.mem_cons.1 hy with rfl | hy
    · rw [hx]
      have h1 := h.len _ (oldE_mem h.mem hz (leftA s.pend[k] m).name)
      have h2 := hok.short _ (List.getElem_mem hk)
      have h3 : (leftA s.pend[k] m).b.l.length ≤ s.pend[k].b.l.length := by simp [leftA]; omega
      unfold newB
      split
      · rw [List.length_append]; omega
      · split
        · omega
        · simp
    · have := h.len y hy; omega
  · have h1 := hkey s.pend[k] (by rw [take_get _ _ hk]; exact List.mem_append_right _ (List.mem_singleton.2 rfl))
    rw [getE_doE (by exact h1.1) (by exact h1.2)]
    exact h.keep key fun a ha => hkey a ((List.take_sublist_take_left (Nat.le_succ k)).subset ha)
def CrashR (s : DS) (N M kp : Nat) (torn : Int) (s' : DS) : Prop :=
  ∃ (e1 : FM) (c1 q : Nat) (fp : List Nat) (bs : List BS), CrP s N M s.pend.length kp torn e1 c1 bs ∧ s' = { s with e1 := e1, c1 := c1, e2 := e1, c2 := c1, r2 := q, pend := [], pa := none, pc := 0, fuse := -1, down := false, fp := fp, bs := bs }
theorem CrashR.ok {s s' : DS} {N M kp : Nat} {torn : Int} (h : CrashR s N M kp torn s') (hok : s.Ok N M) : s'.Ok (N + s.pend.length) (M + 1000 * s.pend.length) := by
  obtain ⟨e1, c1, q, fp, bs, hc, rfl⟩ := h
  exact ⟨hc.good, hc.good, hc.mem, hc.mem, (fun _ h => by cases h), hc.sub _ hok.zero, hc.len, (fun _ h => by cases h), hc.n, hc.n, Nat.zero_le _, hok.room0, hok.room1, by show (-1 : Int) ≤ 9223372036854775807; decide⟩

theorem crash_end {w0 w : World} {H : List SA} {p b3 b6 : Nat} {s : DS} {a : ActV} {x : BS} {e1 : FM} {c1 : Nat} {fp : List Nat} {bs : List BS} {pl : PlanV}
    (h : St w0 (blk s.r1 (mapO encS BS.val e1 c1) :: row (.slice x.a x.l.length x.c) 5 1 (bytesV x.l) :: dblk p s :: blk s.r2 (mapO encS BS.val s.e2 s.c2) :: prow s :: dat fp ⟨bs, [], []⟩ :: blk b3 (.cells pl.cells 25 (0, 0)) :: H) w) :
    St w0 (dblk p s :: blk s.r1 (mapO encS BS.val e1 c1) :: blk s.r2 (mapO encS BS.val s.e2 s.c2) :: prow s :: dat (rowFp (.slice x.a x.l.length x.c) ++ fp) ⟨x :: bs, [], []⟩ :: blk b3 (.cells pl.cells 25 (0, 0)) :: H) w := by
  have h1 : St w0 (row (.slice x.a x.l.length x.c) 5 1 (bytesV x.l) :: dat fp ⟨bs, [], []⟩ :: dblk p s :: blk s.r1 (mapO encS BS.val e1 c1) :: blk s.r2 (mapO encS BS.val s.e2 s.c2) :: prow s :: blk b3 (.cells pl.cells 25 (0, 0)) :: H) w := Subs.st inferInstance w h
  have h2 := St.datCons h1
  exact Subs.st (H := dat (rowFp (.slice x.a x.l.length x.c) ++ fp) ⟨x :: bs, [], []⟩ :: dblk p s :: blk s.r1 (mapO encS BS.val e1 c1) :: blk s.r2 (mapO encS BS.val s.e2 s.c2) :: prow s :: blk b3 (.cells pl.cells 25 (0, 0)) :: H) inferInstance w h2
theorem crash_fin {w0 w : World} {H : List SA} {p x36 : Nat} {s : DS} {e1 : FM} {c1 : Nat} {fp : List Nat} {bs : List BS}
    (h : St w0 (blk p (.cells (DiskV.mk s.room (some s.r1) (some x36) ⟨none, 0, 0⟩ (-1) false).cells 64 (0, 0)) :: blk s.r1 (mapO encS BS.val e1 c1) :: blk x36 (mapO encS BS.val e1 c1) :: dat fp ⟨bs, [], []⟩ :: H) w) :
    St w0 (DS.H p { s with e1 := e1, c1 := c1, e2 := e1, c2 := c1, r2 := x36, pend := [], pa := none, pc := 0, fuse := -1, down := false, fp := fp, bs := bs } H) w := by
  have h2 := h.addNil 70 4
  exact Subs.st (H := row (.slice none 0 0) 70 4 [] :: blk p (.cells (DiskV.mk s.room (some s.r1) (some x36) ⟨none, 0, 0⟩ (-1) false).cells 64 (0, 0)) :: blk s.r1 (mapO encS BS.val e1 c1) :: blk x36 (mapO encS BS.val e1 c1) :: dat fp ⟨bs, [], []⟩ :: H) (H' := blk p (.cells (DiskV.mk s.room (some s.r1) (some x36) ⟨none, 0, 0⟩ (-1) false).cells 64 (0, 0)) :: blk s.r1 (mapO encS BS.val e1 c1) :: blk x36 (mapO encS BS.val e1 c1) :: row (.slice none 0 0) 70 4 [] :: dat fp ⟨bs, [], []⟩ :: H) inferInstance w h2
set_option maxHeartbeats 1000000 in
theorem crash_c {w0 : World} {H : List SA} {p : Nat} {s : DS} {N M : Nat} (hok : s.Ok N M) (hN : N ≤ 1000000) (hM : M ≤ 1000000000) {kp : Nat} {torn cut : Int} (hkp : kp < 18446744073709551616) :
    CT Try.prog w0 (DS.H p s H) 17 [.pointer (some ⟨p, 0, none⟩), .agg (PlanV.mk (kp : Int) torn cut).cells] (α := DS) (fun _ => .tuple #[]) (fun y => pu (CrashR s N M kp torn y) :: DS.H p y H) := by
  refine CT_intro Try.func17 rfl Try.ntmps17 rfl ?_
  refine T_seq ?_
  refine T_region ?_
  refine TL_e rfl (Ef_boxN rfl (fun b3 => ?_))
  refine TL_nil ?_
  refine X_then ?_
  refine T_seq ?_
  refine T_seq ?_
  refine T_region ?_
  refine TL_q (Qt_move (.pointer _) rfl) rfl ?_
  refine TL_q (Qt_ptr_nil rfl rfl Try.underlying28) rfl ?_
  refine TL_nil ?_
  refine X_then ?_
  refine T_cond rfl (fun h9 => ?_) (fun h9 => ?_)
  ·
    have p9 := h9
    try simp only [decide_eq_true_eq, decide_eq_false_iff_not, Bool.not_eq_true', Bool.not_eq_false', Option.isNone_iff_eq_none, ne_eq, Decidable.not_not, Int.not_lt, Int.not_le] at p9
    cases h9
  ·
    have p9 := h9
    try simp only [decide_eq_true_eq, decide_eq_false_iff_not, Bool.not_eq_true', Bool.not_eq_false', Option.isNone_iff_eq_none, ne_eq, Decidable.not_not, Int.not_lt, Int.not_le] at p9
    refine T_skip ?_
    refine X_then ?_
    refine T_seq ?_
    refine T_seq ?_
    refine T_region ?_
    refine TL_q (Qt_move (.pointer _) rfl) rfl ?_
    refine TL_q (Qt_nilCheck rfl) rfl ?_
    refine TL_q (Qt_fieldAddr 3 rfl rfl) rfl ?_
    refine TL_q (Qt_load1 rfl) rfl ?_
    refine TL_q (Qt_len_slice rfl Try.underlying62) rfl ?_
    refine TL_q (Qt_move (.int .i64 _) rfl) rfl ?_
    refine TL_nil ?_
    refine X_then ?_
    refine T_block ?_
    have hnp := hok.np
    refine T_loop [4, 5, 6, 7, 15, 16, 17, 18, 19, 20, 21, 22, 23, 24, 25, 26, 27, 28, 29, 30, 31, 32, 33, 34] [15] (fun us H' => ∃ (k : Nat) (e1 : FM) (c1 : Nat) (fp : List Nat) (bs : List BS), us = [.int .i64 (k : Int)] ∧ dblk p s :: blk s.r1 (mapO encS BS.val e1 c1) :: blk s.r2 (mapO encS BS.val s.e2 s.c2) :: prow s :: dat fp ⟨bs, [], []⟩ :: blk b3 (.cells (PlanV.mk (kp : Int) torn cut).cells 25 (0, 0)) :: H = H' ∧ k ≤ s.pend.length ∧ (CrP s N M k kp torn e1 c1 bs)) (fun us => match us with | .int _ i :: _ => s.pend.length - i.toNat | _ => 0) ⟨0, s.e1, s.c1, s.fp, s.bs, rfl, rfl, by omega, CrP.start hok⟩ (Subs.st inferInstance) ?_
    rintro τ0 _ _  ⟨k, e1, c1, fp, bs, rfl, rfl, hk0, hc⟩ _
    refine T_seq ?_
    refine T_region ?_
    refine TL_q (Qt_lss rfl rfl) rfl ?_
    refine TL_nil ?_
    refine X_then ?_
    refine T_seq ?_
    refine T_cond rfl (fun h16 => ?_) (fun h16 => ?_)
    ·
      have p16 := h16
      try simp only [decide_eq_true_eq, decide_eq_false_iff_not, Bool.not_eq_true', Bool.not_eq_false', Option.isNone_iff_eq_none, ne_eq, Decidable.not_not, Int.not_lt, Int.not_le] at p16
      have hk : k < s.pend.length := by omega
      refine T_skip ?_
      refine X_then ?_
      refine T_seq ?_
      refine T_block ?_
      refine T_seq ?_
      refine T_region ?_
      refine TL_q (Qt_move (.int .i64 _) rfl) rfl ?_
      refine TL_q (Qt_indexN rfl rfl (by omega) (by omega)) rfl ?_
      refine TL_q (Qt_val (Qt_loadRN 4 s.pend[k].list rfl (flat_slice _ 4 ActV.list_len s.pend k hk) (ActV.list_len _) (by decide)) (show Value.agg s.pend[k].list.toArray = Value.agg s.pend[k].cells from rfl)) rfl ?_
      refine TL_e rfl (Ef_allocN (fun b5 => ?_))
      refine TL_q (Qt_assign (.int .i64 _) rfl) rfl ?_
      refine TL_n (Ef_storeN rfl rfl (?_))
      refine TL_nil ?_
      refine X_then ?_
      refine T_seq ?_
      refine T_region ?_
      refine TL_q (Qt_loadN rfl rfl) rfl ?_
      refine TL_q (Qt_move (.int .i64 _) rfl) rfl ?_
      refine TL_q (Qt_loadN rfl rfl) rfl ?_
      refine TL_e rfl (Ef_call (left_c (a := s.pend[k]) (i := k) (kp := kp) (torn := torn) (cut := cut) (by have := hok.np; omega) hkp (rb := RdE.get (ls := bs) inferInstance (hc.sub _ (hok.memp _ (List.getElem_mem hk)))) (by have := hok.short _ (List.getElem_mem hk); omega)) rfl (fun x24 => ?_))
      refine TL_pure (fun hx24 => ?_)
      refine TL_q (Qt_move (.tuple _) rfl) rfl ?_
      refine TL_q (Qt_extract rfl) rfl ?_
      refine TL_q (Qt_extract rfl) rfl ?_
      refine TL_e rfl (Ef_allocN (fun b6 => ?_))
      refine TL_n (Ef_storeN rfl rfl (?_))
      refine TL_q (Qt_assign (.bool _) rfl) rfl ?_
      refine TL_nil ?_
      refine X_then ?_
      refine T_seq ?_
      refine T_region ?_
      refine TL_q (Qt_move (.bool _) rfl) rfl ?_
      refine TL_nil ?_
      refine X_then ?_
      refine T_cond rfl (fun h27 => ?_) (fun h27 => ?_)
      ·
        have p27 := h27
        try simp only [decide_eq_true_eq, decide_eq_false_iff_not, Bool.not_eq_true', Bool.not_eq_false', Option.isNone_iff_eq_none, ne_eq, Decidable.not_not, Int.not_lt, Int.not_le] at p27
        refine T_draw (blk b6 (.cells (leftA s.pend[k] x24.1).cells 70 (0, 0)) :: dblk p s :: H) [(0, true), (1, true), (2, true), (3, true), (4, true), (5, false)] (by kernel_rfl) (by kernel_rfl) rfl (by kernel_rfl) (Subs.st inferInstance) (fun hns0 => ?_)
        refine DL_q hns0 rfl (Qt_move (.pointer _) rfl) rfl ?_
        refine DL_q hns0 rfl (Qt_nilCheck rfl) rfl ?_
        refine DL_q hns0 rfl (Qt_fieldAddr 1 rfl rfl) rfl ?_
        refine DL_q hns0 rfl (Qt_load1 rfl) rfl ?_
        refine DL_q hns0 rfl (Qt_loadN rfl rfl) rfl ?_
        refine DL_frontB s.r1 ?_
        refine DL_e rfl rfl (Ef_call (fdo_c (r := s.r1) (es := e1) (c := c1) (a := (leftA s.pend[k] x24.1)) (ro := RdE.get (ls := bs) inferInstance (oldE_mem hc.mem (hc.sub _ hok.zero) _)) (rb := RdB.leftA (h := RdE.get (ls := bs) inferInstance (hc.sub _ (hok.memp _ (List.getElem_mem hk))))) (by have h1 := hc.len _ (oldE_mem hc.mem (hc.sub _ hok.zero) (leftA s.pend[k] x24.1).name); have h2 := hok.short _ (List.getElem_mem hk); have h3 : (leftA s.pend[k] x24.1).b.l.length ≤ s.pend[k].b.l.length := (by simp [leftA]; omega); have h4 := hok.np; omega)) rfl (fun x33 => ⟨(Subs.st inferInstance), ?_⟩))
        refine DL_pure (fun hx33 => ?_)
        refine DL_nil ?_
        refine X_block ?_
        refine X_then ?_
        refine T_region ?_
        first
          | refine TL_q (Qt_add rfl rfl (by omega) (by omega)) rfl ?_
          | refine TL_q (Qt_addw rfl rfl) rfl ?_
        refine TL_q (Qt_move (.int .i64 _) rfl) rfl ?_
        refine TL_nil ?_
        apply X_loop
        case ha => exact (by repeat (first | with_reducible exact agree_refl | refine agree_upd rfl ?_ | refine agree_mix rfl ?_ | refine agree_setAll rfl ?_))
        case hI => exact by first | exact ⟨k + 1, doE e1 (leftA s.pend[k] x24.1) x33 c1, doC e1 (leftA s.pend[k] x24.1) c1, rowFp (.slice x33.a x33.l.length x33.c) ++ fp, x33 :: bs, rfl, rfl, by omega, hc.step hok hk hx33 (fun h1 h2 => by rw [← hx24 h1 h2, h27])⟩ | exact ⟨k + 1, e1, c1, fp, bs, rfl, rfl, by omega, hc.none hk⟩
        case hm => exact by show s.pend.length - (k + 1 : Int).toNat < s.pend.length - (k : Int).toNat; omega
        case hH => exact by first | exact (fun w hw => crash_end (b6 := b6) (a := (leftA s.pend[k] x24.1)) (x := x33) (Subs.st inferInstance w hw)) | exact (Subs.st inferInstance)
      ·
        have p27 := h27
        try simp only [decide_eq_true_eq, decide_eq_false_iff_not, Bool.not_eq_true', Bool.not_eq_false', Option.isNone_iff_eq_none, ne_eq, Decidable.not_not, Int.not_lt, Int.not_le] at p27
        refine T_skip ?_
        refine X_block ?_
        refine X_then ?_
        refine T_region ?_
        first
          | refine TL_q (Qt_add rfl rfl (by omega) (by omega)) rfl ?_
          | refine TL_q (Qt_addw rfl rfl) rfl ?_
        refine TL_q (Qt_move (.int .i64 _) rfl) rfl ?_
        refine TL_nil ?_
        apply X_loop
        case ha => exact (by repeat (first | with_reducible exact agree_refl | refine agree_upd rfl ?_ | refine agree_mix rfl ?_ | refine agree_setAll rfl ?_))
        case hI => exact by first | exact ⟨k + 1, doE e1 (leftA s.pend[k] x24.1) x33 c1, doC e1 (leftA s.pend[k] x24.1) c1, rowFp (.slice x33.a x33.l.length x33.c) ++ fp, x33 :: bs, rfl, rfl, by omega, hc.step hok hk hx33 (fun h1 h2 => by rw [← hx24 h1 h2, h27])⟩ | exact ⟨k + 1, e1, c1, fp, bs, rfl, rfl, by omega, hc.none hk⟩
        case hm => exact by show s.pend.length - (k + 1 : Int).toNat < s.pend.length - (k : Int).toNat; omega
        case hH => exact by first | exact (fun w hw => crash_end (b6 := b6) (a := (leftA s.pend[k] x24.1)) (x := x33) (Subs.st inferInstance w hw)) | exact (Subs.st inferInstance)
    ·
      have p16 := h16
      try simp only [decide_eq_true_eq, decide_eq_false_iff_not, Bool.not_eq_true', Bool.not_eq_false', Option.isNone_iff_eq_none, ne_eq, Decidable.not_not, Int.not_lt, Int.not_le] at p16
      obtain rfl : k = s.pend.length := by omega
      refine T_exit ?_
      refine X_then_exit ?_
      refine X_loop_exit ?_
      refine X_block_exit ?_
      refine X_then ?_
      refine T_seq ?_
      refine T_region ?_
      refine TL_q (Qt_move (.pointer _) rfl) rfl ?_
      refine TL_frontB s.r1 ?_
      refine TL_frontB p ?_
      refine TL_e rfl (Ef_call (settle_c (r := s.r1) (es := e1) (c := c1)) rfl (fun x36 => ?_))
      refine TL_nil ?_
      refine X_then ?_
      refine T_region ?_
      refine TL_q (Qt_move (.pointer _) rfl) rfl ?_
      refine TL_q (Qt_move (.pointer _) rfl) rfl ?_
      refine TL_q (Qt_nilCheck rfl) rfl ?_
      refine TL_q (Qt_fieldAddr 4 rfl rfl) rfl ?_
      refine TL_n (Ef_store1 (.int .i64 _) rfl rfl (?_))
      refine TL_q (Qt_nilCheck rfl) rfl ?_
      refine TL_q (Qt_fieldAddr 5 rfl rfl) rfl ?_
      refine TL_n (Ef_store1 (.bool _) rfl rfl (?_))
      refine TL_nil ?_
      exact X_ret ({ s with e1 := e1, c1 := c1, e2 := e1, c2 := c1, r2 := x36, pend := [], pa := none, pc := 0, fuse := -1, down := false, fp := fp, bs := bs }) [] Try.results17 trivial rfl (fun w hw => St.addPure (crash_fin (Subs.st inferInstance w hw)) ⟨e1, c1, x36, fp, bs, hc, rfl⟩)
set_option maxHeartbeats 1000000 in
theorem crashNil_c {w0 : World} {H : List SA} {pl : PlanV} :
    CT Try.prog w0 (H) 17 [.pointer none, .agg pl.cells] (α := Unit) (fun _ => .tuple #[]) (fun _ => H) := by
  refine CT_intro Try.func17 rfl Try.ntmps17 rfl ?_
  refine T_seq ?_
  refine T_region ?_
  refine TL_e rfl (Ef_boxN rfl (fun b3 => ?_))
  refine TL_nil ?_
  refine X_then ?_
  refine T_seq ?_
  refine T_seq ?_
  refine T_region ?_
  refine TL_q (Qt_move (.pointer _) rfl) rfl ?_
  refine TL_q (Qt_ptr_nil rfl rfl Try.underlying28) rfl ?_
  refine TL_nil ?_
  refine X_then ?_
  refine T_cond rfl (fun h9 => ?_) (fun h9 => ?_)
  ·
    have p9 := h9
    try simp only [decide_eq_true_eq, decide_eq_false_iff_not, Bool.not_eq_true', Bool.not_eq_false', Option.isNone_iff_eq_none, ne_eq, Decidable.not_not, Int.not_lt, Int.not_le] at p9
    refine T_ret ?_
    refine X_then_ret ?_
    exact X_ret () [] Try.results17 trivial rfl (Subs.st inferInstance)
  ·
    have p9 := h9
    try simp only [decide_eq_true_eq, decide_eq_false_iff_not, Bool.not_eq_true', Bool.not_eq_false', Option.isNone_iff_eq_none, ne_eq, Decidable.not_not, Int.not_lt, Int.not_le] at p9
    cases h9
end Go.Proofs.Ytededghplnoajaa
