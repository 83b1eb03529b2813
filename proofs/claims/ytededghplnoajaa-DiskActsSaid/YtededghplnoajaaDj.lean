/- Walks: the law DiskRoom. -/
import Derived.Test.YtededghplnoajaaNm
import Derived.Test.YtededghplnoajaaDi
import Derived.Test.YtededghplnoajaaDh
namespace Go.Proofs.Ytededghplnoajaa
open Go.RowKit Go.Sx
set_option maxRecDepth 100000
set_option linter.unusedSimpArgs false
set_option linter.unusedVariables false
theorem oldE_cons (e : Ent ByteArray BS) (es : FM) (k : ByteArray) : oldE (e :: es) k = if k = e.k then e.v else oldE es k := by
  unfold oldE; rw [getE_cons]; split <;> rfl
theorem size_cons (e : Ent ByteArray BS) (es : FM) : sizeE (e :: es) = e.v.l.length + sizeE es := by simp [sizeE]
theorem size_put : ∀ (es : FM) (k : ByteArray) (v : BS) (c : Nat), sizeE (putE es k v c) + (oldE es k).l.length = sizeE es + v.l.length
  | [], k, v, c => by simp [putE, sizeE, oldE, getE, zB]
  | e :: es, k, v, c => by
    rw [oldE_cons, size_cons]
    unfold putE
    split
    · rw [size_cons]; simp only; omega
    · rw [size_cons]; have := size_put es k v c; omega
theorem size_del : ∀ (es : FM) (k : ByteArray), sizeE (delE es k) + (oldE es k).l.length = sizeE es
  | [], k => by simp [delE, sizeE, oldE, getE, zB]
  | e :: es, k => by
    rw [oldE_cons, size_cons]
    unfold delE
    split
    · omega
    · rw [size_cons]; have := size_del es k; omega
theorem key_put : ∀ (es : FM) (k : ByteArray) (v : BS) (c : Nat), ∀ e ∈ putE es k v c, e.k = k ∨ ∃ e' ∈ es, e.k = e'.k
  | [], k, v, c, e, he => by
    obtain rfl : e = ⟨k, v, c⟩ := by simpa [putE] using he
    exact .inl rfl
  | d :: es, k, v, c, e, he => by
    unfold putE at he
    split at he
    · rcases List.mem_cons.1 he with rfl | he
      · exact .inl rfl
      · exact .inr ⟨e, List.mem_cons_of_mem _ he, rfl⟩
    · rcases List.mem_cons.1 he with rfl | he
      · exact .inr ⟨e, List.mem_cons_self .., rfl⟩
      · rcases key_put es k v c e he with h | ⟨e', h1, h2⟩
        · exact .inl h
        · exact .inr ⟨e', List.mem_cons_of_mem _ h1, h2⟩
def KeyL (es : FM) : Prop := ∀ e ∈ es, e.k.size ≤ 24
theorem KeyL.put {es : FM} (h : KeyL es) {k : ByteArray} (hk : k.size ≤ 24) (v : BS) (c : Nat) : KeyL (putE es k v c) := fun e he => by
  rcases key_put es k v c e he with h1 | ⟨e', h1, h2⟩
  · rw [h1]; exact hk
  · rw [h2]; exact h e' h1
theorem KeyL.del {es : FM} (h : KeyL es) (k : ByteArray) : KeyL (delE es k) := fun e he => h e ((delF_sub es k).subset he)
theorem KeyL.doE {es : FM} (h : KeyL es) {a : ActV} (h1 : a.name.size ≤ 24) (h2 : a.to.size ≤ 24) (x : BS) (c : Nat) : KeyL (doE es a x c) := by
  unfold Go.Proofs.Ytededghplnoajaa.doE
  split
  · exact h.put h1 _ _
  · split
    · split
      · exact (h.del _).put h2 _ _
      · exact h
    · split
      · exact h.del _
      · exact h
theorem named_size {nm : ByteArray} (h : namedB nm = true) : nm.size ≤ 24 := by
  simp only [namedB, decide_eq_true_eq] at h; omega
/-- A disk's files fit into it. -/
structure RmI (s : DS) (room : Int) : Prop where
  rm : s.room = room
  fit : (sizeE s.e2 : Int) ≤ room
  key : KeyL s.e2
theorem RmI.app {s s' : DS} {room : Int} {a : ActV} {e : Int} (h : RmI s room) (hn : namedB a.name = true) (ht : a.to.size ≤ 24) (hd : DoR s a s' e) (hf : (sizeE (doE s.e2 a ⟨none, 0, newB s.e2 a⟩ s.c2) : Int) ≤ room)
    : RmI s' room := by
  rcases hd with ⟨-, -, rfl⟩ | ⟨-, -, x, pa, pc, fp, hx, rfl⟩
  · exact ⟨h.rm, h.fit, h.key⟩
  · refine ⟨h.rm, ?_, h.key.doE (named_size hn) ht _ _⟩
    have e : sizeE (doE s.e2 a x s.c2) = sizeE (doE s.e2 a ⟨none, 0, newB s.e2 a⟩ s.c2) := by
      unfold doE
      split
      · have h1 := size_put s.e2 a.name x s.c2
        have h2 := size_put s.e2 a.name ⟨none, 0, newB s.e2 a⟩ s.c2
        rw [hx] at h1
        simp only at h2
        omega
      · rfl
    show (sizeE (doE s.e2 a x s.c2) : Int) ≤ room
    rw [e]; exact hf
theorem RmI.step {N M : Nat} {ra : RActV} {s s' : DS} {e room : Int} (h : RmI s room) (hs : StepR N M ra s s' e) (h5 : ra.kind ≠ 5) : RmI s' room := by
  rcases hs with ⟨-, hs⟩ | ⟨-, hs⟩ | ⟨-, hs⟩ | ⟨-, hs⟩ | ⟨-, -, hs⟩ | ⟨h6, -⟩ | ⟨-, -, q1, q2, pa, pc, rfl⟩ | ⟨-, -, rfl⟩
  · rcases hs with ⟨-, -, rfl⟩ | ⟨-, -, -, rfl⟩ | ⟨-, -, -, -, rfl⟩ | ⟨-, hn, hf, cl, fp, hcl, hd⟩
    · exact h
    · exact h
    · exact h
    · refine RmI.app (s := { s with fp := fp, bs := cl :: s.bs }) ⟨h.rm, h.fit, h.key⟩ hn (by show (0 : Nat) ≤ 24; decide) hd ?_
      show (sizeE (doE s.e2 ⟨1, ra.name, ⟨#[]⟩, cl⟩ ⟨none, 0, newB s.e2 ⟨1, ra.name, ⟨#[]⟩, cl⟩⟩ s.c2) : Int) ≤ room
      unfold doE
      rw [if_pos (.inl rfl)]
      have h1 := size_put s.e2 ra.name ⟨none, 0, newB s.e2 ⟨1, ra.name, ⟨#[]⟩, cl⟩⟩ s.c2
      have h2 : (newB s.e2 ⟨1, ra.name, ⟨#[]⟩, cl⟩).length = (oldE s.e2 ra.name).l.length + ra.b.l.length := by unfold newB; rw [if_pos rfl, List.length_append, hcl]
      simp only [fitsB, decide_eq_true_eq] at hf
      have := h.rm
      simp only at h1 ⊢
      omega
  · rcases hs with ⟨-, -, rfl⟩ | ⟨-, -, -, rfl⟩ | ⟨-, -, -, -, rfl⟩ | ⟨-, hn, hf, cl, fp, hcl, hd⟩
    · exact h
    · exact h
    · exact h
    · refine RmI.app (s := { s with fp := fp, bs := cl :: s.bs }) ⟨h.rm, h.fit, h.key⟩ hn (by show (0 : Nat) ≤ 24; decide) hd ?_
      show (sizeE (doE s.e2 ⟨2, ra.name, ⟨#[]⟩, cl⟩ ⟨none, 0, newB s.e2 ⟨2, ra.name, ⟨#[]⟩, cl⟩⟩ s.c2) : Int) ≤ room
      unfold doE
      rw [if_pos (.inr rfl)]
      have h1 := size_put s.e2 ra.name ⟨none, 0, newB s.e2 ⟨2, ra.name, ⟨#[]⟩, cl⟩⟩ s.c2
      have h2 : (newB s.e2 ⟨2, ra.name, ⟨#[]⟩, cl⟩).length = ra.b.l.length := by unfold newB; rw [if_neg (by show ¬ (2 : Int) = 1; decide), if_pos rfl, hcl]
      simp only [fitsB, decide_eq_true_eq] at hf
      have := h.rm
      simp only at h1 ⊢
      omega
  · rcases hs with ⟨-, -, rfl⟩ | ⟨-, -, -, rfl⟩ | ⟨-, -, -, -, rfl⟩ | ⟨-, hn, -, hd⟩
    · exact h
    · exact h
    · exact h
    · rw [Bool.and_eq_true] at hn
      refine h.app hn.1 (named_size hn.2) hd ?_
      unfold doE
      rw [if_neg (by show ¬ ((3 : Int) = 1 ∨ (3 : Int) = 2); decide), if_pos rfl]
      split
      · have h1 := size_put (delE s.e2 ra.name) ra.to (oldE s.e2 ra.name) s.c2
        have h2 := size_del s.e2 ra.name
        have := h.fit
        simp only at h1 h2 ⊢
        omega
      · exact h.fit
  · rcases hs with ⟨-, -, rfl⟩ | ⟨-, -, -, rfl⟩ | ⟨-, -, -, -, rfl⟩ | ⟨-, hn, -, hd⟩
    · exact h
    · exact h
    · exact h
    · refine h.app hn (by show (0 : Nat) ≤ 24; decide) hd ?_
      unfold doE
      rw [if_neg (by show ¬ ((4 : Int) = 1 ∨ (4 : Int) = 2); decide), if_neg (by show ¬ (4 : Int) = 3; decide), if_pos rfl]
      have h2 := size_del s.e2 ra.name
      have := h.fit
      simp only at h2 ⊢
      omega
  · rcases hs with ⟨-, rfl⟩ | ⟨-, q1, q2, rfl⟩
    · exact ⟨h.rm, h.fit, h.key⟩
    · exact ⟨h.rm, h.fit, h.key⟩
  · exact absurd h6 h5
  · exact ⟨h.rm, h.fit, h.key⟩
  · exact ⟨h.rm, h.fit, h.key⟩
theorem StepR.pend {N M : Nat} {ra : RActV} {s s' : DS} {e : Int} (hs : StepR N M ra s s' e) : s'.pend.length ≤ s.pend.length + 1 := by
  rcases hs with ⟨-, hs⟩ | ⟨-, hs⟩ | ⟨-, hs⟩ | ⟨-, hs⟩ | ⟨-, -, hs⟩ | ⟨-, -, kp, -, hs⟩ | ⟨-, -, q1, q2, pa, pc, rfl⟩ | ⟨-, -, rfl⟩
  · exact (hs.doA (kind := 0) (to := ⟨#[]⟩)).2.1
  · exact (hs.doA (kind := 0) (to := ⟨#[]⟩)).2.1
  · exact (hs.doA (kind := 0) (.inl rfl)).2.1
  · exact (hs.doA (kind := 0) (.inl rfl)).2.1
  · exact (hs.doA (kind := 4) (nm := ⟨#[]⟩) (to := ⟨#[]⟩) (by decide)).2.1
  · exact (hs.doA (kind := 4) (nm := ⟨#[]⟩) (to := ⟨#[]⟩) (by decide)).2.1
  · exact Nat.le_succ _
  · exact Nat.le_succ _
theorem oldE_of {es : FM} {c : Nat} (h : GoodM es c) {e : Ent ByteArray BS} (he : e ∈ es) : oldE es e.k = e.v := by
  have hk := h.keys
  clear h
  induction es with
  | nil => cases he
  | cons d es ih =>
    rw [List.map_cons, List.nodup_cons] at hk
    rw [oldE_cons]
    rcases List.mem_cons.1 he with rfl | he
    · rw [if_pos rfl]
    · rw [if_neg (fun hh : e.k = d.k => hk.1 (hh ▸ List.mem_map.2 ⟨e, he, rfl⟩)), ih he hk.2]
def rdl (es : FM) (nm : ByteArray) : Nat := (oldE es nm).l.length
theorem perm_sum {l m : List Nat} (h : l.Perm m) : l.sum = m.sum := by
  induction h with
  | nil => rfl
  | cons x _ ih => simp [ih]
  | swap x y l => simp; omega
  | trans _ _ h1 h2 => exact h1.trans h2
theorem names_sum {es : FM} {c : Nat} (h : GoodM es c) : ((namesE es).map (rdl es)).sum = sizeE es := by
  rw [perm_sum ((namesE_perm es).map (rdl es)), List.map_map]
  unfold sizeE
  congr 1
  exact List.map_congr_left fun e he => by simp only [Function.comp, rdl, oldE_of h he]
theorem names_part (es : FM) (k : Nat) : (((namesE es).take k).map (rdl es)).sum ≤ ((namesE es).map (rdl es)).sum := by
  conv => rhs; rw [← List.take_append_drop k (namesE es)]
  rw [List.map_append, List.sum_append]
  omega
theorem names_step (es : FM) (k : Nat) (hk : k < (namesE es).length) : (((namesE es).take (k + 1)).map (rdl es)).sum = (((namesE es).take k).map (rdl es)).sum + (oldE es (namesE es)[k]).l.length := by
  rw [List.take_succ_eq_append_getElem hk, List.map_append, List.sum_append]; simp [rdl]
theorem name_get (l : List ByteArray) (j : Nat) (hj : j < l.length) : (l.map encS)[j]? = some (.string l[j]) := by rw [List.getElem?_map, List.getElem?_eq_getElem hj]; rfl
theorem KeyL.le {es : FM} (h : KeyL es) : ∀ e ∈ es, e.k.size ≤ maxLen := fun e he => by have := h e he; unfold maxLen; omega
theorem newS_rm (r1 r2 : Nat) {r : Int} (h0 : 0 ≤ r) (h1 : r ≤ 1048576) : RmI (newS r1 r2 r) r := by
  refine ⟨?_, ?_, fun e he => by cases he⟩
  · show roomOf r = r
    unfold roomOf; split <;> split <;> omega
  · show ((sizeE [] : Nat) : Int) ≤ r
    simp [sizeE]; exact h0
attribute [local irreducible] namesE roomOf

set_option maxHeartbeats 1000000 in
theorem diskRoom_c {w0 : World} {H : List SA} {r : Int} (hr0 : 0 ≤ r ∧ r < 65536) {a : Option Addr} {l : List RActV} {c : Nat} [hr : RdC w0 H (.slice a l.length c) 8 (l.flatMap RActV.list)] (rl : ∀ x ∈ l, RdB w0 H (.slice x.b.a x.b.l.length x.b.c) x.b.l) (kl : ∀ x ∈ l, 0 ≤ x.p.keep ∧ x.p.keep < 18446744073709551616) (nl : ∀ x ∈ l, x.n ≤ 9223372036854775807) :
    CT Try.prog w0 (H) 7 [.int .u16 r, .slice a l.length c] (α := Unit) (fun _ => .bool true) (fun _ => H) := by
  refine CT_intro Try.func7 rfl Try.ntmps7 rfl ?_
  refine T_seq ?_
  refine T_region ?_
  refine TL_q (Qt_assign (.bool _) rfl) rfl ?_
  refine TL_nil ?_
  refine X_then ?_
  refine T_seq ?_
  refine T_seq ?_
  refine T_region ?_
  refine TL_e rfl (Ef_call (wakes10_c) rfl (fun x13 => ?_))
  refine TL_q (Qt_not rfl) rfl ?_
  refine TL_nil ?_
  refine X_then ?_
  refine T_cond rfl (fun h14 => ?_) (fun h14 => ?_)
  ·
    have p14 := h14
    try simp only [decide_eq_true_eq, decide_eq_false_iff_not, Bool.not_eq_true', Bool.not_eq_false', Option.isNone_iff_eq_none, ne_eq, Decidable.not_not, Int.not_lt, Int.not_le] at p14
    cases h14
  ·
    have p14 := h14
    try simp only [decide_eq_true_eq, decide_eq_false_iff_not, Bool.not_eq_true', Bool.not_eq_false', Option.isNone_iff_eq_none, ne_eq, Decidable.not_not, Int.not_lt, Int.not_le] at p14
    refine T_skip ?_
    refine X_then ?_
    refine T_seq ?_
    refine T_seq ?_
    refine T_region ?_
    refine TL_q (Qt_move (.slice _ _ _) rfl) rfl ?_
    refine TL_e rfl (Ef_call (long10_c (l := l)) rfl (fun x16 => ?_))
    refine TL_pure (fun hs16 => ?_)
    refine TL_nil ?_
    refine X_then ?_
    refine T_cond rfl (fun h16 => ?_) (fun h16 => ?_)
    ·
      have p16 := h16
      try simp only [decide_eq_true_eq, decide_eq_false_iff_not, Bool.not_eq_true', Bool.not_eq_false', Option.isNone_iff_eq_none, ne_eq, Decidable.not_not, Int.not_lt, Int.not_le] at p16
      refine T_seq ?_
      refine T_region ?_
      refine TL_q (Qt_assign (.bool _) rfl) rfl ?_
      refine TL_nil ?_
      refine X_then ?_
      refine T_ret ?_
      refine X_then_ret ?_
      exact X_ret () [_] Try.results7 ⟨rfl, trivial⟩ rfl (Subs.st inferInstance)
    ·
      have p16 := h16
      try simp only [decide_eq_true_eq, decide_eq_false_iff_not, Bool.not_eq_true', Bool.not_eq_false', Option.isNone_iff_eq_none, ne_eq, Decidable.not_not, Int.not_lt, Int.not_le] at p16
      have hsl : ShortA l := hs16 h16
      have hl80 := hsl.1
      refine T_skip ?_
      refine X_then ?_
      refine T_seq ?_
      refine T_region ?_
      refine TL_q (Qt_move (.int .u16 _) rfl) rfl ?_
      refine TL_q (Qt_conv_i64 rfl rfl Try.underlying3 (by omega) (by omega)) rfl ?_
      refine TL_e rfl (Ef_call (dnew_c (n := r)) rfl (fun x19 => ?_))
      refine TL_q (Qt_assign (.pointer _) rfl) rfl ?_
      refine TL_nil ?_
      refine X_then ?_
      refine T_seq ?_
      refine T_seq ?_
      refine T_region ?_
      refine TL_q (Qt_move (.slice _ _ _) rfl) rfl ?_
      refine TL_q (Qt_len_slice rfl Try.underlying22) rfl ?_
      refine TL_q (Qt_move (.int .i64 _) rfl) rfl ?_
      refine TL_nil ?_
      refine X_then ?_
      refine T_block ?_
      refine T_loop [4, 5, 7, 8, 10, 11, 12, 22, 23, 24, 25, 26, 27, 28, 29, 30, 31, 32, 33, 34, 35, 36, 37, 38, 39, 40, 41, 42, 43, 44, 45, 46, 47, 48, 49, 50, 51, 52, 53, 54, 55, 56, 57, 58, 59, 60, 61, 62] [22, 5] (fun us H' => ∃ (k : Nat) (p : Nat) (s : DS), us = [.int .i64 (k : Int), .pointer (some ⟨p, 0, none⟩)] ∧ DS.H p s H = H' ∧ k ≤ l.length ∧ (s.Ok (11 + 83 * k) (2000 + 83000 * k)) ∧ (RmI s r) ∧ (s.pend.length ≤ k)) (fun us => match us with | .int _ i :: _ => l.length - i.toNat | _ => 0) ⟨0, x19.1, newS x19.2.1 x19.2.2 r, rfl, rfl, by omega, (newS_ok _ _ _).mono (by omega) (by omega), newS_rm _ _ hr0.1 (by omega), Nat.le_refl _⟩ (Subs.st inferInstance) ?_
      rintro τ0 _ _  ⟨k, p, s, rfl, rfl, hk0, hok, hrm, hpl⟩ _
      refine T_seq ?_
      refine T_region ?_
      refine TL_q (Qt_lss rfl rfl) rfl ?_
      refine TL_nil ?_
      refine X_then ?_
      refine T_seq ?_
      refine T_cond rfl (fun h23 => ?_) (fun h23 => ?_)
      ·
        have p23 := h23
        try simp only [decide_eq_true_eq, decide_eq_false_iff_not, Bool.not_eq_true', Bool.not_eq_false', Option.isNone_iff_eq_none, ne_eq, Decidable.not_not, Int.not_lt, Int.not_le] at p23
        have hk : k < l.length := by omega
        refine T_skip ?_
        refine X_then ?_
        refine T_seq ?_
        refine T_block ?_
        refine T_seq ?_
        refine T_region ?_
        refine TL_q (Qt_indexN rfl rfl (by omega) (by omega)) rfl ?_
        refine TL_q (Qt_val (Qt_loadRN 8 l[k].list rfl (flat_slice _ 8 RActV.list_len l k hk) (RActV.list_len _) (by decide)) (show Value.agg l[k].list.toArray = Value.agg l[k].cells from rfl)) rfl ?_
        refine TL_e rfl (Ef_allocN (fun b7 => ?_))
        refine TL_n (Ef_storeN rfl rfl (?_))
        refine TL_nil ?_
        refine X_then ?_
        refine T_seq ?_
        refine T_seq ?_
        refine T_region ?_
        refine TL_q (Qt_loadN rfl rfl) rfl ?_
        refine TL_e rfl (Ef_call (right10_c (a := l[k])) rfl (fun x27 => ?_))
        refine TL_q (Qt_not rfl) rfl ?_
        refine TL_q (Qt_move (.bool _) rfl) rfl ?_
        refine TL_split 29 rfl (fun h29 => ?_) (fun h29 => ?_)
        ·
          have p29 := h29
          try simp only [decide_eq_true_eq, decide_eq_false_iff_not, Bool.not_eq_true', Bool.not_eq_false', Option.isNone_iff_eq_none, ne_eq, Decidable.not_not, Int.not_lt, Int.not_le] at p29
          refine TL_pass rfl rfl h29 rfl ?_
          refine TL_pass rfl rfl h29 rfl ?_
          refine TL_pass rfl rfl h29 rfl ?_
          refine TL_q (Qt_pick_t (.bool _) rfl h29 rfl) rfl ?_
          refine TL_nil ?_
          refine X_then ?_
          refine T_cond_true rfl rfl ?_
          refine T_exit ?_
          refine X_then_exit ?_
          refine X_block_exit ?_
          refine X_then ?_
          refine T_region ?_
          first
            | refine TL_q (Qt_add rfl rfl (by omega) (by omega)) rfl ?_
            | refine TL_q (Qt_addw rfl rfl) rfl ?_
          refine TL_q (Qt_move (.int .i64 _) rfl) rfl ?_
          refine TL_nil ?_
          apply X_loop
          case ha => exact (by repeat (first | with_reducible exact agree_refl | refine agree_upd rfl ?_ | refine agree_mix rfl ?_ | refine agree_setAll rfl ?_))
          case hI => exact by first | exact ⟨k + 1, x37.1, x37.2.1, rfl, rfl, by omega, hok37, hrm37, by omega⟩ | exact ⟨k + 1, p, s, rfl, rfl, by omega, hok.mono (by omega) (by omega), hrm, by omega⟩
          case hm => exact by show l.length - (k + 1 : Int).toNat < l.length - (k : Int).toNat; omega
          case hH => exact (Subs.st inferInstance)
        ·
          have p29 := h29
          try simp only [decide_eq_true_eq, decide_eq_false_iff_not, Bool.not_eq_true', Bool.not_eq_false', Option.isNone_iff_eq_none, ne_eq, Decidable.not_not, Int.not_lt, Int.not_le] at p29
          refine TL_take rfl rfl h29 ?_
          refine TL_q (Qt_fieldAddr 0 rfl rfl) rfl ?_
          refine TL_take rfl rfl h29 ?_
          refine TL_q (Qt_load1 rfl) rfl ?_
          refine TL_take rfl rfl h29 ?_
          refine TL_q (Qt_eql rfl rfl) rfl ?_
          refine TL_q (Qt_pick_f (.bool _) rfl h29 rfl) rfl ?_
          refine TL_nil ?_
          refine X_then ?_
          refine T_cond rfl (fun h33 => ?_) (fun h33 => ?_)
          ·
            have p33 := h33
            try simp only [decide_eq_true_eq, decide_eq_false_iff_not, Bool.not_eq_true', Bool.not_eq_false', Option.isNone_iff_eq_none, ne_eq, Decidable.not_not, Int.not_lt, Int.not_le] at p33
            refine T_exit ?_
            refine X_then_exit ?_
            refine X_block_exit ?_
            refine X_then ?_
            refine T_region ?_
            first
              | refine TL_q (Qt_add rfl rfl (by omega) (by omega)) rfl ?_
              | refine TL_q (Qt_addw rfl rfl) rfl ?_
            refine TL_q (Qt_move (.int .i64 _) rfl) rfl ?_
            refine TL_nil ?_
            apply X_loop
            case ha => exact (by repeat (first | with_reducible exact agree_refl | refine agree_upd rfl ?_ | refine agree_mix rfl ?_ | refine agree_setAll rfl ?_))
            case hI => exact by first | exact ⟨k + 1, x37.1, x37.2.1, rfl, rfl, by omega, hok37, hrm37, by omega⟩ | exact ⟨k + 1, p, s, rfl, rfl, by omega, hok.mono (by omega) (by omega), hrm, by omega⟩
            case hm => exact by show l.length - (k + 1 : Int).toNat < l.length - (k : Int).toNat; omega
            case hH => exact (Subs.st inferInstance)
          ·
            have p33 := h33
            try simp only [decide_eq_true_eq, decide_eq_false_iff_not, Bool.not_eq_true', Bool.not_eq_false', Option.isNone_iff_eq_none, ne_eq, Decidable.not_not, Int.not_lt, Int.not_le] at p33
            have hri : rightA l[k].kind = true := by simpa using h29
            have hk5 : l[k].kind ≠ 5 := by simpa using h33
            refine T_skip ?_
            refine X_then ?_
            refine T_seq ?_
            refine T_region ?_
            refine TL_q (Qt_move (.pointer _) rfl) rfl ?_
            refine TL_q (Qt_loadN rfl rfl) rfl ?_
            have := rl l[k] (List.getElem_mem hk)
            obtain ⟨kp, hkp⟩ := Int.eq_ofNat_of_zero_le (kl l[k] (List.getElem_mem hk)).1
            have hkl := (kl l[k] (List.getElem_mem hk)).2
            refine TL_conv (fun w hw => (Subs.st inferInstance w hw : St w0 (DS.H p s (blk b7 (.cells l[k].cells 34 (0, 0)) :: H)) w)) ?_
            refine TL_e rfl (Ef_call (do11_c (p := p) (s := s) hok (by omega) (by omega) (by omega) (ra := l[k]) (by have := hsl.2 l[k] (List.getElem_mem hk); omega) (of_decide_eq_true hri) hkp (by omega)) rfl (fun x37 => ?_))
            refine TL_pure (fun h37 => ?_)
            replace h37 := h37.1
            have hok37 := (h37.ok hok (by omega) (by have := hsl.2 l[k] (List.getElem_mem hk); omega) (nl _ (List.getElem_mem hk))).mono (N' := 11 + 83 * (k + 1)) (M' := 2000 + 83000 * (k + 1)) (by omega) (by omega)
            have hrm37 := hrm.step h37 hk5
            have hpl37 := h37.pend
            have hsum := names_sum hok37.good2
            have hfit := hrm37.fit
            have hnl := namesE_len x37.2.1.e2
            have hn2 := hok37.n2
            refine TL_q (Qt_move (.tuple _) rfl) rfl ?_
            refine TL_q (Qt_extract rfl) rfl ?_
            refine TL_q (Qt_extract rfl) rfl ?_
            refine TL_q (Qt_assign (.pointer _) rfl) rfl ?_
            refine TL_nil ?_
            refine X_then ?_
            refine T_seq ?_
            refine T_region ?_
            refine TL_q (Qt_assign (.int .i64 _) rfl) rfl ?_
            refine TL_nil ?_
            refine X_then ?_
            refine T_seq ?_
            refine T_seq ?_
            refine T_region ?_
            refine TL_q (Qt_move (.pointer _) rfl) rfl ?_
            refine TL_e rfl (Ef_call (dnames_c (p := x37.1) (s := x37.2.1) hok37 (by omega) hrm37.key.le) rfl (fun x41 => ?_))
            refine TL_q (Qt_len_slice rfl Try.underlying55) rfl ?_
            refine TL_q (Qt_move (.int .i64 _) rfl) rfl ?_
            refine TL_nil ?_
            refine X_then ?_
            refine T_block ?_
            refine T_loop [8, 10, 11, 12, 43, 44, 45, 46, 47, 48, 49, 50, 51, 52, 53, 54, 55, 56, 57] [43, 8] (fun us H' => ∃ (j : Nat), us = [.int .i64 (j : Int), .int .i64 (((((namesE x37.2.1.e2).take j).map (rdl x37.2.1.e2)).sum : Nat) : Int)] ∧ row (.slice x41.a (namesE x37.2.1.e2).length x41.c) 9 1 ((namesE x37.2.1.e2).map encS) :: DS.H x37.1 x37.2.1 (blk b7 (.cells l[k].cells 34 (0, 0)) :: H) = H' ∧ j ≤ (namesE x37.2.1.e2).length) (fun us => match us with | .int _ i :: _ => (namesE x37.2.1.e2).length - i.toNat | _ => 0) ⟨0, rfl, rfl, by omega⟩ (Subs.st inferInstance) ?_
            rintro τ1 _ _  ⟨j, rfl, rfl, hj0⟩ _
            refine T_seq ?_
            refine T_region ?_
            refine TL_q (Qt_lss rfl rfl) rfl ?_
            refine TL_nil ?_
            refine X_then ?_
            refine T_seq ?_
            refine T_cond rfl (fun h44 => ?_) (fun h44 => ?_)
            ·
              have p44 := h44
              try simp only [decide_eq_true_eq, decide_eq_false_iff_not, Bool.not_eq_true', Bool.not_eq_false', Option.isNone_iff_eq_none, ne_eq, Decidable.not_not, Int.not_lt, Int.not_le] at p44
              have hj : j < (namesE x37.2.1.e2).length := by omega
              refine T_skip ?_
              refine X_then ?_
              refine T_seq ?_
              refine T_block ?_
              refine T_seq ?_
              refine T_region ?_
              refine TL_q (Qt_indexR rfl rfl (by omega) (by simp; omega)) rfl ?_
              refine TL_q (Qt_loadR (.string _) rfl (name_get _ j hj)) rfl ?_
              refine TL_q (Qt_assign (.string _) rfl) rfl ?_
              refine TL_nil ?_
              refine X_then ?_
              refine T_seq ?_
              refine T_region ?_
              refine TL_q (Qt_move (.pointer _) rfl) rfl ?_
              refine TL_q (Qt_move (.string _) rfl) rfl ?_
              refine TL_conv (fun w hw => (Subs.st inferInstance w hw : St w0 (DS.H x37.1 x37.2.1 (row (.slice x41.a (namesE x37.2.1.e2).length x41.c) 9 1 ((namesE x37.2.1.e2).map encS) :: blk b7 (.cells l[k].cells 34 (0, 0)) :: H)) w)) ?_
              refine TL_e rfl (Ef_call (dread_c (p := x37.1) (s := x37.2.1) hok37 (by omega) (by omega) (nm := (namesE x37.2.1.e2)[j])) rfl (fun x50 => ?_))
              have hst := names_step x37.2.1.e2 j hj
              have hpa := names_part x37.2.1.e2 (j + 1)
              refine TL_q (Qt_move (.tuple _) rfl) rfl ?_
              refine TL_q (Qt_extract rfl) rfl ?_
              refine TL_q (Qt_extract rfl) rfl ?_
              refine TL_q (Qt_assign (.slice _ _ _) rfl) rfl ?_
              refine TL_q (Qt_assign (.int .i64 _) rfl) rfl ?_
              refine TL_nil ?_
              refine X_then ?_
              refine T_region ?_
              refine TL_q (Qt_move (.int .i64 _) rfl) rfl ?_
              refine TL_q (Qt_move (.slice _ _ _) rfl) rfl ?_
              refine TL_q (Qt_len_slice rfl Try.underlying32) rfl ?_
              refine TL_q (Qt_val (Qt_add rfl rfl (by omega) (by omega)) (congrArg (Value.int .i64) (show (((((namesE x37.2.1.e2).take j).map (rdl x37.2.1.e2)).sum : Nat) : Int) + _ = (((((namesE x37.2.1.e2).take (j + 1)).map (rdl x37.2.1.e2)).sum : Nat) : Int) from by rw [names_step _ j hj]; push_cast; rfl))) rfl ?_
              refine TL_q (Qt_assign (.int .i64 _) rfl) rfl ?_
              refine TL_nil ?_
              refine X_block ?_
              refine X_then ?_
              refine T_region ?_
              first
                | refine TL_q (Qt_add rfl rfl (by omega) (by omega)) rfl ?_
                | refine TL_q (Qt_addw rfl rfl) rfl ?_
              refine TL_q (Qt_move (.int .i64 _) rfl) rfl ?_
              refine TL_nil ?_
              apply X_loop
              case ha => exact (by repeat (first | with_reducible exact agree_refl | refine agree_upd rfl ?_ | refine agree_mix rfl ?_ | refine agree_setAll rfl ?_))
              case hI => exact ⟨j + 1, rfl, rfl, by omega⟩
              case hm => exact by show (namesE x37.2.1.e2).length - (j + 1 : Int).toNat < (namesE x37.2.1.e2).length - (j : Int).toNat; omega
              case hH => exact (Subs.st inferInstance)
            ·
              have p44 := h44
              try simp only [decide_eq_true_eq, decide_eq_false_iff_not, Bool.not_eq_true', Bool.not_eq_false', Option.isNone_iff_eq_none, ne_eq, Decidable.not_not, Int.not_lt, Int.not_le] at p44
              have hjl : j = (namesE x37.2.1.e2).length := by omega
              rw [hjl, List.take_length, hsum]
              refine T_exit ?_
              refine X_then_exit ?_
              refine X_loop_exit ?_
              refine X_block_exit ?_
              refine X_then ?_
              refine T_seq ?_
              refine T_region ?_
              refine TL_q (Qt_move (.int .i64 _) rfl) rfl ?_
              refine TL_q (Qt_move (.int .u16 _) rfl) rfl ?_
              refine TL_q (Qt_conv_i64 rfl rfl Try.underlying3 (by omega) (by omega)) rfl ?_
              refine TL_q (Qt_gtr rfl rfl) rfl ?_
              refine TL_nil ?_
              refine X_then ?_
              refine T_cond rfl (fun h61 => ?_) (fun h61 => ?_)
              ·
                have p61 := h61
                try simp only [decide_eq_true_eq, decide_eq_false_iff_not, Bool.not_eq_true', Bool.not_eq_false', Option.isNone_iff_eq_none, ne_eq, Decidable.not_not, Int.not_lt, Int.not_le] at p61
                exfalso; omega
              ·
                have p61 := h61
                try simp only [decide_eq_true_eq, decide_eq_false_iff_not, Bool.not_eq_true', Bool.not_eq_false', Option.isNone_iff_eq_none, ne_eq, Decidable.not_not, Int.not_lt, Int.not_le] at p61
                refine T_skip ?_
                refine X_block ?_
                refine X_then ?_
                refine T_region ?_
                first
                  | refine TL_q (Qt_add rfl rfl (by omega) (by omega)) rfl ?_
                  | refine TL_q (Qt_addw rfl rfl) rfl ?_
                refine TL_q (Qt_move (.int .i64 _) rfl) rfl ?_
                refine TL_nil ?_
                apply X_loop
                case ha => exact (by repeat (first | with_reducible exact agree_refl | refine agree_upd rfl ?_ | refine agree_mix rfl ?_ | refine agree_setAll rfl ?_))
                case hI => exact by first | exact ⟨k + 1, x37.1, x37.2.1, rfl, rfl, by omega, hok37, hrm37, by omega⟩ | exact ⟨k + 1, p, s, rfl, rfl, by omega, hok.mono (by omega) (by omega), hrm, by omega⟩
                case hm => exact by show l.length - (k + 1 : Int).toNat < l.length - (k : Int).toNat; omega
                case hH => exact (Subs.st inferInstance)
      ·
        have p23 := h23
        try simp only [decide_eq_true_eq, decide_eq_false_iff_not, Bool.not_eq_true', Bool.not_eq_false', Option.isNone_iff_eq_none, ne_eq, Decidable.not_not, Int.not_lt, Int.not_le] at p23
        refine T_exit ?_
        refine X_then_exit ?_
        refine X_loop_exit ?_
        refine X_block_exit ?_
        refine X_then ?_
        refine T_seq ?_
        refine T_region ?_
        refine TL_q (Qt_assign (.bool _) rfl) rfl ?_
        refine TL_nil ?_
        refine X_then ?_
        refine T_ret ?_
        exact X_ret () [_] Try.results7 ⟨rfl, trivial⟩ rfl (Subs.st inferInstance)
end Go.Proofs.Ytededghplnoajaa
