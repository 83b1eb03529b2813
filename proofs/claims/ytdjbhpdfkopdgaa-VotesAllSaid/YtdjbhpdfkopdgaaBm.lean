/- The book: begin, New, Wrote, Accepted. -/
import Derived.Test.YtdjbhpdfkopdgaaBl
namespace Go.Proofs.Ytdjbhpdfkopdgaa
open Go.RowKit Go.Sx
set_option maxRecDepth 100000
set_option linter.unusedSimpArgs false
set_option linter.unusedVariables false
theorem delE_sub {κ ν : Type} [DecidableEq κ] : ∀ (es : List (Ent κ ν)) (k : κ), List.Sublist (delE es k) es
  | [], _ => List.Sublist.refl _
  | e :: es, k => by
    rw [delE]
    split
    · exact List.sublist_cons_self _ _
    · exact (delE_sub es k).cons_cons e
theorem delE_len {κ ν : Type} [DecidableEq κ] : ∀ (es : List (Ent κ ν)) (e : Ent κ ν), e ∈ es → (delE es e.k).length < es.length
  | [], _, h => by cases h
  | x :: es, e, h => by
    rw [delE]
    split
    · simp
    · rename_i hne
      rcases List.mem_cons.1 h with rfl | h
      · exact absurd rfl hne
      · have := delE_len es e h; simp; omega
theorem delE_key {κ ν : Type} [DecidableEq κ] : ∀ (es : List (Ent κ ν)) (k : κ), (es.map (·.k)).Nodup → ∀ e ∈ delE es k, e.k ≠ k
  | [], _, _, e, h => by cases h
  | x :: es, k, hn, e, h => by
    rw [delE] at h
    simp only [List.map_cons, List.nodup_cons] at hn
    split at h
    · rename_i hk
      rintro rfl
      exact hn.1 (hk ▸ List.mem_map.2 ⟨e, h, rfl⟩)
    · rename_i hk
      rcases List.mem_cons.1 h with rfl | h
      · exact fun h => hk h.symm
      · exact delE_key es k hn.2 e h
theorem goodM_del {κ ν : Type} [DecidableEq κ] {es : List (Ent κ ν)} {c : Nat} (h : GoodM es c) (k : κ) : GoodM (delE es k) c :=
  ⟨h.keys.sublist ((delE_sub es k).map _), h.born.sublist ((delE_sub es k).map _), fun e he => h.lt e ((delE_sub es k).subset he)⟩
theorem delE_born {κ ν : Type} [DecidableEq κ] {es : List (Ent κ ν)} {c : Nat} (h : GoodM es c) {e x : Ent κ ν} (he : e ∈ es) (hx : x ∈ delE es e.k) : x.b ≠ e.b := fun hb => by
  have hxe := (delE_sub es e.k).subset hx
  have : x = e := by
    have hn := h.born
    clear h hx
    induction es with
    | nil => cases he
    | cons y es ih =>
      simp only [List.map_cons, List.nodup_cons] at hn
      rcases List.mem_cons.1 he with rfl | he
      · rcases List.mem_cons.1 hxe with rfl | hxe
        · rfl
        · exact absurd (List.mem_map.2 ⟨x, hxe, hb⟩) hn.1
      · rcases List.mem_cons.1 hxe with hxe | hxe
        · exact absurd (List.mem_map.2 ⟨e, he, by rw [← hb, hxe]⟩) hn.1
        · exact ih he hxe hn.2
  exact delE_key es e.k h.keys x hx (this ▸ rfl)
theorem putE_keys {κ ν : Type} [DecidableEq κ] {es : List (Ent κ ν)} {c : Nat} (h : GoodM es c) (k : κ) (v : ν) (hh : hasE es k = false) : GoodM (putE es k v c) (clockE es k c) := by
  rw [putE_none es k v c hh]
  simp only [clockE, hh, cond_false]
  refine ⟨?_, ?_, ?_⟩
  · rw [List.map_append]
    refine List.nodup_append.2 ⟨h.keys, by simp, fun a ha b hb => ?_⟩
    obtain rfl : b = k := by simpa using hb
    rintro rfl
    obtain ⟨e, he, hek⟩ := List.mem_map.1 ha
    have : (getE es a).isSome = true := by
      simp only [getE, Option.isSome_map]
      rw [List.find?_isSome]
      exact ⟨e, he, by simp [hek]⟩
    rw [hasE, this] at hh
    cases hh
  · rw [List.map_append]
    refine List.nodup_append.2 ⟨h.born, by simp, fun a ha b hb => ?_⟩
    obtain rfl : b = c := by simpa using hb
    rintro rfl
    obtain ⟨e, he, hek⟩ := List.mem_map.1 ha
    have := h.lt e he
    omega
  · intro e he
    rcases List.mem_append.1 he with he | he
    · have := h.lt e he; omega
    · obtain rfl : e = ⟨k, v, c⟩ := by simpa using he
      show c < c + 1
      omega
theorem getE_mem {κ ν : Type} [DecidableEq κ] {es : List (Ent κ ν)} {k : κ} {v : ν} (h : getE es k = some v) : ∃ e ∈ es, e.k = k ∧ e.v = v := by
  simp only [getE, Option.map_eq_some_iff] at h
  obtain ⟨e, h1, h2⟩ := h
  have h3 := List.find?_some h1
  exact ⟨e, List.mem_of_find?_eq_some h1, (of_decide_eq_true h3).symm, h2⟩
def beginK (k : BookV) (s : Int) : BookV := bif decide (k.slot < s) then { k with slot := s, accepted := none } else k
def beginE (k : BookV) (es : List (Ent EraV VoteV)) (s : Int) : List (Ent EraV VoteV) := bif decide (k.slot < s) then [] else es

set_option maxHeartbeats 1000000 in
theorem begin_c {w0 : World} {H : List SA} {p r c : Nat} {k : BookV} {es : List (Ent EraV VoteV)} {s : Int} (hw : k.wrote = some r) (hg : GoodM es c) :
    CT Try.prog w0 (blk p (.cells k.cells 60 (0, 0)) :: blk r (mapO encE encV es c) :: H) 28 [.pointer (some ⟨p, 0, none⟩), .int .i64 s] (α := Unit) (fun _ => .tuple #[]) (fun _ => blk p (.cells (beginK k s).cells 60 (0, 0)) :: blk r (mapO encE encV (beginE k es s) c) :: H) := by
  obtain ⟨now, en, sl, wr, ac⟩ := k
  obtain rfl : wr = some r := hw
  refine CT_intro Try.func28 rfl Try.ntmps28 rfl ?_
  refine T_seq ?_
  refine T_region ?_
  refine TL_q (Qt_move (.int .i64 _) rfl) rfl ?_
  refine TL_q (Qt_move (.pointer _) rfl) rfl ?_
  refine TL_q (Qt_nilCheck rfl) rfl ?_
  refine TL_q (Qt_fieldAddr 3 rfl rfl) rfl ?_
  refine TL_q (Qt_load1 rfl) rfl ?_
  refine TL_q (Qt_gtr rfl rfl) rfl ?_
  refine TL_nil ?_
  refine X_then ?_
  refine T_cond rfl (fun h10 => ?_) (fun h10 => ?_)
  ·
    have p10 := h10
    try simp only [decide_eq_true_eq, decide_eq_false_iff_not, Bool.not_eq_true', Bool.not_eq_false', Option.isNone_iff_eq_none, ne_eq, Decidable.not_not, Int.not_lt, Int.not_le] at p10
    refine T_seq ?_
    refine T_seq ?_
    refine T_region ?_
    refine TL_q (Qt_move (.pointer _) rfl) rfl ?_
    refine TL_q (Qt_nilCheck rfl) rfl ?_
    refine TL_q (Qt_fieldAddr 4 rfl rfl) rfl ?_
    refine TL_q (Qt_load1 rfl) rfl ?_
    refine TL_e rfl (Ef_range rfl Try.underlying55 (fun it15 => ?_))
    refine TL_nil ?_
    refine X_then ?_
    refine T_block ?_
    refine T_loopg (m0 := es.length) [4, 16, 17, 18, 19, 20, 21, 22, 23, 24] [] (fun us H' m => ∃ (es1 : List (Ent EraV VoteV)) (seen : Array Nat), us = [] ∧ blk it15 (.mapIter (some r) c seen c) :: blk p (.cells (BookV.mk now en sl (some r) ac).cells 60 (0, 0)) :: blk r (mapO encE encV es1 c) :: H = H' ∧ m = es1.length ∧ GoodM es1 c ∧ (∀ e ∈ es1, seen.contains e.b = false)) ⟨es, #[], rfl, rfl, rfl, hg, fun _ _ => by simp⟩ (Subs.st inferInstance) ?_
    rintro τ0 _ _ m ⟨es1, seen, rfl, rfl, rfl, hg1, hseen⟩ _
    have hlt1 := hg1.lt
    refine T_seq ?_
    refine T_region ?_
    refine TL_e rfl (Ef_next rfl hlt1 hlt1 (fun hz16 => ?_) (fun en16 hen16 => ?_))
    ·
      obtain rfl : es1 = [] := by
        cases es1 with
        | nil => rfl
        | cons e es1 => have := hseen e (by simp); simp [leftE, this] at hz16; exact absurd this (by simp [hz16])
      refine TL_q (Qt_extract rfl) rfl ?_
      refine TL_nil ?_
      refine X_then ?_
      refine T_seq ?_
      refine T_cond_false rfl rfl ?_
      refine T_exit ?_
      refine X_then_exit ?_
      refine X_loopg_exit ?_
      refine X_block_exit ?_
      refine X_then ?_
      refine T_region ?_
      refine TL_q (Qt_move (.pointer _) rfl) rfl ?_
      refine TL_q (Qt_move (.pointer _) rfl) rfl ?_
      refine TL_q (Qt_move (.int .i64 _) rfl) rfl ?_
      refine TL_q (Qt_nilCheck rfl) rfl ?_
      refine TL_q (Qt_fieldAddr 3 rfl rfl) rfl ?_
      refine TL_n (Ef_store1 (.int .i64 _) rfl rfl (?_))
      refine TL_q (Qt_nilCheck rfl) rfl ?_
      refine TL_q (Qt_fieldAddr 5 rfl rfl) rfl ?_
      refine TL_n (Ef_store1 (.pointer _) rfl rfl (?_))
      refine TL_nil ?_
      have e1 : beginK ⟨now, en, sl, some r, ac⟩ s = ⟨now, en, s, some r, none⟩ := by simp [beginK, p10]
      have e2 : beginE ⟨now, en, sl, some r, ac⟩ es s = [] := by simp [beginE, p10]
      exact X_ret () [] Try.results28 trivial rfl (by rw [e1, e2]; exact Subs.st inferInstance)
    ·
      have hmem : en16 ∈ es1 := (List.mem_filter.1 hen16).1
      refine TL_q (Qt_extract rfl) rfl ?_
      refine TL_nil ?_
      refine X_then ?_
      refine T_seq ?_
      refine T_cond_true rfl rfl ?_
      refine T_skip ?_
      refine X_then ?_
      refine T_block ?_
      refine T_seq ?_
      refine T_region ?_
      refine TL_q (Qt_entry en16 rfl hmem hg1.born) rfl ?_
      refine TL_q (Qt_extract rfl) rfl ?_
      refine TL_e rfl (Ef_allocN (fun b4 => ?_))
      refine TL_n (Ef_storeN rfl rfl (?_))
      refine TL_nil ?_
      refine X_then ?_
      refine T_draw [blk b4 (.cells en16.k.cells 57 (0, 0)), blk p (.cells (BookV.mk now en sl (some r) ac).cells 60 (0, 0))] [(0, true), (1, true), (2, true), (3, true), (4, true), (5, false)] (by kernel_rfl) (by kernel_rfl) rfl (by kernel_rfl) (Subs.st inferInstance) (fun hns0 => ?_)
      refine DL_q hns0 rfl (Qt_move (.pointer _) rfl) rfl ?_
      refine DL_q hns0 rfl (Qt_nilCheck rfl) rfl ?_
      refine DL_q hns0 rfl (Qt_fieldAddr 4 rfl rfl) rfl ?_
      refine DL_q hns0 rfl (Qt_load1 rfl) rfl ?_
      refine DL_q hns0 rfl (Qt_loadN rfl rfl) rfl ?_
      refine DL_n rfl (Ef_delete (key := en16.k) rfl rfl Try.underlying55 (⟨(Subs.st inferInstance), ?_⟩))
      refine DL_nil ?_
      refine X_block ?_
      refine X_loopg _ (by repeat (first | with_reducible exact agree_refl | refine agree_upd rfl ?_ | refine agree_mix rfl ?_ | refine agree_setAll rfl ?_)) (⟨delE es1 en16.k, seen.push en16.b, rfl, rfl, rfl, goodM_del hg1 _, fun x hx => by have h1 := hseen x ((delE_sub es1 _).subset hx); have h2 := delE_born hg1 hmem hx; simp only [Array.contains_push, h1, Bool.false_or]; simpa using h2⟩) (delE_len es1 en16 hmem) ((Subs.st inferInstance))
  ·
    have p10 := h10
    try simp only [decide_eq_true_eq, decide_eq_false_iff_not, Bool.not_eq_true', Bool.not_eq_false', Option.isNone_iff_eq_none, ne_eq, Decidable.not_not, Int.not_lt, Int.not_le] at p10
    refine T_skip ?_
    have n10 : ¬ sl < s := by omega
    have e1 : beginK ⟨now, en, sl, some r, ac⟩ s = ⟨now, en, sl, some r, ac⟩ := by simp [beginK, n10]
    have e2 : beginE ⟨now, en, sl, some r, ac⟩ es s = es := by simp [beginE, n10]
    exact X_ret () [] Try.results28 trivial rfl (by rw [e1, e2]; exact Subs.st inferInstance)
end Go.Proofs.Ytdjbhpdfkopdgaa
