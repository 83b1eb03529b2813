/- Walks: the references on lists of votes: Slot, Reg, Wrote, Accepted, Take. -/
import Derived.Test.YtdjbhpdfkopdgaaRb
import Derived.Test.YtdjbhpdfkopdgaaBr
namespace Go.Proofs.Ytdjbhpdfkopdgaa
open Go.RowKit Go.Sx
set_option maxRecDepth 100000
set_option linter.unusedSimpArgs false
set_option linter.unusedVariables false
def slotS (n : Int) (v : VoteV) : Int := if 1 < v.kind ∧ n < v.slot then v.slot else n
def slotL (vs : List VoteV) : Int := vs.foldl slotS 0
def regS (p : Int × Int) (v : VoteV) : Int × Int := if v.kind = 1 ∧ (p.1 < v.view ∨ (v.view = p.1 ∧ p.2 < v.reg)) then (v.view, v.reg) else p
def regL (vs : List VoteV) : Int × Int := vs.foldl regS (-1, -1)
def isW (s : Int) (a : EraV) (v : VoteV) : Bool := decide (v.kind = 2) && decide (v.slot = s) && decide (v.view = a.view) && decide (v.reg = a.reg)
def wroteL (vs : List VoteV) (a : EraV) : Option VoteV := vs.find? (isW (slotL vs) a)
def accS (s : Int) (o : Option VoteV) (v : VoteV) : Option VoteV :=
  if v.kind ≠ 3 ∨ v.slot ≠ s then o else match o with
    | none => some v
    | some u => if u.view < v.view ∨ (v.view = u.view ∧ u.reg < v.reg) then some v else o
def accL (vs : List VoteV) : Option VoteV := vs.foldl (accS (slotL vs)) none
theorem foldl_snoc {α β : Type} (f : β → α → β) (b : β) (l : List α) (k : Nat) (hk : k < l.length) : (l.take (k + 1)).foldl f b = f ((l.take k).foldl f b) l[k] := by
  rw [List.take_succ_eq_append_getElem hk, List.foldl_append]; rfl
theorem find_found {α : Type} (p : α → Bool) (l : List α) (k : Nat) (hk : k < l.length) (h : (l.take k).any p = false) (hp : p l[k] = true) : l.find? p = some l[k] := by
  induction l generalizing k with
  | nil => simp at hk
  | cons x l ih =>
    cases k with
    | zero => simp at hp ⊢; exact .inl hp
    | succ k =>
      simp only [List.take_succ_cons, List.any_cons, Bool.or_eq_false_iff] at h
      rw [List.find?_cons, h.1]
      simpa using ih k (by simpa using hk) h.2 (by simpa using hp)
theorem find_lost {α : Type} (p : α → Bool) (l : List α) (h : l.any p = false) : l.find? p = none := by
  rw [List.find?_eq_none]
  rw [List.any_eq_false] at h
  exact h

set_option maxHeartbeats 1000000 in
theorem rSlot_c {w0 : World} {H : List SA} {a : Option Addr} {vs : List VoteV} {c : Nat} [hr : RdC w0 H (.slice a vs.length c) 38 (vs.flatMap VoteV.list)] (hn : vs.length ≤ 1000000) :
    CT Try.prog w0 (H) 32 [.slice a vs.length c] (α := Unit) (fun _ => .int .i64 (slotL vs)) (fun _ => H) := by
  refine CT_intro Try.func32 rfl Try.ntmps32 rfl ?_
  refine T_seq ?_
  refine T_region ?_
  refine TL_q (Qt_assign (.int .i64 _) rfl) rfl ?_
  refine TL_nil ?_
  refine X_then ?_
  refine T_seq ?_
  refine T_region ?_
  refine TL_q (Qt_assign (.int .i64 _) rfl) rfl ?_
  refine TL_nil ?_
  refine X_then ?_
  refine T_seq ?_
  refine T_seq ?_
  refine T_region ?_
  refine TL_q (Qt_assign (.int .i64 _) rfl) rfl ?_
  refine TL_nil ?_
  refine X_then ?_
  refine T_block ?_
  refine T_loop [3, 4, 5, 6, 7, 8, 9, 10, 11, 12, 13, 14, 15, 16, 17, 18, 19, 20, 21, 22, 23, 24, 25, 26, 27, 28, 29, 30] [4, 3] (fun us H' => ∃ i : Nat, us = [.int .i64 (i : Int), .int .i64 ((vs.take i).foldl slotS 0)] ∧ H = H' ∧ i ≤ vs.length) (fun us => match us with | .int _ i :: _ => vs.length - i.toNat | _ => 0) ⟨0, rfl, rfl, by omega⟩ (Subs.st inferInstance) ?_
  rintro τ0 _ _  ⟨i, rfl, rfl, hi0⟩ _
  refine T_seq ?_
  refine T_seq ?_
  refine T_region ?_
  refine TL_q (Qt_move (.int .i64 _) rfl) rfl ?_
  refine TL_q (Qt_move (.slice _ _ _) rfl) rfl ?_
  refine TL_q (Qt_len_slice rfl Try.underlying30) rfl ?_
  refine TL_q (Qt_lss rfl rfl) rfl ?_
  refine TL_nil ?_
  refine X_then ?_
  refine T_cond rfl (fun h8 => ?_) (fun h8 => ?_)
  ·
    have p8 := h8
    try simp only [decide_eq_true_eq, decide_eq_false_iff_not, Bool.not_eq_true', Bool.not_eq_false', Option.isNone_iff_eq_none, ne_eq, Decidable.not_not, Int.not_lt, Int.not_le] at p8
    have hi : i < vs.length := by omega
    refine T_skip ?_
    refine X_then ?_
    refine T_seq ?_
    refine T_block ?_
    refine T_seq ?_
    refine T_region ?_
    refine TL_q (Qt_move (.slice _ _ _) rfl) rfl ?_
    refine TL_q (Qt_move (.int .i64 _) rfl) rfl ?_
    refine TL_q (Qt_indexN rfl rfl (by omega) (by omega)) rfl ?_
    refine TL_q (Qt_fieldR rfl 38 (vote_pos hi)) rfl ?_
    refine TL_q (Qt_loadRs 38 (.int .i64 _) rfl (vote_get vs i 0 hi (by decide) inferInstance)) rfl ?_
    refine TL_q (Qt_gtr rfl rfl) rfl ?_
    refine TL_q (Qt_move (.bool _) rfl) rfl ?_
    refine TL_split 17 rfl (fun h17 => ?_) (fun h17 => ?_)
    ·
      have p17 := h17
      try simp only [decide_eq_true_eq, decide_eq_false_iff_not, Bool.not_eq_true', Bool.not_eq_false', Option.isNone_iff_eq_none, ne_eq, Decidable.not_not, Int.not_lt, Int.not_le] at p17
      refine TL_take rfl rfl h17 ?_
      refine TL_q (Qt_move (.slice _ _ _) rfl) rfl ?_
      refine TL_take rfl rfl h17 ?_
      refine TL_q (Qt_move (.int .i64 _) rfl) rfl ?_
      refine TL_take rfl rfl h17 ?_
      refine TL_q (Qt_indexN rfl rfl (by omega) (by omega)) rfl ?_
      refine TL_take rfl rfl h17 ?_
      refine TL_q (Qt_fieldR rfl 38 (vote_pos hi)) rfl ?_
      refine TL_take rfl rfl h17 ?_
      refine TL_q (Qt_loadRs 38 (.int .i64 _) rfl (vote_get vs i 3 hi (by decide) inferInstance)) rfl ?_
      refine TL_take rfl rfl h17 ?_
      refine TL_q (Qt_move (.int .i64 _) rfl) rfl ?_
      refine TL_take rfl rfl h17 ?_
      refine TL_q (Qt_gtr rfl rfl) rfl ?_
      refine TL_q (Qt_pick_t (.bool _) rfl h17 rfl) rfl ?_
      refine TL_nil ?_
      refine X_then ?_
      refine T_cond rfl (fun h25 => ?_) (fun h25 => ?_)
      ·
        have p25 := h25
        try simp only [decide_eq_true_eq, decide_eq_false_iff_not, Bool.not_eq_true', Bool.not_eq_false', Option.isNone_iff_eq_none, ne_eq, Decidable.not_not, Int.not_lt, Int.not_le] at p25
        have hstep : slotS ((vs.take i).foldl slotS 0) vs[i] = vs[i].slot := if_pos (by first | exact ⟨by omega, by omega⟩ | simp_all)
        refine T_region ?_
        refine TL_q (Qt_move (.slice _ _ _) rfl) rfl ?_
        refine TL_q (Qt_move (.int .i64 _) rfl) rfl ?_
        refine TL_q (Qt_indexN rfl rfl (by omega) (by omega)) rfl ?_
        refine TL_q (Qt_fieldR rfl 38 (vote_pos hi)) rfl ?_
        refine TL_q (Qt_loadRs 38 (.int .i64 _) rfl (vote_get vs i 3 hi (by decide) inferInstance)) rfl ?_
        refine TL_q (Qt_assign (.int .i64 _) rfl) rfl ?_
        refine TL_nil ?_
        refine X_block ?_
        refine X_then ?_
        refine T_region ?_
        refine TL_q (Qt_move (.int .i64 _) rfl) rfl ?_
        first
          | refine TL_q (Qt_add rfl rfl (by omega) (by omega)) rfl ?_
          | refine TL_q (Qt_addw rfl rfl) rfl ?_
        refine TL_q (Qt_assign (.int .i64 _) rfl) rfl ?_
        refine TL_nil ?_
        refine X_loop _ (by repeat (first | with_reducible exact agree_refl | refine agree_upd rfl ?_ | refine agree_mix rfl ?_ | refine agree_setAll rfl ?_)) (⟨i + 1, by rw [foldl_snoc slotS 0 vs i hi, hstep]; rfl, rfl, by omega⟩) (by show vs.length - (i + 1 : Int).toNat < vs.length - (i : Int).toNat; omega) ((Subs.st inferInstance))
      ·
        have p25 := h25
        try simp only [decide_eq_true_eq, decide_eq_false_iff_not, Bool.not_eq_true', Bool.not_eq_false', Option.isNone_iff_eq_none, ne_eq, Decidable.not_not, Int.not_lt, Int.not_le] at p25
        have hstep : slotS ((vs.take i).foldl slotS 0) vs[i] = (vs.take i).foldl slotS 0 := if_neg (by first | omega | simp_all)
        refine T_skip ?_
        refine X_block ?_
        refine X_then ?_
        refine T_region ?_
        refine TL_q (Qt_move (.int .i64 _) rfl) rfl ?_
        first
          | refine TL_q (Qt_add rfl rfl (by omega) (by omega)) rfl ?_
          | refine TL_q (Qt_addw rfl rfl) rfl ?_
        refine TL_q (Qt_assign (.int .i64 _) rfl) rfl ?_
        refine TL_nil ?_
        refine X_loop _ (by repeat (first | with_reducible exact agree_refl | refine agree_upd rfl ?_ | refine agree_mix rfl ?_ | refine agree_setAll rfl ?_)) (⟨i + 1, by rw [foldl_snoc slotS 0 vs i hi, hstep]; rfl, rfl, by omega⟩) (by show vs.length - (i + 1 : Int).toNat < vs.length - (i : Int).toNat; omega) ((Subs.st inferInstance))
    ·
      have p17 := h17
      try simp only [decide_eq_true_eq, decide_eq_false_iff_not, Bool.not_eq_true', Bool.not_eq_false', Option.isNone_iff_eq_none, ne_eq, Decidable.not_not, Int.not_lt, Int.not_le] at p17
      refine TL_pass rfl rfl h17 rfl ?_
      refine TL_pass rfl rfl h17 rfl ?_
      refine TL_pass rfl rfl h17 rfl ?_
      refine TL_pass rfl rfl h17 rfl ?_
      refine TL_pass rfl rfl h17 rfl ?_
      refine TL_pass rfl rfl h17 rfl ?_
      refine TL_pass rfl rfl h17 rfl ?_
      refine TL_q (Qt_pick_f (.bool _) rfl h17 rfl) rfl ?_
      refine TL_nil ?_
      refine X_then ?_
      refine T_cond_false rfl rfl ?_
      have hstep : slotS ((vs.take i).foldl slotS 0) vs[i] = (vs.take i).foldl slotS 0 := if_neg (by first | omega | simp_all)
      refine T_skip ?_
      refine X_block ?_
      refine X_then ?_
      refine T_region ?_
      refine TL_q (Qt_move (.int .i64 _) rfl) rfl ?_
      first
        | refine TL_q (Qt_add rfl rfl (by omega) (by omega)) rfl ?_
        | refine TL_q (Qt_addw rfl rfl) rfl ?_
      refine TL_q (Qt_assign (.int .i64 _) rfl) rfl ?_
      refine TL_nil ?_
      refine X_loop _ (by repeat (first | with_reducible exact agree_refl | refine agree_upd rfl ?_ | refine agree_mix rfl ?_ | refine agree_setAll rfl ?_)) (⟨i + 1, by rw [foldl_snoc slotS 0 vs i hi, hstep]; rfl, rfl, by omega⟩) (by show vs.length - (i + 1 : Int).toNat < vs.length - (i : Int).toNat; omega) ((Subs.st inferInstance))
  ·
    have p8 := h8
    try simp only [decide_eq_true_eq, decide_eq_false_iff_not, Bool.not_eq_true', Bool.not_eq_false', Option.isNone_iff_eq_none, ne_eq, Decidable.not_not, Int.not_lt, Int.not_le] at p8
    have et : vs.take i = vs := List.take_of_length_le (by omega)
    refine T_exit ?_
    refine X_then_exit ?_
    refine X_loop_exit ?_
    refine X_block_exit ?_
    refine X_then ?_
    refine T_seq ?_
    refine T_region ?_
    refine TL_q (Qt_move (.int .i64 _) rfl) rfl ?_
    refine TL_q (Qt_assign (.int .i64 _) rfl) rfl ?_
    refine TL_nil ?_
    refine X_then ?_
    refine T_ret ?_
    exact X_ret () [_] Try.results32 ⟨rfl, trivial⟩ (by show Value.int .i64 ((vs.take i).foldl slotS 0) = _; rw [et]; rfl) (Subs.st inferInstance)
set_option maxHeartbeats 1000000 in
theorem rReg_c {w0 : World} {H : List SA} {a : Option Addr} {vs : List VoteV} {c : Nat} [hr : RdC w0 H (.slice a vs.length c) 38 (vs.flatMap VoteV.list)] (hn : vs.length ≤ 1000000) :
    CT Try.prog w0 (H) 33 [.slice a vs.length c] (α := Unit) (fun _ => .tuple #[.int .i64 (regL vs).1, .int .i64 (regL vs).2]) (fun _ => H) := by
  refine CT_intro Try.func33 rfl Try.ntmps33 rfl ?_
  refine T_seq ?_
  refine T_region ?_
  refine TL_q (Qt_assign (.int .i64 _) rfl) rfl ?_
  refine TL_q (Qt_assign (.int .i64 _) rfl) rfl ?_
  refine TL_nil ?_
  refine X_then ?_
  refine T_seq ?_
  refine T_region ?_
  refine TL_q (Qt_assign (.int .i64 _) rfl) rfl ?_
  refine TL_nil ?_
  refine X_then ?_
  refine T_seq ?_
  refine T_region ?_
  refine TL_q (Qt_assign (.int .i64 _) rfl) rfl ?_
  refine TL_nil ?_
  refine X_then ?_
  refine T_seq ?_
  refine T_seq ?_
  refine T_region ?_
  refine TL_q (Qt_assign (.int .i64 _) rfl) rfl ?_
  refine TL_nil ?_
  refine X_then ?_
  refine T_block ?_
  refine T_loop [4, 5, 6, 7, 8, 9, 10, 11, 12, 13, 14, 15, 16, 17, 18, 19, 20, 21, 22, 23, 24, 25, 26, 27, 28, 29, 30, 31, 32, 33, 34, 35, 36, 37, 38, 39, 40, 41, 42] [6, 4, 5] (fun us H' => ∃ i : Nat, us = [.int .i64 (i : Int), .int .i64 ((vs.take i).foldl regS (-1, -1)).1, .int .i64 ((vs.take i).foldl regS (-1, -1)).2] ∧ H = H' ∧ i ≤ vs.length) (fun us => match us with | .int _ i :: _ => vs.length - i.toNat | _ => 0) ⟨0, rfl, rfl, by omega⟩ (Subs.st inferInstance) ?_
  rintro τ0 _ _  ⟨i, rfl, rfl, hi0⟩ _
  refine T_seq ?_
  refine T_seq ?_
  refine T_region ?_
  refine TL_q (Qt_move (.int .i64 _) rfl) rfl ?_
  refine TL_q (Qt_move (.slice _ _ _) rfl) rfl ?_
  refine TL_q (Qt_len_slice rfl Try.underlying30) rfl ?_
  refine TL_q (Qt_lss rfl rfl) rfl ?_
  refine TL_nil ?_
  refine X_then ?_
  refine T_cond rfl (fun h11 => ?_) (fun h11 => ?_)
  ·
    have p11 := h11
    try simp only [decide_eq_true_eq, decide_eq_false_iff_not, Bool.not_eq_true', Bool.not_eq_false', Option.isNone_iff_eq_none, ne_eq, Decidable.not_not, Int.not_lt, Int.not_le] at p11
    have hi : i < vs.length := by omega
    refine T_skip ?_
    refine X_then ?_
    refine T_seq ?_
    refine T_block ?_
    refine T_seq ?_
    refine T_region ?_
    refine TL_q (Qt_move (.slice _ _ _) rfl) rfl ?_
    refine TL_q (Qt_move (.int .i64 _) rfl) rfl ?_
    refine TL_q (Qt_indexN rfl rfl (by omega) (by omega)) rfl ?_
    refine TL_q (Qt_loadVote (k := i) rfl hi) rfl ?_
    refine TL_e rfl (Ef_allocN (fun b7 => ?_))
    refine TL_n (Ef_storeN rfl rfl (?_))
    refine TL_nil ?_
    refine X_then ?_
    refine T_seq ?_
    refine T_region ?_
    refine TL_q (Qt_fieldAddr 0 rfl rfl) rfl ?_
    refine TL_q (Qt_load1 rfl) rfl ?_
    refine TL_q (Qt_eql rfl rfl) rfl ?_
    refine TL_q (Qt_move (.bool _) rfl) rfl ?_
    refine TL_split 21 rfl (fun h21 => ?_) (fun h21 => ?_)
    ·
      have p21 := h21
      try simp only [decide_eq_true_eq, decide_eq_false_iff_not, Bool.not_eq_true', Bool.not_eq_false', Option.isNone_iff_eq_none, ne_eq, Decidable.not_not, Int.not_lt, Int.not_le] at p21
      refine TL_take rfl rfl h21 ?_
      refine TL_q (Qt_fieldAddr 1 rfl rfl) rfl ?_
      refine TL_take rfl rfl h21 ?_
      refine TL_q (Qt_load1 rfl) rfl ?_
      refine TL_take rfl rfl h21 ?_
      refine TL_q (Qt_move (.int .i64 _) rfl) rfl ?_
      refine TL_take rfl rfl h21 ?_
      refine TL_q (Qt_gtr rfl rfl) rfl ?_
      refine TL_take rfl rfl h21 ?_
      refine TL_q (Qt_move (.bool _) rfl) rfl ?_
      refine TL_split 26 rfl (fun h26 => ?_) (fun h26 => ?_)
      ·
        have p26 := h26
        try simp only [decide_eq_true_eq, decide_eq_false_iff_not, Bool.not_eq_true', Bool.not_eq_false', Option.isNone_iff_eq_none, ne_eq, Decidable.not_not, Int.not_lt, Int.not_le] at p26
        refine TL_pass rfl rfl h26 rfl ?_
        refine TL_pass rfl rfl h26 rfl ?_
        refine TL_pass rfl rfl h26 rfl ?_
        refine TL_pass rfl rfl h26 rfl ?_
        refine TL_pass rfl rfl h26 rfl ?_
        refine TL_passU rfl rfl rfl ?_
        refine TL_passU rfl rfl rfl ?_
        refine TL_passU rfl rfl rfl ?_
        refine TL_passU rfl rfl rfl ?_
        refine TL_pass rfl rfl h26 rfl ?_
        refine TL_take rfl rfl h21 ?_
        refine TL_q (Qt_pick_t (.bool _) rfl h26 rfl) rfl ?_
        refine TL_q (Qt_pick_t (.bool _) rfl h21 rfl) rfl ?_
        refine TL_nil ?_
        refine X_then ?_
        refine T_cond_true rfl rfl ?_
        have hstep : regS ((vs.take i).foldl regS (-1, -1)) vs[i] = (vs[i].view, vs[i].reg) := if_pos (by first | omega | simp_all)
        refine T_seq ?_
        refine T_region ?_
        refine TL_q (Qt_fieldAddr 1 rfl rfl) rfl ?_
        refine TL_q (Qt_load1 rfl) rfl ?_
        refine TL_q (Qt_assign (.int .i64 _) rfl) rfl ?_
        refine TL_nil ?_
        refine X_then ?_
        refine T_region ?_
        refine TL_q (Qt_fieldAddr 2 rfl rfl) rfl ?_
        refine TL_q (Qt_load1 rfl) rfl ?_
        refine TL_q (Qt_assign (.int .i64 _) rfl) rfl ?_
        refine TL_nil ?_
        refine X_block ?_
        refine X_then ?_
        refine T_region ?_
        refine TL_q (Qt_move (.int .i64 _) rfl) rfl ?_
        first
          | refine TL_q (Qt_add rfl rfl (by omega) (by omega)) rfl ?_
          | refine TL_q (Qt_addw rfl rfl) rfl ?_
        refine TL_q (Qt_assign (.int .i64 _) rfl) rfl ?_
        refine TL_nil ?_
        refine X_loop _ (by repeat (first | with_reducible exact agree_refl | refine agree_upd rfl ?_ | refine agree_mix rfl ?_ | refine agree_setAll rfl ?_)) (⟨i + 1, by rw [foldl_snoc regS (-1, -1) vs i hi, hstep]; rfl, rfl, by omega⟩) (by show vs.length - (i + 1 : Int).toNat < vs.length - (i : Int).toNat; omega) ((Subs.st inferInstance))
      ·
        have p26 := h26
        try simp only [decide_eq_true_eq, decide_eq_false_iff_not, Bool.not_eq_true', Bool.not_eq_false', Option.isNone_iff_eq_none, ne_eq, Decidable.not_not, Int.not_lt, Int.not_le] at p26
        refine TL_take rfl rfl h26 ?_
        refine TL_q (Qt_fieldAddr 1 rfl rfl) rfl ?_
        refine TL_take rfl rfl h26 ?_
        refine TL_q (Qt_load1 rfl) rfl ?_
        refine TL_take rfl rfl h26 ?_
        refine TL_q (Qt_move (.int .i64 _) rfl) rfl ?_
        refine TL_take rfl rfl h26 ?_
        refine TL_q (Qt_eql rfl rfl) rfl ?_
        refine TL_take rfl rfl h26 ?_
        refine TL_q (Qt_move (.bool _) rfl) rfl ?_
        refine TL_split 31 rfl (fun h31 => ?_) (fun h31 => ?_)
        ·
          have p31 := h31
          try simp only [decide_eq_true_eq, decide_eq_false_iff_not, Bool.not_eq_true', Bool.not_eq_false', Option.isNone_iff_eq_none, ne_eq, Decidable.not_not, Int.not_lt, Int.not_le] at p31
          refine TL_take rfl rfl h31 ?_
          refine TL_q (Qt_fieldAddr 2 rfl rfl) rfl ?_
          refine TL_take rfl rfl h31 ?_
          refine TL_q (Qt_load1 rfl) rfl ?_
          refine TL_take rfl rfl h31 ?_
          refine TL_q (Qt_move (.int .i64 _) rfl) rfl ?_
          refine TL_take rfl rfl h31 ?_
          refine TL_q (Qt_gtr rfl rfl) rfl ?_
          refine TL_take rfl rfl h26 ?_
          refine TL_q (Qt_pick_t (.bool _) rfl h31 rfl) rfl ?_
          refine TL_take rfl rfl h21 ?_
          refine TL_q (Qt_pick_f (.bool _) rfl h26 rfl) rfl ?_
          refine TL_q (Qt_pick_t (.bool _) rfl h21 rfl) rfl ?_
          refine TL_nil ?_
          refine X_then ?_
          refine T_cond rfl (fun h38 => ?_) (fun h38 => ?_)
          ·
            have p38 := h38
            try simp only [decide_eq_true_eq, decide_eq_false_iff_not, Bool.not_eq_true', Bool.not_eq_false', Option.isNone_iff_eq_none, ne_eq, Decidable.not_not, Int.not_lt, Int.not_le] at p38
            have hstep : regS ((vs.take i).foldl regS (-1, -1)) vs[i] = (vs[i].view, vs[i].reg) := if_pos (by first | omega | simp_all)
            refine T_seq ?_
            refine T_region ?_
            refine TL_q (Qt_fieldAddr 1 rfl rfl) rfl ?_
            refine TL_q (Qt_load1 rfl) rfl ?_
            refine TL_q (Qt_assign (.int .i64 _) rfl) rfl ?_
            refine TL_nil ?_
            refine X_then ?_
            refine T_region ?_
            refine TL_q (Qt_fieldAddr 2 rfl rfl) rfl ?_
            refine TL_q (Qt_load1 rfl) rfl ?_
            refine TL_q (Qt_assign (.int .i64 _) rfl) rfl ?_
            refine TL_nil ?_
            refine X_block ?_
            refine X_then ?_
            refine T_region ?_
            refine TL_q (Qt_move (.int .i64 _) rfl) rfl ?_
            first
              | refine TL_q (Qt_add rfl rfl (by omega) (by omega)) rfl ?_
              | refine TL_q (Qt_addw rfl rfl) rfl ?_
            refine TL_q (Qt_assign (.int .i64 _) rfl) rfl ?_
            refine TL_nil ?_
            refine X_loop _ (by repeat (first | with_reducible exact agree_refl | refine agree_upd rfl ?_ | refine agree_mix rfl ?_ | refine agree_setAll rfl ?_)) (⟨i + 1, by rw [foldl_snoc regS (-1, -1) vs i hi, hstep]; rfl, rfl, by omega⟩) (by show vs.length - (i + 1 : Int).toNat < vs.length - (i : Int).toNat; omega) ((Subs.st inferInstance))
          ·
            have p38 := h38
            try simp only [decide_eq_true_eq, decide_eq_false_iff_not, Bool.not_eq_true', Bool.not_eq_false', Option.isNone_iff_eq_none, ne_eq, Decidable.not_not, Int.not_lt, Int.not_le] at p38
            have hstep : regS ((vs.take i).foldl regS (-1, -1)) vs[i] = ((vs.take i).foldl regS (-1, -1)) := if_neg (by first | omega | simp_all)
            refine T_skip ?_
            refine X_block ?_
            refine X_then ?_
            refine T_region ?_
            refine TL_q (Qt_move (.int .i64 _) rfl) rfl ?_
            first
              | refine TL_q (Qt_add rfl rfl (by omega) (by omega)) rfl ?_
              | refine TL_q (Qt_addw rfl rfl) rfl ?_
            refine TL_q (Qt_assign (.int .i64 _) rfl) rfl ?_
            refine TL_nil ?_
            refine X_loop _ (by repeat (first | with_reducible exact agree_refl | refine agree_upd rfl ?_ | refine agree_mix rfl ?_ | refine agree_setAll rfl ?_)) (⟨i + 1, by rw [foldl_snoc regS (-1, -1) vs i hi, hstep]; rfl, rfl, by omega⟩) (by show vs.length - (i + 1 : Int).toNat < vs.length - (i : Int).toNat; omega) ((Subs.st inferInstance))
        ·
          have p31 := h31
          try simp only [decide_eq_true_eq, decide_eq_false_iff_not, Bool.not_eq_true', Bool.not_eq_false', Option.isNone_iff_eq_none, ne_eq, Decidable.not_not, Int.not_lt, Int.not_le] at p31
          refine TL_pass rfl rfl h31 rfl ?_
          refine TL_pass rfl rfl h31 rfl ?_
          refine TL_pass rfl rfl h31 rfl ?_
          refine TL_pass rfl rfl h31 rfl ?_
          refine TL_take rfl rfl h26 ?_
          refine TL_q (Qt_pick_f (.bool _) rfl h31 rfl) rfl ?_
          refine TL_take rfl rfl h21 ?_
          refine TL_q (Qt_pick_f (.bool _) rfl h26 rfl) rfl ?_
          refine TL_q (Qt_pick_t (.bool _) rfl h21 rfl) rfl ?_
          refine TL_nil ?_
          refine X_then ?_
          refine T_cond_false rfl rfl ?_
          have hstep : regS ((vs.take i).foldl regS (-1, -1)) vs[i] = ((vs.take i).foldl regS (-1, -1)) := if_neg (by first | omega | simp_all)
          refine T_skip ?_
          refine X_block ?_
          refine X_then ?_
          refine T_region ?_
          refine TL_q (Qt_move (.int .i64 _) rfl) rfl ?_
          first
            | refine TL_q (Qt_add rfl rfl (by omega) (by omega)) rfl ?_
            | refine TL_q (Qt_addw rfl rfl) rfl ?_
          refine TL_q (Qt_assign (.int .i64 _) rfl) rfl ?_
          refine TL_nil ?_
          refine X_loop _ (by repeat (first | with_reducible exact agree_refl | refine agree_upd rfl ?_ | refine agree_mix rfl ?_ | refine agree_setAll rfl ?_)) (⟨i + 1, by rw [foldl_snoc regS (-1, -1) vs i hi, hstep]; rfl, rfl, by omega⟩) (by show vs.length - (i + 1 : Int).toNat < vs.length - (i : Int).toNat; omega) ((Subs.st inferInstance))
    ·
      have p21 := h21
      try simp only [decide_eq_true_eq, decide_eq_false_iff_not, Bool.not_eq_true', Bool.not_eq_false', Option.isNone_iff_eq_none, ne_eq, Decidable.not_not, Int.not_lt, Int.not_le] at p21
      refine TL_pass rfl rfl h21 rfl ?_
      refine TL_pass rfl rfl h21 rfl ?_
      refine TL_pass rfl rfl h21 rfl ?_
      refine TL_pass rfl rfl h21 rfl ?_
      refine TL_pass rfl rfl h21 rfl ?_
      refine TL_passU rfl rfl rfl ?_
      refine TL_passU rfl rfl rfl ?_
      refine TL_passU rfl rfl rfl ?_
      refine TL_passU rfl rfl rfl ?_
      refine TL_passU rfl rfl rfl ?_
      refine TL_passU rfl rfl rfl ?_
      refine TL_passU rfl rfl rfl ?_
      refine TL_passU rfl rfl rfl ?_
      refine TL_passU rfl rfl rfl ?_
      refine TL_passU rfl rfl rfl ?_
      refine TL_pass rfl rfl h21 rfl ?_
      refine TL_q (Qt_pick_f (.bool _) rfl h21 rfl) rfl ?_
      refine TL_nil ?_
      refine X_then ?_
      refine T_cond_false rfl rfl ?_
      have hstep : regS ((vs.take i).foldl regS (-1, -1)) vs[i] = ((vs.take i).foldl regS (-1, -1)) := if_neg (by first | omega | simp_all)
      refine T_skip ?_
      refine X_block ?_
      refine X_then ?_
      refine T_region ?_
      refine TL_q (Qt_move (.int .i64 _) rfl) rfl ?_
      first
        | refine TL_q (Qt_add rfl rfl (by omega) (by omega)) rfl ?_
        | refine TL_q (Qt_addw rfl rfl) rfl ?_
      refine TL_q (Qt_assign (.int .i64 _) rfl) rfl ?_
      refine TL_nil ?_
      refine X_loop _ (by repeat (first | with_reducible exact agree_refl | refine agree_upd rfl ?_ | refine agree_mix rfl ?_ | refine agree_setAll rfl ?_)) (⟨i + 1, by rw [foldl_snoc regS (-1, -1) vs i hi, hstep]; rfl, rfl, by omega⟩) (by show vs.length - (i + 1 : Int).toNat < vs.length - (i : Int).toNat; omega) ((Subs.st inferInstance))
  ·
    have p11 := h11
    try simp only [decide_eq_true_eq, decide_eq_false_iff_not, Bool.not_eq_true', Bool.not_eq_false', Option.isNone_iff_eq_none, ne_eq, Decidable.not_not, Int.not_lt, Int.not_le] at p11
    have et : vs.take i = vs := List.take_of_length_le (by omega)
    refine T_exit ?_
    refine X_then_exit ?_
    refine X_loop_exit ?_
    refine X_block_exit ?_
    refine X_then ?_
    refine T_seq ?_
    refine T_region ?_
    refine TL_q (Qt_move (.int .i64 _) rfl) rfl ?_
    refine TL_q (Qt_move (.int .i64 _) rfl) rfl ?_
    refine TL_q (Qt_assign (.int .i64 _) rfl) rfl ?_
    refine TL_q (Qt_assign (.int .i64 _) rfl) rfl ?_
    refine TL_nil ?_
    refine X_then ?_
    refine T_ret ?_
    exact X_ret () [_, _] Try.results33 ⟨rfl, rfl, trivial⟩ (by show Value.tuple #[.int .i64 ((vs.take i).foldl regS (-1, -1)).1, .int .i64 ((vs.take i).foldl regS (-1, -1)).2] = _; rw [et]; rfl) (Subs.st inferInstance)
set_option maxHeartbeats 1000000 in
theorem rWrote_c {w0 : World} {H : List SA} {a : Option Addr} {vs : List VoteV} {c : Nat} [hr : RdC w0 H (.slice a vs.length c) 38 (vs.flatMap VoteV.list)] (hn : vs.length ≤ 1000000) {view reg : Int} :
    CT Try.prog w0 (H) 35 [.slice a vs.length c, .int .i64 view, .int .i64 reg] (α := Unit) (fun _ => .tuple #[.agg ((wroteL vs ⟨view, reg⟩).getD VoteV.zero).cells, .bool (wroteL vs ⟨view, reg⟩).isSome]) (fun _ => H) := by
  refine CT_intro Try.func35 rfl Try.ntmps35 rfl ?_
  refine T_seq ?_
  refine T_region ?_
  refine TL_e rfl (Ef_allocN (fun b6 => ?_))
  refine TL_q (Qt_assign (.bool _) rfl) rfl ?_
  refine TL_nil ?_
  refine X_then ?_
  refine T_seq ?_
  refine T_region ?_
  refine TL_q (Qt_move (.slice _ _ _) rfl) rfl ?_
  refine TL_e rfl (Ef_call (rSlot_c hn) rfl (fun x11 => ?_))
  refine TL_q (Qt_assign (.int .i64 _) rfl) rfl ?_
  refine TL_nil ?_
  refine X_then ?_
  refine T_seq ?_
  refine T_seq ?_
  refine T_region ?_
  refine TL_q (Qt_assign (.int .i64 _) rfl) rfl ?_
  refine TL_nil ?_
  refine X_then ?_
  refine T_block ?_
  refine T_loop [7, 9, 12, 13, 14, 15, 16, 17, 18, 19, 20, 21, 22, 23, 24, 25, 26, 27, 28, 29, 30, 31, 32, 33, 34, 35, 36, 37, 38, 39, 40, 41, 42, 43, 44, 45, 46, 47, 48, 49, 50, 51, 52, 53, 54] [9] (fun us H' => ∃ i : Nat, us = [.int .i64 (i : Int)] ∧ blk b6 (.cells VoteV.zero.cells 27 (0, 0)) :: H = H' ∧ i ≤ vs.length ∧ (vs.take i).any (isW (slotL vs) ⟨view, reg⟩) = false) (fun us => match us with | .int _ i :: _ => vs.length - i.toNat | _ => 0) ⟨0, rfl, rfl, by omega, rfl⟩ (Subs.st inferInstance) ?_
  rintro τ0 _ _  ⟨i, rfl, rfl, hi0, hpre⟩ _
  refine T_seq ?_
  refine T_seq ?_
  refine T_region ?_
  refine TL_q (Qt_move (.int .i64 _) rfl) rfl ?_
  refine TL_q (Qt_move (.slice _ _ _) rfl) rfl ?_
  refine TL_q (Qt_len_slice rfl Try.underlying30) rfl ?_
  refine TL_q (Qt_lss rfl rfl) rfl ?_
  refine TL_nil ?_
  refine X_then ?_
  refine T_cond rfl (fun h15 => ?_) (fun h15 => ?_)
  ·
    have p15 := h15
    try simp only [decide_eq_true_eq, decide_eq_false_iff_not, Bool.not_eq_true', Bool.not_eq_false', Option.isNone_iff_eq_none, ne_eq, Decidable.not_not, Int.not_lt, Int.not_le] at p15
    have hi : i < vs.length := by omega
    refine T_skip ?_
    refine X_then ?_
    refine T_seq ?_
    refine T_block ?_
    refine T_seq ?_
    refine T_region ?_
    refine TL_q (Qt_move (.slice _ _ _) rfl) rfl ?_
    refine TL_q (Qt_move (.int .i64 _) rfl) rfl ?_
    refine TL_q (Qt_indexN rfl rfl (by omega) (by omega)) rfl ?_
    refine TL_q (Qt_fieldR rfl 38 (vote_pos hi)) rfl ?_
    refine TL_q (Qt_loadRs 38 (.int .i64 _) rfl (vote_get vs i 0 hi (by decide) inferInstance)) rfl ?_
    refine TL_q (Qt_eql rfl rfl) rfl ?_
    refine TL_q (Qt_move (.bool _) rfl) rfl ?_
    refine TL_split 24 rfl (fun h24 => ?_) (fun h24 => ?_)
    ·
      have p24 := h24
      try simp only [decide_eq_true_eq, decide_eq_false_iff_not, Bool.not_eq_true', Bool.not_eq_false', Option.isNone_iff_eq_none, ne_eq, Decidable.not_not, Int.not_lt, Int.not_le] at p24
      refine TL_take rfl rfl h24 ?_
      refine TL_q (Qt_move (.slice _ _ _) rfl) rfl ?_
      refine TL_take rfl rfl h24 ?_
      refine TL_q (Qt_move (.int .i64 _) rfl) rfl ?_
      refine TL_take rfl rfl h24 ?_
      refine TL_q (Qt_indexN rfl rfl (by omega) (by omega)) rfl ?_
      refine TL_take rfl rfl h24 ?_
      refine TL_q (Qt_fieldR rfl 38 (vote_pos hi)) rfl ?_
      refine TL_take rfl rfl h24 ?_
      refine TL_q (Qt_loadRs 38 (.int .i64 _) rfl (vote_get vs i 3 hi (by decide) inferInstance)) rfl ?_
      refine TL_take rfl rfl h24 ?_
      refine TL_q (Qt_move (.int .i64 _) rfl) rfl ?_
      refine TL_take rfl rfl h24 ?_
      refine TL_q (Qt_eql rfl rfl) rfl ?_
      refine TL_q (Qt_pick_t (.bool _) rfl h24 rfl) rfl ?_
      refine TL_q (Qt_move (.bool _) rfl) rfl ?_
      refine TL_split 33 rfl (fun h33 => ?_) (fun h33 => ?_)
      ·
        have p33 := h33
        try simp only [decide_eq_true_eq, decide_eq_false_iff_not, Bool.not_eq_true', Bool.not_eq_false', Option.isNone_iff_eq_none, ne_eq, Decidable.not_not, Int.not_lt, Int.not_le] at p33
        refine TL_take rfl rfl h33 ?_
        refine TL_q (Qt_move (.slice _ _ _) rfl) rfl ?_
        refine TL_take rfl rfl h33 ?_
        refine TL_q (Qt_move (.int .i64 _) rfl) rfl ?_
        refine TL_take rfl rfl h33 ?_
        refine TL_q (Qt_indexN rfl rfl (by omega) (by omega)) rfl ?_
        refine TL_take rfl rfl h33 ?_
        refine TL_q (Qt_fieldR rfl 38 (vote_pos hi)) rfl ?_
        refine TL_take rfl rfl h33 ?_
        refine TL_q (Qt_loadRs 38 (.int .i64 _) rfl (vote_get vs i 1 hi (by decide) inferInstance)) rfl ?_
        refine TL_take rfl rfl h33 ?_
        refine TL_q (Qt_move (.int .i64 _) rfl) rfl ?_
        refine TL_take rfl rfl h33 ?_
        refine TL_q (Qt_eql rfl rfl) rfl ?_
        refine TL_q (Qt_pick_t (.bool _) rfl h33 rfl) rfl ?_
        refine TL_q (Qt_move (.bool _) rfl) rfl ?_
        refine TL_split 42 rfl (fun h42 => ?_) (fun h42 => ?_)
        ·
          have p42 := h42
          try simp only [decide_eq_true_eq, decide_eq_false_iff_not, Bool.not_eq_true', Bool.not_eq_false', Option.isNone_iff_eq_none, ne_eq, Decidable.not_not, Int.not_lt, Int.not_le] at p42
          refine TL_take rfl rfl h42 ?_
          refine TL_q (Qt_move (.slice _ _ _) rfl) rfl ?_
          refine TL_take rfl rfl h42 ?_
          refine TL_q (Qt_move (.int .i64 _) rfl) rfl ?_
          refine TL_take rfl rfl h42 ?_
          refine TL_q (Qt_indexN rfl rfl (by omega) (by omega)) rfl ?_
          refine TL_take rfl rfl h42 ?_
          refine TL_q (Qt_fieldR rfl 38 (vote_pos hi)) rfl ?_
          refine TL_take rfl rfl h42 ?_
          refine TL_q (Qt_loadRs 38 (.int .i64 _) rfl (vote_get vs i 2 hi (by decide) inferInstance)) rfl ?_
          refine TL_take rfl rfl h42 ?_
          refine TL_q (Qt_move (.int .i64 _) rfl) rfl ?_
          refine TL_take rfl rfl h42 ?_
          refine TL_q (Qt_eql rfl rfl) rfl ?_
          refine TL_q (Qt_pick_t (.bool _) rfl h42 rfl) rfl ?_
          refine TL_nil ?_
          refine X_then ?_
          refine T_cond rfl (fun h50 => ?_) (fun h50 => ?_)
          ·
            have p50 := h50
            try simp only [decide_eq_true_eq, decide_eq_false_iff_not, Bool.not_eq_true', Bool.not_eq_false', Option.isNone_iff_eq_none, ne_eq, Decidable.not_not, Int.not_lt, Int.not_le] at p50
            have hfound : wroteL vs ⟨view, reg⟩ = some vs[i] := find_found _ vs i hi hpre (by simp only [isW]; simp_all)
            refine T_seq ?_
            refine T_region ?_
            refine TL_q (Qt_move (.slice _ _ _) rfl) rfl ?_
            refine TL_q (Qt_move (.int .i64 _) rfl) rfl ?_
            refine TL_q (Qt_indexN rfl rfl (by omega) (by omega)) rfl ?_
            refine TL_q (Qt_loadVote (k := i) rfl hi) rfl ?_
            refine TL_n (Ef_storeN rfl rfl (?_))
            refine TL_q (Qt_assign (.bool _) rfl) rfl ?_
            refine TL_nil ?_
            refine X_then ?_
            refine T_ret ?_
            refine X_block_ret ?_
            refine X_then_ret ?_
            refine X_loop_ret ?_
            refine X_block_ret ?_
            refine X_then_ret ?_
            exact X_ret () [_, _] Try.results35 ⟨⟨_, rfl, res_cellN rfl⟩, rfl, trivial⟩ (by rw [hfound]; rfl) (Subs.st inferInstance)
          ·
            have p50 := h50
            try simp only [decide_eq_true_eq, decide_eq_false_iff_not, Bool.not_eq_true', Bool.not_eq_false', Option.isNone_iff_eq_none, ne_eq, Decidable.not_not, Int.not_lt, Int.not_le] at p50
            have hstep : isW (slotL vs) ⟨view, reg⟩ vs[i] = false := by simp only [isW]; simp_all
            refine T_skip ?_
            refine X_block ?_
            refine X_then ?_
            refine T_region ?_
            refine TL_q (Qt_move (.int .i64 _) rfl) rfl ?_
            first
              | refine TL_q (Qt_add rfl rfl (by omega) (by omega)) rfl ?_
              | refine TL_q (Qt_addw rfl rfl) rfl ?_
            refine TL_q (Qt_assign (.int .i64 _) rfl) rfl ?_
            refine TL_nil ?_
            refine X_loop _ (by repeat (first | with_reducible exact agree_refl | refine agree_upd rfl ?_ | refine agree_mix rfl ?_ | refine agree_setAll rfl ?_)) (⟨i + 1, rfl, rfl, by omega, any_take_snoc _ vs i hi hpre hstep⟩) (by show vs.length - (i + 1 : Int).toNat < vs.length - (i : Int).toNat; omega) ((Subs.st inferInstance))
        ·
          have p42 := h42
          try simp only [decide_eq_true_eq, decide_eq_false_iff_not, Bool.not_eq_true', Bool.not_eq_false', Option.isNone_iff_eq_none, ne_eq, Decidable.not_not, Int.not_lt, Int.not_le] at p42
          refine TL_pass rfl rfl h42 rfl ?_
          refine TL_pass rfl rfl h42 rfl ?_
          refine TL_pass rfl rfl h42 rfl ?_
          refine TL_pass rfl rfl h42 rfl ?_
          refine TL_pass rfl rfl h42 rfl ?_
          refine TL_pass rfl rfl h42 rfl ?_
          refine TL_pass rfl rfl h42 rfl ?_
          refine TL_q (Qt_pick_f (.bool _) rfl h42 rfl) rfl ?_
          refine TL_nil ?_
          refine X_then ?_
          refine T_cond_false rfl rfl ?_
          have hstep : isW (slotL vs) ⟨view, reg⟩ vs[i] = false := by simp only [isW]; simp_all
          refine T_skip ?_
          refine X_block ?_
          refine X_then ?_
          refine T_region ?_
          refine TL_q (Qt_move (.int .i64 _) rfl) rfl ?_
          first
            | refine TL_q (Qt_add rfl rfl (by omega) (by omega)) rfl ?_
            | refine TL_q (Qt_addw rfl rfl) rfl ?_
          refine TL_q (Qt_assign (.int .i64 _) rfl) rfl ?_
          refine TL_nil ?_
          refine X_loop _ (by repeat (first | with_reducible exact agree_refl | refine agree_upd rfl ?_ | refine agree_mix rfl ?_ | refine agree_setAll rfl ?_)) (⟨i + 1, rfl, rfl, by omega, any_take_snoc _ vs i hi hpre hstep⟩) (by show vs.length - (i + 1 : Int).toNat < vs.length - (i : Int).toNat; omega) ((Subs.st inferInstance))
      ·
        have p33 := h33
        try simp only [decide_eq_true_eq, decide_eq_false_iff_not, Bool.not_eq_true', Bool.not_eq_false', Option.isNone_iff_eq_none, ne_eq, Decidable.not_not, Int.not_lt, Int.not_le] at p33
        refine TL_pass rfl rfl h33 rfl ?_
        refine TL_pass rfl rfl h33 rfl ?_
        refine TL_pass rfl rfl h33 rfl ?_
        refine TL_pass rfl rfl h33 rfl ?_
        refine TL_pass rfl rfl h33 rfl ?_
        refine TL_pass rfl rfl h33 rfl ?_
        refine TL_pass rfl rfl h33 rfl ?_
        refine TL_q (Qt_pick_f (.bool _) rfl h33 rfl) rfl ?_
        refine TL_q (Qt_move (.bool _) rfl) rfl ?_
        refine TL_pass rfl rfl rfl rfl ?_
        refine TL_pass rfl rfl rfl rfl ?_
        refine TL_pass rfl rfl rfl rfl ?_
        refine TL_pass rfl rfl rfl rfl ?_
        refine TL_pass rfl rfl rfl rfl ?_
        refine TL_pass rfl rfl rfl rfl ?_
        refine TL_pass rfl rfl rfl rfl ?_
        refine TL_q (Qt_pick_f (.bool _) rfl rfl rfl) rfl ?_
        refine TL_nil ?_
        refine X_then ?_
        refine T_cond_false rfl rfl ?_
        have hstep : isW (slotL vs) ⟨view, reg⟩ vs[i] = false := by simp only [isW]; simp_all
        refine T_skip ?_
        refine X_block ?_
        refine X_then ?_
        refine T_region ?_
        refine TL_q (Qt_move (.int .i64 _) rfl) rfl ?_
        first
          | refine TL_q (Qt_add rfl rfl (by omega) (by omega)) rfl ?_
          | refine TL_q (Qt_addw rfl rfl) rfl ?_
        refine TL_q (Qt_assign (.int .i64 _) rfl) rfl ?_
        refine TL_nil ?_
        refine X_loop _ (by repeat (first | with_reducible exact agree_refl | refine agree_upd rfl ?_ | refine agree_mix rfl ?_ | refine agree_setAll rfl ?_)) (⟨i + 1, rfl, rfl, by omega, any_take_snoc _ vs i hi hpre hstep⟩) (by show vs.length - (i + 1 : Int).toNat < vs.length - (i : Int).toNat; omega) ((Subs.st inferInstance))
    ·
      have p24 := h24
      try simp only [decide_eq_true_eq, decide_eq_false_iff_not, Bool.not_eq_true', Bool.not_eq_false', Option.isNone_iff_eq_none, ne_eq, Decidable.not_not, Int.not_lt, Int.not_le] at p24
      refine TL_pass rfl rfl h24 rfl ?_
      refine TL_pass rfl rfl h24 rfl ?_
      refine TL_pass rfl rfl h24 rfl ?_
      refine TL_pass rfl rfl h24 rfl ?_
      refine TL_pass rfl rfl h24 rfl ?_
      refine TL_pass rfl rfl h24 rfl ?_
      refine TL_pass rfl rfl h24 rfl ?_
      refine TL_q (Qt_pick_f (.bool _) rfl h24 rfl) rfl ?_
      refine TL_q (Qt_move (.bool _) rfl) rfl ?_
      refine TL_pass rfl rfl rfl rfl ?_
      refine TL_pass rfl rfl rfl rfl ?_
      refine TL_pass rfl rfl rfl rfl ?_
      refine TL_pass rfl rfl rfl rfl ?_
      refine TL_pass rfl rfl rfl rfl ?_
      refine TL_pass rfl rfl rfl rfl ?_
      refine TL_pass rfl rfl rfl rfl ?_
      refine TL_q (Qt_pick_f (.bool _) rfl rfl rfl) rfl ?_
      refine TL_q (Qt_move (.bool _) rfl) rfl ?_
      refine TL_pass rfl rfl rfl rfl ?_
      refine TL_pass rfl rfl rfl rfl ?_
      refine TL_pass rfl rfl rfl rfl ?_
      refine TL_pass rfl rfl rfl rfl ?_
      refine TL_pass rfl rfl rfl rfl ?_
      refine TL_pass rfl rfl rfl rfl ?_
      refine TL_pass rfl rfl rfl rfl ?_
      refine TL_q (Qt_pick_f (.bool _) rfl rfl rfl) rfl ?_
      refine TL_nil ?_
      refine X_then ?_
      refine T_cond_false rfl rfl ?_
      have hstep : isW (slotL vs) ⟨view, reg⟩ vs[i] = false := by simp only [isW]; simp_all
      refine T_skip ?_
      refine X_block ?_
      refine X_then ?_
      refine T_region ?_
      refine TL_q (Qt_move (.int .i64 _) rfl) rfl ?_
      first
        | refine TL_q (Qt_add rfl rfl (by omega) (by omega)) rfl ?_
        | refine TL_q (Qt_addw rfl rfl) rfl ?_
      refine TL_q (Qt_assign (.int .i64 _) rfl) rfl ?_
      refine TL_nil ?_
      refine X_loop _ (by repeat (first | with_reducible exact agree_refl | refine agree_upd rfl ?_ | refine agree_mix rfl ?_ | refine agree_setAll rfl ?_)) (⟨i + 1, rfl, rfl, by omega, any_take_snoc _ vs i hi hpre hstep⟩) (by show vs.length - (i + 1 : Int).toNat < vs.length - (i : Int).toNat; omega) ((Subs.st inferInstance))
  ·
    have p15 := h15
    try simp only [decide_eq_true_eq, decide_eq_false_iff_not, Bool.not_eq_true', Bool.not_eq_false', Option.isNone_iff_eq_none, ne_eq, Decidable.not_not, Int.not_lt, Int.not_le] at p15
    have et : vs.take i = vs := List.take_of_length_le (by omega)
    rw [et] at hpre
    have hlost : wroteL vs ⟨view, reg⟩ = none := find_lost _ vs hpre
    refine T_exit ?_
    refine X_then_exit ?_
    refine X_loop_exit ?_
    refine X_block_exit ?_
    refine X_then ?_
    refine T_seq ?_
    refine T_region ?_
    refine TL_q (Qt_build [] rfl (by kernel_rfl)) rfl ?_
    refine TL_n (Ef_storeN rfl rfl (?_))
    refine TL_q (Qt_assign (.bool _) rfl) rfl ?_
    refine TL_nil ?_
    refine X_then ?_
    refine T_ret ?_
    exact X_ret () [_, _] Try.results35 ⟨⟨_, rfl, res_cellN rfl⟩, rfl, trivial⟩ (by rw [hlost]; rfl) (Subs.st inferInstance)
set_option maxHeartbeats 1000000 in
theorem rAccepted_c {w0 : World} {H : List SA} {a : Option Addr} {vs : List VoteV} {c : Nat} [hr : RdC w0 H (.slice a vs.length c) 38 (vs.flatMap VoteV.list)] (hn : vs.length ≤ 1000000) :
    CT Try.prog w0 (H) 34 [.slice a vs.length c] (α := Unit) (fun _ => .tuple #[.agg ((accL vs).getD VoteV.zero).cells, .bool (accL vs).isSome]) (fun _ => H) := by
  refine CT_intro Try.func34 rfl Try.ntmps34 rfl ?_
  refine T_seq ?_
  refine T_region ?_
  refine TL_e rfl (Ef_allocN (fun b2 => ?_))
  refine TL_q (Qt_assign (.bool _) rfl) rfl ?_
  refine TL_nil ?_
  refine X_then ?_
  refine T_seq ?_
  refine T_region ?_
  refine TL_q (Qt_move (.slice _ _ _) rfl) rfl ?_
  refine TL_e rfl (Ef_call (rSlot_c hn) rfl (fun x8 => ?_))
  refine TL_q (Qt_assign (.int .i64 _) rfl) rfl ?_
  refine TL_nil ?_
  refine X_then ?_
  refine T_seq ?_
  refine T_region ?_
  refine TL_q (Qt_assign (.int .i64 _) rfl) rfl ?_
  refine TL_nil ?_
  refine X_then ?_
  refine T_seq ?_
  refine T_seq ?_
  refine T_region ?_
  refine TL_q (Qt_assign (.int .i64 _) rfl) rfl ?_
  refine TL_nil ?_
  refine X_then ?_
  refine T_block ?_
  refine T_loop [5, 6, 9, 10, 11, 12, 13, 14, 15, 16, 17, 18, 19, 20, 21, 22, 23, 24, 25, 26, 27, 28, 29, 30, 31, 32, 33, 34, 35, 36, 37, 38, 39, 40, 41, 42, 43, 44, 45, 46, 47, 48, 49, 50, 51, 52, 53, 54, 55, 56, 57, 58, 59, 60, 61, 62, 63, 64, 65, 66, 67, 68, 69, 70, 71] [6, 5] (fun us H' => ∃ (i : Nat) (b : Int), us = [.int .i64 (i : Int), .int .i64 b] ∧ blk b2 (.cells VoteV.zero.cells 27 (0, 0)) :: H = H' ∧ i ≤ vs.length ∧ ((b = -1 ∧ ((vs.take i).foldl (accS (slotL vs)) none) = none) ∨ ∃ j : Nat, j < i ∧ b = (j : Int) ∧ ((vs.take i).foldl (accS (slotL vs)) none) = vs[j]?)) (fun us => match us with | .int _ i :: _ => vs.length - i.toNat | _ => 0) ⟨0, -1, rfl, rfl, by omega, .inl ⟨rfl, rfl⟩⟩ (Subs.st inferInstance) ?_
  rintro τ0 _ _  ⟨i, b, rfl, rfl, hi0, hb⟩ _
  refine T_seq ?_
  refine T_seq ?_
  refine T_region ?_
  refine TL_q (Qt_move (.int .i64 _) rfl) rfl ?_
  refine TL_q (Qt_move (.slice _ _ _) rfl) rfl ?_
  refine TL_q (Qt_len_slice rfl Try.underlying30) rfl ?_
  refine TL_q (Qt_lss rfl rfl) rfl ?_
  refine TL_nil ?_
  refine X_then ?_
  refine T_cond rfl (fun h12 => ?_) (fun h12 => ?_)
  ·
    have p12 := h12
    try simp only [decide_eq_true_eq, decide_eq_false_iff_not, Bool.not_eq_true', Bool.not_eq_false', Option.isNone_iff_eq_none, ne_eq, Decidable.not_not, Int.not_lt, Int.not_le] at p12
    have hi : i < vs.length := by omega
    refine T_skip ?_
    refine X_then ?_
    refine T_seq ?_
    refine T_block ?_
    refine T_seq ?_
    refine T_seq ?_
    refine T_region ?_
    refine TL_q (Qt_move (.slice _ _ _) rfl) rfl ?_
    refine TL_q (Qt_move (.int .i64 _) rfl) rfl ?_
    refine TL_q (Qt_indexN rfl rfl (by omega) (by omega)) rfl ?_
    refine TL_q (Qt_fieldR rfl 38 (vote_pos hi)) rfl ?_
    refine TL_q (Qt_loadRs 38 (.int .i64 _) rfl (vote_get vs i 0 hi (by decide) inferInstance)) rfl ?_
    refine TL_q (Qt_neq rfl rfl) rfl ?_
    refine TL_q (Qt_move (.bool _) rfl) rfl ?_
    refine TL_split 21 rfl (fun h21 => ?_) (fun h21 => ?_)
    ·
      have p21 := h21
      try simp only [decide_eq_true_eq, decide_eq_false_iff_not, Bool.not_eq_true', Bool.not_eq_false', Option.isNone_iff_eq_none, ne_eq, Decidable.not_not, Int.not_lt, Int.not_le] at p21
      refine TL_pass rfl rfl h21 rfl ?_
      refine TL_pass rfl rfl h21 rfl ?_
      refine TL_pass rfl rfl h21 rfl ?_
      refine TL_pass rfl rfl h21 rfl ?_
      refine TL_pass rfl rfl h21 rfl ?_
      refine TL_pass rfl rfl h21 rfl ?_
      refine TL_pass rfl rfl h21 rfl ?_
      refine TL_q (Qt_pick_t (.bool _) rfl h21 rfl) rfl ?_
      refine TL_nil ?_
      refine X_then ?_
      refine T_cond_true rfl rfl ?_
      have hnext : (b = -1 ∧ (vs.take (i + 1)).foldl (accS (slotL vs)) none = none) ∨ ∃ j2 : Nat, j2 < i + 1 ∧ b = (j2 : Int) ∧ (vs.take (i + 1)).foldl (accS (slotL vs)) none = vs[j2]? := by
        rw [foldl_snoc _ none vs i hi, show accS (slotL vs) ((vs.take i).foldl (accS (slotL vs)) none) vs[i] = ((vs.take i).foldl (accS (slotL vs)) none) from if_pos (by simp_all)]
        exact hb.imp id (fun ⟨j, h1, h2, h3⟩ => ⟨j, by omega, h2, h3⟩)
      refine T_exit ?_
      refine X_then_exit ?_
      refine X_block_exit ?_
      refine X_then ?_
      refine T_region ?_
      refine TL_q (Qt_move (.int .i64 _) rfl) rfl ?_
      first
        | refine TL_q (Qt_add rfl rfl (by omega) (by omega)) rfl ?_
        | refine TL_q (Qt_addw rfl rfl) rfl ?_
      refine TL_q (Qt_assign (.int .i64 _) rfl) rfl ?_
      refine TL_nil ?_
      refine X_loop _ (by repeat (first | with_reducible exact agree_refl | refine agree_upd rfl ?_ | refine agree_mix rfl ?_ | refine agree_setAll rfl ?_)) (⟨i + 1, _, rfl, rfl, by omega, hnext⟩) (by show vs.length - (i + 1 : Int).toNat < vs.length - (i : Int).toNat; omega) ((Subs.st inferInstance))
    ·
      have p21 := h21
      try simp only [decide_eq_true_eq, decide_eq_false_iff_not, Bool.not_eq_true', Bool.not_eq_false', Option.isNone_iff_eq_none, ne_eq, Decidable.not_not, Int.not_lt, Int.not_le] at p21
      refine TL_take rfl rfl h21 ?_
      refine TL_q (Qt_move (.slice _ _ _) rfl) rfl ?_
      refine TL_take rfl rfl h21 ?_
      refine TL_q (Qt_move (.int .i64 _) rfl) rfl ?_
      refine TL_take rfl rfl h21 ?_
      refine TL_q (Qt_indexN rfl rfl (by omega) (by omega)) rfl ?_
      refine TL_take rfl rfl h21 ?_
      refine TL_q (Qt_fieldR rfl 38 (vote_pos hi)) rfl ?_
      refine TL_take rfl rfl h21 ?_
      refine TL_q (Qt_loadRs 38 (.int .i64 _) rfl (vote_get vs i 3 hi (by decide) inferInstance)) rfl ?_
      refine TL_take rfl rfl h21 ?_
      refine TL_q (Qt_move (.int .i64 _) rfl) rfl ?_
      refine TL_take rfl rfl h21 ?_
      refine TL_q (Qt_neq rfl rfl) rfl ?_
      refine TL_q (Qt_pick_f (.bool _) rfl h21 rfl) rfl ?_
      refine TL_nil ?_
      refine X_then ?_
      refine T_cond rfl (fun h29 => ?_) (fun h29 => ?_)
      ·
        have p29 := h29
        try simp only [decide_eq_true_eq, decide_eq_false_iff_not, Bool.not_eq_true', Bool.not_eq_false', Option.isNone_iff_eq_none, ne_eq, Decidable.not_not, Int.not_lt, Int.not_le] at p29
        have hnext : (b = -1 ∧ (vs.take (i + 1)).foldl (accS (slotL vs)) none = none) ∨ ∃ j2 : Nat, j2 < i + 1 ∧ b = (j2 : Int) ∧ (vs.take (i + 1)).foldl (accS (slotL vs)) none = vs[j2]? := by
          rw [foldl_snoc _ none vs i hi, show accS (slotL vs) ((vs.take i).foldl (accS (slotL vs)) none) vs[i] = ((vs.take i).foldl (accS (slotL vs)) none) from if_pos (by simp_all)]
          exact hb.imp id (fun ⟨j, h1, h2, h3⟩ => ⟨j, by omega, h2, h3⟩)
        refine T_exit ?_
        refine X_then_exit ?_
        refine X_block_exit ?_
        refine X_then ?_
        refine T_region ?_
        refine TL_q (Qt_move (.int .i64 _) rfl) rfl ?_
        first
          | refine TL_q (Qt_add rfl rfl (by omega) (by omega)) rfl ?_
          | refine TL_q (Qt_addw rfl rfl) rfl ?_
        refine TL_q (Qt_assign (.int .i64 _) rfl) rfl ?_
        refine TL_nil ?_
        refine X_loop _ (by repeat (first | with_reducible exact agree_refl | refine agree_upd rfl ?_ | refine agree_mix rfl ?_ | refine agree_setAll rfl ?_)) (⟨i + 1, _, rfl, rfl, by omega, hnext⟩) (by show vs.length - (i + 1 : Int).toNat < vs.length - (i : Int).toNat; omega) ((Subs.st inferInstance))
      ·
        have p29 := h29
        try simp only [decide_eq_true_eq, decide_eq_false_iff_not, Bool.not_eq_true', Bool.not_eq_false', Option.isNone_iff_eq_none, ne_eq, Decidable.not_not, Int.not_lt, Int.not_le] at p29
        refine T_skip ?_
        refine X_then ?_
        refine T_seq ?_
        refine T_draw _ [(0, true), (1, true), (2, true), (3, true), (4, true), (5, true), (6, true), (7, true), (8, true), (9, true), (10, true), (11, true), (12, true), (13, true), (14, true), (15, true), (16, true), (17, true), (18, true), (19, true), (20, true), (21, true), (22, true), (23, true), (24, true), (25, true), (26, true), (27, true), (28, true), (29, true), (30, true), (31, true), (32, true), (33, true), (34, true), (35, true), (36, true), (37, true), (38, true), (39, true), (40, true)] (by kernel_rfl) (by kernel_rfl) rfl (by kernel_rfl) (fun _ hh => hh) (fun hns0 => ?_)
        rcases hb with ⟨rfl, hf⟩ | ⟨j, hj, rfl, hf⟩
        ·
          refine DL_q hns0 rfl (Qt_move (.int .i64 _) rfl) rfl ?_
          refine DL_q hns0 rfl (Qt_lss rfl rfl) rfl ?_
          refine DL_q hns0 rfl (Qt_move (.bool _) rfl) rfl ?_
          refine DL_split 32 rfl (fun h32 => ?_) (fun h32 => ?_)
          ·
            have p32 := h32
            try simp only [decide_eq_true_eq, decide_eq_false_iff_not, Bool.not_eq_true', Bool.not_eq_false', Option.isNone_iff_eq_none, ne_eq, Decidable.not_not, Int.not_lt, Int.not_le] at p32
            refine DL_pass hns0 rfl rfl rfl h32 rfl ?_
            refine DL_pass hns0 rfl rfl rfl h32 rfl ?_
            refine DL_pass hns0 rfl rfl rfl h32 rfl ?_
            refine DL_pass hns0 rfl rfl rfl h32 rfl ?_
            refine DL_pass hns0 rfl rfl rfl h32 rfl ?_
            refine DL_pass hns0 rfl rfl rfl h32 rfl ?_
            refine DL_pass hns0 rfl rfl rfl h32 rfl ?_
            refine DL_pass hns0 rfl rfl rfl h32 rfl ?_
            refine DL_pass hns0 rfl rfl rfl h32 rfl ?_
            refine DL_pass hns0 rfl rfl rfl h32 rfl ?_
            refine DL_pass hns0 rfl rfl rfl h32 rfl ?_
            refine DL_q hns0 rfl (Qt_pick_t (.bool _) rfl h32 rfl) rfl ?_
            refine DL_q hns0 rfl (Qt_move (.bool _) rfl) rfl ?_
            refine DL_pass hns0 rfl rfl rfl rfl rfl ?_
            refine DL_pass hns0 rfl rfl rfl rfl rfl ?_
            refine DL_pass hns0 rfl rfl rfl rfl rfl ?_
            refine DL_pass hns0 rfl rfl rfl rfl rfl ?_
            refine DL_pass hns0 rfl rfl rfl rfl rfl ?_
            refine DL_pass hns0 rfl rfl rfl rfl rfl ?_
            refine DL_pass hns0 rfl rfl rfl rfl rfl ?_
            refine DL_pass hns0 rfl rfl rfl rfl rfl ?_
            refine DL_pass hns0 rfl rfl rfl rfl rfl ?_
            refine DL_pass hns0 rfl rfl rfl rfl rfl ?_
            refine DL_pass hns0 rfl rfl rfl rfl rfl ?_
            refine DL_pass hns0 rfl rfl rfl rfl rfl ?_
            refine DL_passU hns0 rfl rfl rfl rfl ?_
            refine DL_passU hns0 rfl rfl rfl rfl ?_
            refine DL_passU hns0 rfl rfl rfl rfl ?_
            refine DL_passU hns0 rfl rfl rfl rfl ?_
            refine DL_passU hns0 rfl rfl rfl rfl ?_
            refine DL_passU hns0 rfl rfl rfl rfl ?_
            refine DL_passU hns0 rfl rfl rfl rfl ?_
            refine DL_passU hns0 rfl rfl rfl rfl ?_
            refine DL_passU hns0 rfl rfl rfl rfl ?_
            refine DL_passU hns0 rfl rfl rfl rfl ?_
            refine DL_passU hns0 rfl rfl rfl rfl ?_
            refine DL_pass hns0 rfl rfl rfl rfl rfl ?_
            refine DL_q hns0 rfl (Qt_pick_t (.bool _) rfl rfl rfl) rfl ?_
            refine DL_nil ?_
            refine X_then ?_
            refine T_cond_true rfl rfl ?_
            have hn3 : ¬ (vs[i].kind ≠ 3 ∨ vs[i].slot ≠ slotL vs) := by simp_all
            have hnext : ((i : Int) = -1 ∧ (vs.take (i + 1)).foldl (accS (slotL vs)) none = none) ∨ ∃ j2 : Nat, j2 < i + 1 ∧ (i : Int) = (j2 : Int) ∧ (vs.take (i + 1)).foldl (accS (slotL vs)) none = vs[j2]? := .inr ⟨i, by omega, rfl, by
              rw [foldl_snoc _ none vs i hi, hf, List.getElem?_eq_getElem hi]
              unfold accS
              rw [if_neg hn3]⟩
            refine T_region ?_
            refine TL_q (Qt_move (.int .i64 _) rfl) rfl ?_
            refine TL_q (Qt_assign (.int .i64 _) rfl) rfl ?_
            refine TL_nil ?_
            refine X_block ?_
            refine X_then ?_
            refine T_region ?_
            refine TL_q (Qt_move (.int .i64 _) rfl) rfl ?_
            first
              | refine TL_q (Qt_add rfl rfl (by omega) (by omega)) rfl ?_
              | refine TL_q (Qt_addw rfl rfl) rfl ?_
            refine TL_q (Qt_assign (.int .i64 _) rfl) rfl ?_
            refine TL_nil ?_
            refine X_loop _ (by repeat (first | with_reducible exact agree_refl | refine agree_upd rfl ?_ | refine agree_mix rfl ?_ | refine agree_setAll rfl ?_)) (⟨i + 1, _, rfl, rfl, by omega, hnext⟩) (by show vs.length - (i + 1 : Int).toNat < vs.length - (i : Int).toNat; omega) ((Subs.st inferInstance))
          ·
            have p32 := h32
            try simp only [decide_eq_true_eq, decide_eq_false_iff_not, Bool.not_eq_true', Bool.not_eq_false', Option.isNone_iff_eq_none, ne_eq, Decidable.not_not, Int.not_lt, Int.not_le] at p32
            all_goals omega
        ·
          refine DL_q hns0 rfl (Qt_move (.int .i64 _) rfl) rfl ?_
          refine DL_q hns0 rfl (Qt_lss rfl rfl) rfl ?_
          refine DL_q hns0 rfl (Qt_move (.bool _) rfl) rfl ?_
          refine DL_split 32 rfl (fun h32 => ?_) (fun h32 => ?_)
          ·
            have p32 := h32
            try simp only [decide_eq_true_eq, decide_eq_false_iff_not, Bool.not_eq_true', Bool.not_eq_false', Option.isNone_iff_eq_none, ne_eq, Decidable.not_not, Int.not_lt, Int.not_le] at p32
            all_goals omega
          ·
            have p32 := h32
            try simp only [decide_eq_true_eq, decide_eq_false_iff_not, Bool.not_eq_true', Bool.not_eq_false', Option.isNone_iff_eq_none, ne_eq, Decidable.not_not, Int.not_lt, Int.not_le] at p32
            have hjn : j < vs.length := by omega
            refine DL_qg hns0 rfl rfl rfl h32 (Qt_move (.slice _ _ _) rfl) rfl ?_
            refine DL_qg hns0 rfl rfl rfl h32 (Qt_move (.int .i64 _) rfl) rfl ?_
            refine DL_qg hns0 rfl rfl rfl h32 (Qt_indexN rfl rfl (by omega) (by omega)) rfl ?_
            refine DL_qg hns0 rfl rfl rfl h32 (Qt_fieldR rfl 38 (vote_pos hi)) rfl ?_
            refine DL_qg hns0 rfl rfl rfl h32 (Qt_loadRs 38 (.int .i64 _) rfl (vote_get vs i 1 hi (by decide) inferInstance)) rfl ?_
            refine DL_qg hns0 rfl rfl rfl h32 (Qt_move (.slice _ _ _) rfl) rfl ?_
            refine DL_qg hns0 rfl rfl rfl h32 (Qt_move (.int .i64 _) rfl) rfl ?_
            refine DL_qg hns0 rfl rfl rfl h32 (Qt_indexN rfl rfl (by omega) (by omega)) rfl ?_
            refine DL_qg hns0 rfl rfl rfl h32 (Qt_fieldR rfl 38 (vote_pos hi)) rfl ?_
            refine DL_qg hns0 rfl rfl rfl h32 (Qt_loadRs 38 (.int .i64 _) rfl (vote_get vs j 1 hjn (by decide) inferInstance)) rfl ?_
            refine DL_qg hns0 rfl rfl rfl h32 (Qt_gtr rfl rfl) rfl ?_
            refine DL_q hns0 rfl (Qt_pick_f (.bool _) rfl h32 rfl) rfl ?_
            refine DL_q hns0 rfl (Qt_move (.bool _) rfl) rfl ?_
            refine DL_split 45 rfl (fun h45 => ?_) (fun h45 => ?_)
            ·
              have p45 := h45
              try simp only [decide_eq_true_eq, decide_eq_false_iff_not, Bool.not_eq_true', Bool.not_eq_false', Option.isNone_iff_eq_none, ne_eq, Decidable.not_not, Int.not_lt, Int.not_le] at p45
              refine DL_pass hns0 rfl rfl rfl h45 rfl ?_
              refine DL_pass hns0 rfl rfl rfl h45 rfl ?_
              refine DL_pass hns0 rfl rfl rfl h45 rfl ?_
              refine DL_pass hns0 rfl rfl rfl h45 rfl ?_
              refine DL_pass hns0 rfl rfl rfl h45 rfl ?_
              refine DL_pass hns0 rfl rfl rfl h45 rfl ?_
              refine DL_pass hns0 rfl rfl rfl h45 rfl ?_
              refine DL_pass hns0 rfl rfl rfl h45 rfl ?_
              refine DL_pass hns0 rfl rfl rfl h45 rfl ?_
              refine DL_pass hns0 rfl rfl rfl h45 rfl ?_
              refine DL_pass hns0 rfl rfl rfl h45 rfl ?_
              refine DL_pass hns0 rfl rfl rfl h45 rfl ?_
              refine DL_passU hns0 rfl rfl rfl rfl ?_
              refine DL_passU hns0 rfl rfl rfl rfl ?_
              refine DL_passU hns0 rfl rfl rfl rfl ?_
              refine DL_passU hns0 rfl rfl rfl rfl ?_
              refine DL_passU hns0 rfl rfl rfl rfl ?_
              refine DL_passU hns0 rfl rfl rfl rfl ?_
              refine DL_passU hns0 rfl rfl rfl rfl ?_
              refine DL_passU hns0 rfl rfl rfl rfl ?_
              refine DL_passU hns0 rfl rfl rfl rfl ?_
              refine DL_passU hns0 rfl rfl rfl rfl ?_
              refine DL_passU hns0 rfl rfl rfl rfl ?_
              refine DL_pass hns0 rfl rfl rfl h45 rfl ?_
              refine DL_q hns0 rfl (Qt_pick_t (.bool _) rfl h45 rfl) rfl ?_
              refine DL_nil ?_
              refine X_then ?_
              refine T_cond_true rfl rfl ?_
              have hn3 : ¬ (vs[i].kind ≠ 3 ∨ vs[i].slot ≠ slotL vs) := by simp_all
              have hnext : ((i : Int) = -1 ∧ (vs.take (i + 1)).foldl (accS (slotL vs)) none = none) ∨ ∃ j2 : Nat, j2 < i + 1 ∧ (i : Int) = (j2 : Int) ∧ (vs.take (i + 1)).foldl (accS (slotL vs)) none = vs[j2]? := .inr ⟨i, by omega, rfl, by
                rw [foldl_snoc _ none vs i hi, hf, List.getElem?_eq_getElem hi, List.getElem?_eq_getElem (show j < vs.length by omega)]
                unfold accS
                rw [if_neg hn3]
                exact if_pos (by first | omega | simp_all)⟩
              refine T_region ?_
              refine TL_q (Qt_move (.int .i64 _) rfl) rfl ?_
              refine TL_q (Qt_assign (.int .i64 _) rfl) rfl ?_
              refine TL_nil ?_
              refine X_block ?_
              refine X_then ?_
              refine T_region ?_
              refine TL_q (Qt_move (.int .i64 _) rfl) rfl ?_
              first
                | refine TL_q (Qt_add rfl rfl (by omega) (by omega)) rfl ?_
                | refine TL_q (Qt_addw rfl rfl) rfl ?_
              refine TL_q (Qt_assign (.int .i64 _) rfl) rfl ?_
              refine TL_nil ?_
              refine X_loop _ (by repeat (first | with_reducible exact agree_refl | refine agree_upd rfl ?_ | refine agree_mix rfl ?_ | refine agree_setAll rfl ?_)) (⟨i + 1, _, rfl, rfl, by omega, hnext⟩) (by show vs.length - (i + 1 : Int).toNat < vs.length - (i : Int).toNat; omega) ((Subs.st inferInstance))
            ·
              have p45 := h45
              try simp only [decide_eq_true_eq, decide_eq_false_iff_not, Bool.not_eq_true', Bool.not_eq_false', Option.isNone_iff_eq_none, ne_eq, Decidable.not_not, Int.not_lt, Int.not_le] at p45
              refine DL_qg hns0 rfl rfl rfl h45 (Qt_move (.slice _ _ _) rfl) rfl ?_
              refine DL_qg hns0 rfl rfl rfl h45 (Qt_move (.int .i64 _) rfl) rfl ?_
              refine DL_qg hns0 rfl rfl rfl h45 (Qt_indexN rfl rfl (by omega) (by omega)) rfl ?_
              refine DL_qg hns0 rfl rfl rfl h45 (Qt_fieldR rfl 38 (vote_pos hi)) rfl ?_
              refine DL_qg hns0 rfl rfl rfl h45 (Qt_loadRs 38 (.int .i64 _) rfl (vote_get vs i 1 hi (by decide) inferInstance)) rfl ?_
              refine DL_qg hns0 rfl rfl rfl h45 (Qt_move (.slice _ _ _) rfl) rfl ?_
              refine DL_qg hns0 rfl rfl rfl h45 (Qt_move (.int .i64 _) rfl) rfl ?_
              refine DL_qg hns0 rfl rfl rfl h45 (Qt_indexN rfl rfl (by omega) (by omega)) rfl ?_
              refine DL_qg hns0 rfl rfl rfl h45 (Qt_fieldR rfl 38 (vote_pos hi)) rfl ?_
              refine DL_qg hns0 rfl rfl rfl h45 (Qt_loadRs 38 (.int .i64 _) rfl (vote_get vs j 1 hjn (by decide) inferInstance)) rfl ?_
              refine DL_qg hns0 rfl rfl rfl h45 (Qt_eql rfl rfl) rfl ?_
              refine DL_qg hns0 rfl rfl rfl h45 (Qt_move (.bool _) rfl) rfl ?_
              refine DL_split 57 rfl (fun h57 => ?_) (fun h57 => ?_)
              ·
                have p57 := h57
                try simp only [decide_eq_true_eq, decide_eq_false_iff_not, Bool.not_eq_true', Bool.not_eq_false', Option.isNone_iff_eq_none, ne_eq, Decidable.not_not, Int.not_lt, Int.not_le] at p57
                refine DL_qg hns0 rfl rfl rfl h57 (Qt_move (.slice _ _ _) rfl) rfl ?_
                refine DL_qg hns0 rfl rfl rfl h57 (Qt_move (.int .i64 _) rfl) rfl ?_
                refine DL_qg hns0 rfl rfl rfl h57 (Qt_indexN rfl rfl (by omega) (by omega)) rfl ?_
                refine DL_qg hns0 rfl rfl rfl h57 (Qt_fieldR rfl 38 (vote_pos hi)) rfl ?_
                refine DL_qg hns0 rfl rfl rfl h57 (Qt_loadRs 38 (.int .i64 _) rfl (vote_get vs i 2 hi (by decide) inferInstance)) rfl ?_
                refine DL_qg hns0 rfl rfl rfl h57 (Qt_move (.slice _ _ _) rfl) rfl ?_
                refine DL_qg hns0 rfl rfl rfl h57 (Qt_move (.int .i64 _) rfl) rfl ?_
                refine DL_qg hns0 rfl rfl rfl h57 (Qt_indexN rfl rfl (by omega) (by omega)) rfl ?_
                refine DL_qg hns0 rfl rfl rfl h57 (Qt_fieldR rfl 38 (vote_pos hi)) rfl ?_
                refine DL_qg hns0 rfl rfl rfl h57 (Qt_loadRs 38 (.int .i64 _) rfl (vote_get vs j 2 hjn (by decide) inferInstance)) rfl ?_
                refine DL_qg hns0 rfl rfl rfl h57 (Qt_gtr rfl rfl) rfl ?_
                refine DL_qg hns0 rfl rfl rfl h45 (Qt_pick_t (.bool _) rfl h57 rfl) rfl ?_
                refine DL_q hns0 rfl (Qt_pick_f (.bool _) rfl h45 rfl) rfl ?_
                refine DL_nil ?_
                refine X_then ?_
                refine T_cond rfl (fun h70 => ?_) (fun h70 => ?_)
                ·
                  have p70 := h70
                  try simp only [decide_eq_true_eq, decide_eq_false_iff_not, Bool.not_eq_true', Bool.not_eq_false', Option.isNone_iff_eq_none, ne_eq, Decidable.not_not, Int.not_lt, Int.not_le] at p70
                  have hn3 : ¬ (vs[i].kind ≠ 3 ∨ vs[i].slot ≠ slotL vs) := by simp_all
                  have hnext : ((i : Int) = -1 ∧ (vs.take (i + 1)).foldl (accS (slotL vs)) none = none) ∨ ∃ j2 : Nat, j2 < i + 1 ∧ (i : Int) = (j2 : Int) ∧ (vs.take (i + 1)).foldl (accS (slotL vs)) none = vs[j2]? := .inr ⟨i, by omega, rfl, by
                    rw [foldl_snoc _ none vs i hi, hf, List.getElem?_eq_getElem hi, List.getElem?_eq_getElem (show j < vs.length by omega)]
                    unfold accS
                    rw [if_neg hn3]
                    exact if_pos (by first | omega | simp_all)⟩
                  refine T_region ?_
                  refine TL_q (Qt_move (.int .i64 _) rfl) rfl ?_
                  refine TL_q (Qt_assign (.int .i64 _) rfl) rfl ?_
                  refine TL_nil ?_
                  refine X_block ?_
                  refine X_then ?_
                  refine T_region ?_
                  refine TL_q (Qt_move (.int .i64 _) rfl) rfl ?_
                  first
                    | refine TL_q (Qt_add rfl rfl (by omega) (by omega)) rfl ?_
                    | refine TL_q (Qt_addw rfl rfl) rfl ?_
                  refine TL_q (Qt_assign (.int .i64 _) rfl) rfl ?_
                  refine TL_nil ?_
                  refine X_loop _ (by repeat (first | with_reducible exact agree_refl | refine agree_upd rfl ?_ | refine agree_mix rfl ?_ | refine agree_setAll rfl ?_)) (⟨i + 1, _, rfl, rfl, by omega, hnext⟩) (by show vs.length - (i + 1 : Int).toNat < vs.length - (i : Int).toNat; omega) ((Subs.st inferInstance))
                ·
                  have p70 := h70
                  try simp only [decide_eq_true_eq, decide_eq_false_iff_not, Bool.not_eq_true', Bool.not_eq_false', Option.isNone_iff_eq_none, ne_eq, Decidable.not_not, Int.not_lt, Int.not_le] at p70
                  have hn3 : ¬ (vs[i].kind ≠ 3 ∨ vs[i].slot ≠ slotL vs) := by simp_all
                  have hnext : ((j : Int) = -1 ∧ (vs.take (i + 1)).foldl (accS (slotL vs)) none = none) ∨ ∃ j2 : Nat, j2 < i + 1 ∧ (j : Int) = (j2 : Int) ∧ (vs.take (i + 1)).foldl (accS (slotL vs)) none = vs[j2]? := .inr ⟨j, by omega, rfl, by
                    rw [foldl_snoc _ none vs i hi, hf, List.getElem?_eq_getElem (show j < vs.length by omega)]
                    unfold accS
                    rw [if_neg hn3]
                    exact if_neg (by first | omega | simp_all)⟩
                  refine T_skip ?_
                  refine X_block ?_
                  refine X_then ?_
                  refine T_region ?_
                  refine TL_q (Qt_move (.int .i64 _) rfl) rfl ?_
                  first
                    | refine TL_q (Qt_add rfl rfl (by omega) (by omega)) rfl ?_
                    | refine TL_q (Qt_addw rfl rfl) rfl ?_
                  refine TL_q (Qt_assign (.int .i64 _) rfl) rfl ?_
                  refine TL_nil ?_
                  refine X_loop _ (by repeat (first | with_reducible exact agree_refl | refine agree_upd rfl ?_ | refine agree_mix rfl ?_ | refine agree_setAll rfl ?_)) (⟨i + 1, _, rfl, rfl, by omega, hnext⟩) (by show vs.length - (i + 1 : Int).toNat < vs.length - (i : Int).toNat; omega) ((Subs.st inferInstance))
              ·
                have p57 := h57
                try simp only [decide_eq_true_eq, decide_eq_false_iff_not, Bool.not_eq_true', Bool.not_eq_false', Option.isNone_iff_eq_none, ne_eq, Decidable.not_not, Int.not_lt, Int.not_le] at p57
                refine DL_pass hns0 rfl rfl rfl h57 rfl ?_
                refine DL_pass hns0 rfl rfl rfl h57 rfl ?_
                refine DL_pass hns0 rfl rfl rfl h57 rfl ?_
                refine DL_pass hns0 rfl rfl rfl h57 rfl ?_
                refine DL_pass hns0 rfl rfl rfl h57 rfl ?_
                refine DL_pass hns0 rfl rfl rfl h57 rfl ?_
                refine DL_pass hns0 rfl rfl rfl h57 rfl ?_
                refine DL_pass hns0 rfl rfl rfl h57 rfl ?_
                refine DL_pass hns0 rfl rfl rfl h57 rfl ?_
                refine DL_pass hns0 rfl rfl rfl h57 rfl ?_
                refine DL_pass hns0 rfl rfl rfl h57 rfl ?_
                refine DL_qg hns0 rfl rfl rfl h45 (Qt_pick_f (.bool _) rfl h57 rfl) rfl ?_
                refine DL_q hns0 rfl (Qt_pick_f (.bool _) rfl h45 rfl) rfl ?_
                refine DL_nil ?_
                refine X_then ?_
                refine T_cond_false rfl rfl ?_
                have hn3 : ¬ (vs[i].kind ≠ 3 ∨ vs[i].slot ≠ slotL vs) := by simp_all
                have hnext : ((j : Int) = -1 ∧ (vs.take (i + 1)).foldl (accS (slotL vs)) none = none) ∨ ∃ j2 : Nat, j2 < i + 1 ∧ (j : Int) = (j2 : Int) ∧ (vs.take (i + 1)).foldl (accS (slotL vs)) none = vs[j2]? := .inr ⟨j, by omega, rfl, by
                  rw [foldl_snoc _ none vs i hi, hf, List.getElem?_eq_getElem (show j < vs.length by omega)]
                  unfold accS
                  rw [if_neg hn3]
                  exact if_neg (by first | omega | simp_all)⟩
                refine T_skip ?_
                refine X_block ?_
                refine X_then ?_
                refine T_region ?_
                refine TL_q (Qt_move (.int .i64 _) rfl) rfl ?_
                first
                  | refine TL_q (Qt_add rfl rfl (by omega) (by omega)) rfl ?_
                  | refine TL_q (Qt_addw rfl rfl) rfl ?_
                refine TL_q (Qt_assign (.int .i64 _) rfl) rfl ?_
                refine TL_nil ?_
                refine X_loop _ (by repeat (first | with_reducible exact agree_refl | refine agree_upd rfl ?_ | refine agree_mix rfl ?_ | refine agree_setAll rfl ?_)) (⟨i + 1, _, rfl, rfl, by omega, hnext⟩) (by show vs.length - (i + 1 : Int).toNat < vs.length - (i : Int).toNat; omega) ((Subs.st inferInstance))
  ·
    have p12 := h12
    try simp only [decide_eq_true_eq, decide_eq_false_iff_not, Bool.not_eq_true', Bool.not_eq_false', Option.isNone_iff_eq_none, ne_eq, Decidable.not_not, Int.not_lt, Int.not_le] at p12
    have et : vs.take i = vs := List.take_of_length_le (by omega)
    rw [et] at hb
    refine T_exit ?_
    refine X_then_exit ?_
    refine X_loop_exit ?_
    refine X_block_exit ?_
    refine X_then ?_
    refine T_seq ?_
    refine T_seq ?_
    refine T_region ?_
    rcases hb with ⟨rfl, hf⟩ | ⟨j, hj, rfl, hf⟩
    ·
      refine TL_q (Qt_move (.int .i64 _) rfl) rfl ?_
      refine TL_q (Qt_lss rfl rfl) rfl ?_
      refine TL_nil ?_
      refine X_then ?_
      refine T_cond rfl (fun h73 => ?_) (fun h73 => ?_)
      ·
        have p73 := h73
        try simp only [decide_eq_true_eq, decide_eq_false_iff_not, Bool.not_eq_true', Bool.not_eq_false', Option.isNone_iff_eq_none, ne_eq, Decidable.not_not, Int.not_lt, Int.not_le] at p73
        have e : accL vs = none := hf
        refine T_seq ?_
        refine T_region ?_
        refine TL_q (Qt_build [] rfl (by kernel_rfl)) rfl ?_
        refine TL_n (Ef_storeN rfl rfl (?_))
        refine TL_q (Qt_assign (.bool _) rfl) rfl ?_
        refine TL_nil ?_
        refine X_then ?_
        refine T_ret ?_
        refine X_then_ret ?_
        exact X_ret () [_, _] Try.results34 ⟨⟨_, rfl, res_cellN rfl⟩, rfl, trivial⟩ (by rw [e]; rfl) (Subs.st inferInstance)
      ·
        have p73 := h73
        try simp only [decide_eq_true_eq, decide_eq_false_iff_not, Bool.not_eq_true', Bool.not_eq_false', Option.isNone_iff_eq_none, ne_eq, Decidable.not_not, Int.not_lt, Int.not_le] at p73
        all_goals omega
    ·
      refine TL_q (Qt_move (.int .i64 _) rfl) rfl ?_
      refine TL_q (Qt_lss rfl rfl) rfl ?_
      refine TL_nil ?_
      refine X_then ?_
      refine T_cond rfl (fun h73 => ?_) (fun h73 => ?_)
      ·
        have p73 := h73
        try simp only [decide_eq_true_eq, decide_eq_false_iff_not, Bool.not_eq_true', Bool.not_eq_false', Option.isNone_iff_eq_none, ne_eq, Decidable.not_not, Int.not_lt, Int.not_le] at p73
        all_goals omega
      ·
        have p73 := h73
        try simp only [decide_eq_true_eq, decide_eq_false_iff_not, Bool.not_eq_true', Bool.not_eq_false', Option.isNone_iff_eq_none, ne_eq, Decidable.not_not, Int.not_lt, Int.not_le] at p73
        have hjn : j < vs.length := by omega
        have e : accL vs = some vs[j] := hf.trans (List.getElem?_eq_getElem hjn)
        refine T_skip ?_
        refine X_then ?_
        refine T_seq ?_
        refine T_region ?_
        refine TL_q (Qt_move (.slice _ _ _) rfl) rfl ?_
        refine TL_q (Qt_move (.int .i64 _) rfl) rfl ?_
        refine TL_q (Qt_indexN rfl rfl (by omega) (by omega)) rfl ?_
        refine TL_q (Qt_loadVote (k := j) rfl hjn) rfl ?_
        refine TL_n (Ef_storeN rfl rfl (?_))
        refine TL_q (Qt_assign (.bool _) rfl) rfl ?_
        refine TL_nil ?_
        refine X_then ?_
        refine T_ret ?_
        exact X_ret () [_, _] Try.results34 ⟨⟨_, rfl, res_cellN rfl⟩, rfl, trivial⟩ (by rw [e]; rfl) (Subs.st inferInstance)
def takeL (vs : List VoteV) (v : VoteV) : Int := if (putV v.abs).2 ≠ 0 then 15 else if 1 < v.kind ∧ v.slot < slotL vs then 7 else 0
set_option maxHeartbeats 1000000 in
theorem rTake_c {w0 : World} {H : List SA} {a : Option Addr} {vs : List VoteV} {c : Nat} [hr : RdC w0 H (.slice a vs.length c) 38 (vs.flatMap VoteV.list)] (hn : vs.length ≤ 1000000) {v : VoteV} [rbv : RdB w0 H (.slice v.batch.a v.batch.l.length v.batch.c) v.batch.l] [rcv : RdC w0 H (.slice v.cert.a v.cert.ls.length v.cert.c) 1 (v.cert.ls.map BS.val)] [rev : RdE w0 H v.cert.ls] (hs : SmallV v.abs) :
    CT Try.prog w0 (H) 19 [.slice a vs.length c, .agg v.cells] (α := Unit) (fun _ => .int .i64 (takeL vs v)) (fun _ => H) := by
  refine CT_intro Try.func19 rfl Try.ntmps19 rfl ?_
  refine T_seq ?_
  refine T_region ?_
  refine TL_e rfl (Ef_boxN rfl (fun b3 => ?_))
  refine TL_q (Qt_assign (.int .i64 _) rfl) rfl ?_
  refine TL_nil ?_
  refine X_then ?_
  refine T_seq ?_
  refine T_region ?_
  refine TL_q (Qt_loadN rfl rfl) rfl ?_
  refine TL_e rfl (Ef_call (rPut_c hs) rfl (fun x9 => ?_))
  refine TL_q (Qt_move (.tuple _) rfl) rfl ?_
  refine TL_q (Qt_extract rfl) rfl ?_
  refine TL_q (Qt_extract rfl) rfl ?_
  refine TL_q (Qt_assign (.slice _ _ _) rfl) rfl ?_
  refine TL_q (Qt_assign (.int .i64 _) rfl) rfl ?_
  refine TL_nil ?_
  refine X_then ?_
  refine T_seq ?_
  refine T_seq ?_
  refine T_region ?_
  refine TL_q (Qt_move (.int .i64 _) rfl) rfl ?_
  refine TL_q (Qt_neq rfl rfl) rfl ?_
  refine TL_nil ?_
  refine X_then ?_
  refine T_cond rfl (fun h13 => ?_) (fun h13 => ?_)
  ·
    have p13 := h13
    try simp only [decide_eq_true_eq, decide_eq_false_iff_not, Bool.not_eq_true', Bool.not_eq_false', Option.isNone_iff_eq_none, ne_eq, Decidable.not_not, Int.not_lt, Int.not_le] at p13
    refine T_seq ?_
    refine T_region ?_
    refine TL_q (Qt_assign (.int .i64 _) rfl) rfl ?_
    refine TL_nil ?_
    refine X_then ?_
    refine T_ret ?_
    refine X_then_ret ?_
    have e : takeL vs v = 15 := if_pos (by omega)
    exact X_ret () [_] Try.results19 ⟨rfl, trivial⟩ (by rw [e]; rfl) (Subs.st inferInstance)
  ·
    have p13 := h13
    try simp only [decide_eq_true_eq, decide_eq_false_iff_not, Bool.not_eq_true', Bool.not_eq_false', Option.isNone_iff_eq_none, ne_eq, Decidable.not_not, Int.not_lt, Int.not_le] at p13
    refine T_skip ?_
    refine X_then ?_
    refine T_seq ?_
    refine T_seq ?_
    refine T_draw _ [(0, true), (1, true), (2, true), (3, true), (4, true), (5, true), (6, true), (7, false), (8, true), (9, true)] (by kernel_rfl) (by kernel_rfl) rfl (by kernel_rfl) (fun _ hh => hh) (fun hns0 => ?_)
    refine DL_q hns0 rfl (Qt_fieldAddr 0 rfl rfl) rfl ?_
    refine DL_q hns0 rfl (Qt_load1 rfl) rfl ?_
    refine DL_q hns0 rfl (Qt_gtr rfl rfl) rfl ?_
    refine DL_q hns0 rfl (Qt_move (.bool _) rfl) rfl ?_
    refine DL_split 17 rfl (fun h17 => ?_) (fun h17 => ?_)
    ·
      have p17 := h17
      try simp only [decide_eq_true_eq, decide_eq_false_iff_not, Bool.not_eq_true', Bool.not_eq_false', Option.isNone_iff_eq_none, ne_eq, Decidable.not_not, Int.not_lt, Int.not_le] at p17
      refine DL_qg hns0 rfl rfl rfl h17 (Qt_fieldAddr 3 rfl rfl) rfl ?_
      refine DL_qg hns0 rfl rfl rfl h17 (Qt_load1 rfl) rfl ?_
      refine DL_qg hns0 rfl rfl rfl h17 (Qt_move (.slice _ _ _) rfl) rfl ?_
      refine DL_eg rfl rfl rfl h17 rfl (Ef_call (rSlot_c hn) rfl (fun x21 => ⟨(Subs.st inferInstance), ?_⟩))
      refine DL_qg hns0 rfl rfl rfl h17 (Qt_lss rfl rfl) rfl ?_
      refine DL_q hns0 rfl (Qt_pick_t (.bool _) rfl h17 rfl) rfl ?_
      refine DL_nil ?_
      refine X_then ?_
      refine T_cond rfl (fun h23 => ?_) (fun h23 => ?_)
      ·
        have p23 := h23
        try simp only [decide_eq_true_eq, decide_eq_false_iff_not, Bool.not_eq_true', Bool.not_eq_false', Option.isNone_iff_eq_none, ne_eq, Decidable.not_not, Int.not_lt, Int.not_le] at p23
        refine T_seq ?_
        refine T_region ?_
        refine TL_q (Qt_assign (.int .i64 _) rfl) rfl ?_
        refine TL_nil ?_
        refine X_then ?_
        refine T_ret ?_
        refine X_then_ret ?_
        have e : takeL vs v = 7 := by unfold takeL; rw [if_neg (by omega), if_pos (by first | omega | simp_all)]
        exact X_ret () [_] Try.results19 ⟨rfl, trivial⟩ (by rw [e]; rfl) (Subs.st inferInstance)
      ·
        have p23 := h23
        try simp only [decide_eq_true_eq, decide_eq_false_iff_not, Bool.not_eq_true', Bool.not_eq_false', Option.isNone_iff_eq_none, ne_eq, Decidable.not_not, Int.not_lt, Int.not_le] at p23
        refine T_skip ?_
        refine X_then ?_
        refine T_seq ?_
        refine T_region ?_
        refine TL_q (Qt_assign (.int .i64 _) rfl) rfl ?_
        refine TL_nil ?_
        refine X_then ?_
        refine T_ret ?_
        have e : takeL vs v = 0 := by unfold takeL; rw [if_neg (by omega), if_neg (by first | omega | simp_all)]
        exact X_ret () [_] Try.results19 ⟨rfl, trivial⟩ (by rw [e]; rfl) (Subs.st inferInstance)
    ·
      have p17 := h17
      try simp only [decide_eq_true_eq, decide_eq_false_iff_not, Bool.not_eq_true', Bool.not_eq_false', Option.isNone_iff_eq_none, ne_eq, Decidable.not_not, Int.not_lt, Int.not_le] at p17
      refine DL_pass hns0 rfl rfl rfl h17 rfl ?_
      refine DL_pass hns0 rfl rfl rfl h17 rfl ?_
      refine DL_pass hns0 rfl rfl rfl h17 rfl ?_
      refine DL_passF rfl rfl rfl h17 rfl ?_
      refine DL_pass hns0 rfl rfl rfl h17 rfl ?_
      refine DL_q hns0 rfl (Qt_pick_f (.bool _) rfl h17 rfl) rfl ?_
      refine DL_nil ?_
      refine X_then ?_
      refine T_cond_false rfl rfl ?_
      refine T_skip ?_
      refine X_then ?_
      refine T_seq ?_
      refine T_region ?_
      refine TL_q (Qt_assign (.int .i64 _) rfl) rfl ?_
      refine TL_nil ?_
      refine X_then ?_
      refine T_ret ?_
      have e : takeL vs v = 0 := by unfold takeL; rw [if_neg (by omega), if_neg (by first | omega | simp_all)]
      exact X_ret () [_] Try.results19 ⟨rfl, trivial⟩ (by rw [e]; rfl) (Subs.st inferInstance)
end Go.Proofs.Ytdjbhpdfkopdgaa
