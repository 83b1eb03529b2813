/- The law VotesRise: neither the regency entered nor the slot falls. -/
import Derived.Test.YtdjbhpdfkopdgaaBq
namespace Go.Proofs.Ytdjbhpdfkopdgaa
open Go.RowKit Go.Sx
set_option maxRecDepth 100000
set_option linter.unusedSimpArgs false
set_option linter.unusedVariables false
theorem long_len {l : List VoteD} (h : longB l = false) : l.length ≤ 40 := by
  simp only [longB, Bool.or_eq_false_iff, decide_eq_false_iff_not] at h; omega
theorem formed_of_put {v : VoteD} (h : (putV v).2 = 0) : formedB v = true := by
  unfold putV at h
  split at h
  · simp at h
  · split at h
    · simp at h
    · split at h
      · simp at h
      · split at h
        · rename_i hf; exact hf
        · simp at h
def InvD (b : BookD) : Prop := b.entered = false → b.now = ⟨0, 0⟩
theorem enter_inv (b : BookD) (a : EraV) (h : InvD b) : InvD (enterD b a) := by
  unfold enterD
  cases hc : (!b.entered || afterB a b.now)
  · exact h
  · exact fun he => by cases he
theorem begin_now (b : BookD) (s : Int) : (beginD b s).now = b.now ∧ (beginD b s).entered = b.entered := by
  unfold beginD; split <;> exact ⟨rfl, rfl⟩
theorem write_now (b : BookD) (a : EraV) (v : VoteD) : (writeD b a v).now = b.now ∧ (writeD b a v).entered = b.entered ∧ (writeD b a v).slot = b.slot ∧ (writeD b a v).acc = b.acc := by
  unfold writeD; split <;> exact ⟨rfl, rfl, rfl, rfl⟩
theorem accept_now (b : BookD) (a : EraV) (v : VoteD) : (acceptD b a v).now = b.now ∧ (acceptD b a v).entered = b.entered ∧ (acceptD b a v).slot = b.slot := by
  unfold acceptD; split
  · exact ⟨rfl, rfl, rfl⟩
  · split <;> exact ⟨rfl, rfl, rfl⟩
theorem begin_slot (b : BookD) (s : Int) (h : ¬ s < b.slot) : (beginD b s).slot = s := by
  unfold beginD; split
  · rfl
  · show b.slot = s; omega
/-- What Take can do, by cases. -/
theorem takeD_cases (b : BookD) (v : VoteD) : (takeD b v = (b, 15) ∧ (putV v).2 ≠ 0) ∨ (takeD b v = (enterD b ⟨v.view, v.reg⟩, 0) ∧ (putV v).2 = 0 ∧ v.kind = 1) ∨ (takeD b v = (b, 7) ∧ (putV v).2 = 0 ∧ v.kind ≠ 1 ∧ v.slot < b.slot) ∨
    (takeD b v = (writeD (beginD b v.slot) ⟨v.view, v.reg⟩ v, 0) ∧ (putV v).2 = 0 ∧ v.kind = 2 ∧ ¬ v.slot < b.slot) ∨ (takeD b v = (acceptD (beginD b v.slot) ⟨v.view, v.reg⟩ v, 0) ∧ (putV v).2 = 0 ∧ v.kind ≠ 1 ∧ v.kind ≠ 2 ∧ ¬ v.slot < b.slot) := by
  by_cases h : (putV v).2 = 0
  · by_cases h1 : v.kind = 1
    · exact .inr (.inl ⟨takeD_reg h h1, h, h1⟩)
    · by_cases h2 : v.slot < b.slot
      · exact .inr (.inr (.inl ⟨takeD_old h h1 h2, h, h1, h2⟩))
      · by_cases h3 : v.kind = 2
        · exact .inr (.inr (.inr (.inl ⟨takeD_write h h3 h2, h, h3, h2⟩)))
        · exact .inr (.inr (.inr (.inr ⟨takeD_acc h h1 h3 h2, h, h1, h3, h2⟩)))
  · exact .inl ⟨takeD_bad h, h⟩
theorem take_inv {b : BookD} {v : VoteD} (h : InvD b) : InvD (takeD b v).1 := by
  rcases takeD_cases b v with ⟨e, _⟩ | ⟨e, _, _⟩ | ⟨e, _⟩ | ⟨e, _⟩ | ⟨e, _⟩ <;> rw [e]
  · exact h
  · exact enter_inv b _ h
  · exact h
  · have h1 := write_now (beginD b v.slot) ⟨v.view, v.reg⟩ v
    have h2 := begin_now b v.slot
    exact fun he => (h1.1.trans h2.1).trans (h ((h1.2.1.trans h2.2).symm.trans he))
  · have h1 := accept_now (beginD b v.slot) ⟨v.view, v.reg⟩ v
    have h2 := begin_now b v.slot
    exact fun he => (h1.1.trans h2.1).trans (h ((h1.2.1.trans h2.2).symm.trans he))
theorem rise_stay (b : BookD) : ¬ b.now.view < b.now.view ∧ (b.now.view = b.now.view → ¬ b.now.reg < b.now.reg) ∧ ¬ b.slot < b.slot := ⟨by omega, fun _ => by omega, by omega⟩
theorem rise_now {b : BookD} {v : VoteD} (h : InvD b) : ¬ (takeD b v).1.now.view < b.now.view ∧ ((takeD b v).1.now.view = b.now.view → ¬ (takeD b v).1.now.reg < b.now.reg) ∧ ¬ (takeD b v).1.slot < b.slot := by
  rcases takeD_cases b v with ⟨e, _⟩ | ⟨e, hp, _⟩ | ⟨e, _⟩ | ⟨e, _, _, hs⟩ | ⟨e, _, _, _, hs⟩ <;> rw [e]
  · exact rise_stay b
  · obtain ⟨-, -, hv, hr, -⟩ := (formed_spec v).1 (formed_of_put hp)
    unfold enterD
    cases he : b.entered
    · have hn := h he
      simp only [Bool.not_false, Bool.true_or, cond_true, hn]
      exact ⟨by omega, fun _ => by omega, by omega⟩
    · simp only [Bool.not_true, Bool.false_or]
      cases ha : afterB ⟨v.view, v.reg⟩ b.now
      · exact ⟨by simp only [cond_false]; omega, fun _ => by simp only [cond_false]; omega, by simp only [cond_false]; omega⟩
      · simp only [cond_true]
        simp only [afterB, Bool.or_eq_true, Bool.and_eq_true, decide_eq_true_eq] at ha
        exact ⟨by omega, fun _ => by omega, by omega⟩
  · exact rise_stay b
  · have h1 := write_now (beginD b v.slot) ⟨v.view, v.reg⟩ v
    have h2 := begin_now b v.slot
    have h3 := begin_slot b v.slot hs
    rw [show (writeD (beginD b v.slot) ⟨v.view, v.reg⟩ v, (0 : Int)).1 = writeD (beginD b v.slot) ⟨v.view, v.reg⟩ v from rfl, h1.1, h2.1, h1.2.2.1, h3]
    exact ⟨by omega, fun _ => by omega, hs⟩
  · have h1 := accept_now (beginD b v.slot) ⟨v.view, v.reg⟩ v
    have h2 := begin_now b v.slot
    have h3 := begin_slot b v.slot hs
    rw [show (acceptD (beginD b v.slot) ⟨v.view, v.reg⟩ v, (0 : Int)).1 = acceptD (beginD b v.slot) ⟨v.view, v.reg⟩ v from rfl, h1.1, h2.1, h1.2.2, h3]
    exact ⟨by omega, fun _ => by omega, hs⟩
theorem rise_accD {b : BookD} {v o : VoteD} (ho : b.acc = some o) (hs : (takeD b v).1.slot = b.slot) : ∃ u, (takeD b v).1.acc = some u ∧ ¬ u.view < o.view ∧ (u.view = o.view → ¬ u.reg < o.reg) := by
  have same : ∃ u, b.acc = some u ∧ ¬ u.view < o.view ∧ (u.view = o.view → ¬ u.reg < o.reg) := ⟨o, ho, by omega, fun _ => by omega⟩
  rcases takeD_cases b v with ⟨e, _⟩ | ⟨e, _, _⟩ | ⟨e, _⟩ | ⟨e, _, _, hl⟩ | ⟨e, _, _, _, hl⟩ <;> rw [e] at hs ⊢
  · exact same
  · have : (enterD b ⟨v.view, v.reg⟩).acc = b.acc := by unfold enterD; cases (!b.entered || afterB ⟨v.view, v.reg⟩ b.now) <;> rfl
    rw [this]; exact same
  · exact same
  · have h1 := write_now (beginD b v.slot) ⟨v.view, v.reg⟩ v
    have h3 := begin_slot b v.slot hl
    have hsl : v.slot = b.slot := by rw [← h3, ← h1.2.2.1]; exact hs
    have hb : beginD b v.slot = b := if_neg (by omega)
    have : (writeD (beginD b v.slot) ⟨v.view, v.reg⟩ v).acc = b.acc := by rw [h1.2.2.2, hb]
    exact this ▸ same
  · have h1 := accept_now (beginD b v.slot) ⟨v.view, v.reg⟩ v
    have h3 := begin_slot b v.slot hl
    have hsl : v.slot = b.slot := by rw [← h3, ← h1.2.2]; exact hs
    have hb : beginD b v.slot = b := if_neg (by omega)
    show ∃ u, (acceptD (beginD b v.slot) ⟨v.view, v.reg⟩ v).acc = some u ∧ _
    rw [hb]
    unfold acceptD
    rw [ho]
    show ∃ u, (if afterB ⟨v.view, v.reg⟩ ⟨o.view, o.reg⟩ = true then _ else _ : BookD).acc = some u ∧ _
    split
    · rename_i ha
      simp only [afterB, Bool.or_eq_true, Bool.and_eq_true, decide_eq_true_eq] at ha
      exact ⟨v, rfl, by omega, fun _ => by omega⟩
    · exact same
theorem rise_acc {y z : BkS} {v : VoteD} {x x' : VoteV} (hz : z.abs = (takeD y.abs v).1) (h : y.acc.isSome = true) (hs : z.k.slot = y.k.slot) (hx : x.abs = ((y.acc.map Prod.snd).getD VoteV.zero).abs) (hx' : x'.abs = ((z.acc.map Prod.snd).getD VoteV.zero).abs) :
    z.acc.isSome = true ∧ ¬ x'.view < x.view ∧ (x'.view = x.view → ¬ x'.reg < x.reg) := by
  obtain ⟨q, hq⟩ := Option.isSome_iff_exists.1 h
  have ho : y.abs.acc = some q.2.abs := by simp [BkS.abs, hq]
  obtain ⟨u, hu, h1, h2⟩ := rise_accD (b := y.abs) (v := v) (o := q.2.abs) ho (by rw [← hz]; exact hs)
  rw [← hz] at hu
  obtain ⟨q', hq', rfl⟩ := Option.map_eq_some_iff.1 (show z.acc.map (fun q => q.2.abs) = some u from hu)
  rw [hq] at hx
  rw [hq'] at hx'
  have hx : x.abs = q.2.abs := hx
  have hx' : x'.abs = q'.2.abs := hx'
  have v1 : x.view = q.2.abs.view := congrArg VoteD.view hx
  have v2 : x.reg = q.2.abs.reg := congrArg VoteD.reg hx
  have v3 : x'.view = q'.2.abs.view := congrArg VoteD.view hx'
  have v4 : x'.reg = q'.2.abs.reg := congrArg VoteD.reg hx'
  exact ⟨by simp [hq'], by rw [v1, v3]; exact h1, fun e => by rw [v2, v4]; exact h2 (by rw [← v1, ← v3]; exact e)⟩

theorem Qt_loadVote {w0 : World} {H : List SA} {σ : Env} {d : Option Nat} {ty : TypeId} {pos : String} {aft : Array Edge} {g : Option (Nat × Bool)} {x : Operand} {n c k : Nat} {a : Option Addr} {vs : List VoteV} (hx : ev σ x = .pointer (ptrOf (.slice a n c) (k * 38))) [hr : RdC w0 H (.slice a n c) 38 (vs.flatMap VoteV.list)] (hk : k < vs.length) :
    Qt Try.prog w0 H σ ⟨d, .load 27 x, ty, pos, aft, g⟩ (.agg vs[k].cells) := Qt_loadRN 38 vs[k].list hx (flat_slice _ 38 VoteV.list_len vs k hk) (VoteV.list_len _) (by decide)

set_option maxHeartbeats 1000000 in
theorem votesRise_c {w0 : World} {H : List SA} {a : Option Addr} {vs : List VoteV} {c : Nat} [hr : RdC w0 H (.slice a vs.length c) 38 (vs.flatMap VoteV.list)] [rv : RdVs w0 H vs] :
    CT Try.prog w0 (H) 4 [.slice a vs.length c] (α := Unit) (fun _ => .bool true) (fun _ => H) := by
  refine CT_intro Try.func4 rfl Try.ntmps4 rfl ?_
  refine T_seq ?_
  refine T_region ?_
  refine TL_q (Qt_assign (.bool _) rfl) rfl ?_
  refine TL_nil ?_
  refine X_then ?_
  refine T_seq ?_
  refine T_seq ?_
  refine T_region ?_
  refine TL_e rfl (Ef_call (wakes_c) rfl (fun x15 => ?_))
  refine TL_q (Qt_not rfl) rfl ?_
  refine TL_nil ?_
  refine X_then ?_
  refine T_cond rfl (fun h16 => ?_) (fun h16 => ?_)
  ·
    have p16 := h16
    try simp only [decide_eq_true_eq, decide_eq_false_iff_not, Bool.not_eq_true', Bool.not_eq_false', Option.isNone_iff_eq_none, ne_eq, Decidable.not_not, Int.not_lt, Int.not_le] at p16
    cases h16
  ·
    have p16 := h16
    try simp only [decide_eq_true_eq, decide_eq_false_iff_not, Bool.not_eq_true', Bool.not_eq_false', Option.isNone_iff_eq_none, ne_eq, Decidable.not_not, Int.not_lt, Int.not_le] at p16
    refine T_skip ?_
    refine X_then ?_
    refine T_seq ?_
    refine T_seq ?_
    refine T_region ?_
    refine TL_q (Qt_move (.slice _ _ _) rfl) rfl ?_
    refine TL_e rfl (Ef_call (long_c (vs := vs)) rfl (fun x18 => ?_))
    refine TL_nil ?_
    refine X_then ?_
    refine T_cond rfl (fun h18 => ?_) (fun h18 => ?_)
    ·
      have p18 := h18
      try simp only [decide_eq_true_eq, decide_eq_false_iff_not, Bool.not_eq_true', Bool.not_eq_false', Option.isNone_iff_eq_none, ne_eq, Decidable.not_not, Int.not_lt, Int.not_le] at p18
      refine T_seq ?_
      refine T_region ?_
      refine TL_q (Qt_assign (.bool _) rfl) rfl ?_
      refine TL_nil ?_
      refine X_then ?_
      refine T_ret ?_
      refine X_then_ret ?_
      exact X_ret () [_] Try.results4 ⟨rfl, trivial⟩ rfl (Subs.st inferInstance)
    ·
      have p18 := h18
      try simp only [decide_eq_true_eq, decide_eq_false_iff_not, Bool.not_eq_true', Bool.not_eq_false', Option.isNone_iff_eq_none, ne_eq, Decidable.not_not, Int.not_lt, Int.not_le] at p18
      have hlg : longB (vs.map VoteV.abs) = false := h18
      have h40 := long_len hlg
      rw [List.length_map] at h40
      refine T_skip ?_
      refine X_then ?_
      refine T_seq ?_
      refine T_region ?_
      refine TL_e rfl (Ef_call (new_c) rfl (fun x19 => ?_))
      refine TL_q (Qt_assign (.pointer _) rfl) rfl ?_
      refine TL_nil ?_
      refine X_then ?_
      refine T_seq ?_
      refine T_seq ?_
      refine T_region ?_
      refine TL_q (Qt_move (.slice _ _ _) rfl) rfl ?_
      refine TL_q (Qt_len_slice rfl Try.underlying30) rfl ?_
      refine TL_q (Qt_move (.int .i64 _) rfl) rfl ?_
      refine TL_nil ?_
      refine X_then ?_
      refine T_block ?_
      refine T_loop [2, 5, 6, 7, 8, 9, 10, 11, 12, 13, 14, 22, 23, 24, 25, 26, 27, 28, 29, 30, 31, 32, 33, 34, 35, 36, 37, 38, 39, 40, 41, 42, 43, 44, 45, 46, 47, 48, 49, 50, 51, 52, 53, 54, 55, 56, 57, 58, 59, 60, 61, 62, 63, 64, 65, 66, 67, 68, 69, 70, 71, 72, 73, 74, 75, 76, 77, 78, 79, 80, 81, 82, 83, 84, 85, 86, 87, 88, 89, 90, 91, 92, 93, 94, 95, 96, 97, 98, 99, 100, 101, 102] [22] (fun us H' => ∃ (k : Nat) (y : BkS), us = [.int .i64 (k : Int)] ∧ BkS.H y x19.1 H = H' ∧ k ≤ vs.length ∧ y.Ok ∧ InvD y.abs) (fun us => match us with | .int _ i :: _ => vs.length - i.toNat | _ => 0) ⟨0, BkS.made x19.2, rfl, rfl, by omega, BkS.made_ok _, fun _ => rfl⟩ (Subs.st inferInstance) ?_
      rintro τ0 _ _  ⟨k, y, rfl, rfl, hk0, hy, hiv⟩ _
      refine T_seq ?_
      refine T_region ?_
      refine TL_q (Qt_lss rfl rfl) rfl ?_
      refine TL_nil ?_
      refine X_then ?_
      refine T_seq ?_
      refine T_cond rfl (fun h23 => ?_) (fun h23 => ?_)
      ·
        have p23 := h23
        try simp only [decide_eq_true_eq, decide_eq_false_iff_not, Bool.not_eq_true', Bool.not_eq_false', Option.isNone_iff_eq_none, ne_eq, Decidable.not_not, Int.not_lt, Int.not_le] at p23
        have hk : k < vs.length := by omega
        refine T_skip ?_
        refine X_then ?_
        refine T_seq ?_
        refine T_block ?_
        refine T_seq ?_
        refine T_region ?_
        refine TL_q (Qt_indexN rfl rfl (by omega) (by omega)) rfl ?_
        refine TL_q (Qt_loadVote (k := k) rfl hk) rfl ?_
        refine TL_e rfl (Ef_allocN (fun b5 => ?_))
        refine TL_n (Ef_storeN rfl rfl (?_))
        refine TL_nil ?_
        refine X_then ?_
        refine T_seq ?_
        refine T_region ?_
        refine TL_q (Qt_move (.pointer _) rfl) rfl ?_
        refine TL_drop (BkS.H y x19.1 (blk b5 (.cells vs[k].cells 27 (0, 0)) :: H)) ?_
        have rb := rv.b vs[k] (List.getElem_mem hk)
        have rc := rv.c vs[k] (List.getElem_mem hk)
        have re := rv.e vs[k] (List.getElem_mem hk)
        refine TL_e rfl (Ef_call (reg_c (k := y.k)) rfl (fun x28 => ?_))
        refine TL_q (Qt_move (.tuple _) rfl) rfl ?_
        refine TL_q (Qt_extract rfl) rfl ?_
        refine TL_q (Qt_extract rfl) rfl ?_
        refine TL_q (Qt_assign (.int .i64 _) rfl) rfl ?_
        refine TL_q (Qt_assign (.int .i64 _) rfl) rfl ?_
        refine TL_nil ?_
        refine X_then ?_
        refine T_seq ?_
        refine T_region ?_
        refine TL_q (Qt_move (.pointer _) rfl) rfl ?_
        refine TL_e rfl (Ef_call (slot_c (k := y.k)) rfl (fun x32 => ?_))
        refine TL_q (Qt_assign (.int .i64 _) rfl) rfl ?_
        refine TL_nil ?_
        refine X_then ?_
        refine T_seq ?_
        refine T_region ?_
        refine TL_q (Qt_move (.pointer _) rfl) rfl ?_
        refine TL_e rfl (Ef_call (accepted_c (y := y) hy) rfl (fun x35 => ?_))
        refine TL_pure (fun hx35 => ?_)
        refine TL_q (Qt_move (.tuple _) rfl) rfl ?_
        refine TL_q (Qt_extract rfl) rfl ?_
        refine TL_q (Qt_extract rfl) rfl ?_
        refine TL_e rfl (Ef_allocN (fun b9 => ?_))
        refine TL_n (Ef_storeN rfl rfl (?_))
        refine TL_q (Qt_assign (.bool _) rfl) rfl ?_
        refine TL_nil ?_
        refine X_then ?_
        refine T_seq ?_
        refine T_region ?_
        refine TL_q (Qt_move (.pointer _) rfl) rfl ?_
        refine TL_q (Qt_loadN rfl rfl) rfl ?_
        refine TL_drop (BkS.H y x19.1 (blk b9 (.cells x35.1.cells 27 (0, 0)) :: blk b5 (.cells vs[k].cells 27 (0, 0)) :: H)) ?_
        refine TL_e rfl (Ef_call (take_c (y := y) (v := vs[k]) hy (small_of_long hlg _ (List.mem_map.2 ⟨_, List.getElem_mem hk, rfl⟩))) rfl (fun x40 => ?_))
        refine TL_pure (fun hz => ?_)
        have hrn := rise_now (v := vs[k].abs) hiv
        rw [← hz.2] at hrn
        obtain ⟨hr1, hr2, hr3⟩ := hrn
        have hr1 : ¬ x40.k.now.view < y.k.now.view := hr1
        have hr2 : x40.k.now.view = y.k.now.view → ¬ x40.k.now.reg < y.k.now.reg := hr2
        have hr3 : ¬ x40.k.slot < y.k.slot := hr3
        refine TL_nil ?_
        refine X_then ?_
        refine T_seq ?_
        refine T_region ?_
        refine TL_q (Qt_move (.pointer _) rfl) rfl ?_
        refine TL_e rfl (Ef_call (reg_c (k := x40.k)) rfl (fun x43 => ?_))
        refine TL_q (Qt_move (.tuple _) rfl) rfl ?_
        refine TL_q (Qt_extract rfl) rfl ?_
        refine TL_q (Qt_extract rfl) rfl ?_
        refine TL_q (Qt_assign (.int .i64 _) rfl) rfl ?_
        refine TL_q (Qt_assign (.int .i64 _) rfl) rfl ?_
        refine TL_nil ?_
        refine X_then ?_
        refine T_seq ?_
        refine T_region ?_
        refine TL_q (Qt_move (.pointer _) rfl) rfl ?_
        refine TL_e rfl (Ef_call (accepted_c (y := x40) hz.1) rfl (fun x48 => ?_))
        refine TL_pure (fun hx48 => ?_)
        refine TL_q (Qt_move (.tuple _) rfl) rfl ?_
        refine TL_q (Qt_extract rfl) rfl ?_
        refine TL_q (Qt_extract rfl) rfl ?_
        refine TL_e rfl (Ef_allocN (fun b13 => ?_))
        refine TL_n (Ef_storeN rfl rfl (?_))
        refine TL_q (Qt_assign (.bool _) rfl) rfl ?_
        refine TL_nil ?_
        refine X_then ?_
        refine T_seq ?_
        refine T_seq ?_
        refine T_region ?_
        refine TL_q (Qt_move (.int .i64 _) rfl) rfl ?_
        refine TL_q (Qt_move (.int .i64 _) rfl) rfl ?_
        refine TL_q (Qt_lss rfl rfl) rfl ?_
        refine TL_q (Qt_move (.bool _) rfl) rfl ?_
        refine TL_split 54 rfl (fun h54 => ?_) (fun h54 => ?_)
        ·
          have p54 := h54
          try simp only [decide_eq_true_eq, decide_eq_false_iff_not, Bool.not_eq_true', Bool.not_eq_false', Option.isNone_iff_eq_none, ne_eq, Decidable.not_not, Int.not_lt, Int.not_le] at p54
          exact absurd p54 hr1
        ·
          have p54 := h54
          try simp only [decide_eq_true_eq, decide_eq_false_iff_not, Bool.not_eq_true', Bool.not_eq_false', Option.isNone_iff_eq_none, ne_eq, Decidable.not_not, Int.not_lt, Int.not_le] at p54
          refine TL_take rfl rfl h54 ?_
          refine TL_q (Qt_move (.int .i64 _) rfl) rfl ?_
          refine TL_take rfl rfl h54 ?_
          refine TL_q (Qt_move (.int .i64 _) rfl) rfl ?_
          refine TL_take rfl rfl h54 ?_
          refine TL_q (Qt_eql rfl rfl) rfl ?_
          refine TL_take rfl rfl h54 ?_
          refine TL_q (Qt_move (.bool _) rfl) rfl ?_
          refine TL_split 58 rfl (fun h58 => ?_) (fun h58 => ?_)
          ·
            have p58 := h58
            try simp only [decide_eq_true_eq, decide_eq_false_iff_not, Bool.not_eq_true', Bool.not_eq_false', Option.isNone_iff_eq_none, ne_eq, Decidable.not_not, Int.not_lt, Int.not_le] at p58
            refine TL_take rfl rfl h58 ?_
            refine TL_q (Qt_move (.int .i64 _) rfl) rfl ?_
            refine TL_take rfl rfl h58 ?_
            refine TL_q (Qt_move (.int .i64 _) rfl) rfl ?_
            refine TL_take rfl rfl h58 ?_
            refine TL_q (Qt_lss rfl rfl) rfl ?_
            refine TL_take rfl rfl h54 ?_
            refine TL_q (Qt_pick_t (.bool _) rfl h58 rfl) rfl ?_
            refine TL_q (Qt_pick_f (.bool _) rfl h54 rfl) rfl ?_
            refine TL_q (Qt_move (.bool _) rfl) rfl ?_
            refine TL_split 64 rfl (fun h64 => ?_) (fun h64 => ?_)
            ·
              have p64 := h64
              try simp only [decide_eq_true_eq, decide_eq_false_iff_not, Bool.not_eq_true', Bool.not_eq_false', Option.isNone_iff_eq_none, ne_eq, Decidable.not_not, Int.not_lt, Int.not_le] at p64
              exact absurd p64 (hr2 p58)
            ·
              have p64 := h64
              try simp only [decide_eq_true_eq, decide_eq_false_iff_not, Bool.not_eq_true', Bool.not_eq_false', Option.isNone_iff_eq_none, ne_eq, Decidable.not_not, Int.not_lt, Int.not_le] at p64
              refine TL_take rfl rfl h64 ?_
              refine TL_q (Qt_move (.pointer _) rfl) rfl ?_
              refine TL_drop (BkS.H x40 x19.1 (blk b13 (.cells x48.1.cells 27 (0, 0)) :: blk b9 (.cells x35.1.cells 27 (0, 0)) :: H)) ?_
              refine TL_take rfl rfl h64 ?_
              refine TL_e rfl (Ef_call (slot_c (k := x40.k)) rfl (fun x66 => ?_))
              refine TL_take rfl rfl h64 ?_
              refine TL_q (Qt_move (.int .i64 _) rfl) rfl ?_
              refine TL_take rfl rfl h64 ?_
              refine TL_q (Qt_lss rfl rfl) rfl ?_
              refine TL_q (Qt_pick_f (.bool _) rfl h64 rfl) rfl ?_
              refine TL_nil ?_
              refine X_then ?_
              refine T_cond rfl (fun h69 => ?_) (fun h69 => ?_)
              ·
                have p69 := h69
                try simp only [decide_eq_true_eq, decide_eq_false_iff_not, Bool.not_eq_true', Bool.not_eq_false', Option.isNone_iff_eq_none, ne_eq, Decidable.not_not, Int.not_lt, Int.not_le] at p69
                exact absurd p69 hr3
              ·
                have p69 := h69
                try simp only [decide_eq_true_eq, decide_eq_false_iff_not, Bool.not_eq_true', Bool.not_eq_false', Option.isNone_iff_eq_none, ne_eq, Decidable.not_not, Int.not_lt, Int.not_le] at p69
                refine T_skip ?_
                refine X_then ?_
                refine T_seq ?_
                refine T_region ?_
                refine TL_q (Qt_move (.bool _) rfl) rfl ?_
                refine TL_q (Qt_move (.bool _) rfl) rfl ?_
                refine TL_split 71 rfl (fun h71 => ?_) (fun h71 => ?_)
                ·
                  have p71 := h71
                  try simp only [decide_eq_true_eq, decide_eq_false_iff_not, Bool.not_eq_true', Bool.not_eq_false', Option.isNone_iff_eq_none, ne_eq, Decidable.not_not, Int.not_lt, Int.not_le] at p71
                  refine TL_take rfl rfl h71 ?_
                  refine TL_q (Qt_move (.pointer _) rfl) rfl ?_
                  refine TL_take rfl rfl h71 ?_
                  refine TL_e rfl (Ef_call (slot_c (k := x40.k)) rfl (fun x73 => ?_))
                  refine TL_take rfl rfl h71 ?_
                  refine TL_q (Qt_move (.int .i64 _) rfl) rfl ?_
                  refine TL_take rfl rfl h71 ?_
                  refine TL_q (Qt_eql rfl rfl) rfl ?_
                  refine TL_q (Qt_pick_t (.bool _) rfl h71 rfl) rfl ?_
                  refine TL_q (Qt_move (.bool _) rfl) rfl ?_
                  refine TL_split 77 rfl (fun h77 => ?_) (fun h77 => ?_)
                  ·
                    have p77 := h77
                    try simp only [decide_eq_true_eq, decide_eq_false_iff_not, Bool.not_eq_true', Bool.not_eq_false', Option.isNone_iff_eq_none, ne_eq, Decidable.not_not, Int.not_lt, Int.not_le] at p77
                    obtain ⟨ha1, ha2, ha3⟩ := rise_acc hz.2 p71 p77 hx35 hx48
                    refine TL_take rfl rfl h77 ?_
                    refine TL_q (Qt_move (.bool _) rfl) rfl ?_
                    refine TL_take rfl rfl h77 ?_
                    refine TL_q (Qt_not rfl) rfl ?_
                    refine TL_take rfl rfl h77 ?_
                    refine TL_q (Qt_move (.bool _) rfl) rfl ?_
                    refine TL_split 80 rfl (fun h80 => ?_) (fun h80 => ?_)
                    ·
                      have p80 := h80
                      try simp only [decide_eq_true_eq, decide_eq_false_iff_not, Bool.not_eq_true', Bool.not_eq_false', Option.isNone_iff_eq_none, ne_eq, Decidable.not_not, Int.not_lt, Int.not_le] at p80
                      exact absurd h80 (by rw [ha1]; simp)
                    ·
                      have p80 := h80
                      try simp only [decide_eq_true_eq, decide_eq_false_iff_not, Bool.not_eq_true', Bool.not_eq_false', Option.isNone_iff_eq_none, ne_eq, Decidable.not_not, Int.not_lt, Int.not_le] at p80
                      refine TL_take rfl rfl h80 ?_
                      refine TL_q (Qt_fieldAddr 1 rfl rfl) rfl ?_
                      refine TL_take rfl rfl h80 ?_
                      refine TL_q (Qt_load1 rfl) rfl ?_
                      refine TL_take rfl rfl h80 ?_
                      refine TL_q (Qt_fieldAddr 1 rfl rfl) rfl ?_
                      refine TL_take rfl rfl h80 ?_
                      refine TL_q (Qt_load1 rfl) rfl ?_
                      refine TL_take rfl rfl h80 ?_
                      refine TL_q (Qt_lss rfl rfl) rfl ?_
                      refine TL_take rfl rfl h77 ?_
                      refine TL_q (Qt_pick_f (.bool _) rfl h80 rfl) rfl ?_
                      refine TL_take rfl rfl h77 ?_
                      refine TL_q (Qt_move (.bool _) rfl) rfl ?_
                      refine TL_split 87 rfl (fun h87 => ?_) (fun h87 => ?_)
                      ·
                        have p87 := h87
                        try simp only [decide_eq_true_eq, decide_eq_false_iff_not, Bool.not_eq_true', Bool.not_eq_false', Option.isNone_iff_eq_none, ne_eq, Decidable.not_not, Int.not_lt, Int.not_le] at p87
                        exact absurd p87 ha2
                      ·
                        have p87 := h87
                        try simp only [decide_eq_true_eq, decide_eq_false_iff_not, Bool.not_eq_true', Bool.not_eq_false', Option.isNone_iff_eq_none, ne_eq, Decidable.not_not, Int.not_lt, Int.not_le] at p87
                        refine TL_take rfl rfl h87 ?_
                        refine TL_q (Qt_fieldAddr 1 rfl rfl) rfl ?_
                        refine TL_take rfl rfl h87 ?_
                        refine TL_q (Qt_load1 rfl) rfl ?_
                        refine TL_take rfl rfl h87 ?_
                        refine TL_q (Qt_fieldAddr 1 rfl rfl) rfl ?_
                        refine TL_take rfl rfl h87 ?_
                        refine TL_q (Qt_load1 rfl) rfl ?_
                        refine TL_take rfl rfl h87 ?_
                        refine TL_q (Qt_eql rfl rfl) rfl ?_
                        refine TL_take rfl rfl h87 ?_
                        refine TL_q (Qt_move (.bool _) rfl) rfl ?_
                        refine TL_split 93 rfl (fun h93 => ?_) (fun h93 => ?_)
                        ·
                          have p93 := h93
                          try simp only [decide_eq_true_eq, decide_eq_false_iff_not, Bool.not_eq_true', Bool.not_eq_false', Option.isNone_iff_eq_none, ne_eq, Decidable.not_not, Int.not_lt, Int.not_le] at p93
                          refine TL_take rfl rfl h93 ?_
                          refine TL_q (Qt_fieldAddr 2 rfl rfl) rfl ?_
                          refine TL_take rfl rfl h93 ?_
                          refine TL_q (Qt_load1 rfl) rfl ?_
                          refine TL_take rfl rfl h93 ?_
                          refine TL_q (Qt_fieldAddr 2 rfl rfl) rfl ?_
                          refine TL_take rfl rfl h93 ?_
                          refine TL_q (Qt_load1 rfl) rfl ?_
                          refine TL_take rfl rfl h93 ?_
                          refine TL_q (Qt_lss rfl rfl) rfl ?_
                          refine TL_take rfl rfl h87 ?_
                          refine TL_q (Qt_pick_t (.bool _) rfl h93 rfl) rfl ?_
                          refine TL_take rfl rfl h77 ?_
                          refine TL_q (Qt_pick_f (.bool _) rfl h87 rfl) rfl ?_
                          refine TL_q (Qt_pick_t (.bool _) rfl h77 rfl) rfl ?_
                          refine TL_nil ?_
                          refine X_then ?_
                          refine T_cond rfl (fun h101 => ?_) (fun h101 => ?_)
                          ·
                            have p101 := h101
                            try simp only [decide_eq_true_eq, decide_eq_false_iff_not, Bool.not_eq_true', Bool.not_eq_false', Option.isNone_iff_eq_none, ne_eq, Decidable.not_not, Int.not_lt, Int.not_le] at p101
                            exact absurd p101 (ha3 p93)
                          ·
                            have p101 := h101
                            try simp only [decide_eq_true_eq, decide_eq_false_iff_not, Bool.not_eq_true', Bool.not_eq_false', Option.isNone_iff_eq_none, ne_eq, Decidable.not_not, Int.not_lt, Int.not_le] at p101
                            refine T_skip ?_
                            refine X_block ?_
                            refine X_then ?_
                            refine T_region ?_
                            first
                              | refine TL_q (Qt_add rfl rfl (by omega) (by omega)) rfl ?_
                              | refine TL_q (Qt_addw rfl rfl) rfl ?_
                            refine TL_q (Qt_move (.int .i64 _) rfl) rfl ?_
                            refine TL_nil ?_
                            refine X_loop _ (by repeat (first | with_reducible exact agree_refl | refine agree_upd rfl ?_ | refine agree_mix rfl ?_ | refine agree_setAll rfl ?_)) (⟨k + 1, x40, rfl, rfl, by omega, hz.1, by rw [hz.2]; exact take_inv hiv⟩) (by show vs.length - (k + 1 : Int).toNat < vs.length - (k : Int).toNat; omega) (fun w hw => Subs.st (H' := BkS.H x40 x19.1 H) inferInstance w hw)
                        ·
                          have p93 := h93
                          try simp only [decide_eq_true_eq, decide_eq_false_iff_not, Bool.not_eq_true', Bool.not_eq_false', Option.isNone_iff_eq_none, ne_eq, Decidable.not_not, Int.not_lt, Int.not_le] at p93
                          refine TL_pass rfl rfl h93 rfl ?_
                          refine TL_pass rfl rfl h93 rfl ?_
                          refine TL_pass rfl rfl h93 rfl ?_
                          refine TL_pass rfl rfl h93 rfl ?_
                          refine TL_pass rfl rfl h93 rfl ?_
                          refine TL_take rfl rfl h87 ?_
                          refine TL_q (Qt_pick_f (.bool _) rfl h93 rfl) rfl ?_
                          refine TL_take rfl rfl h77 ?_
                          refine TL_q (Qt_pick_f (.bool _) rfl h87 rfl) rfl ?_
                          refine TL_q (Qt_pick_t (.bool _) rfl h77 rfl) rfl ?_
                          refine TL_nil ?_
                          refine X_then ?_
                          refine T_cond_false rfl rfl ?_
                          refine T_skip ?_
                          refine X_block ?_
                          refine X_then ?_
                          refine T_region ?_
                          first
                            | refine TL_q (Qt_add rfl rfl (by omega) (by omega)) rfl ?_
                            | refine TL_q (Qt_addw rfl rfl) rfl ?_
                          refine TL_q (Qt_move (.int .i64 _) rfl) rfl ?_
                          refine TL_nil ?_
                          refine X_loop _ (by repeat (first | with_reducible exact agree_refl | refine agree_upd rfl ?_ | refine agree_mix rfl ?_ | refine agree_setAll rfl ?_)) (⟨k + 1, x40, rfl, rfl, by omega, hz.1, by rw [hz.2]; exact take_inv hiv⟩) (by show vs.length - (k + 1 : Int).toNat < vs.length - (k : Int).toNat; omega) (fun w hw => Subs.st (H' := BkS.H x40 x19.1 H) inferInstance w hw)
                  ·
                    have p77 := h77
                    try simp only [decide_eq_true_eq, decide_eq_false_iff_not, Bool.not_eq_true', Bool.not_eq_false', Option.isNone_iff_eq_none, ne_eq, Decidable.not_not, Int.not_lt, Int.not_le] at p77
                    refine TL_pass rfl rfl h77 rfl ?_
                    refine TL_pass rfl rfl h77 rfl ?_
                    refine TL_pass rfl rfl h77 rfl ?_
                    refine TL_passU rfl rfl rfl ?_
                    refine TL_passU rfl rfl rfl ?_
                    refine TL_passU rfl rfl rfl ?_
                    refine TL_passU rfl rfl rfl ?_
                    refine TL_passU rfl rfl rfl ?_
                    refine TL_pass rfl rfl h77 rfl ?_
                    refine TL_pass rfl rfl h77 rfl ?_
                    refine TL_passU rfl rfl rfl ?_
                    refine TL_passU rfl rfl rfl ?_
                    refine TL_passU rfl rfl rfl ?_
                    refine TL_passU rfl rfl rfl ?_
                    refine TL_passU rfl rfl rfl ?_
                    refine TL_passU rfl rfl rfl ?_
                    refine TL_passU rfl rfl rfl ?_
                    refine TL_passU rfl rfl rfl ?_
                    refine TL_passU rfl rfl rfl ?_
                    refine TL_passU rfl rfl rfl ?_
                    refine TL_passU rfl rfl rfl ?_
                    refine TL_passU rfl rfl rfl ?_
                    refine TL_pass rfl rfl h77 rfl ?_
                    refine TL_q (Qt_pick_f (.bool _) rfl h77 rfl) rfl ?_
                    refine TL_nil ?_
                    refine X_then ?_
                    refine T_cond_false rfl rfl ?_
                    refine T_skip ?_
                    refine X_block ?_
                    refine X_then ?_
                    refine T_region ?_
                    first
                      | refine TL_q (Qt_add rfl rfl (by omega) (by omega)) rfl ?_
                      | refine TL_q (Qt_addw rfl rfl) rfl ?_
                    refine TL_q (Qt_move (.int .i64 _) rfl) rfl ?_
                    refine TL_nil ?_
                    refine X_loop _ (by repeat (first | with_reducible exact agree_refl | refine agree_upd rfl ?_ | refine agree_mix rfl ?_ | refine agree_setAll rfl ?_)) (⟨k + 1, x40, rfl, rfl, by omega, hz.1, by rw [hz.2]; exact take_inv hiv⟩) (by show vs.length - (k + 1 : Int).toNat < vs.length - (k : Int).toNat; omega) (fun w hw => Subs.st (H' := BkS.H x40 x19.1 H) inferInstance w hw)
                ·
                  have p71 := h71
                  try simp only [decide_eq_true_eq, decide_eq_false_iff_not, Bool.not_eq_true', Bool.not_eq_false', Option.isNone_iff_eq_none, ne_eq, Decidable.not_not, Int.not_lt, Int.not_le] at p71
                  refine TL_pass rfl rfl h71 rfl ?_
                  refine TL_pass rfl rfl h71 rfl ?_
                  refine TL_pass rfl rfl h71 rfl ?_
                  refine TL_pass rfl rfl h71 rfl ?_
                  refine TL_q (Qt_pick_f (.bool _) rfl h71 rfl) rfl ?_
                  refine TL_q (Qt_move (.bool _) rfl) rfl ?_
                  refine TL_pass rfl rfl rfl rfl ?_
                  refine TL_pass rfl rfl rfl rfl ?_
                  refine TL_pass rfl rfl rfl rfl ?_
                  refine TL_passU rfl rfl rfl ?_
                  refine TL_passU rfl rfl rfl ?_
                  refine TL_passU rfl rfl rfl ?_
                  refine TL_passU rfl rfl rfl ?_
                  refine TL_passU rfl rfl rfl ?_
                  refine TL_pass rfl rfl rfl rfl ?_
                  refine TL_pass rfl rfl rfl rfl ?_
                  refine TL_passU rfl rfl rfl ?_
                  refine TL_passU rfl rfl rfl ?_
                  refine TL_passU rfl rfl rfl ?_
                  refine TL_passU rfl rfl rfl ?_
                  refine TL_passU rfl rfl rfl ?_
                  refine TL_passU rfl rfl rfl ?_
                  refine TL_passU rfl rfl rfl ?_
                  refine TL_passU rfl rfl rfl ?_
                  refine TL_passU rfl rfl rfl ?_
                  refine TL_passU rfl rfl rfl ?_
                  refine TL_passU rfl rfl rfl ?_
                  refine TL_passU rfl rfl rfl ?_
                  refine TL_pass rfl rfl rfl rfl ?_
                  refine TL_q (Qt_pick_f (.bool _) rfl rfl rfl) rfl ?_
                  refine TL_nil ?_
                  refine X_then ?_
                  refine T_cond_false rfl rfl ?_
                  refine T_skip ?_
                  refine X_block ?_
                  refine X_then ?_
                  refine T_region ?_
                  first
                    | refine TL_q (Qt_add rfl rfl (by omega) (by omega)) rfl ?_
                    | refine TL_q (Qt_addw rfl rfl) rfl ?_
                  refine TL_q (Qt_move (.int .i64 _) rfl) rfl ?_
                  refine TL_nil ?_
                  refine X_loop _ (by repeat (first | with_reducible exact agree_refl | refine agree_upd rfl ?_ | refine agree_mix rfl ?_ | refine agree_setAll rfl ?_)) (⟨k + 1, x40, rfl, rfl, by omega, hz.1, by rw [hz.2]; exact take_inv hiv⟩) (by show vs.length - (k + 1 : Int).toNat < vs.length - (k : Int).toNat; omega) (fun w hw => Subs.st (H' := BkS.H x40 x19.1 H) inferInstance w hw)
          ·
            have p58 := h58
            try simp only [decide_eq_true_eq, decide_eq_false_iff_not, Bool.not_eq_true', Bool.not_eq_false', Option.isNone_iff_eq_none, ne_eq, Decidable.not_not, Int.not_lt, Int.not_le] at p58
            refine TL_pass rfl rfl h58 rfl ?_
            refine TL_pass rfl rfl h58 rfl ?_
            refine TL_pass rfl rfl h58 rfl ?_
            refine TL_take rfl rfl h54 ?_
            refine TL_q (Qt_pick_f (.bool _) rfl h58 rfl) rfl ?_
            refine TL_q (Qt_pick_f (.bool _) rfl h54 rfl) rfl ?_
            refine TL_q (Qt_move (.bool _) rfl) rfl ?_
            refine TL_take rfl rfl rfl ?_
            refine TL_q (Qt_move (.pointer _) rfl) rfl ?_
            refine TL_drop (BkS.H x40 x19.1 (blk b13 (.cells x48.1.cells 27 (0, 0)) :: blk b9 (.cells x35.1.cells 27 (0, 0)) :: H)) ?_
            refine TL_take rfl rfl rfl ?_
            refine TL_e rfl (Ef_call (slot_c (k := x40.k)) rfl (fun x66 => ?_))
            refine TL_take rfl rfl rfl ?_
            refine TL_q (Qt_move (.int .i64 _) rfl) rfl ?_
            refine TL_take rfl rfl rfl ?_
            refine TL_q (Qt_lss rfl rfl) rfl ?_
            refine TL_q (Qt_pick_f (.bool _) rfl rfl rfl) rfl ?_
            refine TL_nil ?_
            refine X_then ?_
            refine T_cond rfl (fun h69 => ?_) (fun h69 => ?_)
            ·
              have p69 := h69
              try simp only [decide_eq_true_eq, decide_eq_false_iff_not, Bool.not_eq_true', Bool.not_eq_false', Option.isNone_iff_eq_none, ne_eq, Decidable.not_not, Int.not_lt, Int.not_le] at p69
              exact absurd p69 hr3
            ·
              have p69 := h69
              try simp only [decide_eq_true_eq, decide_eq_false_iff_not, Bool.not_eq_true', Bool.not_eq_false', Option.isNone_iff_eq_none, ne_eq, Decidable.not_not, Int.not_lt, Int.not_le] at p69
              refine T_skip ?_
              refine X_then ?_
              refine T_seq ?_
              refine T_region ?_
              refine TL_q (Qt_move (.bool _) rfl) rfl ?_
              refine TL_q (Qt_move (.bool _) rfl) rfl ?_
              refine TL_split 71 rfl (fun h71 => ?_) (fun h71 => ?_)
              ·
                have p71 := h71
                try simp only [decide_eq_true_eq, decide_eq_false_iff_not, Bool.not_eq_true', Bool.not_eq_false', Option.isNone_iff_eq_none, ne_eq, Decidable.not_not, Int.not_lt, Int.not_le] at p71
                refine TL_take rfl rfl h71 ?_
                refine TL_q (Qt_move (.pointer _) rfl) rfl ?_
                refine TL_take rfl rfl h71 ?_
                refine TL_e rfl (Ef_call (slot_c (k := x40.k)) rfl (fun x73 => ?_))
                refine TL_take rfl rfl h71 ?_
                refine TL_q (Qt_move (.int .i64 _) rfl) rfl ?_
                refine TL_take rfl rfl h71 ?_
                refine TL_q (Qt_eql rfl rfl) rfl ?_
                refine TL_q (Qt_pick_t (.bool _) rfl h71 rfl) rfl ?_
                refine TL_q (Qt_move (.bool _) rfl) rfl ?_
                refine TL_split 77 rfl (fun h77 => ?_) (fun h77 => ?_)
                ·
                  have p77 := h77
                  try simp only [decide_eq_true_eq, decide_eq_false_iff_not, Bool.not_eq_true', Bool.not_eq_false', Option.isNone_iff_eq_none, ne_eq, Decidable.not_not, Int.not_lt, Int.not_le] at p77
                  obtain ⟨ha1, ha2, ha3⟩ := rise_acc hz.2 p71 p77 hx35 hx48
                  refine TL_take rfl rfl h77 ?_
                  refine TL_q (Qt_move (.bool _) rfl) rfl ?_
                  refine TL_take rfl rfl h77 ?_
                  refine TL_q (Qt_not rfl) rfl ?_
                  refine TL_take rfl rfl h77 ?_
                  refine TL_q (Qt_move (.bool _) rfl) rfl ?_
                  refine TL_split 80 rfl (fun h80 => ?_) (fun h80 => ?_)
                  ·
                    have p80 := h80
                    try simp only [decide_eq_true_eq, decide_eq_false_iff_not, Bool.not_eq_true', Bool.not_eq_false', Option.isNone_iff_eq_none, ne_eq, Decidable.not_not, Int.not_lt, Int.not_le] at p80
                    exact absurd h80 (by rw [ha1]; simp)
                  ·
                    have p80 := h80
                    try simp only [decide_eq_true_eq, decide_eq_false_iff_not, Bool.not_eq_true', Bool.not_eq_false', Option.isNone_iff_eq_none, ne_eq, Decidable.not_not, Int.not_lt, Int.not_le] at p80
                    refine TL_take rfl rfl h80 ?_
                    refine TL_q (Qt_fieldAddr 1 rfl rfl) rfl ?_
                    refine TL_take rfl rfl h80 ?_
                    refine TL_q (Qt_load1 rfl) rfl ?_
                    refine TL_take rfl rfl h80 ?_
                    refine TL_q (Qt_fieldAddr 1 rfl rfl) rfl ?_
                    refine TL_take rfl rfl h80 ?_
                    refine TL_q (Qt_load1 rfl) rfl ?_
                    refine TL_take rfl rfl h80 ?_
                    refine TL_q (Qt_lss rfl rfl) rfl ?_
                    refine TL_take rfl rfl h77 ?_
                    refine TL_q (Qt_pick_f (.bool _) rfl h80 rfl) rfl ?_
                    refine TL_take rfl rfl h77 ?_
                    refine TL_q (Qt_move (.bool _) rfl) rfl ?_
                    refine TL_split 87 rfl (fun h87 => ?_) (fun h87 => ?_)
                    ·
                      have p87 := h87
                      try simp only [decide_eq_true_eq, decide_eq_false_iff_not, Bool.not_eq_true', Bool.not_eq_false', Option.isNone_iff_eq_none, ne_eq, Decidable.not_not, Int.not_lt, Int.not_le] at p87
                      exact absurd p87 ha2
                    ·
                      have p87 := h87
                      try simp only [decide_eq_true_eq, decide_eq_false_iff_not, Bool.not_eq_true', Bool.not_eq_false', Option.isNone_iff_eq_none, ne_eq, Decidable.not_not, Int.not_lt, Int.not_le] at p87
                      refine TL_take rfl rfl h87 ?_
                      refine TL_q (Qt_fieldAddr 1 rfl rfl) rfl ?_
                      refine TL_take rfl rfl h87 ?_
                      refine TL_q (Qt_load1 rfl) rfl ?_
                      refine TL_take rfl rfl h87 ?_
                      refine TL_q (Qt_fieldAddr 1 rfl rfl) rfl ?_
                      refine TL_take rfl rfl h87 ?_
                      refine TL_q (Qt_load1 rfl) rfl ?_
                      refine TL_take rfl rfl h87 ?_
                      refine TL_q (Qt_eql rfl rfl) rfl ?_
                      refine TL_take rfl rfl h87 ?_
                      refine TL_q (Qt_move (.bool _) rfl) rfl ?_
                      refine TL_split 93 rfl (fun h93 => ?_) (fun h93 => ?_)
                      ·
                        have p93 := h93
                        try simp only [decide_eq_true_eq, decide_eq_false_iff_not, Bool.not_eq_true', Bool.not_eq_false', Option.isNone_iff_eq_none, ne_eq, Decidable.not_not, Int.not_lt, Int.not_le] at p93
                        refine TL_take rfl rfl h93 ?_
                        refine TL_q (Qt_fieldAddr 2 rfl rfl) rfl ?_
                        refine TL_take rfl rfl h93 ?_
                        refine TL_q (Qt_load1 rfl) rfl ?_
                        refine TL_take rfl rfl h93 ?_
                        refine TL_q (Qt_fieldAddr 2 rfl rfl) rfl ?_
                        refine TL_take rfl rfl h93 ?_
                        refine TL_q (Qt_load1 rfl) rfl ?_
                        refine TL_take rfl rfl h93 ?_
                        refine TL_q (Qt_lss rfl rfl) rfl ?_
                        refine TL_take rfl rfl h87 ?_
                        refine TL_q (Qt_pick_t (.bool _) rfl h93 rfl) rfl ?_
                        refine TL_take rfl rfl h77 ?_
                        refine TL_q (Qt_pick_f (.bool _) rfl h87 rfl) rfl ?_
                        refine TL_q (Qt_pick_t (.bool _) rfl h77 rfl) rfl ?_
                        refine TL_nil ?_
                        refine X_then ?_
                        refine T_cond rfl (fun h101 => ?_) (fun h101 => ?_)
                        ·
                          have p101 := h101
                          try simp only [decide_eq_true_eq, decide_eq_false_iff_not, Bool.not_eq_true', Bool.not_eq_false', Option.isNone_iff_eq_none, ne_eq, Decidable.not_not, Int.not_lt, Int.not_le] at p101
                          exact absurd p101 (ha3 p93)
                        ·
                          have p101 := h101
                          try simp only [decide_eq_true_eq, decide_eq_false_iff_not, Bool.not_eq_true', Bool.not_eq_false', Option.isNone_iff_eq_none, ne_eq, Decidable.not_not, Int.not_lt, Int.not_le] at p101
                          refine T_skip ?_
                          refine X_block ?_
                          refine X_then ?_
                          refine T_region ?_
                          first
                            | refine TL_q (Qt_add rfl rfl (by omega) (by omega)) rfl ?_
                            | refine TL_q (Qt_addw rfl rfl) rfl ?_
                          refine TL_q (Qt_move (.int .i64 _) rfl) rfl ?_
                          refine TL_nil ?_
                          refine X_loop _ (by repeat (first | with_reducible exact agree_refl | refine agree_upd rfl ?_ | refine agree_mix rfl ?_ | refine agree_setAll rfl ?_)) (⟨k + 1, x40, rfl, rfl, by omega, hz.1, by rw [hz.2]; exact take_inv hiv⟩) (by show vs.length - (k + 1 : Int).toNat < vs.length - (k : Int).toNat; omega) (fun w hw => Subs.st (H' := BkS.H x40 x19.1 H) inferInstance w hw)
                      ·
                        have p93 := h93
                        try simp only [decide_eq_true_eq, decide_eq_false_iff_not, Bool.not_eq_true', Bool.not_eq_false', Option.isNone_iff_eq_none, ne_eq, Decidable.not_not, Int.not_lt, Int.not_le] at p93
                        refine TL_pass rfl rfl h93 rfl ?_
                        refine TL_pass rfl rfl h93 rfl ?_
                        refine TL_pass rfl rfl h93 rfl ?_
                        refine TL_pass rfl rfl h93 rfl ?_
                        refine TL_pass rfl rfl h93 rfl ?_
                        refine TL_take rfl rfl h87 ?_
                        refine TL_q (Qt_pick_f (.bool _) rfl h93 rfl) rfl ?_
                        refine TL_take rfl rfl h77 ?_
                        refine TL_q (Qt_pick_f (.bool _) rfl h87 rfl) rfl ?_
                        refine TL_q (Qt_pick_t (.bool _) rfl h77 rfl) rfl ?_
                        refine TL_nil ?_
                        refine X_then ?_
                        refine T_cond_false rfl rfl ?_
                        refine T_skip ?_
                        refine X_block ?_
                        refine X_then ?_
                        refine T_region ?_
                        first
                          | refine TL_q (Qt_add rfl rfl (by omega) (by omega)) rfl ?_
                          | refine TL_q (Qt_addw rfl rfl) rfl ?_
                        refine TL_q (Qt_move (.int .i64 _) rfl) rfl ?_
                        refine TL_nil ?_
                        refine X_loop _ (by repeat (first | with_reducible exact agree_refl | refine agree_upd rfl ?_ | refine agree_mix rfl ?_ | refine agree_setAll rfl ?_)) (⟨k + 1, x40, rfl, rfl, by omega, hz.1, by rw [hz.2]; exact take_inv hiv⟩) (by show vs.length - (k + 1 : Int).toNat < vs.length - (k : Int).toNat; omega) (fun w hw => Subs.st (H' := BkS.H x40 x19.1 H) inferInstance w hw)
                ·
                  have p77 := h77
                  try simp only [decide_eq_true_eq, decide_eq_false_iff_not, Bool.not_eq_true', Bool.not_eq_false', Option.isNone_iff_eq_none, ne_eq, Decidable.not_not, Int.not_lt, Int.not_le] at p77
                  refine TL_pass rfl rfl h77 rfl ?_
                  refine TL_pass rfl rfl h77 rfl ?_
                  refine TL_pass rfl rfl h77 rfl ?_
                  refine TL_passU rfl rfl rfl ?_
                  refine TL_passU rfl rfl rfl ?_
                  refine TL_passU rfl rfl rfl ?_
                  refine TL_passU rfl rfl rfl ?_
                  refine TL_passU rfl rfl rfl ?_
                  refine TL_pass rfl rfl h77 rfl ?_
                  refine TL_pass rfl rfl h77 rfl ?_
                  refine TL_passU rfl rfl rfl ?_
                  refine TL_passU rfl rfl rfl ?_
                  refine TL_passU rfl rfl rfl ?_
                  refine TL_passU rfl rfl rfl ?_
                  refine TL_passU rfl rfl rfl ?_
                  refine TL_passU rfl rfl rfl ?_
                  refine TL_passU rfl rfl rfl ?_
                  refine TL_passU rfl rfl rfl ?_
                  refine TL_passU rfl rfl rfl ?_
                  refine TL_passU rfl rfl rfl ?_
                  refine TL_passU rfl rfl rfl ?_
                  refine TL_passU rfl rfl rfl ?_
                  refine TL_pass rfl rfl h77 rfl ?_
                  refine TL_q (Qt_pick_f (.bool _) rfl h77 rfl) rfl ?_
                  refine TL_nil ?_
                  refine X_then ?_
                  refine T_cond_false rfl rfl ?_
                  refine T_skip ?_
                  refine X_block ?_
                  refine X_then ?_
                  refine T_region ?_
                  first
                    | refine TL_q (Qt_add rfl rfl (by omega) (by omega)) rfl ?_
                    | refine TL_q (Qt_addw rfl rfl) rfl ?_
                  refine TL_q (Qt_move (.int .i64 _) rfl) rfl ?_
                  refine TL_nil ?_
                  refine X_loop _ (by repeat (first | with_reducible exact agree_refl | refine agree_upd rfl ?_ | refine agree_mix rfl ?_ | refine agree_setAll rfl ?_)) (⟨k + 1, x40, rfl, rfl, by omega, hz.1, by rw [hz.2]; exact take_inv hiv⟩) (by show vs.length - (k + 1 : Int).toNat < vs.length - (k : Int).toNat; omega) (fun w hw => Subs.st (H' := BkS.H x40 x19.1 H) inferInstance w hw)
              ·
                have p71 := h71
                try simp only [decide_eq_true_eq, decide_eq_false_iff_not, Bool.not_eq_true', Bool.not_eq_false', Option.isNone_iff_eq_none, ne_eq, Decidable.not_not, Int.not_lt, Int.not_le] at p71
                refine TL_pass rfl rfl h71 rfl ?_
                refine TL_pass rfl rfl h71 rfl ?_
                refine TL_pass rfl rfl h71 rfl ?_
                refine TL_pass rfl rfl h71 rfl ?_
                refine TL_q (Qt_pick_f (.bool _) rfl h71 rfl) rfl ?_
                refine TL_q (Qt_move (.bool _) rfl) rfl ?_
                refine TL_pass rfl rfl rfl rfl ?_
                refine TL_pass rfl rfl rfl rfl ?_
                refine TL_pass rfl rfl rfl rfl ?_
                refine TL_passU rfl rfl rfl ?_
                refine TL_passU rfl rfl rfl ?_
                refine TL_passU rfl rfl rfl ?_
                refine TL_passU rfl rfl rfl ?_
                refine TL_passU rfl rfl rfl ?_
                refine TL_pass rfl rfl rfl rfl ?_
                refine TL_pass rfl rfl rfl rfl ?_
                refine TL_passU rfl rfl rfl ?_
                refine TL_passU rfl rfl rfl ?_
                refine TL_passU rfl rfl rfl ?_
                refine TL_passU rfl rfl rfl ?_
                refine TL_passU rfl rfl rfl ?_
                refine TL_passU rfl rfl rfl ?_
                refine TL_passU rfl rfl rfl ?_
                refine TL_passU rfl rfl rfl ?_
                refine TL_passU rfl rfl rfl ?_
                refine TL_passU rfl rfl rfl ?_
                refine TL_passU rfl rfl rfl ?_
                refine TL_passU rfl rfl rfl ?_
                refine TL_pass rfl rfl rfl rfl ?_
                refine TL_q (Qt_pick_f (.bool _) rfl rfl rfl) rfl ?_
                refine TL_nil ?_
                refine X_then ?_
                refine T_cond_false rfl rfl ?_
                refine T_skip ?_
                refine X_block ?_
                refine X_then ?_
                refine T_region ?_
                first
                  | refine TL_q (Qt_add rfl rfl (by omega) (by omega)) rfl ?_
                  | refine TL_q (Qt_addw rfl rfl) rfl ?_
                refine TL_q (Qt_move (.int .i64 _) rfl) rfl ?_
                refine TL_nil ?_
                refine X_loop _ (by repeat (first | with_reducible exact agree_refl | refine agree_upd rfl ?_ | refine agree_mix rfl ?_ | refine agree_setAll rfl ?_)) (⟨k + 1, x40, rfl, rfl, by omega, hz.1, by rw [hz.2]; exact take_inv hiv⟩) (by show vs.length - (k + 1 : Int).toNat < vs.length - (k : Int).toNat; omega) (fun w hw => Subs.st (H' := BkS.H x40 x19.1 H) inferInstance w hw)
      ·
        have p23 := h23
        try simp only [decide_eq_true_eq, decide_eq_false_iff_not, Bool.not_eq_true', Bool.not_eq_false', Option.isNone_iff_eq_none, ne_eq, Decidable.not_not, Int.not_lt, Int.not_le] at p23
        refine T_exit ?_
        refine X_then_exit ?_
        refine X_loop_exit ?_
        refine X_block_exit ?_
        refine X_then ?_
        refine T_seq ?_
        refine T_region ?_
        refine TL_q (Qt_assign (.bool _) rfl) rfl ?_
        refine TL_nil ?_
        refine X_then ?_
        refine T_ret ?_
        exact X_ret () [_] Try.results4 ⟨rfl, trivial⟩ rfl (Subs.st inferInstance)
end Go.Proofs.Ytdjbhpdfkopdgaa
