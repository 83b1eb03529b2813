/- A book that is what votes that came make is told so. -/
import Derived.Test.YtdjbhpdfkopdgaaRc
import Derived.Test.YtdjbhpdfkopdgaaSd
namespace Go.Proofs.Ytdjbhpdfkopdgaa
open Go.RowKit Go.Sx
set_option maxRecDepth 100000
set_option linter.unusedSimpArgs false
set_option linter.unusedVariables false
/-- The book is what the votes make. -/
structure SameL (y : BkS) (ls : List VoteV) : Prop where
  reg : 0 ≤ (regL ls).1 → y.k.now.view = (regL ls).1 ∧ y.k.now.reg = (regL ls).2
  noreg : (regL ls).1 < 0 → y.k.now.view = 0 ∧ y.k.now.reg = 0
  slot : y.k.slot = slotL ls
  acc : (y.acc.map fun q => q.2.abs) = (accL ls).map VoteV.abs
  wrote : ∀ a, (getE y.es a).map VoteV.abs = (wroteL ls a).map VoteV.abs
theorem accL_mem (ls : List VoteV) : (accL ls).getD VoteV.zero ∈ VoteV.zero :: ls := by
  have key : ∀ (s : Int) (l : List VoteV) (o : Option VoteV), (∀ u, o = some u → u ∈ ls) → (∀ u ∈ l, u ∈ ls) → ∀ u, l.foldl (accS s) o = some u → u ∈ ls := by
    intro s l
    induction l with
    | nil => intro o ho _ u hu; exact ho u hu
    | cons v l ih =>
      intro o ho hl u hu
      refine ih (accS s o v) (fun w hw => ?_) (fun w hw => hl w (by simp [hw])) u hu
      unfold accS at hw
      split at hw
      · exact ho w hw
      · cases o with
        | none => obtain rfl : v = w := by simpa using hw
                  exact hl v (by simp)
        | some q =>
          simp only at hw
          split at hw
          · obtain rfl : v = w := by simpa using hw
            exact hl v (by simp)
          · exact ho w hw
  cases h : accL ls with
  | none => simp
  | some u => exact List.mem_cons_of_mem _ (key _ ls none (fun _ h => by cases h) (fun _ h => h) u h)
theorem wroteL_mem (ls : List VoteV) (a : EraV) : (wroteL ls a).getD VoteV.zero ∈ VoteV.zero :: ls := by
  cases h : wroteL ls a with
  | none => simp
  | some u => exact List.mem_cons_of_mem _ (List.mem_of_find?_eq_some h)
theorem map_some {α β : Type} {f : α → β} {x y : Option α} (h : x.map f = y.map f) : x.isSome = y.isSome := by
  have := congrArg Option.isSome h; simpa using this
theorem map_getD {x y : Option VoteV} (h : x.map VoteV.abs = y.map VoteV.abs) : (x.getD VoteV.zero).abs = (y.getD VoteV.zero).abs := by
  cases x <;> cases y <;> simp_all

set_option maxHeartbeats 1000000 in
theorem sameBook_c {w0 : World} {H : List SA} {p : Nat} {y : BkS} {a : Option Addr} {ls : List VoteV} {c : Nat} [hr : RdC w0 H (.slice a ls.length c) 38 (ls.flatMap VoteV.list)] [rv : RdVs w0 H ls] (hn : ls.length ≤ 1000000) (hy : y.Ok) (hs : SameL y ls) (hsm : ∀ v ∈ ls, SmallV v.abs) :
    CT Try.prog w0 (y.H p H) 20 [.pointer (some ⟨p, 0, none⟩), .slice a ls.length c] (α := Unit) (fun _ => .bool true) (fun _ => y.H p H) := by
  refine CT_intro Try.func20 rfl Try.ntmps20 rfl ?_
  refine T_seq ?_
  refine T_region ?_
  refine TL_q (Qt_assign (.bool _) rfl) rfl ?_
  refine TL_nil ?_
  refine X_then ?_
  refine T_seq ?_
  refine T_region ?_
  refine TL_q (Qt_move (.slice _ _ _) rfl) rfl ?_
  refine TL_e rfl (Ef_call (rReg_c hn) rfl (fun x21 => ?_))
  refine TL_q (Qt_move (.tuple _) rfl) rfl ?_
  refine TL_q (Qt_extract rfl) rfl ?_
  refine TL_q (Qt_extract rfl) rfl ?_
  refine TL_q (Qt_assign (.int .i64 _) rfl) rfl ?_
  refine TL_q (Qt_assign (.int .i64 _) rfl) rfl ?_
  refine TL_nil ?_
  refine X_then ?_
  refine T_seq ?_
  refine T_region ?_
  refine TL_q (Qt_move (.pointer _) rfl) rfl ?_
  refine TL_e rfl (Ef_call (reg_c (k := y.k)) rfl (fun x26 => ?_))
  refine TL_q (Qt_move (.tuple _) rfl) rfl ?_
  refine TL_q (Qt_extract rfl) rfl ?_
  refine TL_q (Qt_extract rfl) rfl ?_
  refine TL_q (Qt_assign (.int .i64 _) rfl) rfl ?_
  refine TL_q (Qt_assign (.int .i64 _) rfl) rfl ?_
  refine TL_nil ?_
  refine X_then ?_
  refine T_seq ?_
  refine T_seq ?_
  refine T_region ?_
  refine TL_q (Qt_move (.int .i64 _) rfl) rfl ?_
  refine TL_q (Qt_geq rfl rfl) rfl ?_
  refine TL_q (Qt_move (.bool _) rfl) rfl ?_
  refine TL_split 31 rfl (fun h31 => ?_) (fun h31 => ?_)
  ·
    have p31 := h31
    try simp only [decide_eq_true_eq, decide_eq_false_iff_not, Bool.not_eq_true', Bool.not_eq_false', Option.isNone_iff_eq_none, ne_eq, Decidable.not_not, Int.not_lt, Int.not_le] at p31
    obtain ⟨hr1, hr2⟩ := hs.reg p31
    refine TL_take rfl rfl h31 ?_
    refine TL_q (Qt_move (.int .i64 _) rfl) rfl ?_
    refine TL_take rfl rfl h31 ?_
    refine TL_q (Qt_move (.int .i64 _) rfl) rfl ?_
    refine TL_take rfl rfl h31 ?_
    refine TL_q (Qt_neq rfl rfl) rfl ?_
    refine TL_take rfl rfl h31 ?_
    refine TL_q (Qt_move (.bool _) rfl) rfl ?_
    refine TL_split 35 rfl (fun h35 => ?_) (fun h35 => ?_)
    ·
      have p35 := h35
      try simp only [decide_eq_true_eq, decide_eq_false_iff_not, Bool.not_eq_true', Bool.not_eq_false', Option.isNone_iff_eq_none, ne_eq, Decidable.not_not, Int.not_lt, Int.not_le] at p35
      exact absurd hr1 p35
    ·
      have p35 := h35
      try simp only [decide_eq_true_eq, decide_eq_false_iff_not, Bool.not_eq_true', Bool.not_eq_false', Option.isNone_iff_eq_none, ne_eq, Decidable.not_not, Int.not_lt, Int.not_le] at p35
      refine TL_take rfl rfl h35 ?_
      refine TL_q (Qt_move (.int .i64 _) rfl) rfl ?_
      refine TL_take rfl rfl h35 ?_
      refine TL_q (Qt_move (.int .i64 _) rfl) rfl ?_
      refine TL_take rfl rfl h35 ?_
      refine TL_q (Qt_neq rfl rfl) rfl ?_
      refine TL_take rfl rfl h31 ?_
      refine TL_q (Qt_pick_f (.bool _) rfl h35 rfl) rfl ?_
      refine TL_q (Qt_pick_t (.bool _) rfl h31 rfl) rfl ?_
      refine TL_q (Qt_move (.bool _) rfl) rfl ?_
      refine TL_split 41 rfl (fun h41 => ?_) (fun h41 => ?_)
      ·
        have p41 := h41
        try simp only [decide_eq_true_eq, decide_eq_false_iff_not, Bool.not_eq_true', Bool.not_eq_false', Option.isNone_iff_eq_none, ne_eq, Decidable.not_not, Int.not_lt, Int.not_le] at p41
        exact absurd hr2 p41
      ·
        have p41 := h41
        try simp only [decide_eq_true_eq, decide_eq_false_iff_not, Bool.not_eq_true', Bool.not_eq_false', Option.isNone_iff_eq_none, ne_eq, Decidable.not_not, Int.not_lt, Int.not_le] at p41
        refine TL_take rfl rfl h41 ?_
        refine TL_q (Qt_move (.int .i64 _) rfl) rfl ?_
        refine TL_take rfl rfl h41 ?_
        refine TL_q (Qt_lss rfl rfl) rfl ?_
        refine TL_take rfl rfl h41 ?_
        refine TL_q (Qt_move (.bool _) rfl) rfl ?_
        refine TL_split 44 rfl (fun h44 => ?_) (fun h44 => ?_)
        ·
          have p44 := h44
          try simp only [decide_eq_true_eq, decide_eq_false_iff_not, Bool.not_eq_true', Bool.not_eq_false', Option.isNone_iff_eq_none, ne_eq, Decidable.not_not, Int.not_lt, Int.not_le] at p44
          obtain ⟨hz1, hz2⟩ := hs.noreg p44
          refine TL_take rfl rfl h44 ?_
          refine TL_q (Qt_move (.int .i64 _) rfl) rfl ?_
          refine TL_take rfl rfl h44 ?_
          refine TL_q (Qt_move (.int .i64 _) rfl) rfl ?_
          refine TL_take rfl rfl h44 ?_
          first
            | refine TL_q (Qt_add rfl rfl (by omega) (by omega)) rfl ?_
            | refine TL_q (Qt_addw rfl rfl) rfl ?_
          refine TL_take rfl rfl h44 ?_
          refine TL_q (Qt_neq rfl rfl) rfl ?_
          refine TL_take rfl rfl h41 ?_
          refine TL_q (Qt_pick_t (.bool _) rfl h44 rfl) rfl ?_
          refine TL_q (Qt_pick_f (.bool _) rfl h41 rfl) rfl ?_
          refine TL_q (Qt_move (.bool _) rfl) rfl ?_
          refine TL_split 51 rfl (fun h51 => ?_) (fun h51 => ?_)
          ·
            have p51 := h51
            try simp only [decide_eq_true_eq, decide_eq_false_iff_not, Bool.not_eq_true', Bool.not_eq_false', Option.isNone_iff_eq_none, ne_eq, Decidable.not_not, Int.not_lt, Int.not_le] at p51
            exact absurd h51 (by rw [hz1, hz2]; decide)
          ·
            have p51 := h51
            try simp only [decide_eq_true_eq, decide_eq_false_iff_not, Bool.not_eq_true', Bool.not_eq_false', Option.isNone_iff_eq_none, ne_eq, Decidable.not_not, Int.not_lt, Int.not_le] at p51
            refine TL_take rfl rfl h51 ?_
            refine TL_q (Qt_move (.pointer _) rfl) rfl ?_
            refine TL_take rfl rfl h51 ?_
            refine TL_e rfl (Ef_call (slot_c (k := y.k)) rfl (fun x53 => ?_))
            refine TL_take rfl rfl h51 ?_
            refine TL_q (Qt_move (.slice _ _ _) rfl) rfl ?_
            refine TL_take rfl rfl h51 ?_
            refine TL_e rfl (Ef_call (rSlot_c hn) rfl (fun x55 => ?_))
            refine TL_take rfl rfl h51 ?_
            refine TL_q (Qt_neq rfl rfl) rfl ?_
            refine TL_q (Qt_pick_f (.bool _) rfl h51 rfl) rfl ?_
            refine TL_nil ?_
            refine X_then ?_
            refine T_cond rfl (fun h57 => ?_) (fun h57 => ?_)
            ·
              have p57 := h57
              try simp only [decide_eq_true_eq, decide_eq_false_iff_not, Bool.not_eq_true', Bool.not_eq_false', Option.isNone_iff_eq_none, ne_eq, Decidable.not_not, Int.not_lt, Int.not_le] at p57
              exact absurd hs.slot p57
            ·
              have p57 := h57
              try simp only [decide_eq_true_eq, decide_eq_false_iff_not, Bool.not_eq_true', Bool.not_eq_false', Option.isNone_iff_eq_none, ne_eq, Decidable.not_not, Int.not_lt, Int.not_le] at p57
              refine T_skip ?_
              refine X_then ?_
              refine T_seq ?_
              refine T_region ?_
              refine TL_q (Qt_move (.pointer _) rfl) rfl ?_
              refine TL_e rfl (Ef_call (accepted_c (y := y) hy) rfl (fun x60 => ?_))
              refine TL_pure (fun hu60 => ?_)
              have hu60 : x60.1.abs = ((accL ls).getD VoteV.zero).abs := hu60.trans (map_getD (by rw [Option.map_map]; exact hs.acc))
              have hsx : SmallV x60.1.abs := by rw [hu60]; rcases List.mem_cons.1 (accL_mem ls) with h | h; rw [h]; exact small_zero; exact hsm _ h
              have rvs : RdVs w0 (datV x60.2 [x60.1] :: BkS.H y p H) [x60.1] := inferInstance
              have rbx := rvs.b x60.1 (by simp)
              have rcx := rvs.c x60.1 (by simp)
              have rex := rvs.e x60.1 (by simp)
              have rvz : RdVs w0 H (VoteV.zero :: ls) := rd_zero
              have rbz := rvz.b _ (accL_mem ls)
              have rcz := rvz.c _ (accL_mem ls)
              have rez := rvz.e _ (accL_mem ls)
              refine TL_q (Qt_move (.tuple _) rfl) rfl ?_
              refine TL_q (Qt_extract rfl) rfl ?_
              refine TL_q (Qt_extract rfl) rfl ?_
              refine TL_e rfl (Ef_allocN (fun b9 => ?_))
              refine TL_n (Ef_storeN rfl rfl (?_))
              refine TL_q (Qt_assign (.bool _) rfl) rfl ?_
              refine TL_nil ?_
              refine X_then ?_
              refine T_seq ?_
              refine T_region ?_
              refine TL_q (Qt_move (.slice _ _ _) rfl) rfl ?_
              refine TL_e rfl (Ef_call (rAccepted_c hn) rfl (fun x65 => ?_))
              refine TL_q (Qt_move (.tuple _) rfl) rfl ?_
              refine TL_q (Qt_extract rfl) rfl ?_
              refine TL_q (Qt_extract rfl) rfl ?_
              refine TL_e rfl (Ef_allocN (fun b11 => ?_))
              refine TL_n (Ef_storeN rfl rfl (?_))
              refine TL_q (Qt_assign (.bool _) rfl) rfl ?_
              refine TL_nil ?_
              refine X_then ?_
              refine T_seq ?_
              refine T_seq ?_
              refine T_region ?_
              refine TL_q (Qt_move (.bool _) rfl) rfl ?_
              refine TL_q (Qt_move (.bool _) rfl) rfl ?_
              refine TL_q (Qt_bool_neq rfl rfl Try.underlying4) rfl ?_
              refine TL_q (Qt_move (.bool _) rfl) rfl ?_
              have hacc : (accL ls).isSome = y.acc.isSome := by have := congrArg Option.isSome hs.acc; simpa using this.symm
              refine TL_split 71 rfl (fun h71 => ?_) (fun h71 => ?_)
              ·
                have p71 := h71
                try simp only [decide_eq_true_eq, decide_eq_false_iff_not, Bool.not_eq_true', Bool.not_eq_false', Option.isNone_iff_eq_none, ne_eq, Decidable.not_not, Int.not_lt, Int.not_le] at p71
                exact absurd h71 (by rw [hacc]; simp)
              ·
                have p71 := h71
                try simp only [decide_eq_true_eq, decide_eq_false_iff_not, Bool.not_eq_true', Bool.not_eq_false', Option.isNone_iff_eq_none, ne_eq, Decidable.not_not, Int.not_lt, Int.not_le] at p71
                have hacc : (accL ls).isSome = y.acc.isSome := by have := congrArg Option.isSome hs.acc; simpa using this.symm
                refine TL_take rfl rfl h71 ?_
                refine TL_q (Qt_loadN rfl rfl) rfl ?_
                refine TL_take rfl rfl h71 ?_
                refine TL_q (Qt_loadN rfl rfl) rfl ?_
                refine TL_take rfl rfl h71 ?_
                refine TL_e rfl (Ef_call (same13_c (v := x60.1) (u := (accL ls).getD VoteV.zero) (by have := hsx.batch; omega) (by have := hsx.cert; omega) (fun x hx => by have := hsx.each x hx; omega)) rfl (fun x74 => ?_))
                refine TL_take rfl rfl h71 ?_
                refine TL_q (Qt_not rfl) rfl ?_
                refine TL_q (Qt_pick_f (.bool _) rfl h71 rfl) rfl ?_
                refine TL_nil ?_
                refine X_then ?_
                refine T_cond rfl (fun h76 => ?_) (fun h76 => ?_)
                ·
                  have p76 := h76
                  try simp only [decide_eq_true_eq, decide_eq_false_iff_not, Bool.not_eq_true', Bool.not_eq_false', Option.isNone_iff_eq_none, ne_eq, Decidable.not_not, Int.not_lt, Int.not_le] at p76
                  exact absurd h76 (by rw [hu60]; simp)
                ·
                  have p76 := h76
                  try simp only [decide_eq_true_eq, decide_eq_false_iff_not, Bool.not_eq_true', Bool.not_eq_false', Option.isNone_iff_eq_none, ne_eq, Decidable.not_not, Int.not_lt, Int.not_le] at p76
                  refine T_skip ?_
                  refine X_then ?_
                  refine T_seq ?_
                  refine T_seq ?_
                  refine T_region ?_
                  refine TL_q (Qt_move (.slice _ _ _) rfl) rfl ?_
                  refine TL_q (Qt_len_slice rfl Try.underlying30) rfl ?_
                  refine TL_q (Qt_move (.int .i64 _) rfl) rfl ?_
                  refine TL_nil ?_
                  refine X_then ?_
                  refine T_block ?_
                  refine T_loop [4, 14, 15, 16, 17, 18, 79, 80, 81, 82, 83, 84, 85, 86, 87, 88, 89, 90, 91, 92, 93, 94, 95, 96, 97, 98, 99, 100, 101, 102, 103, 104, 105, 106, 107, 108, 109, 110] [79] (fun us H' => ∃ k : Nat, us = [.int .i64 (k : Int)] ∧ y.H p H = H' ∧ k ≤ ls.length) (fun us => match us with | .int _ i :: _ => ls.length - i.toNat | _ => 0) ⟨0, rfl, rfl, by omega⟩ (Subs.st inferInstance) ?_
                  rintro τ0 _ _  ⟨k, rfl, rfl, hk0⟩ _
                  refine T_seq ?_
                  refine T_region ?_
                  refine TL_q (Qt_lss rfl rfl) rfl ?_
                  refine TL_nil ?_
                  refine X_then ?_
                  refine T_seq ?_
                  refine T_cond rfl (fun h80 => ?_) (fun h80 => ?_)
                  ·
                    have p80 := h80
                    try simp only [decide_eq_true_eq, decide_eq_false_iff_not, Bool.not_eq_true', Bool.not_eq_false', Option.isNone_iff_eq_none, ne_eq, Decidable.not_not, Int.not_lt, Int.not_le] at p80
                    have hk : k < ls.length := by omega
                    refine T_skip ?_
                    refine X_then ?_
                    refine T_seq ?_
                    refine T_block ?_
                    refine T_seq ?_
                    refine T_region ?_
                    refine TL_q (Qt_indexN rfl rfl (by omega) (by omega)) rfl ?_
                    refine TL_q (Qt_loadVote (k := k) rfl hk) rfl ?_
                    refine TL_e rfl (Ef_allocN (fun b14 => ?_))
                    refine TL_n (Ef_storeN rfl rfl (?_))
                    refine TL_nil ?_
                    refine X_then ?_
                    refine T_seq ?_
                    refine T_region ?_
                    refine TL_q (Qt_move (.pointer _) rfl) rfl ?_
                    refine TL_q (Qt_fieldAddr 1 rfl rfl) rfl ?_
                    refine TL_q (Qt_load1 rfl) rfl ?_
                    refine TL_q (Qt_fieldAddr 2 rfl rfl) rfl ?_
                    refine TL_q (Qt_load1 rfl) rfl ?_
                    refine TL_drop (BkS.H y p (blk b14 (.cells ls[k].cells 27 (0, 0)) :: H)) ?_
                    refine TL_e rfl (Ef_call (wrote_c (y := y) hy) rfl (fun x89 => ?_))
                    refine TL_pure (fun hu89 => ?_)
                    have hu89 : x89.1.abs = ((wroteL ls ⟨ls[k].view, ls[k].reg⟩).getD VoteV.zero).abs := hu89.trans (map_getD (hs.wrote _))
                    have hws : hasE y.es ⟨ls[k].view, ls[k].reg⟩ = (wroteL ls ⟨ls[k].view, ls[k].reg⟩).isSome := map_some (hs.wrote _)
                    have hsx : SmallV x89.1.abs := by rw [hu89]; rcases List.mem_cons.1 (wroteL_mem ls ⟨ls[k].view, ls[k].reg⟩) with h | h; rw [h]; exact small_zero; exact hsm _ h
                    have rvs : RdVs w0 (datV x89.2 [x89.1] :: BkS.H y p (blk b14 (.cells ls[k].cells 27 (0, 0)) :: H)) [x89.1] := inferInstance
                    have rbx := rvs.b x89.1 (by simp)
                    have rcx := rvs.c x89.1 (by simp)
                    have rex := rvs.e x89.1 (by simp)
                    have rvz : RdVs w0 H (VoteV.zero :: ls) := rd_zero
                    have rbz := rvz.b _ (wroteL_mem ls ⟨ls[k].view, ls[k].reg⟩)
                    have rcz := rvz.c _ (wroteL_mem ls ⟨ls[k].view, ls[k].reg⟩)
                    have rez := rvz.e _ (wroteL_mem ls ⟨ls[k].view, ls[k].reg⟩)
                    refine TL_q (Qt_move (.tuple _) rfl) rfl ?_
                    refine TL_q (Qt_extract rfl) rfl ?_
                    refine TL_q (Qt_extract rfl) rfl ?_
                    refine TL_e rfl (Ef_allocN (fun b15 => ?_))
                    refine TL_n (Ef_storeN rfl rfl (?_))
                    refine TL_q (Qt_assign (.bool _) rfl) rfl ?_
                    refine TL_nil ?_
                    refine X_then ?_
                    refine T_seq ?_
                    refine T_region ?_
                    refine TL_q (Qt_move (.slice _ _ _) rfl) rfl ?_
                    refine TL_q (Qt_fieldAddr 1 rfl rfl) rfl ?_
                    refine TL_q (Qt_load1 rfl) rfl ?_
                    refine TL_q (Qt_fieldAddr 2 rfl rfl) rfl ?_
                    refine TL_q (Qt_load1 rfl) rfl ?_
                    refine TL_e rfl (Ef_call (rWrote_c hn) rfl (fun x98 => ?_))
                    refine TL_q (Qt_move (.tuple _) rfl) rfl ?_
                    refine TL_q (Qt_extract rfl) rfl ?_
                    refine TL_q (Qt_extract rfl) rfl ?_
                    refine TL_e rfl (Ef_allocN (fun b17 => ?_))
                    refine TL_n (Ef_storeN rfl rfl (?_))
                    refine TL_q (Qt_assign (.bool _) rfl) rfl ?_
                    refine TL_nil ?_
                    refine X_then ?_
                    refine T_seq ?_
                    refine T_region ?_
                    refine TL_q (Qt_move (.bool _) rfl) rfl ?_
                    refine TL_q (Qt_move (.bool _) rfl) rfl ?_
                    refine TL_q (Qt_bool_neq rfl rfl Try.underlying4) rfl ?_
                    refine TL_q (Qt_move (.bool _) rfl) rfl ?_
                    refine TL_split 104 rfl (fun h104 => ?_) (fun h104 => ?_)
                    ·
                      have p104 := h104
                      try simp only [decide_eq_true_eq, decide_eq_false_iff_not, Bool.not_eq_true', Bool.not_eq_false', Option.isNone_iff_eq_none, ne_eq, Decidable.not_not, Int.not_lt, Int.not_le] at p104
                      exact absurd h104 (by rw [hws]; simp)
                    ·
                      have p104 := h104
                      try simp only [decide_eq_true_eq, decide_eq_false_iff_not, Bool.not_eq_true', Bool.not_eq_false', Option.isNone_iff_eq_none, ne_eq, Decidable.not_not, Int.not_lt, Int.not_le] at p104
                      refine TL_take rfl rfl h104 ?_
                      refine TL_q (Qt_loadN rfl rfl) rfl ?_
                      refine TL_take rfl rfl h104 ?_
                      refine TL_q (Qt_loadN rfl rfl) rfl ?_
                      refine TL_take rfl rfl h104 ?_
                      refine TL_e rfl (Ef_call (same13_c (v := x89.1) (u := (wroteL ls ⟨ls[k].view, ls[k].reg⟩).getD VoteV.zero) (by have := hsx.batch; omega) (by have := hsx.cert; omega) (fun x hx => by have := hsx.each x hx; omega)) rfl (fun x107 => ?_))
                      refine TL_take rfl rfl h104 ?_
                      refine TL_q (Qt_not rfl) rfl ?_
                      refine TL_q (Qt_pick_f (.bool _) rfl h104 rfl) rfl ?_
                      refine TL_nil ?_
                      refine X_then ?_
                      refine T_cond rfl (fun h109 => ?_) (fun h109 => ?_)
                      ·
                        have p109 := h109
                        try simp only [decide_eq_true_eq, decide_eq_false_iff_not, Bool.not_eq_true', Bool.not_eq_false', Option.isNone_iff_eq_none, ne_eq, Decidable.not_not, Int.not_lt, Int.not_le] at p109
                        exact absurd h109 (by rw [hu89]; simp)
                      ·
                        have p109 := h109
                        try simp only [decide_eq_true_eq, decide_eq_false_iff_not, Bool.not_eq_true', Bool.not_eq_false', Option.isNone_iff_eq_none, ne_eq, Decidable.not_not, Int.not_lt, Int.not_le] at p109
                        refine T_skip ?_
                        refine X_block ?_
                        refine X_then ?_
                        refine T_region ?_
                        first
                          | refine TL_q (Qt_add rfl rfl (by omega) (by omega)) rfl ?_
                          | refine TL_q (Qt_addw rfl rfl) rfl ?_
                        refine TL_q (Qt_move (.int .i64 _) rfl) rfl ?_
                        refine TL_nil ?_
                        refine X_loop _ (by repeat (first | with_reducible exact agree_refl | refine agree_upd rfl ?_ | refine agree_mix rfl ?_ | refine agree_setAll rfl ?_)) (⟨k + 1, rfl, rfl, by omega⟩) (by show ls.length - (k + 1 : Int).toNat < ls.length - (k : Int).toNat; omega) ((Subs.st inferInstance))
                  ·
                    have p80 := h80
                    try simp only [decide_eq_true_eq, decide_eq_false_iff_not, Bool.not_eq_true', Bool.not_eq_false', Option.isNone_iff_eq_none, ne_eq, Decidable.not_not, Int.not_lt, Int.not_le] at p80
                    refine T_exit ?_
                    refine X_then_exit ?_
                    refine X_loop_exit ?_
                    refine X_block_exit ?_
                    refine X_then ?_
                    refine T_seq ?_
                    refine T_region ?_
                    refine TL_q (Qt_assign (.bool _) rfl) rfl ?_
                    refine TL_nil ?_
                    refine X_then ?_
                    refine T_ret ?_
                    exact X_ret () [_] Try.results20 ⟨rfl, trivial⟩ rfl (Subs.st inferInstance)
        ·
          have p44 := h44
          try simp only [decide_eq_true_eq, decide_eq_false_iff_not, Bool.not_eq_true', Bool.not_eq_false', Option.isNone_iff_eq_none, ne_eq, Decidable.not_not, Int.not_lt, Int.not_le] at p44
          refine TL_pass rfl rfl h44 rfl ?_
          refine TL_pass rfl rfl h44 rfl ?_
          refine TL_pass rfl rfl h44 rfl ?_
          refine TL_pass rfl rfl h44 rfl ?_
          refine TL_take rfl rfl h41 ?_
          refine TL_q (Qt_pick_f (.bool _) rfl h44 rfl) rfl ?_
          refine TL_q (Qt_pick_f (.bool _) rfl h41 rfl) rfl ?_
          refine TL_q (Qt_move (.bool _) rfl) rfl ?_
          refine TL_take rfl rfl rfl ?_
          refine TL_q (Qt_move (.pointer _) rfl) rfl ?_
          refine TL_take rfl rfl rfl ?_
          refine TL_e rfl (Ef_call (slot_c (k := y.k)) rfl (fun x53 => ?_))
          refine TL_take rfl rfl rfl ?_
          refine TL_q (Qt_move (.slice _ _ _) rfl) rfl ?_
          refine TL_take rfl rfl rfl ?_
          refine TL_e rfl (Ef_call (rSlot_c hn) rfl (fun x55 => ?_))
          refine TL_take rfl rfl rfl ?_
          refine TL_q (Qt_neq rfl rfl) rfl ?_
          refine TL_q (Qt_pick_f (.bool _) rfl rfl rfl) rfl ?_
          refine TL_nil ?_
          refine X_then ?_
          refine T_cond rfl (fun h57 => ?_) (fun h57 => ?_)
          ·
            have p57 := h57
            try simp only [decide_eq_true_eq, decide_eq_false_iff_not, Bool.not_eq_true', Bool.not_eq_false', Option.isNone_iff_eq_none, ne_eq, Decidable.not_not, Int.not_lt, Int.not_le] at p57
            exact absurd hs.slot p57
          ·
            have p57 := h57
            try simp only [decide_eq_true_eq, decide_eq_false_iff_not, Bool.not_eq_true', Bool.not_eq_false', Option.isNone_iff_eq_none, ne_eq, Decidable.not_not, Int.not_lt, Int.not_le] at p57
            refine T_skip ?_
            refine X_then ?_
            refine T_seq ?_
            refine T_region ?_
            refine TL_q (Qt_move (.pointer _) rfl) rfl ?_
            refine TL_e rfl (Ef_call (accepted_c (y := y) hy) rfl (fun x60 => ?_))
            refine TL_pure (fun hu60 => ?_)
            have hu60 : x60.1.abs = ((accL ls).getD VoteV.zero).abs := hu60.trans (map_getD (by rw [Option.map_map]; exact hs.acc))
            have hsx : SmallV x60.1.abs := by rw [hu60]; rcases List.mem_cons.1 (accL_mem ls) with h | h; rw [h]; exact small_zero; exact hsm _ h
            have rvs : RdVs w0 (datV x60.2 [x60.1] :: BkS.H y p H) [x60.1] := inferInstance
            have rbx := rvs.b x60.1 (by simp)
            have rcx := rvs.c x60.1 (by simp)
            have rex := rvs.e x60.1 (by simp)
            have rvz : RdVs w0 H (VoteV.zero :: ls) := rd_zero
            have rbz := rvz.b _ (accL_mem ls)
            have rcz := rvz.c _ (accL_mem ls)
            have rez := rvz.e _ (accL_mem ls)
            refine TL_q (Qt_move (.tuple _) rfl) rfl ?_
            refine TL_q (Qt_extract rfl) rfl ?_
            refine TL_q (Qt_extract rfl) rfl ?_
            refine TL_e rfl (Ef_allocN (fun b9 => ?_))
            refine TL_n (Ef_storeN rfl rfl (?_))
            refine TL_q (Qt_assign (.bool _) rfl) rfl ?_
            refine TL_nil ?_
            refine X_then ?_
            refine T_seq ?_
            refine T_region ?_
            refine TL_q (Qt_move (.slice _ _ _) rfl) rfl ?_
            refine TL_e rfl (Ef_call (rAccepted_c hn) rfl (fun x65 => ?_))
            refine TL_q (Qt_move (.tuple _) rfl) rfl ?_
            refine TL_q (Qt_extract rfl) rfl ?_
            refine TL_q (Qt_extract rfl) rfl ?_
            refine TL_e rfl (Ef_allocN (fun b11 => ?_))
            refine TL_n (Ef_storeN rfl rfl (?_))
            refine TL_q (Qt_assign (.bool _) rfl) rfl ?_
            refine TL_nil ?_
            refine X_then ?_
            refine T_seq ?_
            refine T_seq ?_
            refine T_region ?_
            refine TL_q (Qt_move (.bool _) rfl) rfl ?_
            refine TL_q (Qt_move (.bool _) rfl) rfl ?_
            refine TL_q (Qt_bool_neq rfl rfl Try.underlying4) rfl ?_
            refine TL_q (Qt_move (.bool _) rfl) rfl ?_
            have hacc : (accL ls).isSome = y.acc.isSome := by have := congrArg Option.isSome hs.acc; simpa using this.symm
            refine TL_split 71 rfl (fun h71 => ?_) (fun h71 => ?_)
            ·
              have p71 := h71
              try simp only [decide_eq_true_eq, decide_eq_false_iff_not, Bool.not_eq_true', Bool.not_eq_false', Option.isNone_iff_eq_none, ne_eq, Decidable.not_not, Int.not_lt, Int.not_le] at p71
              exact absurd h71 (by rw [hacc]; simp)
            ·
              have p71 := h71
              try simp only [decide_eq_true_eq, decide_eq_false_iff_not, Bool.not_eq_true', Bool.not_eq_false', Option.isNone_iff_eq_none, ne_eq, Decidable.not_not, Int.not_lt, Int.not_le] at p71
              have hacc : (accL ls).isSome = y.acc.isSome := by have := congrArg Option.isSome hs.acc; simpa using this.symm
              refine TL_take rfl rfl h71 ?_
              refine TL_q (Qt_loadN rfl rfl) rfl ?_
              refine TL_take rfl rfl h71 ?_
              refine TL_q (Qt_loadN rfl rfl) rfl ?_
              refine TL_take rfl rfl h71 ?_
              refine TL_e rfl (Ef_call (same13_c (v := x60.1) (u := (accL ls).getD VoteV.zero) (by have := hsx.batch; omega) (by have := hsx.cert; omega) (fun x hx => by have := hsx.each x hx; omega)) rfl (fun x74 => ?_))
              refine TL_take rfl rfl h71 ?_
              refine TL_q (Qt_not rfl) rfl ?_
              refine TL_q (Qt_pick_f (.bool _) rfl h71 rfl) rfl ?_
              refine TL_nil ?_
              refine X_then ?_
              refine T_cond rfl (fun h76 => ?_) (fun h76 => ?_)
              ·
                have p76 := h76
                try simp only [decide_eq_true_eq, decide_eq_false_iff_not, Bool.not_eq_true', Bool.not_eq_false', Option.isNone_iff_eq_none, ne_eq, Decidable.not_not, Int.not_lt, Int.not_le] at p76
                exact absurd h76 (by rw [hu60]; simp)
              ·
                have p76 := h76
                try simp only [decide_eq_true_eq, decide_eq_false_iff_not, Bool.not_eq_true', Bool.not_eq_false', Option.isNone_iff_eq_none, ne_eq, Decidable.not_not, Int.not_lt, Int.not_le] at p76
                refine T_skip ?_
                refine X_then ?_
                refine T_seq ?_
                refine T_seq ?_
                refine T_region ?_
                refine TL_q (Qt_move (.slice _ _ _) rfl) rfl ?_
                refine TL_q (Qt_len_slice rfl Try.underlying30) rfl ?_
                refine TL_q (Qt_move (.int .i64 _) rfl) rfl ?_
                refine TL_nil ?_
                refine X_then ?_
                refine T_block ?_
                refine T_loop [4, 14, 15, 16, 17, 18, 79, 80, 81, 82, 83, 84, 85, 86, 87, 88, 89, 90, 91, 92, 93, 94, 95, 96, 97, 98, 99, 100, 101, 102, 103, 104, 105, 106, 107, 108, 109, 110] [79] (fun us H' => ∃ k : Nat, us = [.int .i64 (k : Int)] ∧ y.H p H = H' ∧ k ≤ ls.length) (fun us => match us with | .int _ i :: _ => ls.length - i.toNat | _ => 0) ⟨0, rfl, rfl, by omega⟩ (Subs.st inferInstance) ?_
                rintro τ0 _ _  ⟨k, rfl, rfl, hk0⟩ _
                refine T_seq ?_
                refine T_region ?_
                refine TL_q (Qt_lss rfl rfl) rfl ?_
                refine TL_nil ?_
                refine X_then ?_
                refine T_seq ?_
                refine T_cond rfl (fun h80 => ?_) (fun h80 => ?_)
                ·
                  have p80 := h80
                  try simp only [decide_eq_true_eq, decide_eq_false_iff_not, Bool.not_eq_true', Bool.not_eq_false', Option.isNone_iff_eq_none, ne_eq, Decidable.not_not, Int.not_lt, Int.not_le] at p80
                  have hk : k < ls.length := by omega
                  refine T_skip ?_
                  refine X_then ?_
                  refine T_seq ?_
                  refine T_block ?_
                  refine T_seq ?_
                  refine T_region ?_
                  refine TL_q (Qt_indexN rfl rfl (by omega) (by omega)) rfl ?_
                  refine TL_q (Qt_loadVote (k := k) rfl hk) rfl ?_
                  refine TL_e rfl (Ef_allocN (fun b14 => ?_))
                  refine TL_n (Ef_storeN rfl rfl (?_))
                  refine TL_nil ?_
                  refine X_then ?_
                  refine T_seq ?_
                  refine T_region ?_
                  refine TL_q (Qt_move (.pointer _) rfl) rfl ?_
                  refine TL_q (Qt_fieldAddr 1 rfl rfl) rfl ?_
                  refine TL_q (Qt_load1 rfl) rfl ?_
                  refine TL_q (Qt_fieldAddr 2 rfl rfl) rfl ?_
                  refine TL_q (Qt_load1 rfl) rfl ?_
                  refine TL_drop (BkS.H y p (blk b14 (.cells ls[k].cells 27 (0, 0)) :: H)) ?_
                  refine TL_e rfl (Ef_call (wrote_c (y := y) hy) rfl (fun x89 => ?_))
                  refine TL_pure (fun hu89 => ?_)
                  have hu89 : x89.1.abs = ((wroteL ls ⟨ls[k].view, ls[k].reg⟩).getD VoteV.zero).abs := hu89.trans (map_getD (hs.wrote _))
                  have hws : hasE y.es ⟨ls[k].view, ls[k].reg⟩ = (wroteL ls ⟨ls[k].view, ls[k].reg⟩).isSome := map_some (hs.wrote _)
                  have hsx : SmallV x89.1.abs := by rw [hu89]; rcases List.mem_cons.1 (wroteL_mem ls ⟨ls[k].view, ls[k].reg⟩) with h | h; rw [h]; exact small_zero; exact hsm _ h
                  have rvs : RdVs w0 (datV x89.2 [x89.1] :: BkS.H y p (blk b14 (.cells ls[k].cells 27 (0, 0)) :: H)) [x89.1] := inferInstance
                  have rbx := rvs.b x89.1 (by simp)
                  have rcx := rvs.c x89.1 (by simp)
                  have rex := rvs.e x89.1 (by simp)
                  have rvz : RdVs w0 H (VoteV.zero :: ls) := rd_zero
                  have rbz := rvz.b _ (wroteL_mem ls ⟨ls[k].view, ls[k].reg⟩)
                  have rcz := rvz.c _ (wroteL_mem ls ⟨ls[k].view, ls[k].reg⟩)
                  have rez := rvz.e _ (wroteL_mem ls ⟨ls[k].view, ls[k].reg⟩)
                  refine TL_q (Qt_move (.tuple _) rfl) rfl ?_
                  refine TL_q (Qt_extract rfl) rfl ?_
                  refine TL_q (Qt_extract rfl) rfl ?_
                  refine TL_e rfl (Ef_allocN (fun b15 => ?_))
                  refine TL_n (Ef_storeN rfl rfl (?_))
                  refine TL_q (Qt_assign (.bool _) rfl) rfl ?_
                  refine TL_nil ?_
                  refine X_then ?_
                  refine T_seq ?_
                  refine T_region ?_
                  refine TL_q (Qt_move (.slice _ _ _) rfl) rfl ?_
                  refine TL_q (Qt_fieldAddr 1 rfl rfl) rfl ?_
                  refine TL_q (Qt_load1 rfl) rfl ?_
                  refine TL_q (Qt_fieldAddr 2 rfl rfl) rfl ?_
                  refine TL_q (Qt_load1 rfl) rfl ?_
                  refine TL_e rfl (Ef_call (rWrote_c hn) rfl (fun x98 => ?_))
                  refine TL_q (Qt_move (.tuple _) rfl) rfl ?_
                  refine TL_q (Qt_extract rfl) rfl ?_
                  refine TL_q (Qt_extract rfl) rfl ?_
                  refine TL_e rfl (Ef_allocN (fun b17 => ?_))
                  refine TL_n (Ef_storeN rfl rfl (?_))
                  refine TL_q (Qt_assign (.bool _) rfl) rfl ?_
                  refine TL_nil ?_
                  refine X_then ?_
                  refine T_seq ?_
                  refine T_region ?_
                  refine TL_q (Qt_move (.bool _) rfl) rfl ?_
                  refine TL_q (Qt_move (.bool _) rfl) rfl ?_
                  refine TL_q (Qt_bool_neq rfl rfl Try.underlying4) rfl ?_
                  refine TL_q (Qt_move (.bool _) rfl) rfl ?_
                  refine TL_split 104 rfl (fun h104 => ?_) (fun h104 => ?_)
                  ·
                    have p104 := h104
                    try simp only [decide_eq_true_eq, decide_eq_false_iff_not, Bool.not_eq_true', Bool.not_eq_false', Option.isNone_iff_eq_none, ne_eq, Decidable.not_not, Int.not_lt, Int.not_le] at p104
                    exact absurd h104 (by rw [hws]; simp)
                  ·
                    have p104 := h104
                    try simp only [decide_eq_true_eq, decide_eq_false_iff_not, Bool.not_eq_true', Bool.not_eq_false', Option.isNone_iff_eq_none, ne_eq, Decidable.not_not, Int.not_lt, Int.not_le] at p104
                    refine TL_take rfl rfl h104 ?_
                    refine TL_q (Qt_loadN rfl rfl) rfl ?_
                    refine TL_take rfl rfl h104 ?_
                    refine TL_q (Qt_loadN rfl rfl) rfl ?_
                    refine TL_take rfl rfl h104 ?_
                    refine TL_e rfl (Ef_call (same13_c (v := x89.1) (u := (wroteL ls ⟨ls[k].view, ls[k].reg⟩).getD VoteV.zero) (by have := hsx.batch; omega) (by have := hsx.cert; omega) (fun x hx => by have := hsx.each x hx; omega)) rfl (fun x107 => ?_))
                    refine TL_take rfl rfl h104 ?_
                    refine TL_q (Qt_not rfl) rfl ?_
                    refine TL_q (Qt_pick_f (.bool _) rfl h104 rfl) rfl ?_
                    refine TL_nil ?_
                    refine X_then ?_
                    refine T_cond rfl (fun h109 => ?_) (fun h109 => ?_)
                    ·
                      have p109 := h109
                      try simp only [decide_eq_true_eq, decide_eq_false_iff_not, Bool.not_eq_true', Bool.not_eq_false', Option.isNone_iff_eq_none, ne_eq, Decidable.not_not, Int.not_lt, Int.not_le] at p109
                      exact absurd h109 (by rw [hu89]; simp)
                    ·
                      have p109 := h109
                      try simp only [decide_eq_true_eq, decide_eq_false_iff_not, Bool.not_eq_true', Bool.not_eq_false', Option.isNone_iff_eq_none, ne_eq, Decidable.not_not, Int.not_lt, Int.not_le] at p109
                      refine T_skip ?_
                      refine X_block ?_
                      refine X_then ?_
                      refine T_region ?_
                      first
                        | refine TL_q (Qt_add rfl rfl (by omega) (by omega)) rfl ?_
                        | refine TL_q (Qt_addw rfl rfl) rfl ?_
                      refine TL_q (Qt_move (.int .i64 _) rfl) rfl ?_
                      refine TL_nil ?_
                      refine X_loop _ (by repeat (first | with_reducible exact agree_refl | refine agree_upd rfl ?_ | refine agree_mix rfl ?_ | refine agree_setAll rfl ?_)) (⟨k + 1, rfl, rfl, by omega⟩) (by show ls.length - (k + 1 : Int).toNat < ls.length - (k : Int).toNat; omega) ((Subs.st inferInstance))
                ·
                  have p80 := h80
                  try simp only [decide_eq_true_eq, decide_eq_false_iff_not, Bool.not_eq_true', Bool.not_eq_false', Option.isNone_iff_eq_none, ne_eq, Decidable.not_not, Int.not_lt, Int.not_le] at p80
                  refine T_exit ?_
                  refine X_then_exit ?_
                  refine X_loop_exit ?_
                  refine X_block_exit ?_
                  refine X_then ?_
                  refine T_seq ?_
                  refine T_region ?_
                  refine TL_q (Qt_assign (.bool _) rfl) rfl ?_
                  refine TL_nil ?_
                  refine X_then ?_
                  refine T_ret ?_
                  exact X_ret () [_] Try.results20 ⟨rfl, trivial⟩ rfl (Subs.st inferInstance)
  ·
    have p31 := h31
    try simp only [decide_eq_true_eq, decide_eq_false_iff_not, Bool.not_eq_true', Bool.not_eq_false', Option.isNone_iff_eq_none, ne_eq, Decidable.not_not, Int.not_lt, Int.not_le] at p31
    refine TL_pass rfl rfl h31 rfl ?_
    refine TL_pass rfl rfl h31 rfl ?_
    refine TL_pass rfl rfl h31 rfl ?_
    refine TL_pass rfl rfl h31 rfl ?_
    refine TL_passU rfl rfl rfl ?_
    refine TL_passU rfl rfl rfl ?_
    refine TL_passU rfl rfl rfl ?_
    refine TL_pass rfl rfl h31 rfl ?_
    refine TL_q (Qt_pick_f (.bool _) rfl h31 rfl) rfl ?_
    refine TL_q (Qt_move (.bool _) rfl) rfl ?_
    refine TL_take rfl rfl rfl ?_
    refine TL_q (Qt_move (.int .i64 _) rfl) rfl ?_
    refine TL_take rfl rfl rfl ?_
    refine TL_q (Qt_lss rfl rfl) rfl ?_
    refine TL_take rfl rfl rfl ?_
    refine TL_q (Qt_move (.bool _) rfl) rfl ?_
    refine TL_split 44 rfl (fun h44 => ?_) (fun h44 => ?_)
    ·
      have p44 := h44
      try simp only [decide_eq_true_eq, decide_eq_false_iff_not, Bool.not_eq_true', Bool.not_eq_false', Option.isNone_iff_eq_none, ne_eq, Decidable.not_not, Int.not_lt, Int.not_le] at p44
      obtain ⟨hz1, hz2⟩ := hs.noreg p44
      refine TL_take rfl rfl h44 ?_
      refine TL_q (Qt_move (.int .i64 _) rfl) rfl ?_
      refine TL_take rfl rfl h44 ?_
      refine TL_q (Qt_move (.int .i64 _) rfl) rfl ?_
      refine TL_take rfl rfl h44 ?_
      first
        | refine TL_q (Qt_add rfl rfl (by omega) (by omega)) rfl ?_
        | refine TL_q (Qt_addw rfl rfl) rfl ?_
      refine TL_take rfl rfl h44 ?_
      refine TL_q (Qt_neq rfl rfl) rfl ?_
      refine TL_take rfl rfl rfl ?_
      refine TL_q (Qt_pick_t (.bool _) rfl h44 rfl) rfl ?_
      refine TL_q (Qt_pick_f (.bool _) rfl rfl rfl) rfl ?_
      refine TL_q (Qt_move (.bool _) rfl) rfl ?_
      refine TL_split 51 rfl (fun h51 => ?_) (fun h51 => ?_)
      ·
        have p51 := h51
        try simp only [decide_eq_true_eq, decide_eq_false_iff_not, Bool.not_eq_true', Bool.not_eq_false', Option.isNone_iff_eq_none, ne_eq, Decidable.not_not, Int.not_lt, Int.not_le] at p51
        exact absurd h51 (by rw [hz1, hz2]; decide)
      ·
        have p51 := h51
        try simp only [decide_eq_true_eq, decide_eq_false_iff_not, Bool.not_eq_true', Bool.not_eq_false', Option.isNone_iff_eq_none, ne_eq, Decidable.not_not, Int.not_lt, Int.not_le] at p51
        refine TL_take rfl rfl h51 ?_
        refine TL_q (Qt_move (.pointer _) rfl) rfl ?_
        refine TL_take rfl rfl h51 ?_
        refine TL_e rfl (Ef_call (slot_c (k := y.k)) rfl (fun x53 => ?_))
        refine TL_take rfl rfl h51 ?_
        refine TL_q (Qt_move (.slice _ _ _) rfl) rfl ?_
        refine TL_take rfl rfl h51 ?_
        refine TL_e rfl (Ef_call (rSlot_c hn) rfl (fun x55 => ?_))
        refine TL_take rfl rfl h51 ?_
        refine TL_q (Qt_neq rfl rfl) rfl ?_
        refine TL_q (Qt_pick_f (.bool _) rfl h51 rfl) rfl ?_
        refine TL_nil ?_
        refine X_then ?_
        refine T_cond rfl (fun h57 => ?_) (fun h57 => ?_)
        ·
          have p57 := h57
          try simp only [decide_eq_true_eq, decide_eq_false_iff_not, Bool.not_eq_true', Bool.not_eq_false', Option.isNone_iff_eq_none, ne_eq, Decidable.not_not, Int.not_lt, Int.not_le] at p57
          exact absurd hs.slot p57
        ·
          have p57 := h57
          try simp only [decide_eq_true_eq, decide_eq_false_iff_not, Bool.not_eq_true', Bool.not_eq_false', Option.isNone_iff_eq_none, ne_eq, Decidable.not_not, Int.not_lt, Int.not_le] at p57
          refine T_skip ?_
          refine X_then ?_
          refine T_seq ?_
          refine T_region ?_
          refine TL_q (Qt_move (.pointer _) rfl) rfl ?_
          refine TL_e rfl (Ef_call (accepted_c (y := y) hy) rfl (fun x60 => ?_))
          refine TL_pure (fun hu60 => ?_)
          have hu60 : x60.1.abs = ((accL ls).getD VoteV.zero).abs := hu60.trans (map_getD (by rw [Option.map_map]; exact hs.acc))
          have hsx : SmallV x60.1.abs := by rw [hu60]; rcases List.mem_cons.1 (accL_mem ls) with h | h; rw [h]; exact small_zero; exact hsm _ h
          have rvs : RdVs w0 (datV x60.2 [x60.1] :: BkS.H y p H) [x60.1] := inferInstance
          have rbx := rvs.b x60.1 (by simp)
          have rcx := rvs.c x60.1 (by simp)
          have rex := rvs.e x60.1 (by simp)
          have rvz : RdVs w0 H (VoteV.zero :: ls) := rd_zero
          have rbz := rvz.b _ (accL_mem ls)
          have rcz := rvz.c _ (accL_mem ls)
          have rez := rvz.e _ (accL_mem ls)
          refine TL_q (Qt_move (.tuple _) rfl) rfl ?_
          refine TL_q (Qt_extract rfl) rfl ?_
          refine TL_q (Qt_extract rfl) rfl ?_
          refine TL_e rfl (Ef_allocN (fun b9 => ?_))
          refine TL_n (Ef_storeN rfl rfl (?_))
          refine TL_q (Qt_assign (.bool _) rfl) rfl ?_
          refine TL_nil ?_
          refine X_then ?_
          refine T_seq ?_
          refine T_region ?_
          refine TL_q (Qt_move (.slice _ _ _) rfl) rfl ?_
          refine TL_e rfl (Ef_call (rAccepted_c hn) rfl (fun x65 => ?_))
          refine TL_q (Qt_move (.tuple _) rfl) rfl ?_
          refine TL_q (Qt_extract rfl) rfl ?_
          refine TL_q (Qt_extract rfl) rfl ?_
          refine TL_e rfl (Ef_allocN (fun b11 => ?_))
          refine TL_n (Ef_storeN rfl rfl (?_))
          refine TL_q (Qt_assign (.bool _) rfl) rfl ?_
          refine TL_nil ?_
          refine X_then ?_
          refine T_seq ?_
          refine T_seq ?_
          refine T_region ?_
          refine TL_q (Qt_move (.bool _) rfl) rfl ?_
          refine TL_q (Qt_move (.bool _) rfl) rfl ?_
          refine TL_q (Qt_bool_neq rfl rfl Try.underlying4) rfl ?_
          refine TL_q (Qt_move (.bool _) rfl) rfl ?_
          have hacc : (accL ls).isSome = y.acc.isSome := by have := congrArg Option.isSome hs.acc; simpa using this.symm
          refine TL_split 71 rfl (fun h71 => ?_) (fun h71 => ?_)
          ·
            have p71 := h71
            try simp only [decide_eq_true_eq, decide_eq_false_iff_not, Bool.not_eq_true', Bool.not_eq_false', Option.isNone_iff_eq_none, ne_eq, Decidable.not_not, Int.not_lt, Int.not_le] at p71
            exact absurd h71 (by rw [hacc]; simp)
          ·
            have p71 := h71
            try simp only [decide_eq_true_eq, decide_eq_false_iff_not, Bool.not_eq_true', Bool.not_eq_false', Option.isNone_iff_eq_none, ne_eq, Decidable.not_not, Int.not_lt, Int.not_le] at p71
            have hacc : (accL ls).isSome = y.acc.isSome := by have := congrArg Option.isSome hs.acc; simpa using this.symm
            refine TL_take rfl rfl h71 ?_
            refine TL_q (Qt_loadN rfl rfl) rfl ?_
            refine TL_take rfl rfl h71 ?_
            refine TL_q (Qt_loadN rfl rfl) rfl ?_
            refine TL_take rfl rfl h71 ?_
            refine TL_e rfl (Ef_call (same13_c (v := x60.1) (u := (accL ls).getD VoteV.zero) (by have := hsx.batch; omega) (by have := hsx.cert; omega) (fun x hx => by have := hsx.each x hx; omega)) rfl (fun x74 => ?_))
            refine TL_take rfl rfl h71 ?_
            refine TL_q (Qt_not rfl) rfl ?_
            refine TL_q (Qt_pick_f (.bool _) rfl h71 rfl) rfl ?_
            refine TL_nil ?_
            refine X_then ?_
            refine T_cond rfl (fun h76 => ?_) (fun h76 => ?_)
            ·
              have p76 := h76
              try simp only [decide_eq_true_eq, decide_eq_false_iff_not, Bool.not_eq_true', Bool.not_eq_false', Option.isNone_iff_eq_none, ne_eq, Decidable.not_not, Int.not_lt, Int.not_le] at p76
              exact absurd h76 (by rw [hu60]; simp)
            ·
              have p76 := h76
              try simp only [decide_eq_true_eq, decide_eq_false_iff_not, Bool.not_eq_true', Bool.not_eq_false', Option.isNone_iff_eq_none, ne_eq, Decidable.not_not, Int.not_lt, Int.not_le] at p76
              refine T_skip ?_
              refine X_then ?_
              refine T_seq ?_
              refine T_seq ?_
              refine T_region ?_
              refine TL_q (Qt_move (.slice _ _ _) rfl) rfl ?_
              refine TL_q (Qt_len_slice rfl Try.underlying30) rfl ?_
              refine TL_q (Qt_move (.int .i64 _) rfl) rfl ?_
              refine TL_nil ?_
              refine X_then ?_
              refine T_block ?_
              refine T_loop [4, 14, 15, 16, 17, 18, 79, 80, 81, 82, 83, 84, 85, 86, 87, 88, 89, 90, 91, 92, 93, 94, 95, 96, 97, 98, 99, 100, 101, 102, 103, 104, 105, 106, 107, 108, 109, 110] [79] (fun us H' => ∃ k : Nat, us = [.int .i64 (k : Int)] ∧ y.H p H = H' ∧ k ≤ ls.length) (fun us => match us with | .int _ i :: _ => ls.length - i.toNat | _ => 0) ⟨0, rfl, rfl, by omega⟩ (Subs.st inferInstance) ?_
              rintro τ0 _ _  ⟨k, rfl, rfl, hk0⟩ _
              refine T_seq ?_
              refine T_region ?_
              refine TL_q (Qt_lss rfl rfl) rfl ?_
              refine TL_nil ?_
              refine X_then ?_
              refine T_seq ?_
              refine T_cond rfl (fun h80 => ?_) (fun h80 => ?_)
              ·
                have p80 := h80
                try simp only [decide_eq_true_eq, decide_eq_false_iff_not, Bool.not_eq_true', Bool.not_eq_false', Option.isNone_iff_eq_none, ne_eq, Decidable.not_not, Int.not_lt, Int.not_le] at p80
                have hk : k < ls.length := by omega
                refine T_skip ?_
                refine X_then ?_
                refine T_seq ?_
                refine T_block ?_
                refine T_seq ?_
                refine T_region ?_
                refine TL_q (Qt_indexN rfl rfl (by omega) (by omega)) rfl ?_
                refine TL_q (Qt_loadVote (k := k) rfl hk) rfl ?_
                refine TL_e rfl (Ef_allocN (fun b14 => ?_))
                refine TL_n (Ef_storeN rfl rfl (?_))
                refine TL_nil ?_
                refine X_then ?_
                refine T_seq ?_
                refine T_region ?_
                refine TL_q (Qt_move (.pointer _) rfl) rfl ?_
                refine TL_q (Qt_fieldAddr 1 rfl rfl) rfl ?_
                refine TL_q (Qt_load1 rfl) rfl ?_
                refine TL_q (Qt_fieldAddr 2 rfl rfl) rfl ?_
                refine TL_q (Qt_load1 rfl) rfl ?_
                refine TL_drop (BkS.H y p (blk b14 (.cells ls[k].cells 27 (0, 0)) :: H)) ?_
                refine TL_e rfl (Ef_call (wrote_c (y := y) hy) rfl (fun x89 => ?_))
                refine TL_pure (fun hu89 => ?_)
                have hu89 : x89.1.abs = ((wroteL ls ⟨ls[k].view, ls[k].reg⟩).getD VoteV.zero).abs := hu89.trans (map_getD (hs.wrote _))
                have hws : hasE y.es ⟨ls[k].view, ls[k].reg⟩ = (wroteL ls ⟨ls[k].view, ls[k].reg⟩).isSome := map_some (hs.wrote _)
                have hsx : SmallV x89.1.abs := by rw [hu89]; rcases List.mem_cons.1 (wroteL_mem ls ⟨ls[k].view, ls[k].reg⟩) with h | h; rw [h]; exact small_zero; exact hsm _ h
                have rvs : RdVs w0 (datV x89.2 [x89.1] :: BkS.H y p (blk b14 (.cells ls[k].cells 27 (0, 0)) :: H)) [x89.1] := inferInstance
                have rbx := rvs.b x89.1 (by simp)
                have rcx := rvs.c x89.1 (by simp)
                have rex := rvs.e x89.1 (by simp)
                have rvz : RdVs w0 H (VoteV.zero :: ls) := rd_zero
                have rbz := rvz.b _ (wroteL_mem ls ⟨ls[k].view, ls[k].reg⟩)
                have rcz := rvz.c _ (wroteL_mem ls ⟨ls[k].view, ls[k].reg⟩)
                have rez := rvz.e _ (wroteL_mem ls ⟨ls[k].view, ls[k].reg⟩)
                refine TL_q (Qt_move (.tuple _) rfl) rfl ?_
                refine TL_q (Qt_extract rfl) rfl ?_
                refine TL_q (Qt_extract rfl) rfl ?_
                refine TL_e rfl (Ef_allocN (fun b15 => ?_))
                refine TL_n (Ef_storeN rfl rfl (?_))
                refine TL_q (Qt_assign (.bool _) rfl) rfl ?_
                refine TL_nil ?_
                refine X_then ?_
                refine T_seq ?_
                refine T_region ?_
                refine TL_q (Qt_move (.slice _ _ _) rfl) rfl ?_
                refine TL_q (Qt_fieldAddr 1 rfl rfl) rfl ?_
                refine TL_q (Qt_load1 rfl) rfl ?_
                refine TL_q (Qt_fieldAddr 2 rfl rfl) rfl ?_
                refine TL_q (Qt_load1 rfl) rfl ?_
                refine TL_e rfl (Ef_call (rWrote_c hn) rfl (fun x98 => ?_))
                refine TL_q (Qt_move (.tuple _) rfl) rfl ?_
                refine TL_q (Qt_extract rfl) rfl ?_
                refine TL_q (Qt_extract rfl) rfl ?_
                refine TL_e rfl (Ef_allocN (fun b17 => ?_))
                refine TL_n (Ef_storeN rfl rfl (?_))
                refine TL_q (Qt_assign (.bool _) rfl) rfl ?_
                refine TL_nil ?_
                refine X_then ?_
                refine T_seq ?_
                refine T_region ?_
                refine TL_q (Qt_move (.bool _) rfl) rfl ?_
                refine TL_q (Qt_move (.bool _) rfl) rfl ?_
                refine TL_q (Qt_bool_neq rfl rfl Try.underlying4) rfl ?_
                refine TL_q (Qt_move (.bool _) rfl) rfl ?_
                refine TL_split 104 rfl (fun h104 => ?_) (fun h104 => ?_)
                ·
                  have p104 := h104
                  try simp only [decide_eq_true_eq, decide_eq_false_iff_not, Bool.not_eq_true', Bool.not_eq_false', Option.isNone_iff_eq_none, ne_eq, Decidable.not_not, Int.not_lt, Int.not_le] at p104
                  exact absurd h104 (by rw [hws]; simp)
                ·
                  have p104 := h104
                  try simp only [decide_eq_true_eq, decide_eq_false_iff_not, Bool.not_eq_true', Bool.not_eq_false', Option.isNone_iff_eq_none, ne_eq, Decidable.not_not, Int.not_lt, Int.not_le] at p104
                  refine TL_take rfl rfl h104 ?_
                  refine TL_q (Qt_loadN rfl rfl) rfl ?_
                  refine TL_take rfl rfl h104 ?_
                  refine TL_q (Qt_loadN rfl rfl) rfl ?_
                  refine TL_take rfl rfl h104 ?_
                  refine TL_e rfl (Ef_call (same13_c (v := x89.1) (u := (wroteL ls ⟨ls[k].view, ls[k].reg⟩).getD VoteV.zero) (by have := hsx.batch; omega) (by have := hsx.cert; omega) (fun x hx => by have := hsx.each x hx; omega)) rfl (fun x107 => ?_))
                  refine TL_take rfl rfl h104 ?_
                  refine TL_q (Qt_not rfl) rfl ?_
                  refine TL_q (Qt_pick_f (.bool _) rfl h104 rfl) rfl ?_
                  refine TL_nil ?_
                  refine X_then ?_
                  refine T_cond rfl (fun h109 => ?_) (fun h109 => ?_)
                  ·
                    have p109 := h109
                    try simp only [decide_eq_true_eq, decide_eq_false_iff_not, Bool.not_eq_true', Bool.not_eq_false', Option.isNone_iff_eq_none, ne_eq, Decidable.not_not, Int.not_lt, Int.not_le] at p109
                    exact absurd h109 (by rw [hu89]; simp)
                  ·
                    have p109 := h109
                    try simp only [decide_eq_true_eq, decide_eq_false_iff_not, Bool.not_eq_true', Bool.not_eq_false', Option.isNone_iff_eq_none, ne_eq, Decidable.not_not, Int.not_lt, Int.not_le] at p109
                    refine T_skip ?_
                    refine X_block ?_
                    refine X_then ?_
                    refine T_region ?_
                    first
                      | refine TL_q (Qt_add rfl rfl (by omega) (by omega)) rfl ?_
                      | refine TL_q (Qt_addw rfl rfl) rfl ?_
                    refine TL_q (Qt_move (.int .i64 _) rfl) rfl ?_
                    refine TL_nil ?_
                    refine X_loop _ (by repeat (first | with_reducible exact agree_refl | refine agree_upd rfl ?_ | refine agree_mix rfl ?_ | refine agree_setAll rfl ?_)) (⟨k + 1, rfl, rfl, by omega⟩) (by show ls.length - (k + 1 : Int).toNat < ls.length - (k : Int).toNat; omega) ((Subs.st inferInstance))
              ·
                have p80 := h80
                try simp only [decide_eq_true_eq, decide_eq_false_iff_not, Bool.not_eq_true', Bool.not_eq_false', Option.isNone_iff_eq_none, ne_eq, Decidable.not_not, Int.not_lt, Int.not_le] at p80
                refine T_exit ?_
                refine X_then_exit ?_
                refine X_loop_exit ?_
                refine X_block_exit ?_
                refine X_then ?_
                refine T_seq ?_
                refine T_region ?_
                refine TL_q (Qt_assign (.bool _) rfl) rfl ?_
                refine TL_nil ?_
                refine X_then ?_
                refine T_ret ?_
                exact X_ret () [_] Try.results20 ⟨rfl, trivial⟩ rfl (Subs.st inferInstance)
    ·
      have p44 := h44
      try simp only [decide_eq_true_eq, decide_eq_false_iff_not, Bool.not_eq_true', Bool.not_eq_false', Option.isNone_iff_eq_none, ne_eq, Decidable.not_not, Int.not_lt, Int.not_le] at p44
      refine TL_pass rfl rfl h44 rfl ?_
      refine TL_pass rfl rfl h44 rfl ?_
      refine TL_pass rfl rfl h44 rfl ?_
      refine TL_pass rfl rfl h44 rfl ?_
      refine TL_take rfl rfl rfl ?_
      refine TL_q (Qt_pick_f (.bool _) rfl h44 rfl) rfl ?_
      refine TL_q (Qt_pick_f (.bool _) rfl rfl rfl) rfl ?_
      refine TL_q (Qt_move (.bool _) rfl) rfl ?_
      refine TL_take rfl rfl rfl ?_
      refine TL_q (Qt_move (.pointer _) rfl) rfl ?_
      refine TL_take rfl rfl rfl ?_
      refine TL_e rfl (Ef_call (slot_c (k := y.k)) rfl (fun x53 => ?_))
      refine TL_take rfl rfl rfl ?_
      refine TL_q (Qt_move (.slice _ _ _) rfl) rfl ?_
      refine TL_take rfl rfl rfl ?_
      refine TL_e rfl (Ef_call (rSlot_c hn) rfl (fun x55 => ?_))
      refine TL_take rfl rfl rfl ?_
      refine TL_q (Qt_neq rfl rfl) rfl ?_
      refine TL_q (Qt_pick_f (.bool _) rfl rfl rfl) rfl ?_
      refine TL_nil ?_
      refine X_then ?_
      refine T_cond rfl (fun h57 => ?_) (fun h57 => ?_)
      ·
        have p57 := h57
        try simp only [decide_eq_true_eq, decide_eq_false_iff_not, Bool.not_eq_true', Bool.not_eq_false', Option.isNone_iff_eq_none, ne_eq, Decidable.not_not, Int.not_lt, Int.not_le] at p57
        exact absurd hs.slot p57
      ·
        have p57 := h57
        try simp only [decide_eq_true_eq, decide_eq_false_iff_not, Bool.not_eq_true', Bool.not_eq_false', Option.isNone_iff_eq_none, ne_eq, Decidable.not_not, Int.not_lt, Int.not_le] at p57
        refine T_skip ?_
        refine X_then ?_
        refine T_seq ?_
        refine T_region ?_
        refine TL_q (Qt_move (.pointer _) rfl) rfl ?_
        refine TL_e rfl (Ef_call (accepted_c (y := y) hy) rfl (fun x60 => ?_))
        refine TL_pure (fun hu60 => ?_)
        have hu60 : x60.1.abs = ((accL ls).getD VoteV.zero).abs := hu60.trans (map_getD (by rw [Option.map_map]; exact hs.acc))
        have hsx : SmallV x60.1.abs := by rw [hu60]; rcases List.mem_cons.1 (accL_mem ls) with h | h; rw [h]; exact small_zero; exact hsm _ h
        have rvs : RdVs w0 (datV x60.2 [x60.1] :: BkS.H y p H) [x60.1] := inferInstance
        have rbx := rvs.b x60.1 (by simp)
        have rcx := rvs.c x60.1 (by simp)
        have rex := rvs.e x60.1 (by simp)
        have rvz : RdVs w0 H (VoteV.zero :: ls) := rd_zero
        have rbz := rvz.b _ (accL_mem ls)
        have rcz := rvz.c _ (accL_mem ls)
        have rez := rvz.e _ (accL_mem ls)
        refine TL_q (Qt_move (.tuple _) rfl) rfl ?_
        refine TL_q (Qt_extract rfl) rfl ?_
        refine TL_q (Qt_extract rfl) rfl ?_
        refine TL_e rfl (Ef_allocN (fun b9 => ?_))
        refine TL_n (Ef_storeN rfl rfl (?_))
        refine TL_q (Qt_assign (.bool _) rfl) rfl ?_
        refine TL_nil ?_
        refine X_then ?_
        refine T_seq ?_
        refine T_region ?_
        refine TL_q (Qt_move (.slice _ _ _) rfl) rfl ?_
        refine TL_e rfl (Ef_call (rAccepted_c hn) rfl (fun x65 => ?_))
        refine TL_q (Qt_move (.tuple _) rfl) rfl ?_
        refine TL_q (Qt_extract rfl) rfl ?_
        refine TL_q (Qt_extract rfl) rfl ?_
        refine TL_e rfl (Ef_allocN (fun b11 => ?_))
        refine TL_n (Ef_storeN rfl rfl (?_))
        refine TL_q (Qt_assign (.bool _) rfl) rfl ?_
        refine TL_nil ?_
        refine X_then ?_
        refine T_seq ?_
        refine T_seq ?_
        refine T_region ?_
        refine TL_q (Qt_move (.bool _) rfl) rfl ?_
        refine TL_q (Qt_move (.bool _) rfl) rfl ?_
        refine TL_q (Qt_bool_neq rfl rfl Try.underlying4) rfl ?_
        refine TL_q (Qt_move (.bool _) rfl) rfl ?_
        have hacc : (accL ls).isSome = y.acc.isSome := by have := congrArg Option.isSome hs.acc; simpa using this.symm
        refine TL_split 71 rfl (fun h71 => ?_) (fun h71 => ?_)
        ·
          have p71 := h71
          try simp only [decide_eq_true_eq, decide_eq_false_iff_not, Bool.not_eq_true', Bool.not_eq_false', Option.isNone_iff_eq_none, ne_eq, Decidable.not_not, Int.not_lt, Int.not_le] at p71
          exact absurd h71 (by rw [hacc]; simp)
        ·
          have p71 := h71
          try simp only [decide_eq_true_eq, decide_eq_false_iff_not, Bool.not_eq_true', Bool.not_eq_false', Option.isNone_iff_eq_none, ne_eq, Decidable.not_not, Int.not_lt, Int.not_le] at p71
          have hacc : (accL ls).isSome = y.acc.isSome := by have := congrArg Option.isSome hs.acc; simpa using this.symm
          refine TL_take rfl rfl h71 ?_
          refine TL_q (Qt_loadN rfl rfl) rfl ?_
          refine TL_take rfl rfl h71 ?_
          refine TL_q (Qt_loadN rfl rfl) rfl ?_
          refine TL_take rfl rfl h71 ?_
          refine TL_e rfl (Ef_call (same13_c (v := x60.1) (u := (accL ls).getD VoteV.zero) (by have := hsx.batch; omega) (by have := hsx.cert; omega) (fun x hx => by have := hsx.each x hx; omega)) rfl (fun x74 => ?_))
          refine TL_take rfl rfl h71 ?_
          refine TL_q (Qt_not rfl) rfl ?_
          refine TL_q (Qt_pick_f (.bool _) rfl h71 rfl) rfl ?_
          refine TL_nil ?_
          refine X_then ?_
          refine T_cond rfl (fun h76 => ?_) (fun h76 => ?_)
          ·
            have p76 := h76
            try simp only [decide_eq_true_eq, decide_eq_false_iff_not, Bool.not_eq_true', Bool.not_eq_false', Option.isNone_iff_eq_none, ne_eq, Decidable.not_not, Int.not_lt, Int.not_le] at p76
            exact absurd h76 (by rw [hu60]; simp)
          ·
            have p76 := h76
            try simp only [decide_eq_true_eq, decide_eq_false_iff_not, Bool.not_eq_true', Bool.not_eq_false', Option.isNone_iff_eq_none, ne_eq, Decidable.not_not, Int.not_lt, Int.not_le] at p76
            refine T_skip ?_
            refine X_then ?_
            refine T_seq ?_
            refine T_seq ?_
            refine T_region ?_
            refine TL_q (Qt_move (.slice _ _ _) rfl) rfl ?_
            refine TL_q (Qt_len_slice rfl Try.underlying30) rfl ?_
            refine TL_q (Qt_move (.int .i64 _) rfl) rfl ?_
            refine TL_nil ?_
            refine X_then ?_
            refine T_block ?_
            refine T_loop [4, 14, 15, 16, 17, 18, 79, 80, 81, 82, 83, 84, 85, 86, 87, 88, 89, 90, 91, 92, 93, 94, 95, 96, 97, 98, 99, 100, 101, 102, 103, 104, 105, 106, 107, 108, 109, 110] [79] (fun us H' => ∃ k : Nat, us = [.int .i64 (k : Int)] ∧ y.H p H = H' ∧ k ≤ ls.length) (fun us => match us with | .int _ i :: _ => ls.length - i.toNat | _ => 0) ⟨0, rfl, rfl, by omega⟩ (Subs.st inferInstance) ?_
            rintro τ0 _ _  ⟨k, rfl, rfl, hk0⟩ _
            refine T_seq ?_
            refine T_region ?_
            refine TL_q (Qt_lss rfl rfl) rfl ?_
            refine TL_nil ?_
            refine X_then ?_
            refine T_seq ?_
            refine T_cond rfl (fun h80 => ?_) (fun h80 => ?_)
            ·
              have p80 := h80
              try simp only [decide_eq_true_eq, decide_eq_false_iff_not, Bool.not_eq_true', Bool.not_eq_false', Option.isNone_iff_eq_none, ne_eq, Decidable.not_not, Int.not_lt, Int.not_le] at p80
              have hk : k < ls.length := by omega
              refine T_skip ?_
              refine X_then ?_
              refine T_seq ?_
              refine T_block ?_
              refine T_seq ?_
              refine T_region ?_
              refine TL_q (Qt_indexN rfl rfl (by omega) (by omega)) rfl ?_
              refine TL_q (Qt_loadVote (k := k) rfl hk) rfl ?_
              refine TL_e rfl (Ef_allocN (fun b14 => ?_))
              refine TL_n (Ef_storeN rfl rfl (?_))
              refine TL_nil ?_
              refine X_then ?_
              refine T_seq ?_
              refine T_region ?_
              refine TL_q (Qt_move (.pointer _) rfl) rfl ?_
              refine TL_q (Qt_fieldAddr 1 rfl rfl) rfl ?_
              refine TL_q (Qt_load1 rfl) rfl ?_
              refine TL_q (Qt_fieldAddr 2 rfl rfl) rfl ?_
              refine TL_q (Qt_load1 rfl) rfl ?_
              refine TL_drop (BkS.H y p (blk b14 (.cells ls[k].cells 27 (0, 0)) :: H)) ?_
              refine TL_e rfl (Ef_call (wrote_c (y := y) hy) rfl (fun x89 => ?_))
              refine TL_pure (fun hu89 => ?_)
              have hu89 : x89.1.abs = ((wroteL ls ⟨ls[k].view, ls[k].reg⟩).getD VoteV.zero).abs := hu89.trans (map_getD (hs.wrote _))
              have hws : hasE y.es ⟨ls[k].view, ls[k].reg⟩ = (wroteL ls ⟨ls[k].view, ls[k].reg⟩).isSome := map_some (hs.wrote _)
              have hsx : SmallV x89.1.abs := by rw [hu89]; rcases List.mem_cons.1 (wroteL_mem ls ⟨ls[k].view, ls[k].reg⟩) with h | h; rw [h]; exact small_zero; exact hsm _ h
              have rvs : RdVs w0 (datV x89.2 [x89.1] :: BkS.H y p (blk b14 (.cells ls[k].cells 27 (0, 0)) :: H)) [x89.1] := inferInstance
              have rbx := rvs.b x89.1 (by simp)
              have rcx := rvs.c x89.1 (by simp)
              have rex := rvs.e x89.1 (by simp)
              have rvz : RdVs w0 H (VoteV.zero :: ls) := rd_zero
              have rbz := rvz.b _ (wroteL_mem ls ⟨ls[k].view, ls[k].reg⟩)
              have rcz := rvz.c _ (wroteL_mem ls ⟨ls[k].view, ls[k].reg⟩)
              have rez := rvz.e _ (wroteL_mem ls ⟨ls[k].view, ls[k].reg⟩)
              refine TL_q (Qt_move (.tuple _) rfl) rfl ?_
              refine TL_q (Qt_extract rfl) rfl ?_
              refine TL_q (Qt_extract rfl) rfl ?_
              refine TL_e rfl (Ef_allocN (fun b15 => ?_))
              refine TL_n (Ef_storeN rfl rfl (?_))
              refine TL_q (Qt_assign (.bool _) rfl) rfl ?_
              refine TL_nil ?_
              refine X_then ?_
              refine T_seq ?_
              refine T_region ?_
              refine TL_q (Qt_move (.slice _ _ _) rfl) rfl ?_
              refine TL_q (Qt_fieldAddr 1 rfl rfl) rfl ?_
              refine TL_q (Qt_load1 rfl) rfl ?_
              refine TL_q (Qt_fieldAddr 2 rfl rfl) rfl ?_
              refine TL_q (Qt_load1 rfl) rfl ?_
              refine TL_e rfl (Ef_call (rWrote_c hn) rfl (fun x98 => ?_))
              refine TL_q (Qt_move (.tuple _) rfl) rfl ?_
              refine TL_q (Qt_extract rfl) rfl ?_
              refine TL_q (Qt_extract rfl) rfl ?_
              refine TL_e rfl (Ef_allocN (fun b17 => ?_))
              refine TL_n (Ef_storeN rfl rfl (?_))
              refine TL_q (Qt_assign (.bool _) rfl) rfl ?_
              refine TL_nil ?_
              refine X_then ?_
              refine T_seq ?_
              refine T_region ?_
              refine TL_q (Qt_move (.bool _) rfl) rfl ?_
              refine TL_q (Qt_move (.bool _) rfl) rfl ?_
              refine TL_q (Qt_bool_neq rfl rfl Try.underlying4) rfl ?_
              refine TL_q (Qt_move (.bool _) rfl) rfl ?_
              refine TL_split 104 rfl (fun h104 => ?_) (fun h104 => ?_)
              ·
                have p104 := h104
                try simp only [decide_eq_true_eq, decide_eq_false_iff_not, Bool.not_eq_true', Bool.not_eq_false', Option.isNone_iff_eq_none, ne_eq, Decidable.not_not, Int.not_lt, Int.not_le] at p104
                exact absurd h104 (by rw [hws]; simp)
              ·
                have p104 := h104
                try simp only [decide_eq_true_eq, decide_eq_false_iff_not, Bool.not_eq_true', Bool.not_eq_false', Option.isNone_iff_eq_none, ne_eq, Decidable.not_not, Int.not_lt, Int.not_le] at p104
                refine TL_take rfl rfl h104 ?_
                refine TL_q (Qt_loadN rfl rfl) rfl ?_
                refine TL_take rfl rfl h104 ?_
                refine TL_q (Qt_loadN rfl rfl) rfl ?_
                refine TL_take rfl rfl h104 ?_
                refine TL_e rfl (Ef_call (same13_c (v := x89.1) (u := (wroteL ls ⟨ls[k].view, ls[k].reg⟩).getD VoteV.zero) (by have := hsx.batch; omega) (by have := hsx.cert; omega) (fun x hx => by have := hsx.each x hx; omega)) rfl (fun x107 => ?_))
                refine TL_take rfl rfl h104 ?_
                refine TL_q (Qt_not rfl) rfl ?_
                refine TL_q (Qt_pick_f (.bool _) rfl h104 rfl) rfl ?_
                refine TL_nil ?_
                refine X_then ?_
                refine T_cond rfl (fun h109 => ?_) (fun h109 => ?_)
                ·
                  have p109 := h109
                  try simp only [decide_eq_true_eq, decide_eq_false_iff_not, Bool.not_eq_true', Bool.not_eq_false', Option.isNone_iff_eq_none, ne_eq, Decidable.not_not, Int.not_lt, Int.not_le] at p109
                  exact absurd h109 (by rw [hu89]; simp)
                ·
                  have p109 := h109
                  try simp only [decide_eq_true_eq, decide_eq_false_iff_not, Bool.not_eq_true', Bool.not_eq_false', Option.isNone_iff_eq_none, ne_eq, Decidable.not_not, Int.not_lt, Int.not_le] at p109
                  refine T_skip ?_
                  refine X_block ?_
                  refine X_then ?_
                  refine T_region ?_
                  first
                    | refine TL_q (Qt_add rfl rfl (by omega) (by omega)) rfl ?_
                    | refine TL_q (Qt_addw rfl rfl) rfl ?_
                  refine TL_q (Qt_move (.int .i64 _) rfl) rfl ?_
                  refine TL_nil ?_
                  refine X_loop _ (by repeat (first | with_reducible exact agree_refl | refine agree_upd rfl ?_ | refine agree_mix rfl ?_ | refine agree_setAll rfl ?_)) (⟨k + 1, rfl, rfl, by omega⟩) (by show ls.length - (k + 1 : Int).toNat < ls.length - (k : Int).toNat; omega) ((Subs.st inferInstance))
            ·
              have p80 := h80
              try simp only [decide_eq_true_eq, decide_eq_false_iff_not, Bool.not_eq_true', Bool.not_eq_false', Option.isNone_iff_eq_none, ne_eq, Decidable.not_not, Int.not_lt, Int.not_le] at p80
              refine T_exit ?_
              refine X_then_exit ?_
              refine X_loop_exit ?_
              refine X_block_exit ?_
              refine X_then ?_
              refine T_seq ?_
              refine T_region ?_
              refine TL_q (Qt_assign (.bool _) rfl) rfl ?_
              refine TL_nil ?_
              refine X_then ?_
              refine T_ret ?_
              exact X_ret () [_] Try.results20 ⟨rfl, trivial⟩ rfl (Subs.st inferInstance)
end Go.Proofs.Ytdjbhpdfkopdgaa
