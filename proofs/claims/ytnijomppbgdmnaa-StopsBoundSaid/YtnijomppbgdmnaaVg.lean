/- Walk: the law StopsBound. -/
import Derived.Test.YtnijomppbgdmnaaVb
import Derived.Test.YtnijomppbgdmnaaFz
namespace Go.Proofs.Ytnijomppbgdmnaa
open Go.RowKit Go.Sx
set_option maxRecDepth 100000
set_option linter.unusedSimpArgs false
set_option linter.unusedVariables false
theorem chooseE_all {K : List (List UInt8)} {rs : List (Vector UInt8 32)} {num : Int} {mk : Nat} {first reg : Int} {ps : List (List UInt8)} (h : (chooseE K rs num mk first reg ps).1 = 0) :
    ∀ p ∈ ps, (openOfK K mk p).1 = 0 ∧ (validD K rs num mk first (openOfK K mk p).2).1 = 0 ∧ ((openOfK K mk p).2.frm, (validD K rs num mk first (openOfK K mk p).2).2) ∈ (chooseE K rs num mk first reg ps).2 := by
  unfold chooseE at h ⊢
  split at h
  · cases h
  · rename_i h1; rw [if_neg h1]; exact chGo_all h
/-- What was told by anybody is not beyond what is chosen. -/
theorem bound_law {ts : List ToldV} {cv : ChoiceV} {x : BindV} {f : Int} {L : List (Int × BindD)} (ht : ts.map absT = L) (hc : cv = choiceT ts) (hm : (f, x.abs) ∈ L) : x.last ≤ cv.last ∧ (x.last = cv.last → x.has = true → cv.bound = true) := by
  subst hc
  rw [← ht] at hm
  obtain ⟨t, h1, h2⟩ := List.mem_map.1 hm
  have h3 : t.b.abs = x.abs := congrArg Prod.snd h2
  have h4 : t.b.last = x.last := congrArg BindD.last h3
  have h5 : t.b.has = x.has := congrArg BindD.has h3
  refine ⟨?_, fun h6 h7 => ?_⟩
  · rw [choiceT_last, ← h4]; exact lastT_ge h1
  · rw [choiceT_last] at h6; exact choiceT_bound h1 (h4.trans h6) (h5.trans h7)
attribute [local irreducible] openOfK validD chooseE openK choiceT keyT
set_option maxHeartbeats 1000000 in
theorem stopsBound_c {w0 : World} {H : List SA} {num : Int} {mk : Nat} (hmk : mk < 65536) {first reg : Int} {ra : Option Addr} {rq : Nat} {rs : List (Vector UInt8 32)} [hrr : RdC w0 H (.slice ra rs.length rq) 32 (rs.flatMap hlist)] {a : Option Addr} {ps : List BS} {c : Nat} [hr : RdC w0 H (.slice a ps.length c) 1 (ps.map BS.val)] [hre : RdE w0 H ps] :
    CT Try.prog w0 (H) 3 [.agg (AskV.mk (ViewV.mk num (mk : Int)) first reg ⟨ra, rs.length, rq⟩).cells, .slice a ps.length c] (α := Unit) (fun _ => .bool true) (fun _ => H) := by
  refine CT_intro Try.func3 rfl Try.ntmps3 rfl ?_
  refine T_seq ?_
  refine T_region ?_
  refine TL_e rfl (Ef_boxN rfl (fun b2 => ?_))
  refine TL_q (Qt_assign (.bool _) rfl) rfl ?_
  refine TL_nil ?_
  refine X_then ?_
  refine T_seq ?_
  refine T_seq ?_
  refine T_region ?_
  refine TL_e rfl (Ef_call (wakes19_c) rfl (fun x14 => ?_))
  refine TL_q (Qt_not rfl) rfl ?_
  refine TL_nil ?_
  refine X_then ?_
  refine T_cond rfl (fun h15 => ?_) (fun h15 => ?_)
  ·
    have p15 := h15
    try simp only [decide_eq_true_eq, decide_eq_false_iff_not, Bool.not_eq_true', Bool.not_eq_false', Option.isNone_iff_eq_none, ne_eq, Decidable.not_not, Int.not_lt, Int.not_le] at p15
    exact absurd h15 (by decide)
  ·
    have p15 := h15
    try simp only [decide_eq_true_eq, decide_eq_false_iff_not, Bool.not_eq_true', Bool.not_eq_false', Option.isNone_iff_eq_none, ne_eq, Decidable.not_not, Int.not_lt, Int.not_le] at p15
    refine T_skip ?_
    refine X_then ?_
    refine T_seq ?_
    refine T_seq ?_
    refine T_region ?_
    refine TL_q (Qt_move (.slice _ _ _) rfl) rfl ?_
    refine TL_e rfl (Ef_call (long19_c) rfl (fun x17 => ?_))
    refine TL_q (Qt_move (.bool _) rfl) rfl ?_
    refine TL_split 18 rfl (fun h18 => ?_) (fun h18 => ?_)
    ·
      have p18 := h18
      try simp only [decide_eq_true_eq, decide_eq_false_iff_not, Bool.not_eq_true', Bool.not_eq_false', Option.isNone_iff_eq_none, ne_eq, Decidable.not_not, Int.not_lt, Int.not_le] at p18
      refine TL_pass rfl rfl h18 rfl ?_
      refine TL_pass rfl rfl h18 rfl ?_
      refine TL_pass rfl rfl h18 rfl ?_
      refine TL_pass rfl rfl h18 rfl ?_
      refine TL_q (Qt_pick_t (.bool _) rfl h18 rfl) rfl ?_
      refine TL_q (Qt_move (.bool _) rfl) rfl ?_
      refine TL_pass rfl rfl rfl rfl ?_
      refine TL_pass rfl rfl rfl rfl ?_
      refine TL_pass rfl rfl rfl rfl ?_
      refine TL_q (Qt_pick_t (.bool _) rfl rfl rfl) rfl ?_
      refine TL_q (Qt_move (.bool _) rfl) rfl ?_
      refine TL_pass rfl rfl rfl rfl ?_
      refine TL_pass rfl rfl rfl rfl ?_
      refine TL_pass rfl rfl rfl rfl ?_
      refine TL_q (Qt_pick_t (.bool _) rfl rfl rfl) rfl ?_
      refine TL_nil ?_
      refine X_then ?_
      refine T_cond_true rfl rfl ?_
      refine T_seq ?_
      refine T_region ?_
      refine TL_q (Qt_assign (.bool _) rfl) rfl ?_
      refine TL_nil ?_
      refine X_then ?_
      refine T_ret ?_
      refine X_then_ret ?_
      exact X_ret () [_] Try.results3 ⟨rfl, trivial⟩ rfl (Subs.st inferInstance)
    ·
      have p18 := h18
      try simp only [decide_eq_true_eq, decide_eq_false_iff_not, Bool.not_eq_true', Bool.not_eq_false', Option.isNone_iff_eq_none, ne_eq, Decidable.not_not, Int.not_lt, Int.not_le] at p18
      refine TL_take rfl rfl h18 ?_
      refine TL_q (Qt_fieldAddr 4 rfl rfl) rfl ?_
      refine TL_take rfl rfl h18 ?_
      refine TL_q (Qt_load1 rfl) rfl ?_
      refine TL_take rfl rfl h18 ?_
      refine TL_q (Qt_len_slice rfl Try.underlying25) rfl ?_
      refine TL_take rfl rfl h18 ?_
      refine TL_q (Qt_gtr rfl rfl) rfl ?_
      refine TL_q (Qt_pick_f (.bool _) rfl h18 rfl) rfl ?_
      refine TL_q (Qt_move (.bool _) rfl) rfl ?_
      refine TL_split 24 rfl (fun h24 => ?_) (fun h24 => ?_)
      ·
        have p24 := h24
        try simp only [decide_eq_true_eq, decide_eq_false_iff_not, Bool.not_eq_true', Bool.not_eq_false', Option.isNone_iff_eq_none, ne_eq, Decidable.not_not, Int.not_lt, Int.not_le] at p24
        refine TL_pass rfl rfl h24 rfl ?_
        refine TL_pass rfl rfl h24 rfl ?_
        refine TL_pass rfl rfl h24 rfl ?_
        refine TL_q (Qt_pick_t (.bool _) rfl h24 rfl) rfl ?_
        refine TL_q (Qt_move (.bool _) rfl) rfl ?_
        refine TL_pass rfl rfl rfl rfl ?_
        refine TL_pass rfl rfl rfl rfl ?_
        refine TL_pass rfl rfl rfl rfl ?_
        refine TL_q (Qt_pick_t (.bool _) rfl rfl rfl) rfl ?_
        refine TL_nil ?_
        refine X_then ?_
        refine T_cond_true rfl rfl ?_
        refine T_seq ?_
        refine T_region ?_
        refine TL_q (Qt_assign (.bool _) rfl) rfl ?_
        refine TL_nil ?_
        refine X_then ?_
        refine T_ret ?_
        refine X_then_ret ?_
        exact X_ret () [_] Try.results3 ⟨rfl, trivial⟩ rfl (Subs.st inferInstance)
      ·
        have p24 := h24
        try simp only [decide_eq_true_eq, decide_eq_false_iff_not, Bool.not_eq_true', Bool.not_eq_false', Option.isNone_iff_eq_none, ne_eq, Decidable.not_not, Int.not_lt, Int.not_le] at p24
        refine TL_take rfl rfl h24 ?_
        refine TL_q (Qt_fieldAddr 2 rfl rfl) rfl ?_
        refine TL_take rfl rfl h24 ?_
        refine TL_q (Qt_load1 rfl) rfl ?_
        refine TL_take rfl rfl h24 ?_
        refine TL_q (Qt_gtr rfl rfl) rfl ?_
        refine TL_q (Qt_pick_f (.bool _) rfl h24 rfl) rfl ?_
        refine TL_q (Qt_move (.bool _) rfl) rfl ?_
        refine TL_split 29 rfl (fun h29 => ?_) (fun h29 => ?_)
        ·
          have p29 := h29
          try simp only [decide_eq_true_eq, decide_eq_false_iff_not, Bool.not_eq_true', Bool.not_eq_false', Option.isNone_iff_eq_none, ne_eq, Decidable.not_not, Int.not_lt, Int.not_le] at p29
          refine TL_pass rfl rfl h29 rfl ?_
          refine TL_pass rfl rfl h29 rfl ?_
          refine TL_pass rfl rfl h29 rfl ?_
          refine TL_q (Qt_pick_t (.bool _) rfl h29 rfl) rfl ?_
          refine TL_nil ?_
          refine X_then ?_
          refine T_cond_true rfl rfl ?_
          refine T_seq ?_
          refine T_region ?_
          refine TL_q (Qt_assign (.bool _) rfl) rfl ?_
          refine TL_nil ?_
          refine X_then ?_
          refine T_ret ?_
          refine X_then_ret ?_
          exact X_ret () [_] Try.results3 ⟨rfl, trivial⟩ rfl (Subs.st inferInstance)
        ·
          have p29 := h29
          try simp only [decide_eq_true_eq, decide_eq_false_iff_not, Bool.not_eq_true', Bool.not_eq_false', Option.isNone_iff_eq_none, ne_eq, Decidable.not_not, Int.not_lt, Int.not_le] at p29
          refine TL_take rfl rfl h29 ?_
          refine TL_q (Qt_fieldAddr 2 rfl rfl) rfl ?_
          refine TL_take rfl rfl h29 ?_
          refine TL_q (Qt_load1 rfl) rfl ?_
          refine TL_take rfl rfl h29 ?_
          refine TL_q (Qt_lss rfl rfl) rfl ?_
          refine TL_q (Qt_pick_f (.bool _) rfl h29 rfl) rfl ?_
          refine TL_nil ?_
          refine X_then ?_
          refine T_cond rfl (fun h33 => ?_) (fun h33 => ?_)
          ·
            have p33 := h33
            try simp only [decide_eq_true_eq, decide_eq_false_iff_not, Bool.not_eq_true', Bool.not_eq_false', Option.isNone_iff_eq_none, ne_eq, Decidable.not_not, Int.not_lt, Int.not_le] at p33
            refine T_seq ?_
            refine T_region ?_
            refine TL_q (Qt_assign (.bool _) rfl) rfl ?_
            refine TL_nil ?_
            refine X_then ?_
            refine T_ret ?_
            refine X_then_ret ?_
            exact X_ret () [_] Try.results3 ⟨rfl, trivial⟩ rfl (Subs.st inferInstance)
          ·
            have p33 := h33
            try simp only [decide_eq_true_eq, decide_eq_false_iff_not, Bool.not_eq_true', Bool.not_eq_false', Option.isNone_iff_eq_none, ne_eq, Decidable.not_not, Int.not_lt, Int.not_le] at p33
            have hlg : longS (ps.map BS.l) = false := by simp_all
            have hfi : -1000 ≤ first ∧ first ≤ 1000 := by first | omega | (simp_all; done) | (simp_all; omega)
            have hr10 : rs.length ≤ 10 := by first | omega | (simp_all; done) | (simp_all; omega)
            have hl24 : ps.length ≤ 24 := by have := (longS_small hlg).1; rwa [List.length_map] at this
            have hps : ∀ x ∈ ps, x.l.length ≤ 6000 := fun x hx => (longS_small hlg).2 x.l (List.mem_map.2 ⟨x, hx, rfl⟩)
            refine T_skip ?_
            refine X_then ?_
            refine T_seq ?_
            refine T_region ?_
            refine TL_q (Qt_loadN rfl rfl) rfl ?_
            refine TL_e rfl (Ef_call (keys_c (ask := (AskV.mk (ViewV.mk num (mk : Int)) first reg ⟨ra, rs.length, rq⟩))) rfl (fun x35 => ?_))
            refine TL_pure (fun hk35 => ?_)
            refine TL_e rfl (Ef_allocN (fun b5 => ?_))
            refine TL_n (Ef_storeN rfl rfl (?_))
            refine TL_nil ?_
            refine X_then ?_
            refine T_seq ?_
            refine T_region ?_
            refine TL_q (Qt_loadN rfl rfl) rfl ?_
            refine TL_q (Qt_fieldAddr 0 rfl rfl) rfl ?_
            refine TL_q (Qt_loadN rfl rfl) rfl ?_
            refine TL_q (Qt_fieldAddr 2 rfl rfl) rfl ?_
            refine TL_q (Qt_load1 rfl) rfl ?_
            refine TL_q (Qt_fieldAddr 3 rfl rfl) rfl ?_
            refine TL_q (Qt_load1 rfl) rfl ?_
            refine TL_q (Qt_move (.slice _ _ _) rfl) rfl ?_
            refine TL_e rfl (Ef_call (choose_c (num := num) hmk (sa := x35.1.a) (sc := x35.1.c) (ls := x35.1.ls) (lt16 hk35).1 (ra := ra) (rq := rq) (rs := rs) (by omega) (ps := ps) (fun x hx => by have := hps x hx; omega) (by omega) (first := first) (reg := reg) hfi) rfl (fun x45 => ?_))
            refine TL_pure (fun h45 => ?_)
            obtain ⟨⟨cv, ts⟩, fp⟩ := x45
            simp only at h45
            refine TL_q (Qt_move (.tuple _) rfl) rfl ?_
            refine TL_q (Qt_extract rfl) rfl ?_
            refine TL_q (Qt_extract rfl) rfl ?_
            refine TL_e rfl (Ef_allocN (fun b6 => ?_))
            refine TL_n (Ef_storeN rfl rfl (?_))
            refine TL_q (Qt_assign (.int .i64 _) rfl) rfl ?_
            refine TL_nil ?_
            refine X_then ?_
            refine T_seq ?_
            refine T_seq ?_
            refine T_region ?_
            refine TL_q (Qt_move (.int .i64 _) rfl) rfl ?_
            refine TL_q (Qt_neq rfl rfl) rfl ?_
            refine TL_nil ?_
            refine X_then ?_
            refine T_cond rfl (fun h49 => ?_) (fun h49 => ?_)
            ·
              have p49 := h49
              try simp only [decide_eq_true_eq, decide_eq_false_iff_not, Bool.not_eq_true', Bool.not_eq_false', Option.isNone_iff_eq_none, ne_eq, Decidable.not_not, Int.not_lt, Int.not_le] at p49
              have hcz : cv = ChoiceV.zero := h45.2 p49
              subst hcz
              refine T_seq ?_
              refine T_region ?_
              refine TL_q (Qt_fieldAddr 1 rfl rfl) rfl ?_
              refine TL_q (Qt_load1 rfl) rfl ?_
              refine TL_q (Qt_not rfl) rfl ?_
              refine TL_q (Qt_move (.bool _) rfl) rfl ?_
              refine TL_split 53 rfl (fun h53 => ?_) (fun h53 => ?_)
              ·
                have p53 := h53
                try simp only [decide_eq_true_eq, decide_eq_false_iff_not, Bool.not_eq_true', Bool.not_eq_false', Option.isNone_iff_eq_none, ne_eq, Decidable.not_not, Int.not_lt, Int.not_le] at p53
                refine TL_take rfl rfl h53 ?_
                refine TL_q (Qt_fieldAddr 0 rfl rfl) rfl ?_
                refine TL_take rfl rfl h53 ?_
                refine TL_q (Qt_load1 rfl) rfl ?_
                refine TL_take rfl rfl h53 ?_
                refine TL_q (Qt_eql rfl rfl) rfl ?_
                refine TL_q (Qt_pick_t (.bool _) rfl h53 rfl) rfl ?_
                refine TL_q (Qt_assign (.bool _) rfl) rfl ?_
                refine TL_nil ?_
                refine X_then ?_
                refine T_ret ?_
                refine X_then_ret ?_
                exact X_ret () [_] Try.results3 ⟨rfl, trivial⟩ (congrArg Value.bool (by first | rfl | decide | simp)) (Subs.st inferInstance)
              ·
                have p53 := h53
                try simp only [decide_eq_true_eq, decide_eq_false_iff_not, Bool.not_eq_true', Bool.not_eq_false', Option.isNone_iff_eq_none, ne_eq, Decidable.not_not, Int.not_lt, Int.not_le] at p53
                exact absurd h53 (by decide)
            ·
              have p49 := h49
              try simp only [decide_eq_true_eq, decide_eq_false_iff_not, Bool.not_eq_true', Bool.not_eq_false', Option.isNone_iff_eq_none, ne_eq, Decidable.not_not, Int.not_lt, Int.not_le] at p49
              have hce : (chooseE (x35.1.ls.map BS.l) rs num mk first reg (ps.map BS.l)).1 = 0 := by omega
              obtain ⟨hts, hcv⟩ := h45.1 hce
              refine T_skip ?_
              refine X_then ?_
              refine T_seq ?_
              refine T_seq ?_
              refine T_region ?_
              refine TL_q (Qt_move (.slice _ _ _) rfl) rfl ?_
              refine TL_q (Qt_len_slice rfl Try.underlying28) rfl ?_
              refine TL_q (Qt_move (.int .i64 _) rfl) rfl ?_
              refine TL_nil ?_
              refine X_then ?_
              refine T_block ?_
              refine T_loop [4, 9, 10, 11, 12, 13, 60, 61, 62, 63, 64, 65, 66, 67, 68, 69, 70, 71, 72, 73, 74, 75, 76, 77, 78, 79, 80, 81, 82, 83, 84, 85, 86, 87, 88, 89, 90, 91, 92, 93, 94, 95, 96, 97, 98, 99, 100, 101, 102, 103, 104, 105] [60] (fun us H' => ∃ (k : Nat), us = [.int .i64 (k : Int)] ∧ blk b5 (.cells (KeysV.mk ⟨x35.1.a, x35.1.c, x35.1.ls⟩ ⟨ra, rs.length, rq⟩).cells 32 (0, 0)) :: blk b6 (.cells cv.cells 38 (0, 0)) :: blk b2 (.cells (AskV.mk (ViewV.mk num (mk : Int)) first reg ⟨ra, rs.length, rq⟩).cells 27 (0, 0)) :: dat x35.2 (Deep.leads (PS.mk x35.1.a x35.1.c x35.1.ls)) :: H = H' ∧ k ≤ ps.length) (fun us => match us with | .int _ i :: _ => ps.length - i.toNat | _ => 0) ⟨0, rfl, rfl, by omega⟩ (Subs.st inferInstance) ?_
              rintro τ0 _ _  ⟨k, rfl, rfl, hk0⟩ _
              refine T_seq ?_
              refine T_region ?_
              refine TL_q (Qt_lss rfl rfl) rfl ?_
              refine TL_nil ?_
              refine X_then ?_
              refine T_seq ?_
              refine T_cond rfl (fun h61 => ?_) (fun h61 => ?_)
              ·
                have p61 := h61
                try simp only [decide_eq_true_eq, decide_eq_false_iff_not, Bool.not_eq_true', Bool.not_eq_false', Option.isNone_iff_eq_none, ne_eq, Decidable.not_not, Int.not_lt, Int.not_le] at p61
                have hk : k < ps.length := by omega
                refine T_skip ?_
                refine X_then ?_
                refine T_seq ?_
                refine T_block ?_
                refine T_seq ?_
                refine T_region ?_
                refine TL_q (Qt_indexR rfl rfl (by omega) (by simp; omega)) rfl ?_
                refine TL_q (Qt_loadR (.slice _ _ _) rfl (vals_get _ _ hk)) rfl ?_
                refine TL_q (Qt_assign (.slice _ _ _) rfl) rfl ?_
                refine TL_nil ?_
                refine X_then ?_
                refine T_seq ?_
                refine T_region ?_
                refine TL_q (Qt_loadN rfl rfl) rfl ?_
                refine TL_q (Qt_move (.slice _ _ _) rfl) rfl ?_
                have : RdB w0 H (.slice ps[k].a ps[k].l.length ps[k].c) ps[k].l := hre.get (List.getElem_mem hk)
                refine TL_e rfl (Ef_call (openF_c (sa := x35.1.a) (sc := x35.1.c) (ls := x35.1.ls) (rt := ⟨ra, rs.length, rq⟩) (lt16 hk35).1 (l := ps[k].l) (by have := hps _ (List.getElem_mem hk); omega)) rfl (fun x67 => ?_))
                refine TL_pure (fun h67 => ?_)
                obtain ⟨ho, hv0, hmm⟩ := chooseE_all hce _ (List.mem_map.2 ⟨ps[k], List.getElem_mem hk, rfl⟩)
                have h46 : x67.1.abs = (openOfK (x35.1.ls.map BS.l) mk ps[k].l).2 := by rw [openOfK_K ho]; exact h67
                rw [← h46] at hv0 hmm
                have hs2 := openOfK_small2 (x35.1.ls.map BS.l) mk ps[k].l
                rw [← h46] at hs2
                have hpk := hps _ (List.getElem_mem hk)
                have hfm := (formedM_iff _).1 (opn_ok ho).1
                rw [show opn (x35.1.ls.map BS.l) mk ps[k].l = (openOfK (x35.1.ls.map BS.l) mk ps[k].l).2 from rfl, ← h46] at hfm
                have hmsl : 0 ≤ x67.1.slot ∧ x67.1.slot ≤ 60 := hfm.2.2.2.2.2.2.2.2
                have hmbl : x67.1.body.l.length ≤ 4294960000 := Nat.le_trans hs2.1 (by omega)
                have hmps : ∀ x ∈ x67.1.parts.ls, x.l.length ≤ 4294960000 := fun x hx => Nat.le_trans (hs2.2.1 x.l (List.mem_map.2 ⟨x, hx, rfl⟩)) (by omega)
                have hmpn : x67.1.parts.ls.length ≤ 16 := by have := hs2.2.2; rwa [show x67.1.abs.parts = x67.1.parts.ls.map BS.l from rfl, List.length_map] at this
                refine TL_q (Qt_move (.tuple _) rfl) rfl ?_
                refine TL_q (Qt_extract rfl) rfl ?_
                refine TL_q (Qt_extract rfl) rfl ?_
                refine TL_e rfl (Ef_allocN (fun b10 => ?_))
                refine TL_n (Ef_storeN rfl rfl (?_))
                refine TL_q (Qt_assign (.int .i64 _) rfl) rfl ?_
                refine TL_nil ?_
                refine X_then ?_
                refine T_seq ?_
                refine T_region ?_
                refine TL_q (Qt_loadN rfl rfl) rfl ?_
                refine TL_q (Qt_fieldAddr 0 rfl rfl) rfl ?_
                refine TL_q (Qt_loadN rfl rfl) rfl ?_
                refine TL_q (Qt_fieldAddr 2 rfl rfl) rfl ?_
                refine TL_q (Qt_load1 rfl) rfl ?_
                refine TL_q (Qt_loadN rfl rfl) rfl ?_
                refine TL_e rfl (Ef_call (valid_c (num := num) hmk (sa := x35.1.a) (sc := x35.1.c) (ls := x35.1.ls) (lt16 hk35).1 (ra := ra) (rq := rq) (rs := rs) (by omega) (m := x67.1) hmsl hmps hmpn hmbl (first := first) hfi) rfl (fun x77 => ?_))
                rw [hv0]
                refine TL_pure (fun h77 => ?_)
                rw [← h77] at hmm
                obtain ⟨hA, hB⟩ := bound_law hts hcv hmm
                refine TL_q (Qt_move (.tuple _) rfl) rfl ?_
                refine TL_q (Qt_extract rfl) rfl ?_
                refine TL_q (Qt_extract rfl) rfl ?_
                refine TL_e rfl (Ef_allocN (fun b12 => ?_))
                refine TL_n (Ef_storeN rfl rfl (?_))
                refine TL_q (Qt_assign (.int .i64 _) rfl) rfl ?_
                refine TL_nil ?_
                refine X_then ?_
                refine T_seq ?_
                refine T_region ?_
                refine TL_q (Qt_move (.int .i64 _) rfl) rfl ?_
                refine TL_q (Qt_neq rfl rfl) rfl ?_
                refine TL_q (Qt_move (.bool _) rfl) rfl ?_
                refine TL_split 82 rfl (fun h82 => ?_) (fun h82 => ?_)
                ·
                  have p82 := h82
                  try simp only [decide_eq_true_eq, decide_eq_false_iff_not, Bool.not_eq_true', Bool.not_eq_false', Option.isNone_iff_eq_none, ne_eq, Decidable.not_not, Int.not_lt, Int.not_le] at p82
                  exact absurd h82 (by decide)
                ·
                  have p82 := h82
                  try simp only [decide_eq_true_eq, decide_eq_false_iff_not, Bool.not_eq_true', Bool.not_eq_false', Option.isNone_iff_eq_none, ne_eq, Decidable.not_not, Int.not_lt, Int.not_le] at p82
                  refine TL_take rfl rfl h82 ?_
                  refine TL_q (Qt_fieldAddr 0 rfl rfl) rfl ?_
                  refine TL_take rfl rfl h82 ?_
                  refine TL_q (Qt_load1 rfl) rfl ?_
                  refine TL_take rfl rfl h82 ?_
                  refine TL_q (Qt_fieldAddr 0 rfl rfl) rfl ?_
                  refine TL_take rfl rfl h82 ?_
                  refine TL_q (Qt_load1 rfl) rfl ?_
                  refine TL_take rfl rfl h82 ?_
                  refine TL_q (Qt_gtr rfl rfl) rfl ?_
                  refine TL_q (Qt_pick_f (.bool _) rfl h82 rfl) rfl ?_
                  refine TL_q (Qt_move (.bool _) rfl) rfl ?_
                  refine TL_split 89 rfl (fun h89 => ?_) (fun h89 => ?_)
                  ·
                    have p89 := h89
                    try simp only [decide_eq_true_eq, decide_eq_false_iff_not, Bool.not_eq_true', Bool.not_eq_false', Option.isNone_iff_eq_none, ne_eq, Decidable.not_not, Int.not_lt, Int.not_le] at p89
                    exact absurd (of_decide_eq_true h89) (by omega)
                  ·
                    have p89 := h89
                    try simp only [decide_eq_true_eq, decide_eq_false_iff_not, Bool.not_eq_true', Bool.not_eq_false', Option.isNone_iff_eq_none, ne_eq, Decidable.not_not, Int.not_lt, Int.not_le] at p89
                    refine TL_take rfl rfl h89 ?_
                    refine TL_q (Qt_fieldAddr 0 rfl rfl) rfl ?_
                    refine TL_take rfl rfl h89 ?_
                    refine TL_q (Qt_load1 rfl) rfl ?_
                    refine TL_take rfl rfl h89 ?_
                    refine TL_q (Qt_fieldAddr 0 rfl rfl) rfl ?_
                    refine TL_take rfl rfl h89 ?_
                    refine TL_q (Qt_load1 rfl) rfl ?_
                    refine TL_take rfl rfl h89 ?_
                    refine TL_q (Qt_eql rfl rfl) rfl ?_
                    refine TL_take rfl rfl h89 ?_
                    refine TL_q (Qt_move (.bool _) rfl) rfl ?_
                    refine TL_split 95 rfl (fun h95 => ?_) (fun h95 => ?_)
                    ·
                      have p95 := h95
                      try simp only [decide_eq_true_eq, decide_eq_false_iff_not, Bool.not_eq_true', Bool.not_eq_false', Option.isNone_iff_eq_none, ne_eq, Decidable.not_not, Int.not_lt, Int.not_le] at p95
                      refine TL_take rfl rfl h95 ?_
                      refine TL_q (Qt_fieldAddr 1 rfl rfl) rfl ?_
                      refine TL_take rfl rfl h95 ?_
                      refine TL_q (Qt_load1 rfl) rfl ?_
                      refine TL_take rfl rfl h89 ?_
                      refine TL_q (Qt_pick_t (.bool _) rfl h95 rfl) rfl ?_
                      refine TL_take rfl rfl h89 ?_
                      refine TL_q (Qt_move (.bool _) rfl) rfl ?_
                      refine TL_split 99 rfl (fun h99 => ?_) (fun h99 => ?_)
                      ·
                        have p99 := h99
                        try simp only [decide_eq_true_eq, decide_eq_false_iff_not, Bool.not_eq_true', Bool.not_eq_false', Option.isNone_iff_eq_none, ne_eq, Decidable.not_not, Int.not_lt, Int.not_le] at p99
                        refine TL_take rfl rfl h99 ?_
                        refine TL_q (Qt_fieldAddr 1 rfl rfl) rfl ?_
                        refine TL_take rfl rfl h99 ?_
                        refine TL_q (Qt_load1 rfl) rfl ?_
                        refine TL_take rfl rfl h99 ?_
                        refine TL_q (Qt_not rfl) rfl ?_
                        refine TL_take rfl rfl h89 ?_
                        refine TL_q (Qt_pick_t (.bool _) rfl h99 rfl) rfl ?_
                        refine TL_q (Qt_pick_f (.bool _) rfl h89 rfl) rfl ?_
                        refine TL_nil ?_
                        refine X_then ?_
                        refine T_cond rfl (fun h104 => ?_) (fun h104 => ?_)
                        ·
                          have p104 := h104
                          try simp only [decide_eq_true_eq, decide_eq_false_iff_not, Bool.not_eq_true', Bool.not_eq_false', Option.isNone_iff_eq_none, ne_eq, Decidable.not_not, Int.not_lt, Int.not_le] at p104
                          exfalso
                          first | (simp_all; done) | (simp_all; omega)
                        ·
                          have p104 := h104
                          try simp only [decide_eq_true_eq, decide_eq_false_iff_not, Bool.not_eq_true', Bool.not_eq_false', Option.isNone_iff_eq_none, ne_eq, Decidable.not_not, Int.not_lt, Int.not_le] at p104
                          refine T_skip ?_
                          refine X_block ?_
                          refine X_then ?_
                          refine T_region ?_
                          first
                            | refine TL_q (Qt_add rfl rfl (by omega) (by omega)) rfl ?_
                            | refine TL_q (Qt_addw rfl rfl) rfl ?_
                          refine TL_q (Qt_move (.int .i64 _) rfl) rfl ?_
                          refine TL_nil ?_
                          apply X_loop
                          case ha => exact (by repeat (first | with_reducible exact agree_refl | refine agree_upd rfl ?_ | refine agree_mix rfl ?_ | refine agree_setAll rfl ?_))
                          case hI => exact ⟨k + 1, rfl, rfl, by omega⟩
                          case hm => exact by show ps.length - (k + 1 : Int).toNat < ps.length - (k : Int).toNat; omega
                          case hH => exact (Subs.st inferInstance)
                      ·
                        have p99 := h99
                        try simp only [decide_eq_true_eq, decide_eq_false_iff_not, Bool.not_eq_true', Bool.not_eq_false', Option.isNone_iff_eq_none, ne_eq, Decidable.not_not, Int.not_lt, Int.not_le] at p99
                        refine TL_pass rfl rfl h99 rfl ?_
                        refine TL_pass rfl rfl h99 rfl ?_
                        refine TL_pass rfl rfl h99 rfl ?_
                        refine TL_take rfl rfl h89 ?_
                        refine TL_q (Qt_pick_f (.bool _) rfl h99 rfl) rfl ?_
                        refine TL_q (Qt_pick_f (.bool _) rfl h89 rfl) rfl ?_
                        refine TL_nil ?_
                        refine X_then ?_
                        refine T_cond_false rfl rfl ?_
                        refine T_skip ?_
                        refine X_block ?_
                        refine X_then ?_
                        refine T_region ?_
                        first
                          | refine TL_q (Qt_add rfl rfl (by omega) (by omega)) rfl ?_
                          | refine TL_q (Qt_addw rfl rfl) rfl ?_
                        refine TL_q (Qt_move (.int .i64 _) rfl) rfl ?_
                        refine TL_nil ?_
                        apply X_loop
                        case ha => exact (by repeat (first | with_reducible exact agree_refl | refine agree_upd rfl ?_ | refine agree_mix rfl ?_ | refine agree_setAll rfl ?_))
                        case hI => exact ⟨k + 1, rfl, rfl, by omega⟩
                        case hm => exact by show ps.length - (k + 1 : Int).toNat < ps.length - (k : Int).toNat; omega
                        case hH => exact (Subs.st inferInstance)
                    ·
                      have p95 := h95
                      try simp only [decide_eq_true_eq, decide_eq_false_iff_not, Bool.not_eq_true', Bool.not_eq_false', Option.isNone_iff_eq_none, ne_eq, Decidable.not_not, Int.not_lt, Int.not_le] at p95
                      refine TL_pass rfl rfl h95 rfl ?_
                      refine TL_pass rfl rfl h95 rfl ?_
                      refine TL_take rfl rfl h89 ?_
                      refine TL_q (Qt_pick_f (.bool _) rfl h95 rfl) rfl ?_
                      refine TL_take rfl rfl h89 ?_
                      refine TL_q (Qt_move (.bool _) rfl) rfl ?_
                      refine TL_pass rfl rfl rfl rfl ?_
                      refine TL_pass rfl rfl rfl rfl ?_
                      refine TL_pass rfl rfl rfl rfl ?_
                      refine TL_take rfl rfl h89 ?_
                      refine TL_q (Qt_pick_f (.bool _) rfl rfl rfl) rfl ?_
                      refine TL_q (Qt_pick_f (.bool _) rfl h89 rfl) rfl ?_
                      refine TL_nil ?_
                      refine X_then ?_
                      refine T_cond_false rfl rfl ?_
                      refine T_skip ?_
                      refine X_block ?_
                      refine X_then ?_
                      refine T_region ?_
                      first
                        | refine TL_q (Qt_add rfl rfl (by omega) (by omega)) rfl ?_
                        | refine TL_q (Qt_addw rfl rfl) rfl ?_
                      refine TL_q (Qt_move (.int .i64 _) rfl) rfl ?_
                      refine TL_nil ?_
                      apply X_loop
                      case ha => exact (by repeat (first | with_reducible exact agree_refl | refine agree_upd rfl ?_ | refine agree_mix rfl ?_ | refine agree_setAll rfl ?_))
                      case hI => exact ⟨k + 1, rfl, rfl, by omega⟩
                      case hm => exact by show ps.length - (k + 1 : Int).toNat < ps.length - (k : Int).toNat; omega
                      case hH => exact (Subs.st inferInstance)
              ·
                have p61 := h61
                try simp only [decide_eq_true_eq, decide_eq_false_iff_not, Bool.not_eq_true', Bool.not_eq_false', Option.isNone_iff_eq_none, ne_eq, Decidable.not_not, Int.not_lt, Int.not_le] at p61
                refine T_exit ?_
                refine X_then_exit ?_
                refine X_loop_exit ?_
                refine X_block_exit ?_
                refine X_then ?_
                refine T_seq ?_
                refine T_region ?_
                refine TL_q (Qt_assign (.bool _) rfl) rfl ?_
                refine TL_nil ?_
                refine X_then ?_
                refine T_ret ?_
                exact X_ret () [_] Try.results3 ⟨rfl, trivial⟩ rfl (Subs.st inferInstance)
end Go.Proofs.Ytnijomppbgdmnaa
