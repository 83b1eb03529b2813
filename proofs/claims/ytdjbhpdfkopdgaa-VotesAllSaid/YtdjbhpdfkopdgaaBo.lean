/- The book: Take; the methods at nil. -/
import Derived.Test.YtdjbhpdfkopdgaaBn
namespace Go.Proofs.Ytdjbhpdfkopdgaa
open Go.RowKit Go.Sx
set_option maxRecDepth 100000
set_option linter.unusedSimpArgs false
set_option linter.unusedVariables false
theorem accP_none : accP none = none := rfl
theorem accP_some (q : Nat) (u : VoteV) : accP (some (q, u)) = some ⟨q, 0, none⟩ := rfl
theorem accA_none : accA none = pu True := rfl
theorem accA_some (q : Nat) (u : VoteV) : accA (some (q, u)) = blk q (.cells u.cells 27 (0, 0)) := rfl
theorem takeD_bad {b : BookD} {v : VoteD} (h : (putV v).2 ≠ 0) : takeD b v = (b, 15) := by rw [takeD, if_pos h]
theorem takeD_reg {b : BookD} {v : VoteD} (h : (putV v).2 = 0) (hk : v.kind = 1) : takeD b v = (enterD b ⟨v.view, v.reg⟩, 0) := by rw [takeD, if_neg (fun hn => hn h), if_pos hk]
theorem takeD_old {b : BookD} {v : VoteD} (h : (putV v).2 = 0) (hk : v.kind ≠ 1) (hs : v.slot < b.slot) : takeD b v = (b, 7) := by rw [takeD, if_neg (fun hn => hn h), if_neg hk, if_pos hs]
theorem takeD_write {b : BookD} {v : VoteD} (h : (putV v).2 = 0) (hk : v.kind = 2) (hs : ¬ v.slot < b.slot) : takeD b v = (writeD (beginD b v.slot) ⟨v.view, v.reg⟩ v, 0) := by rw [takeD, if_neg (fun hn => hn h), if_neg (by omega), if_neg hs, if_pos hk]
theorem takeD_acc {b : BookD} {v : VoteD} (h : (putV v).2 = 0) (hk : v.kind ≠ 1) (hk2 : v.kind ≠ 2) (hs : ¬ v.slot < b.slot) : takeD b v = (acceptD (beginD b v.slot) ⟨v.view, v.reg⟩ v, 0) := by rw [takeD, if_neg (fun hn => hn h), if_neg hk, if_neg hs, if_neg hk2]
theorem enter_wrote (k : BookV) (a : EraV) : (enterK k a).wrote = k.wrote := by unfold enterK; cases (!k.entered || afterB a k.now) <;> rfl
theorem enter_accepted (k : BookV) (a : EraV) : (enterK k a).accepted = k.accepted := by unfold enterK; cases (!k.entered || afterB a k.now) <;> rfl
theorem enter_abs (k : BookV) (a : EraV) (r : Nat) (es : List (Ent EraV VoteV)) (c : Nat) (acc : Option (Nat × VoteV)) (fp : List Nat) (vs : List VoteV) : BkS.abs ⟨enterK k a, r, es, c, acc, fp, vs⟩ = enterD (BkS.abs ⟨k, r, es, c, acc, fp, vs⟩) a := by
  unfold enterK
  show _ = bif !k.entered || afterB a k.now then _ else _
  cases (!k.entered || afterB a k.now) <;> rfl

set_option maxHeartbeats 1000000 in
theorem take_c {w0 : World} {H : List SA} {p : Nat} {y : BkS} {v : VoteV} [rbv : RdB w0 H (.slice v.batch.a v.batch.l.length v.batch.c) v.batch.l] [rcv : RdC w0 H (.slice v.cert.a v.cert.ls.length v.cert.c) 1 (v.cert.ls.map BS.val)] [rev : RdE w0 H v.cert.ls] (ho : y.Ok) (hs : SmallV v.abs) :
    CT Try.prog w0 (y.H p H) 12 [.pointer (some ⟨p, 0, none⟩), .agg v.cells] (α := BkS) (fun z => .int .i64 (takeD y.abs v.abs).2) (fun z => pu (z.Ok ∧ z.abs = (takeD y.abs v.abs).1) :: z.H p H) := by
  obtain ⟨⟨now, en, sl, wr, ac⟩, r, es, c, acc, fp, vs⟩ := y
  obtain rfl : wr = some r := ho.wrote
  obtain rfl : ac = accP acc := ho.acc
  refine CT_intro Try.func12 rfl Try.ntmps12 rfl ?_
  refine T_seq ?_
  refine T_region ?_
  refine TL_e rfl (Ef_boxN rfl (fun b3 => ?_))
  refine TL_q (Qt_assign (.int .i64 _) rfl) rfl ?_
  refine TL_nil ?_
  refine X_then ?_
  refine T_seq ?_
  refine T_seq ?_
  refine T_region ?_
  refine TL_q (Qt_move (.pointer _) rfl) rfl ?_
  refine TL_q (Qt_ptr_nil rfl rfl Try.underlying31) rfl ?_
  refine TL_nil ?_
  refine X_then ?_
  refine T_cond rfl (fun h12 => ?_) (fun h12 => ?_)
  ·
    have p12 := h12
    try simp only [decide_eq_true_eq, decide_eq_false_iff_not, Bool.not_eq_true', Bool.not_eq_false', Option.isNone_iff_eq_none, ne_eq, Decidable.not_not, Int.not_lt, Int.not_le] at p12
    cases h12
  ·
    have p12 := h12
    try simp only [decide_eq_true_eq, decide_eq_false_iff_not, Bool.not_eq_true', Bool.not_eq_false', Option.isNone_iff_eq_none, ne_eq, Decidable.not_not, Int.not_lt, Int.not_le] at p12
    refine T_skip ?_
    refine X_then ?_
    refine T_seq ?_
    refine T_seq ?_
    refine T_region ?_
    refine TL_q (Qt_loadN rfl rfl) rfl ?_
    refine TL_e rfl (Ef_call (put_c hs) rfl (fun x15 => ?_))
    refine TL_q (Qt_move (.tuple _) rfl) rfl ?_
    refine TL_q (Qt_extract rfl) rfl ?_
    refine TL_q (Qt_extract rfl) rfl ?_
    refine TL_q (Qt_assign (.slice _ _ _) rfl) rfl ?_
    refine TL_q (Qt_assign (.int .i64 _) rfl) rfl ?_
    refine TL_nil ?_
    refine X_then ?_
    refine T_seq ?_
    refine T_region ?_
    refine TL_q (Qt_move (.int .i64 _) rfl) rfl ?_
    refine TL_q (Qt_neq rfl rfl) rfl ?_
    refine TL_nil ?_
    refine X_then ?_
    refine T_cond rfl (fun h19 => ?_) (fun h19 => ?_)
    ·
      have p19 := h19
      try simp only [decide_eq_true_eq, decide_eq_false_iff_not, Bool.not_eq_true', Bool.not_eq_false', Option.isNone_iff_eq_none, ne_eq, Decidable.not_not, Int.not_lt, Int.not_le] at p19
      refine T_seq ?_
      refine T_region ?_
      refine TL_q (Qt_assign (.int .i64 _) rfl) rfl ?_
      refine TL_nil ?_
      refine X_then ?_
      refine T_ret ?_
      refine X_then_ret ?_
      have htk := takeD_bad (b := (BkS.mk (BookV.mk now en sl (some r) (accP acc)) r es c acc fp vs).abs) (v := v.abs) p19
      refine X_ret (BkS.mk (BookV.mk now en sl (some r) (accP acc)) r es c acc fp vs) [.int .i64 15] Try.results12 ⟨rfl, trivial⟩ (by rw [htk]; rfl) (fun w hw => St.addPure ?_ ⟨?_, ?_⟩)
      · exact Subs.st (H' := BkS.H (BkS.mk (BookV.mk now en sl (some r) (accP acc)) r es c acc fp vs) p H) inferInstance w hw
      · exact ho
      · rw [htk]; skip
    ·
      have p19 := h19
      try simp only [decide_eq_true_eq, decide_eq_false_iff_not, Bool.not_eq_true', Bool.not_eq_false', Option.isNone_iff_eq_none, ne_eq, Decidable.not_not, Int.not_lt, Int.not_le] at p19
      have hput : (putV v.abs).2 = 0 := by simpa using h19
      refine T_skip ?_
      refine X_then ?_
      refine T_seq ?_
      refine T_region ?_
      refine TL_q (Qt_fieldAddr 1 rfl rfl) rfl ?_
      refine TL_q (Qt_load1 rfl) rfl ?_
      refine TL_q (Qt_fieldAddr 2 rfl rfl) rfl ?_
      refine TL_q (Qt_load1 rfl) rfl ?_
      refine TL_q (Qt_build [(0, (.int .i64 _)), (1, (.int .i64 _))] rfl (by kernel_rfl)) rfl ?_
      refine TL_e rfl (Ef_allocN (fun b7 => ?_))
      refine TL_n (Ef_storeN rfl rfl (?_))
      refine TL_nil ?_
      refine X_then ?_
      refine T_seq ?_
      refine T_seq ?_
      refine T_region ?_
      refine TL_q (Qt_fieldAddr 0 rfl rfl) rfl ?_
      refine TL_q (Qt_load1 rfl) rfl ?_
      refine TL_q (Qt_eql rfl rfl) rfl ?_
      refine TL_nil ?_
      refine X_then ?_
      refine T_cond rfl (fun h27 => ?_) (fun h27 => ?_)
      ·
        have p27 := h27
        try simp only [decide_eq_true_eq, decide_eq_false_iff_not, Bool.not_eq_true', Bool.not_eq_false', Option.isNone_iff_eq_none, ne_eq, Decidable.not_not, Int.not_lt, Int.not_le] at p27
        refine T_seq ?_
        refine T_region ?_
        refine TL_q (Qt_move (.pointer _) rfl) rfl ?_
        refine TL_q (Qt_loadN rfl rfl) rfl ?_
        refine TL_drop (blk p (.cells (BookV.mk now en sl (some r) (accP acc)).cells 60 (0, 0)) :: blk r (mapO encE encV es c) :: accA acc :: datV fp vs :: H) ?_
        refine TL_e rfl (Ef_call (enter_c (k := BookV.mk now en sl (some r) (accP acc))) rfl (fun x30 => ?_))
        refine TL_nil ?_
        refine X_then ?_
        refine T_seq ?_
        refine T_region ?_
        refine TL_q (Qt_assign (.int .i64 _) rfl) rfl ?_
        refine TL_nil ?_
        refine X_then ?_
        refine T_ret ?_
        refine X_then_ret ?_
        have htk := takeD_reg (b := (BkS.mk (BookV.mk now en sl (some r) (accP acc)) r es c acc fp vs).abs) (v := v.abs) hput p27
        refine X_ret (BkS.mk (enterK (BookV.mk now en sl (some r) (accP acc)) ⟨v.view, v.reg⟩) r es c acc fp vs) [.int .i64 0] Try.results12 ⟨rfl, trivial⟩ (by rw [htk]; rfl) (fun w hw => St.addPure ?_ ⟨?_, ?_⟩)
        · exact Subs.st (H' := BkS.H (BkS.mk (enterK (BookV.mk now en sl (some r) (accP acc)) ⟨v.view, v.reg⟩) r es c acc fp vs) p H) inferInstance w hw
        · exact ⟨(enter_wrote _ _).trans rfl, (enter_accepted _ _).trans rfl, ho.good, ho.there, ho.last, ho.small⟩
        · rw [htk]; exact enter_abs _ _ _ _ _ _ _ _
      ·
        have p27 := h27
        try simp only [decide_eq_true_eq, decide_eq_false_iff_not, Bool.not_eq_true', Bool.not_eq_false', Option.isNone_iff_eq_none, ne_eq, Decidable.not_not, Int.not_lt, Int.not_le] at p27
        refine T_skip ?_
        refine X_then ?_
        refine T_seq ?_
        refine T_seq ?_
        refine T_draw _ [(0, true), (1, true), (2, true), (3, true), (4, true), (5, true), (6, true)] (by kernel_rfl) (by kernel_rfl) rfl (by kernel_rfl) (fun _ hh => hh) (fun hns0 => ?_)
        refine DL_q hns0 rfl (Qt_fieldAddr 3 rfl rfl) rfl ?_
        refine DL_q hns0 rfl (Qt_load1 rfl) rfl ?_
        refine DL_q hns0 rfl (Qt_move (.pointer _) rfl) rfl ?_
        refine DL_q hns0 rfl (Qt_nilCheck rfl) rfl ?_
        refine DL_q hns0 rfl (Qt_fieldAddr 3 rfl rfl) rfl ?_
        refine DL_q hns0 rfl (Qt_load1 rfl) rfl ?_
        refine DL_q hns0 rfl (Qt_lss rfl rfl) rfl ?_
        refine DL_nil ?_
        refine X_then ?_
        refine T_cond rfl (fun h37 => ?_) (fun h37 => ?_)
        ·
          have p37 := h37
          try simp only [decide_eq_true_eq, decide_eq_false_iff_not, Bool.not_eq_true', Bool.not_eq_false', Option.isNone_iff_eq_none, ne_eq, Decidable.not_not, Int.not_lt, Int.not_le] at p37
          refine T_seq ?_
          refine T_region ?_
          refine TL_q (Qt_assign (.int .i64 _) rfl) rfl ?_
          refine TL_nil ?_
          refine X_then ?_
          refine T_ret ?_
          refine X_then_ret ?_
          have htk := takeD_old (b := (BkS.mk (BookV.mk now en sl (some r) (accP acc)) r es c acc fp vs).abs) (v := v.abs) hput p27 p37
          refine X_ret (BkS.mk (BookV.mk now en sl (some r) (accP acc)) r es c acc fp vs) [.int .i64 7] Try.results12 ⟨rfl, trivial⟩ (by rw [htk]; rfl) (fun w hw => St.addPure ?_ ⟨?_, ?_⟩)
          · exact Subs.st (H' := BkS.H (BkS.mk (BookV.mk now en sl (some r) (accP acc)) r es c acc fp vs) p H) inferInstance w hw
          · exact ho
          · rw [htk]; skip
        ·
          have p37 := h37
          try simp only [decide_eq_true_eq, decide_eq_false_iff_not, Bool.not_eq_true', Bool.not_eq_false', Option.isNone_iff_eq_none, ne_eq, Decidable.not_not, Int.not_lt, Int.not_le] at p37
          refine T_skip ?_
          refine X_then ?_
          refine T_seq ?_
          refine T_region ?_
          refine TL_q (Qt_move (.pointer _) rfl) rfl ?_
          refine TL_q (Qt_fieldAddr 3 rfl rfl) rfl ?_
          refine TL_q (Qt_load1 rfl) rfl ?_
          have n37 : ¬ v.slot < sl := by omega
          refine TL_drop (blk p (.cells (BookV.mk now en sl (some r) (accP acc)).cells 60 (0, 0)) :: blk r (mapO encE encV es c) :: accA acc :: datV fp vs :: blk b3 (.cells v.cells 27 (0, 0)) :: blk b7 (.cells (EraV.mk v.view v.reg).cells 57 (0, 0)) :: H) ?_
          refine TL_e rfl (Ef_call (begin_c (k := BookV.mk now en sl (some r) (accP acc)) rfl ho.good) rfl (fun x41 => ?_))
          obtain ⟨acc1, es1, hb1, hb2, hb3, hb4, hb5, hb6, hb7⟩ := begin_book now en sl r acc es v.slot n37
          rw [hb1, hb2]
          refine TL_conv (fun w hw => hb6 w0 w _ (Subs.st inferInstance w hw : St w0 (accA acc :: blk p (.cells (BookV.mk now en v.slot (some r) (accP acc1)).cells 60 (0, 0)) :: blk r (mapO encE encV es1 c) :: datV fp vs :: blk b3 (.cells v.cells 27 (0, 0)) :: blk b7 (.cells (EraV.mk v.view v.reg).cells 57 (0, 0)) :: H) w)) ?_
          refine TL_nil ?_
          refine X_then ?_
          refine T_seq ?_
          refine T_region ?_
          refine TL_q (Qt_loadN rfl rfl) rfl ?_
          refine TL_e rfl (Ef_call (copied_c hs) rfl (fun x43 => ?_))
          refine TL_pure (fun hu => ?_)
          have hk : x43.1.kind = v.kind := congrArg VoteD.kind hu
          refine TL_n (Ef_storeN rfl rfl (?_))
          refine TL_nil ?_
          refine X_then ?_
          refine T_seq ?_
          refine T_seq ?_
          refine T_region ?_
          refine TL_q (Qt_fieldAddr 0 rfl rfl) rfl ?_
          refine TL_q (Qt_load1 rfl) rfl ?_
          refine TL_q (Qt_eql rfl rfl) rfl ?_
          refine TL_nil ?_
          refine X_then ?_
          refine T_cond rfl (fun h46 => ?_) (fun h46 => ?_)
          ·
            have p46 := h46
            try simp only [decide_eq_true_eq, decide_eq_false_iff_not, Bool.not_eq_true', Bool.not_eq_false', Option.isNone_iff_eq_none, ne_eq, Decidable.not_not, Int.not_lt, Int.not_le] at p46
            refine T_seq ?_
            refine T_seq ?_
            refine T_draw _ [(0, true), (1, true), (2, true), (3, true), (4, true), (5, true), (6, true), (7, true), (8, true), (9, false), (10, false), (11, true)] (by kernel_rfl) (by kernel_rfl) rfl (by kernel_rfl) (fun _ hh => hh) (fun hns1 => ?_)
            refine DL_q hns1 rfl (Qt_move (.pointer _) rfl) rfl ?_
            refine DL_q hns1 rfl (Qt_nilCheck rfl) rfl ?_
            refine DL_q hns1 rfl (Qt_fieldAddr 4 rfl rfl) rfl ?_
            refine DL_q hns1 rfl (Qt_load1 rfl) rfl ?_
            refine DL_q hns1 rfl (Qt_loadN rfl rfl) rfl ?_
            refine DL_q hns1 rfl (Qt_lookup2 (key := EraV.mk v.view v.reg) (VoteV.zero) rfl rfl Try.underlying55 vote_zero) rfl ?_
            refine DL_q hns1 rfl (Qt_move (.tuple _) rfl) rfl ?_
            refine DL_q hns1 rfl (Qt_extract rfl) rfl ?_
            refine DL_q hns1 rfl (Qt_extract rfl) rfl ?_
            refine DL_e rfl rfl (Ef_allocN (fun b8 => ⟨(Subs.st inferInstance), ?_⟩))
            refine DL_n rfl (Ef_storeN rfl rfl (⟨(Subs.st inferInstance), ?_⟩))
            refine DL_q hns1 rfl (Qt_assign (.bool _) rfl) rfl ?_
            refine DL_nil ?_
            refine X_then ?_
            refine T_seq ?_
            refine T_region ?_
            refine TL_q (Qt_move (.bool _) rfl) rfl ?_
            refine TL_q (Qt_not rfl) rfl ?_
            refine TL_nil ?_
            refine X_then ?_
            refine T_cond rfl (fun h57 => ?_) (fun h57 => ?_)
            ·
              have p57 := h57
              try simp only [decide_eq_true_eq, decide_eq_false_iff_not, Bool.not_eq_true', Bool.not_eq_false', Option.isNone_iff_eq_none, ne_eq, Decidable.not_not, Int.not_lt, Int.not_le] at p57
              refine T_draw [blk p (.cells (BookV.mk now en v.slot (some r) (accP acc1)).cells 60 (0, 0)), blk b7 (.cells (EraV.mk v.view v.reg).cells 57 (0, 0)), blk b3 (.cells x43.1.cells 27 (0, 0))] [(0, true), (1, true), (2, true), (3, true), (4, true), (5, true), (6, false)] (by kernel_rfl) (by kernel_rfl) rfl (by kernel_rfl) (Subs.st inferInstance) (fun hns2 => ?_)
              refine DL_q hns2 rfl (Qt_move (.pointer _) rfl) rfl ?_
              refine DL_q hns2 rfl (Qt_nilCheck rfl) rfl ?_
              refine DL_q hns2 rfl (Qt_fieldAddr 4 rfl rfl) rfl ?_
              refine DL_q hns2 rfl (Qt_load1 rfl) rfl ?_
              refine DL_q hns2 rfl (Qt_loadN rfl rfl) rfl ?_
              refine DL_q hns2 rfl (Qt_loadN rfl rfl) rfl ?_
              refine DL_n rfl (Ef_mapUpdate (key := EraV.mk v.view v.reg) (x43.1) rfl rfl rfl Try.underlying55 (⟨(Subs.st inferInstance), ?_⟩))
              refine DL_nil ?_
              refine X_then ?_
              refine T_seq ?_
              refine T_region ?_
              refine TL_q (Qt_assign (.int .i64 _) rfl) rfl ?_
              refine TL_nil ?_
              refine X_then ?_
              refine T_ret ?_
              refine X_then_ret ?_
              have htk := takeD_write (b := (BkS.mk (BookV.mk now en sl (some r) (accP acc)) r es c acc fp vs).abs) (v := v.abs) hput (hk.symm.trans p46) n37
              have hh : hasE es1 ⟨v.view, v.reg⟩ = false := by simpa using h57
              refine X_ret (BkS.mk (BookV.mk now en v.slot (some r) (accP acc1)) r (putE es1 ⟨v.view, v.reg⟩ x43.1 c) (clockE es1 ⟨v.view, v.reg⟩ c) acc1 (x43.2 ++ fp) ([x43.1] ++ vs)) [.int .i64 0] Try.results12 ⟨rfl, trivial⟩ (by rw [htk]; rfl) (fun w hw => St.addPure ?_ ⟨?_, ?_⟩)
              · have h1 : St w0 (datV x43.2 [x43.1] :: datV fp vs :: blk p (.cells (BookV.mk now en v.slot (some r) (accP acc1)).cells 60 (0, 0)) :: blk r (mapO encE encV (putE es1 ⟨v.view, v.reg⟩ x43.1 c) (clockE es1 ⟨v.view, v.reg⟩ c)) :: accA acc1 :: H) w := Subs.st inferInstance w hw
                exact Subs.st (H' := BkS.H (BkS.mk (BookV.mk now en v.slot (some r) (accP acc1)) r (putE es1 ⟨v.view, v.reg⟩ x43.1 c) (clockE es1 ⟨v.view, v.reg⟩ c) acc1 (x43.2 ++ fp) ([x43.1] ++ vs)) p H) inferInstance w (St.datAdd h1)
              · exact ⟨rfl, rfl, putE_keys (hb3 _ ho.good) _ _ hh, fun e he => by
                    rw [show (BkS.es (BkS.mk (BookV.mk now en v.slot (some r) (accP acc1)) r (putE es1 ⟨v.view, v.reg⟩ x43.1 c) (clockE es1 ⟨v.view, v.reg⟩ c) acc1 (x43.2 ++ fp) ([x43.1] ++ vs))) = putE es1 ⟨v.view, v.reg⟩ x43.1 c from rfl, putE_none _ _ _ _ hh] at he
                    rcases List.mem_append.1 he with he | he
                    · exact List.mem_append_right _ (ho.there e (hb4 e he))
                    · obtain rfl : e = ⟨⟨v.view, v.reg⟩, x43.1, c⟩ := by simpa using he
                      exact List.mem_append_left _ (by simp), fun q hq => List.mem_append_right _ (ho.last q (hb5 q hq)), fun x hx => by
                    rcases List.mem_cons.1 hx with rfl | hx
                    · rw [hu]; exact hs
                    · exact ho.small x hx⟩
              · rw [htk]; refine Eq.trans ?_ (congrArg (fun b => writeD b ⟨v.view, v.reg⟩ v.abs) (hb7 c fp fp vs vs))
                show BkS.abs _ = if (BookD.get _ _).isSome then _ else _
                rw [hasE_get, hh]
                simp [BkS.abs, putE_none _ _ _ _ hh, hu]
            ·
              have p57 := h57
              try simp only [decide_eq_true_eq, decide_eq_false_iff_not, Bool.not_eq_true', Bool.not_eq_false', Option.isNone_iff_eq_none, ne_eq, Decidable.not_not, Int.not_lt, Int.not_le] at p57
              refine T_skip ?_
              refine X_then ?_
              refine T_seq ?_
              refine T_region ?_
              refine TL_q (Qt_assign (.int .i64 _) rfl) rfl ?_
              refine TL_nil ?_
              refine X_then ?_
              refine T_ret ?_
              refine X_then_ret ?_
              have htk := takeD_write (b := (BkS.mk (BookV.mk now en sl (some r) (accP acc)) r es c acc fp vs).abs) (v := v.abs) hput (hk.symm.trans p46) n37
              have hh : hasE es1 ⟨v.view, v.reg⟩ = true := by simpa using h57
              refine X_ret (BkS.mk (BookV.mk now en v.slot (some r) (accP acc1)) r es1 c acc1 fp vs) [.int .i64 0] Try.results12 ⟨rfl, trivial⟩ (by rw [htk]; rfl) (fun w hw => St.addPure ?_ ⟨?_, ?_⟩)
              · exact Subs.st (H' := BkS.H (BkS.mk (BookV.mk now en v.slot (some r) (accP acc1)) r es1 c acc1 fp vs) p H) inferInstance w hw
              · exact ⟨rfl, rfl, hb3 _ ho.good, fun e he => ho.there e (hb4 e he), fun q hq => ho.last q (hb5 q hq), ho.small⟩
              · rw [htk]; refine Eq.trans ?_ (congrArg (fun b => writeD b ⟨v.view, v.reg⟩ v.abs) (hb7 c fp fp vs vs))
                show BkS.abs _ = if (BookD.get _ _).isSome then _ else _
                rw [hasE_get, hh]
                rfl
          ·
            have p46 := h46
            try simp only [decide_eq_true_eq, decide_eq_false_iff_not, Bool.not_eq_true', Bool.not_eq_false', Option.isNone_iff_eq_none, ne_eq, Decidable.not_not, Int.not_lt, Int.not_le] at p46
            refine T_skip ?_
            refine X_then ?_
            refine T_seq ?_
            refine T_seq ?_
            refine T_region ?_
            refine TL_q (Qt_move (.pointer _) rfl) rfl ?_
            refine TL_q (Qt_nilCheck rfl) rfl ?_
            refine TL_q (Qt_fieldAddr 5 rfl rfl) rfl ?_
            refine TL_q (Qt_load1 rfl) rfl ?_
            refine TL_q (Qt_assign (.pointer _) rfl) rfl ?_
            refine TL_nil ?_
            refine X_then ?_
            refine T_seq ?_
            refine T_draw _ [(0, true), (1, true), (2, true), (3, true), (4, true), (5, true), (6, true), (7, true), (8, true), (9, true), (10, true), (11, true), (12, true), (13, false), (14, true)] (by kernel_rfl) (by kernel_rfl) rfl (by kernel_rfl) (fun _ hh => hh) (fun hns3 => ?_)
            rcases acc1 with _ | ⟨q, o⟩ <;> simp only [accP_none, accP_some, accA_none, accA_some]
            ·
              skip
              refine DL_q hns3 rfl (Qt_move (.pointer _) rfl) rfl ?_
              refine DL_q hns3 rfl (Qt_ptr_nil rfl rfl Try.underlying58) rfl ?_
              refine DL_q hns3 rfl (Qt_move (.bool _) rfl) rfl ?_
              refine DL_split 70 rfl (fun h70 => ?_) (fun h70 => ?_)
              ·
                have p70 := h70
                try simp only [decide_eq_true_eq, decide_eq_false_iff_not, Bool.not_eq_true', Bool.not_eq_false', Option.isNone_iff_eq_none, ne_eq, Decidable.not_not, Int.not_lt, Int.not_le] at p70
                refine DL_pass hns3 rfl rfl rfl h70 rfl ?_
                refine DL_pass hns3 rfl rfl rfl h70 rfl ?_
                refine DL_pass hns3 rfl rfl rfl h70 rfl ?_
                refine DL_pass hns3 rfl rfl rfl h70 rfl ?_
                refine DL_pass hns3 rfl rfl rfl h70 rfl ?_
                refine DL_pass hns3 rfl rfl rfl h70 rfl ?_
                refine DL_pass hns3 rfl rfl rfl h70 rfl ?_
                refine DL_pass hns3 rfl rfl rfl h70 rfl ?_
                refine DL_pass hns3 rfl rfl rfl h70 rfl ?_
                refine DL_pass hns3 rfl rfl rfl h70 rfl ?_
                refine DL_passF rfl rfl rfl h70 rfl ?_
                refine DL_q hns3 rfl (Qt_pick_t (.bool _) rfl h70 rfl) rfl ?_
                refine DL_nil ?_
                refine X_then ?_
                refine T_cond_true rfl rfl ?_
                refine T_region ?_
                refine TL_q (Qt_move (.pointer _) rfl) rfl ?_
                refine TL_q (Qt_nilCheck rfl) rfl ?_
                refine TL_q (Qt_fieldAddr 5 rfl rfl) rfl ?_
                refine TL_n (Ef_store1 (.pointer _) rfl rfl (?_))
                refine TL_nil ?_
                refine X_then ?_
                refine T_seq ?_
                refine T_region ?_
                refine TL_q (Qt_assign (.int .i64 _) rfl) rfl ?_
                refine TL_nil ?_
                refine X_then ?_
                refine T_ret ?_
                have htk := takeD_acc (b := (BkS.mk (BookV.mk now en sl (some r) (accP acc)) r es c acc fp vs).abs) (v := v.abs) hput p27 (fun h => p46 (hk.trans h)) n37
                refine X_ret (BkS.mk (BookV.mk now en v.slot (some r) (some ⟨b3, 0, none⟩)) r es1 c (some (b3, x43.1)) (x43.2 ++ fp) ([x43.1] ++ vs)) [.int .i64 0] Try.results12 ⟨rfl, trivial⟩ (by rw [htk]; rfl) (fun w hw => St.addPure ?_ ⟨?_, ?_⟩)
                · have h1 : St w0 (datV x43.2 [x43.1] :: datV fp vs :: blk p (.cells (BookV.mk now en v.slot (some r) (some ⟨b3, 0, none⟩)).cells 60 (0, 0)) :: blk r (mapO encE encV es1 c) :: blk b3 (.cells x43.1.cells 27 (0, 0)) :: H) w := Subs.st inferInstance w hw
                  exact Subs.st (H' := blk p (.cells (BookV.mk now en v.slot (some r) (some ⟨b3, 0, none⟩)).cells 60 (0, 0)) :: blk r (mapO encE encV es1 c) :: blk b3 (.cells x43.1.cells 27 (0, 0)) :: datV (x43.2 ++ fp) ([x43.1] ++ vs) :: H) inferInstance w (St.datAdd h1)
                · exact ⟨rfl, rfl, hb3 _ ho.good, fun e he => List.mem_append_right _ (ho.there e (hb4 e he)), fun q hq => by obtain rfl : (b3, x43.1) = q := (by simpa using hq); simp, fun x hx => by
                      rcases List.mem_cons.1 hx with rfl | hx
                      · rw [hu]; exact hs
                      · exact ho.small x hx⟩
                · rw [htk]; refine Eq.trans ?_ (congrArg (fun b => acceptD b ⟨v.view, v.reg⟩ v.abs) (hb7 c fp fp vs vs))
                  simp only [BkS.abs, acceptD, Option.map_none, Option.map_some, hu]
              ·
                have p70 := h70
                try simp only [decide_eq_true_eq, decide_eq_false_iff_not, Bool.not_eq_true', Bool.not_eq_false', Option.isNone_iff_eq_none, ne_eq, Decidable.not_not, Int.not_lt, Int.not_le] at p70
                cases h70
            ·
              skip
              refine DL_q hns3 rfl (Qt_move (.pointer _) rfl) rfl ?_
              refine DL_q hns3 rfl (Qt_ptr_nil rfl rfl Try.underlying58) rfl ?_
              refine DL_q hns3 rfl (Qt_move (.bool _) rfl) rfl ?_
              refine DL_split 70 rfl (fun h70 => ?_) (fun h70 => ?_)
              ·
                have p70 := h70
                try simp only [decide_eq_true_eq, decide_eq_false_iff_not, Bool.not_eq_true', Bool.not_eq_false', Option.isNone_iff_eq_none, ne_eq, Decidable.not_not, Int.not_lt, Int.not_le] at p70
                cases h70
              ·
                have p70 := h70
                try simp only [decide_eq_true_eq, decide_eq_false_iff_not, Bool.not_eq_true', Bool.not_eq_false', Option.isNone_iff_eq_none, ne_eq, Decidable.not_not, Int.not_lt, Int.not_le] at p70
                refine DL_qg hns3 rfl rfl rfl h70 (Qt_loadN rfl rfl) rfl ?_
                refine DL_qg hns3 rfl rfl rfl h70 (Qt_move (.pointer _) rfl) rfl ?_
                refine DL_qg hns3 rfl rfl rfl h70 (Qt_nilCheck rfl) rfl ?_
                refine DL_qg hns3 rfl rfl rfl h70 (Qt_fieldAddr 1 rfl rfl) rfl ?_
                refine DL_qg hns3 rfl rfl rfl h70 (Qt_load1 rfl) rfl ?_
                refine DL_qg hns3 rfl rfl rfl h70 (Qt_move (.pointer _) rfl) rfl ?_
                refine DL_qg hns3 rfl rfl rfl h70 (Qt_nilCheck rfl) rfl ?_
                refine DL_qg hns3 rfl rfl rfl h70 (Qt_fieldAddr 2 rfl rfl) rfl ?_
                refine DL_qg hns3 rfl rfl rfl h70 (Qt_load1 rfl) rfl ?_
                refine DL_qg hns3 rfl rfl rfl h70 (Qt_build [(0, (.int .i64 _)), (1, (.int .i64 _))] rfl (by kernel_rfl)) rfl ?_
                refine DL_eg rfl rfl rfl h70 rfl (Ef_call (after_c) rfl (fun x81 => ⟨(Subs.st inferInstance), ?_⟩))
                refine DL_q hns3 rfl (Qt_pick_f (.bool _) rfl h70 rfl) rfl ?_
                refine DL_nil ?_
                refine X_then ?_
                refine T_cond rfl (fun h82 => ?_) (fun h82 => ?_)
                ·
                  have p82 := h82
                  try simp only [decide_eq_true_eq, decide_eq_false_iff_not, Bool.not_eq_true', Bool.not_eq_false', Option.isNone_iff_eq_none, ne_eq, Decidable.not_not, Int.not_lt, Int.not_le] at p82
                  refine T_region ?_
                  refine TL_q (Qt_move (.pointer _) rfl) rfl ?_
                  refine TL_q (Qt_nilCheck rfl) rfl ?_
                  refine TL_q (Qt_fieldAddr 5 rfl rfl) rfl ?_
                  refine TL_n (Ef_store1 (.pointer _) rfl rfl (?_))
                  refine TL_nil ?_
                  refine X_then ?_
                  refine T_seq ?_
                  refine T_region ?_
                  refine TL_q (Qt_assign (.int .i64 _) rfl) rfl ?_
                  refine TL_nil ?_
                  refine X_then ?_
                  refine T_ret ?_
                  have htk := takeD_acc (b := (BkS.mk (BookV.mk now en sl (some r) (accP acc)) r es c acc fp vs).abs) (v := v.abs) hput p27 (fun h => p46 (hk.trans h)) n37
                  refine X_ret (BkS.mk (BookV.mk now en v.slot (some r) (some ⟨b3, 0, none⟩)) r es1 c (some (b3, x43.1)) (x43.2 ++ fp) ([x43.1] ++ vs)) [.int .i64 0] Try.results12 ⟨rfl, trivial⟩ (by rw [htk]; rfl) (fun w hw => St.addPure ?_ ⟨?_, ?_⟩)
                  · have h1 : St w0 (datV x43.2 [x43.1] :: datV fp vs :: blk p (.cells (BookV.mk now en v.slot (some r) (some ⟨b3, 0, none⟩)).cells 60 (0, 0)) :: blk r (mapO encE encV es1 c) :: blk b3 (.cells x43.1.cells 27 (0, 0)) :: H) w := Subs.st inferInstance w hw
                    exact Subs.st (H' := blk p (.cells (BookV.mk now en v.slot (some r) (some ⟨b3, 0, none⟩)).cells 60 (0, 0)) :: blk r (mapO encE encV es1 c) :: blk b3 (.cells x43.1.cells 27 (0, 0)) :: datV (x43.2 ++ fp) ([x43.1] ++ vs) :: H) inferInstance w (St.datAdd h1)
                  · exact ⟨rfl, rfl, hb3 _ ho.good, fun e he => List.mem_append_right _ (ho.there e (hb4 e he)), fun q hq => by obtain rfl : (b3, x43.1) = q := (by simpa using hq); simp, fun x hx => by
                        rcases List.mem_cons.1 hx with rfl | hx
                        · rw [hu]; exact hs
                        · exact ho.small x hx⟩
                  · rw [htk]; refine Eq.trans ?_ (congrArg (fun b => acceptD b ⟨v.view, v.reg⟩ v.abs) (hb7 c fp fp vs vs))
                    show BkS.abs _ = if afterB _ ⟨o.view, o.reg⟩ then _ else _
                    rw [if_pos h82]
                    simp only [BkS.abs, Option.map_some, hu]
                ·
                  have p82 := h82
                  try simp only [decide_eq_true_eq, decide_eq_false_iff_not, Bool.not_eq_true', Bool.not_eq_false', Option.isNone_iff_eq_none, ne_eq, Decidable.not_not, Int.not_lt, Int.not_le] at p82
                  refine T_skip ?_
                  refine X_then ?_
                  refine T_seq ?_
                  refine T_region ?_
                  refine TL_q (Qt_assign (.int .i64 _) rfl) rfl ?_
                  refine TL_nil ?_
                  refine X_then ?_
                  refine T_ret ?_
                  have htk := takeD_acc (b := (BkS.mk (BookV.mk now en sl (some r) (accP acc)) r es c acc fp vs).abs) (v := v.abs) hput p27 (fun h => p46 (hk.trans h)) n37
                  refine X_ret (BkS.mk (BookV.mk now en v.slot (some r) (some ⟨q, 0, none⟩)) r es1 c (some (q, o)) fp vs) [.int .i64 0] Try.results12 ⟨rfl, trivial⟩ (by rw [htk]; rfl) (fun w hw => St.addPure ?_ ⟨?_, ?_⟩)
                  · exact Subs.st (H' := blk p (.cells (BookV.mk now en v.slot (some r) (some ⟨q, 0, none⟩)).cells 60 (0, 0)) :: blk r (mapO encE encV es1 c) :: blk q (.cells o.cells 27 (0, 0)) :: datV fp vs :: H) inferInstance w hw
                  · exact ⟨rfl, rfl, hb3 _ ho.good, fun e he => ho.there e (hb4 e he), fun x hx => ho.last x (hb5 x hx), ho.small⟩
                  · rw [htk]; refine Eq.trans ?_ (congrArg (fun b => acceptD b ⟨v.view, v.reg⟩ v.abs) (hb7 c fp fp vs vs))
                    simp only [BkS.abs, acceptD, Option.map_some, hu, VoteV.abs]
                    rw [if_neg (by simp [h82])]
end Go.Proofs.Ytdjbhpdfkopdgaa
