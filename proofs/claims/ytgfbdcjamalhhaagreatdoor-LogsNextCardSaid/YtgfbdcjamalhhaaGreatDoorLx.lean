/- The law LogsFull, walked. -/
import Derived.Test.YtgfbdcjamalhhaaGreatDoorLw
namespace Go.Proofs.YtgfbdcjamalhhaaGreatDoor
open Go.RowKit Go.Sx
set_option maxRecDepth 100000
set_option linter.unusedSimpArgs false
set_option linter.unusedVariables false
theorem last_nil : lastN ([] : List Nat) ≤ 0 := Nat.le_refl _
attribute [local irreducible] toldB recsB nmB nxS bgS runS namesE lastN newN sha
set_option maxHeartbeats 1000000 in
theorem logsFull_c {w0 : World} {H : List SA} {room : Int} (hroom : 0 ≤ room ∧ room < 256) {pa : Option Addr} {pc : Nat} {ps : List BS} [pk : RdC w0 H (.slice pa ps.length pc) 1 (ps.map BS.val)] [pke : RdE w0 H ps] :
    CT Tryz.prog w0 (H) 3 [.int .u8 room, .slice pa ps.length pc] (α := Unit) (fun _ => .bool true) (fun _ => H) := by
  refine CT_intro Tryz.func3 rfl Tryz.ntmps3 rfl ?_
  refine T_seq ?_
  refine T_region ?_
  refine TL_q (Qt_assign (.bool _) rfl) rfl ?_
  refine TL_nil ?_
  refine X_then ?_
  refine T_seq ?_
  refine T_seq ?_
  refine T_region ?_
  refine TL_e rfl (Ef_call (wakes11_c) rfl (fun x15 => ?_))
  refine TL_q (Qt_not rfl) rfl ?_
  refine TL_nil ?_
  refine X_then ?_
  refine T_cond_false rfl (by first | rfl | decide) ?_
  refine T_skip ?_
  refine X_then ?_
  refine T_seq ?_
  refine T_seq ?_
  refine T_region ?_
  refine TL_q (Qt_move (.slice _ _ _) rfl) rfl ?_
  refine TL_q (Qt_len_slice rfl Tryz.underlying22) rfl ?_
  refine TL_q (Qt_gtr rfl rfl) rfl ?_
  refine TL_nil ?_
  refine X_then ?_
  refine T_cond rfl (fun h19 => ?_) (fun h19 => ?_)
  ·
    have p19 := h19
    try simp only [decide_eq_true_eq, decide_eq_false_iff_not, Bool.not_eq_true', Bool.not_eq_false', Option.isNone_iff_eq_none, ne_eq, Decidable.not_not, Int.not_lt, Int.not_le] at p19
    refine T_seq ?_
    refine T_region ?_
    refine TL_q (Qt_assign (.bool _) rfl) rfl ?_
    refine TL_nil ?_
    refine X_then ?_
    refine T_ret ?_
    refine X_then_ret ?_
    exact X_ret () [.bool true] Tryz.results3 ⟨rfl, trivial⟩ rfl (Subs.st inferInstance)
  ·
    have p19 := h19
    try simp only [decide_eq_true_eq, decide_eq_false_iff_not, Bool.not_eq_true', Bool.not_eq_false', Option.isNone_iff_eq_none, ne_eq, Decidable.not_not, Int.not_lt, Int.not_le] at p19
    have hp40 : ps.length ≤ 40 := by omega
    refine T_skip ?_
    refine X_then ?_
    refine T_seq ?_
    refine T_region ?_
    refine TL_q (Qt_move (.int .u8 _) rfl) rfl ?_
    refine TL_q (Qt_conv_i64 rfl rfl Tryz.underlying3 (by omega) (by omega)) rfl ?_
    refine TL_e rfl (Ef_call (dnew_c (n := room)) rfl (fun x22 => ?_))
    refine TL_q (Qt_assign (.pointer _) rfl) rfl ?_
    refine TL_nil ?_
    refine X_then ?_
    refine T_seq ?_
    refine T_region ?_
    refine TL_q (Qt_move (.pointer _) rfl) rfl ?_
    have hok0 : (newS x22.2.1 x22.2.2 room).Ok 0 10000 := (newS_ok _ _ _).mono (by decide) (by decide)
    refine TL_e rfl (Ef_call (openE_c (p := x22.1) (s := (newS x22.2.1 x22.2.2 room)) hok0 (by decide) rfl (pre := lgB) (by show 3 ≤ maxLen; unfold maxLen; omega) fineLg) rfl (fun x25 => ?_))
    refine TL_q (Qt_move (.tuple _) rfl) rfl ?_
    refine TL_q (Qt_extract rfl) rfl ?_
    refine TL_q (Qt_extract rfl) rfl ?_
    refine TL_q (Qt_extract rfl) rfl ?_
    refine TL_q (Qt_assign (.pointer _) rfl) rfl ?_
    refine TL_q (Qt_assign (.slice _ _ _) rfl) rfl ?_
    refine TL_q (Qt_assign (.int .i64 _) rfl) rfl ?_
    refine TL_nil ?_
    refine X_then ?_
    refine T_seq ?_
    refine T_seq ?_
    refine T_region ?_
    refine TL_q (Qt_move (.int .i64 _) rfl) rfl ?_
    refine TL_q (Qt_neq rfl rfl) rfl ?_
    refine TL_nil ?_
    refine X_then ?_
    refine T_cond_false rfl (by first | rfl | decide) ?_
    refine T_skip ?_
    refine X_then ?_
    refine T_seq ?_
    refine T_region ?_
    refine TL_q (Qt_assign (.slice _ _ _) rfl) rfl ?_
    refine TL_nil ?_
    refine X_then ?_
    refine T_seq ?_
    refine T_seq ?_
    refine T_region ?_
    refine TL_q (Qt_move (.slice _ _ _) rfl) rfl ?_
    refine TL_q (Qt_len_slice rfl Tryz.underlying22) rfl ?_
    refine TL_q (Qt_move (.int .i64 _) rfl) rfl ?_
    refine TL_nil ?_
    refine X_then ?_
    refine T_block ?_
    refine T_loop [4, 9, 11, 33, 34, 35, 36, 37, 38, 39, 40, 41, 42, 43, 44, 45, 46, 47, 48, 49, 50, 51] [33, 9] (fun us H' => ∃ (k : Nat) (aa : Option Addr) (ac : Nat) (als : List BS) (s : DS) (t : LS), us = [.int .i64 (k : Int), .slice aa als.length ac] ∧ row (.slice aa (als).length ac) 30 1 ((als).map BS.val) :: lblk x25 x22.1 lgB t :: lrow t :: DS.H x22.1 s H = H' ∧ k ≤ ps.length ∧ (∃ fs rc, LogI lgB s t fs rc (als.map BS.l)) ∧ (s.Ok k (10000 + 100000 * k)) ∧ (∀ x ∈ als, x ∈ ps) ∧ (lastN t.segs ≤ k) ∧ (t.segs.length ≤ k) ∧ (t.nx ≤ 1 + k) ∧ (t.siz ≤ 20000) ∧ (als.length ≤ k)) (fun us => match us with | .int _ i :: _ => ps.length - i.toNat | _ => 0) ⟨0, none, 0, [], (newS x22.2.1 x22.2.2 room), (⟨none, 0, [], 0, 1, false⟩ : LS), rfl, rfl, by omega, ⟨fun _ => 0, fun _ => [], LogI.start⟩, hok0, (fun x hx => by cases hx), last_nil, by simp, by simp, by simp, by simp⟩ (fun w hw => (Subs.st inferInstance w hw : St w0 (lblk x25 x22.1 lgB (⟨none, 0, [], 0, 1, false⟩ : LS) :: lrow (⟨none, 0, [], 0, 1, false⟩ : LS) :: DS.H x22.1 (newS x22.2.1 x22.2.2 room) H) w).addNil 30 1) ?_
    rintro τ0 _ _  ⟨k, aa, ac, als, s, t, rfl, rfl, hk0, hI, hokk, hsub, hl1, hl2, hl3, hl4, hl5⟩ _
    refine T_seq ?_
    refine T_region ?_
    refine TL_q (Qt_lss rfl rfl) rfl ?_
    refine TL_nil ?_
    refine X_then ?_
    refine T_seq ?_
    refine T_cond rfl (fun h34 => ?_) (fun h34 => ?_)
    ·
      have p34 := h34
      try simp only [decide_eq_true_eq, decide_eq_false_iff_not, Bool.not_eq_true', Bool.not_eq_false', Option.isNone_iff_eq_none, ne_eq, Decidable.not_not, Int.not_lt, Int.not_le] at p34
      have hk : k < ps.length := by omega
      have : RdB w0 H (.slice ps[k].a ps[k].l.length ps[k].c) ps[k].l := pke.get (List.getElem_mem hk)
      refine T_skip ?_
      refine X_then ?_
      refine T_seq ?_
      refine T_block ?_
      refine T_seq ?_
      refine T_region ?_
      refine TL_q (Qt_indexR rfl rfl (by omega) (by simp; omega)) rfl ?_
      refine TL_q (Qt_loadR (.slice _ _ _) rfl (vals_get _ _ hk)) rfl ?_
      refine TL_q (Qt_assign (.slice _ _ _) rfl) rfl ?_
      refine TL_nil ?_
      refine X_then ?_
      refine T_seq ?_
      refine T_seq ?_
      refine T_region ?_
      refine TL_q (Qt_move (.slice _ _ _) rfl) rfl ?_
      refine TL_q (Qt_len_slice rfl Tryz.underlying30) rfl ?_
      refine TL_q (Qt_gtr rfl rfl) rfl ?_
      refine TL_nil ?_
      refine X_then ?_
      refine T_cond rfl (fun h39 => ?_) (fun h39 => ?_)
      ·
        have p39 := h39
        try simp only [decide_eq_true_eq, decide_eq_false_iff_not, Bool.not_eq_true', Bool.not_eq_false', Option.isNone_iff_eq_none, ne_eq, Decidable.not_not, Int.not_lt, Int.not_le] at p39
        refine T_seq ?_
        refine T_region ?_
        refine TL_q (Qt_assign (.bool _) rfl) rfl ?_
        refine TL_nil ?_
        refine X_then ?_
        refine T_ret ?_
        refine X_then_ret ?_
        refine X_block_ret ?_
        refine X_then_ret ?_
        refine X_loop_ret ?_
        refine X_block_ret ?_
        refine X_then_ret ?_
        exact X_ret () [.bool true] Tryz.results3 ⟨rfl, trivial⟩ rfl (Subs.st inferInstance)
      ·
        have p39 := h39
        try simp only [decide_eq_true_eq, decide_eq_false_iff_not, Bool.not_eq_true', Bool.not_eq_false', Option.isNone_iff_eq_none, ne_eq, Decidable.not_not, Int.not_lt, Int.not_le] at p39
        refine T_skip ?_
        refine X_then ?_
        refine T_seq ?_
        refine T_region ?_
        refine TL_q (Qt_move (.pointer _) rfl) rfl ?_
        refine TL_q (Qt_move (.slice _ _ _) rfl) rfl ?_
        obtain ⟨fs, rc, hI0⟩ := hI
        refine TL_conv (fun w hw => (Subs.st inferInstance w hw : St w0 (lblk x25 x22.1 lgB t :: lrow t :: DS.H x22.1 s (row (.slice aa (als).length ac) 30 1 ((als).map BS.val) :: H)) w)) ?_
        refine TL_e rfl (Ef_call (lappend_c (lp := x25) (p := x22.1) (pre := lgB) (t := t) (s := s) hokk (by omega) (by omega) (by omega) (by decide) (by omega) (by omega) (by omega) (by omega) (b := ps[k]) (by omega)) rfl (fun x42 => ?_))
        refine TL_pure (fun h42 => ?_)
        have htl := (toldB_len t.nx (by omega) ps[k].l (by omega)).1
        have hok2 := h42.ok hokk (by omega) (by omega)
        replace hok2 := hok2.mono (N' := k + 1) (M' := 10000 + 100000 * (k + 1)) (by omega) (by omega)
        obtain ⟨c1, c2⟩ := hI0.append h42 (by decide) (by omega) (by omega) (by omega) (by omega)
        refine TL_nil ?_
        refine X_then ?_
        refine T_block ?_
        refine T_seq ?_
        refine T_region ?_
        refine TL_q (Qt_eql rfl rfl) rfl ?_
        refine TL_q (Qt_assign (.bool _) rfl) rfl ?_
        refine TL_nil ?_
        refine X_then ?_
        refine T_cond rfl (fun h43 => ?_) (fun h43 => ?_)
        ·
          have p43 := h43
          try simp only [decide_eq_true_eq, decide_eq_false_iff_not, Bool.not_eq_true', Bool.not_eq_false', Option.isNone_iff_eq_none, ne_eq, Decidable.not_not, Int.not_lt, Int.not_le] at p43
          obtain ⟨b1, b4, b5, b6, b7⟩ := c2 p43
          refine T_region ?_
          refine TL_q (Qt_move (.slice _ _ _) rfl) rfl ?_
          refine TL_q (Qt_move (.slice _ _ _) rfl) rfl ?_
          refine TL_e rfl (Ef_slice1 (v := .slice _ _ _) rfl (fun a47 c47 => ?_))
          refine TL_e rfl (Ef_appendP (sv := .slice _ _ _) (xv := .slice _ _ _) ps[k] rfl rfl (by omega) rfl (fun a48 c48 => ?_))
          refine TL_q (Qt_assign (.slice _ _ _) rfl) rfl ?_
          refine TL_nil ?_
          refine X_block ?_
          refine X_block ?_
          refine X_then ?_
          refine T_region ?_
          first
            | refine TL_q (Qt_add rfl rfl (by omega) (by omega)) rfl ?_
            | refine TL_q (Qt_addw rfl rfl) rfl ?_
          refine TL_q (Qt_move (.int .i64 _) rfl) rfl ?_
          refine TL_nil ?_
          apply X_loop
          case ha => exact (by repeat (first | with_reducible exact agree_refl | refine agree_upd rfl ?_ | refine agree_mix rfl ?_ | refine agree_setAll rfl ?_))
          case hI => exact (by first | exact ⟨k + 1, a48, c48, als ++ [ps[k]], x42.1, x42.2.1, rfl, rfl, by omega, by rw [List.map_append]; exact b1, hok2, fun x hx => by rcases List.mem_append.1 hx with h | h; exact hsub x h; (obtain rfl : x = ps[k] := (by simpa using h); exact List.getElem_mem hk), by omega, by omega, by omega, by omega, by simp; omega⟩ | exact ⟨k + 1, aa, ac, als, x42.1, x42.2.1, rfl, rfl, by omega, ⟨fs, rc, by rw [b2, b3]; exact hI0⟩, hok2, hsub, by rw [b3]; omega, by rw [b3]; omega, by rw [b3]; omega, by rw [b3]; omega, by omega⟩)
          case hm => exact by show ps.length - (k + 1 : Int).toNat < ps.length - (k : Int).toNat; omega
          case hH => exact (Subs.st inferInstance)
        ·
          have p43 := h43
          try simp only [decide_eq_true_eq, decide_eq_false_iff_not, Bool.not_eq_true', Bool.not_eq_false', Option.isNone_iff_eq_none, ne_eq, Decidable.not_not, Int.not_lt, Int.not_le] at p43
          obtain ⟨b0, b2, b3⟩ := c1 p43
          refine T_seq ?_
          refine T_region ?_
          refine TL_q (Qt_eql rfl rfl) rfl ?_
          refine TL_q (Qt_assign (.bool _) rfl) rfl ?_
          refine TL_nil ?_
          refine X_then ?_
          refine T_cond rfl (fun h49 => ?_) (fun h49 => ?_)
          ·
            have p49 := h49
            try simp only [decide_eq_true_eq, decide_eq_false_iff_not, Bool.not_eq_true', Bool.not_eq_false', Option.isNone_iff_eq_none, ne_eq, Decidable.not_not, Int.not_lt, Int.not_le] at p49
            refine T_skip ?_
            refine X_block ?_
            refine X_block ?_
            refine X_then ?_
            refine T_region ?_
            first
              | refine TL_q (Qt_add rfl rfl (by omega) (by omega)) rfl ?_
              | refine TL_q (Qt_addw rfl rfl) rfl ?_
            refine TL_q (Qt_move (.int .i64 _) rfl) rfl ?_
            refine TL_nil ?_
            apply X_loop
            case ha => exact (by repeat (first | with_reducible exact agree_refl | refine agree_upd rfl ?_ | refine agree_mix rfl ?_ | refine agree_setAll rfl ?_))
            case hI => exact (by first | exact ⟨k + 1, a48, c48, als ++ [ps[k]], x42.1, x42.2.1, rfl, rfl, by omega, by rw [List.map_append]; exact b1, hok2, fun x hx => by rcases List.mem_append.1 hx with h | h; exact hsub x h; (obtain rfl : x = ps[k] := (by simpa using h); exact List.getElem_mem hk), by omega, by omega, by omega, by omega, by simp; omega⟩ | exact ⟨k + 1, aa, ac, als, x42.1, x42.2.1, rfl, rfl, by omega, ⟨fs, rc, by rw [b2, b3]; exact hI0⟩, hok2, hsub, by rw [b3]; omega, by rw [b3]; omega, by rw [b3]; omega, by rw [b3]; omega, by omega⟩)
            case hm => exact by show ps.length - (k + 1 : Int).toNat < ps.length - (k : Int).toNat; omega
            case hH => exact (Subs.st inferInstance)
          ·
            have p49 := h49
            try simp only [decide_eq_true_eq, decide_eq_false_iff_not, Bool.not_eq_true', Bool.not_eq_false', Option.isNone_iff_eq_none, ne_eq, Decidable.not_not, Int.not_lt, Int.not_le] at p49
            exact absurd b0 p49
    ·
      have p34 := h34
      try simp only [decide_eq_true_eq, decide_eq_false_iff_not, Bool.not_eq_true', Bool.not_eq_false', Option.isNone_iff_eq_none, ne_eq, Decidable.not_not, Int.not_lt, Int.not_le] at p34
      refine T_exit ?_
      refine X_then_exit ?_
      refine X_loop_exit ?_
      refine X_block_exit ?_
      refine X_then ?_
      refine T_seq ?_
      refine T_region ?_
      refine TL_q (Qt_move (.pointer _) rfl) rfl ?_
      refine TL_conv (fun w hw => (Subs.st inferInstance w hw : St w0 (lblk x25 x22.1 lgB t :: lrow t :: DS.H x22.1 s (row (.slice aa (als).length ac) 30 1 ((als).map BS.val) :: H)) w)) ?_
      refine TL_e rfl (Ef_call (lsync_c (lp := x25) (p := x22.1) (pre := lgB) (t := t) (s := s) hokk (by omega) (by omega)) rfl (fun x53 => ?_))
      refine TL_pure (fun h53 => ?_)
      obtain ⟨fs, rc, hI0⟩ := hI
      have hI2 := hI0.sync h53
      have hok53 := h53.ok hokk
      obtain ⟨ns, hn1, hn2⟩ := hI2.names (by omega) hok53.good2
      have hrg : ∀ n ∈ (t).segs, 1 ≤ n ∧ n < 100 := fun n hn => by have := hI2.rng n hn; omega
      obtain ⟨ca, hca, hch⟩ := hI2.chain
      have hdF : ∀ n ∈ (t).segs, (oldE (x53).e2 (nmB lgB n)).l = recsB (fs n) (rc n) ∧ 1 ≤ fs n ∧ fs n + (rc n).length ≤ 1000000 ∧ ∀ l ∈ rc n, l.length ≤ 1000 := fun n hn => by
        obtain ⟨y, hy1, hy2⟩ := hI2.file n hn
        have hb := chL_bound hch n hn
        exact ⟨by unfold oldE; rw [hy1]; exact hy2, by omega, by omega, hI2.short n hn⟩
      have hoF : ∀ ga gc, okS fs rc (t).segs ⟨ga, gc, (t).segs, 0, 1, false⟩ := fun ga gc => okS_chL hch (fun h => by cases h)
      have hkF : ∀ e ∈ (x53).e2, e.k.size ≤ maxLen := fun e he => by
        obtain ⟨n, hn, hk⟩ := hI2.keys _ (getE_some he)
        have h1 := nm_size3 (pre := lgB) n (hrg n hn).2
        rw [hk]
        have h2 : lgB.size = 3 := rfl
        unfold maxLen; omega
      have hrN : ∀ n ∈ ns, 1 ≤ n ∧ n < 100 := fun n hn => hrg n (hn2.mem_iff.1 hn)
      have hall := hI2.all
      have hal := congrArg List.length hall
      refine TL_nil ?_
      refine X_then ?_
      refine T_seq ?_
      refine T_region ?_
      refine TL_q (Qt_move (.pointer _) rfl) rfl ?_
      refine TL_conv (fun w hw => (Subs.st inferInstance w hw : St w0 (DS.H x22.1 x53 (row (.slice aa (als).length ac) 30 1 ((als).map BS.val) :: H)) w)) ?_
      refine TL_e rfl (Ef_call (openG_c (p := x22.1) (s := x53) hok53 (by omega) (by omega) (pre := lgB) (by decide) (by show 3 ≤ maxLen; unfold maxLen; omega) fineLg hkF hn1 hrN hn2 (hI2.segs.imp Nat.le_of_lt) (by rw [hn2.length_eq]; omega) hdF hoF (by rw [← hal, List.length_map]; omega)) rfl (fun x56 => ?_))
      refine TL_pure (fun h56 => ?_)
      have hxl : x56.2.2.1.length = als.length := by have h := congrArg List.length (h56.trans hall.symm); simpa using h
      have : RdE w0 H als := ⟨fun x hx => pke.rd x (hsub x hx)⟩
      refine TL_q (Qt_move (.tuple _) rfl) rfl ?_
      refine TL_q (Qt_extract rfl) rfl ?_
      refine TL_q (Qt_extract rfl) rfl ?_
      refine TL_q (Qt_extract rfl) rfl ?_
      refine TL_q (Qt_assign (.pointer _) rfl) rfl ?_
      refine TL_q (Qt_assign (.slice _ _ _) rfl) rfl ?_
      refine TL_q (Qt_assign (.int .i64 _) rfl) rfl ?_
      refine TL_nil ?_
      refine X_then ?_
      refine T_seq ?_
      refine T_region ?_
      refine TL_q (Qt_move (.int .i64 _) rfl) rfl ?_
      refine TL_q (Qt_eql rfl rfl) rfl ?_
      refine TL_q (Qt_move (.bool _) rfl) rfl ?_
      refine TL_split 62 rfl (fun h62 => ?_) (fun h62 => ?_)
      ·
        have p62 := h62
        try simp only [decide_eq_true_eq, decide_eq_false_iff_not, Bool.not_eq_true', Bool.not_eq_false', Option.isNone_iff_eq_none, ne_eq, Decidable.not_not, Int.not_lt, Int.not_le] at p62
        refine TL_take rfl rfl h62 ?_
        refine TL_q (Qt_move (.slice _ _ _) rfl) rfl ?_
        refine TL_take rfl rfl h62 ?_
        refine TL_q (Qt_move (.slice _ _ _) rfl) rfl ?_
        refine TL_take rfl rfl h62 ?_
        refine TL_e rfl (Ef_call (sameAll_c (l := x56.2.2.1) (l2 := als) (by rw [hxl]; omega) (fun x hx => by have h1 : x.l ∈ t.segs.flatMap rc := (by rw [← h56]; exact List.mem_map.2 ⟨x, hx, rfl⟩); obtain ⟨n, hn, hl⟩ := List.mem_flatMap.1 h1; have := hI2.short n hn _ hl; omega)) rfl (fun x65 => ?_))
        rw [h56, ← hall]
        refine TL_q (Qt_pick_t (.bool _) rfl h62 rfl) rfl ?_
        refine TL_q (Qt_assign (.bool _) rfl) rfl ?_
        refine TL_nil ?_
        refine X_then ?_
        refine T_ret ?_
        exact X_ret () [.bool true] Tryz.results3 ⟨congrArg Value.bool (decide_eq_true rfl), trivial⟩ rfl (Subs.st inferInstance)
      ·
        have p62 := h62
        try simp only [decide_eq_true_eq, decide_eq_false_iff_not, Bool.not_eq_true', Bool.not_eq_false', Option.isNone_iff_eq_none, ne_eq, Decidable.not_not, Int.not_lt, Int.not_le] at p62
        exact absurd h62 (by decide)
end Go.Proofs.YtgfbdcjamalhhaaGreatDoor
