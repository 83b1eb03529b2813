/- Walks: the law SealsSeal. -/
import Derived.Test.YtgjkgdjjolnhdaaLw
namespace Go.Proofs.Ytgjkgdjjolnhdaa
open Go.RowKit Go.Sx
set_option maxRecDepth 100000
set_option linter.unusedSimpArgs false
set_option linter.unusedVariables false
attribute [local irreducible] sealK openK putM tagOf
set_option maxHeartbeats 1000000 in
theorem sealsSeal_c {w0 : World} {H : List SA} {a : Option Addr} {ls : List BS} {c : Nat} {m : MsgV} [rk : RdC w0 H (.slice a ls.length c) 1 (ls.map BS.val)] [rke : RdE w0 H ls] [rb : RdB w0 H (.slice m.body.a m.body.l.length m.body.c) m.body.l] [rc : RdC w0 H (.slice m.parts.a m.parts.ls.length m.parts.c) 1 (m.parts.ls.map BS.val)] [re : RdE w0 H m.parts.ls] :
    CT Try.prog w0 (H) 3 [.slice a ls.length c, .agg m.cells] (α := Unit) (fun _ => .bool true) (fun _ => H) := by
  refine CT_intro Try.func3 rfl Try.ntmps3 rfl ?_
  refine T_seq ?_
  refine T_region ?_
  refine TL_e rfl (Ef_boxN rfl (fun b3 => ?_))
  refine TL_q (Qt_assign (.bool _) rfl) rfl ?_
  refine TL_nil ?_
  refine X_then ?_
  refine T_seq ?_
  refine T_seq ?_
  refine T_region ?_
  refine TL_e rfl (Ef_call (wakes09_c) rfl (fun x12 => ?_))
  refine TL_q (Qt_not rfl) rfl ?_
  refine TL_nil ?_
  refine X_then ?_
  refine T_cond rfl (fun h13 => ?_) (fun h13 => ?_)
  ·
    have p13 := h13
    try simp only [decide_eq_true_eq, decide_eq_false_iff_not, Bool.not_eq_true', Bool.not_eq_false', Option.isNone_iff_eq_none, ne_eq, Decidable.not_not, Int.not_lt, Int.not_le] at p13
    cases h13
  ·
    have p13 := h13
    try simp only [decide_eq_true_eq, decide_eq_false_iff_not, Bool.not_eq_true', Bool.not_eq_false', Option.isNone_iff_eq_none, ne_eq, Decidable.not_not, Int.not_lt, Int.not_le] at p13
    refine T_skip ?_
    refine X_then ?_
    refine T_seq ?_
    refine T_seq ?_
    refine T_region ?_
    refine TL_q (Qt_move (.slice _ _ _) rfl) rfl ?_
    refine TL_e rfl (Ef_call (long09_c) rfl (fun x15 => ?_))
    refine TL_q (Qt_move (.bool _) rfl) rfl ?_
    refine TL_split 16 rfl (fun h16 => ?_) (fun h16 => ?_)
    ·
      have p16 := h16
      try simp only [decide_eq_true_eq, decide_eq_false_iff_not, Bool.not_eq_true', Bool.not_eq_false', Option.isNone_iff_eq_none, ne_eq, Decidable.not_not, Int.not_lt, Int.not_le] at p16
      refine TL_pass rfl rfl h16 rfl ?_
      refine TL_pass rfl rfl h16 rfl ?_
      refine TL_q (Qt_pick_t (.bool _) rfl h16 rfl) rfl ?_
      refine TL_nil ?_
      refine X_then ?_
      refine T_cond_true rfl rfl ?_
      refine T_seq ?_
      refine T_region ?_
      refine TL_q (Qt_assign (.bool _) rfl) rfl ?_
      refine TL_nil ?_
      refine X_then ?_
      refine T_ret ?_
      refine X_then_ret ?_
      exact X_ret () [_] Try.results3 ⟨rfl, trivial⟩ rfl (Subs.st inferInstance)
    ·
      have p16 := h16
      try simp only [decide_eq_true_eq, decide_eq_false_iff_not, Bool.not_eq_true', Bool.not_eq_false', Option.isNone_iff_eq_none, ne_eq, Decidable.not_not, Int.not_lt, Int.not_le] at p16
      have hlk : longK (ls.map BS.l) = false := h16
      refine TL_take rfl rfl h16 ?_
      refine TL_q (Qt_loadN rfl rfl) rfl ?_
      refine TL_take rfl rfl h16 ?_
      refine TL_e rfl (Ef_call (longM_c) rfl (fun x18 => ?_))
      refine TL_q (Qt_pick_f (.bool _) rfl h16 rfl) rfl ?_
      refine TL_nil ?_
      refine X_then ?_
      refine T_cond rfl (fun h19 => ?_) (fun h19 => ?_)
      ·
        have p19 := h19
        try simp only [decide_eq_true_eq, decide_eq_false_iff_not, Bool.not_eq_true', Bool.not_eq_false', Option.isNone_iff_eq_none, ne_eq, Decidable.not_not, Int.not_lt, Int.not_le] at p19
        refine T_seq ?_
        refine T_region ?_
        refine TL_q (Qt_assign (.bool _) rfl) rfl ?_
        refine TL_nil ?_
        refine X_then ?_
        refine T_ret ?_
        refine X_then_ret ?_
        exact X_ret () [_] Try.results3 ⟨rfl, trivial⟩ rfl (Subs.st inferInstance)
      ·
        have p19 := h19
        try simp only [decide_eq_true_eq, decide_eq_false_iff_not, Bool.not_eq_true', Bool.not_eq_false', Option.isNone_iff_eq_none, ne_eq, Decidable.not_not, Int.not_lt, Int.not_le] at p19
        have hsm : SmallM m.abs := small_of_longM h19
        refine T_skip ?_
        refine X_then ?_
        refine T_seq ?_
        refine T_region ?_
        have hkl : ∀ x ∈ ls, x.l.length ≤ 4294967000 := fun x hx => by have := (longK_small hlk).2 x.l (List.mem_map.2 ⟨x, hx, rfl⟩); omega
        refine TL_q (Qt_move (.slice _ _ _) rfl) rfl ?_
        refine TL_q (Qt_build [(0, .slice _ _ _)] rfl (by kernel_rfl)) rfl ?_
        refine TL_e rfl (Ef_allocN (fun b5 => ?_))
        refine TL_n (Ef_storeN rfl rfl (?_))
        refine TL_nil ?_
        refine X_then ?_
        refine T_seq ?_
        refine T_draw (blk b5 (.cells (KeysV.mk ⟨a, c, ls⟩ KeysV.zero.roots).cells 33 (0, 0)) :: blk b3 (.cells m.cells 27 (0, 0)) :: H) [(0, true), (1, true), (2, false), (3, false), (4, true), (5, true), (6, true), (7, true), (8, true)] (by kernel_rfl) (by kernel_rfl) rfl (by kernel_rfl) (Subs.st inferInstance) (fun hns0 => ?_)
        refine DL_q hns0 rfl (Qt_loadN rfl rfl) rfl ?_
        refine DL_q hns0 rfl (Qt_loadN rfl rfl) rfl ?_
        refine DL_e rfl rfl (Ef_call (copiedM_c hsm) rfl (fun x25 => ⟨(Subs.st inferInstance), ?_⟩))
        refine DL_pure (fun hx25 => ?_)
        refine DL_e rfl rfl (Ef_call (sealF_c (sa := a) (sc := c) (ls := ls) (rt := KeysV.zero.roots) hkl m.abs hx25 hsm) rfl (fun x26 => ⟨(Subs.st inferInstance), ?_⟩))
        refine DL_q hns0 rfl (Qt_move (.tuple _) rfl) rfl ?_
        refine DL_q hns0 rfl (Qt_extract rfl) rfl ?_
        refine DL_q hns0 rfl (Qt_extract rfl) rfl ?_
        refine DL_q hns0 rfl (Qt_assign (.slice _ _ _) rfl) rfl ?_
        refine DL_q hns0 rfl (Qt_assign (.int .i64 _) rfl) rfl ?_
        refine DL_nil ?_
        refine X_then ?_
        refine T_seq ?_
        refine T_region ?_
        refine TL_q (Qt_loadN rfl rfl) rfl ?_
        refine TL_q (Qt_loadN rfl rfl) rfl ?_
        refine TL_e rfl (Ef_call (rSealF_c (sa := a) (sc := c) (ls := ls) (rt := KeysV.zero.roots) hkl m.abs rfl hsm) rfl (fun x32 => ?_))
        refine TL_q (Qt_move (.tuple _) rfl) rfl ?_
        refine TL_q (Qt_extract rfl) rfl ?_
        refine TL_q (Qt_extract rfl) rfl ?_
        refine TL_q (Qt_assign (.slice _ _ _) rfl) rfl ?_
        refine TL_q (Qt_assign (.int .i64 _) rfl) rfl ?_
        refine TL_nil ?_
        refine X_then ?_
        refine T_seq ?_
        refine T_seq ?_
        refine T_region ?_
        refine TL_q (Qt_move (.slice _ _ _) rfl) rfl ?_
        refine TL_q (Qt_move (.slice _ _ _) rfl) rfl ?_
        refine TL_e rfl (Ef_call (same_c (by have := @sealK_le (ls.map BS.l) m.abs; omega)) rfl (fun x37 => ?_))
        refine TL_q (Qt_not rfl) rfl ?_
        refine TL_q (Qt_move (.bool _) rfl) rfl ?_
        refine TL_split 39 rfl (fun h39 => ?_) (fun h39 => ?_)
        ·
          have p39 := h39
          try simp only [decide_eq_true_eq, decide_eq_false_iff_not, Bool.not_eq_true', Bool.not_eq_false', Option.isNone_iff_eq_none, ne_eq, Decidable.not_not, Int.not_lt, Int.not_le] at p39
          exact absurd h39 (by simp)
        ·
          have p39 := h39
          try simp only [decide_eq_true_eq, decide_eq_false_iff_not, Bool.not_eq_true', Bool.not_eq_false', Option.isNone_iff_eq_none, ne_eq, Decidable.not_not, Int.not_lt, Int.not_le] at p39
          refine TL_take rfl rfl h39 ?_
          refine TL_q (Qt_move (.int .i64 _) rfl) rfl ?_
          refine TL_take rfl rfl h39 ?_
          refine TL_q (Qt_move (.int .i64 _) rfl) rfl ?_
          refine TL_take rfl rfl h39 ?_
          refine TL_q (Qt_neq rfl rfl) rfl ?_
          refine TL_q (Qt_pick_f (.bool _) rfl h39 rfl) rfl ?_
          refine TL_nil ?_
          refine X_then ?_
          refine T_cond rfl (fun h43 => ?_) (fun h43 => ?_)
          ·
            have p43 := h43
            try simp only [decide_eq_true_eq, decide_eq_false_iff_not, Bool.not_eq_true', Bool.not_eq_false', Option.isNone_iff_eq_none, ne_eq, Decidable.not_not, Int.not_lt, Int.not_le] at p43
            exact absurd h43 (by simp)
          ·
            have p43 := h43
            try simp only [decide_eq_true_eq, decide_eq_false_iff_not, Bool.not_eq_true', Bool.not_eq_false', Option.isNone_iff_eq_none, ne_eq, Decidable.not_not, Int.not_lt, Int.not_le] at p43
            refine T_skip ?_
            refine X_then ?_
            refine T_seq ?_
            refine T_seq ?_
            refine T_region ?_
            refine TL_q (Qt_move (.int .i64 _) rfl) rfl ?_
            refine TL_q (Qt_neq rfl rfl) rfl ?_
            refine TL_nil ?_
            refine X_then ?_
            refine T_cond rfl (fun h45 => ?_) (fun h45 => ?_)
            ·
              have p45 := h45
              try simp only [decide_eq_true_eq, decide_eq_false_iff_not, Bool.not_eq_true', Bool.not_eq_false', Option.isNone_iff_eq_none, ne_eq, Decidable.not_not, Int.not_lt, Int.not_le] at p45
              refine T_seq ?_
              refine T_region ?_
              refine TL_q (Qt_assign (.bool _) rfl) rfl ?_
              refine TL_nil ?_
              refine X_then ?_
              refine T_ret ?_
              refine X_then_ret ?_
              exact X_ret () [_] Try.results3 ⟨rfl, trivial⟩ rfl (Subs.st inferInstance)
            ·
              have p45 := h45
              try simp only [decide_eq_true_eq, decide_eq_false_iff_not, Bool.not_eq_true', Bool.not_eq_false', Option.isNone_iff_eq_none, ne_eq, Decidable.not_not, Int.not_lt, Int.not_le] at p45
              have hz : (sealK (ls.map BS.l) m.abs).2 = 0 := by simpa using h45
              refine T_skip ?_
              refine X_then ?_
              refine T_seq ?_
              refine T_region ?_
              refine TL_q (Qt_loadN rfl rfl) rfl ?_
              refine TL_q (Qt_move (.slice _ _ _) rfl) rfl ?_
              refine TL_e rfl (Ef_call (openF_c (sa := a) (sc := c) (ls := ls) (rt := KeysV.zero.roots) hkl (l := (sealK (ls.map BS.l) m.abs).1) (by have := @sealK_le (ls.map BS.l) m.abs; omega)) rfl (fun x49 => ?_))
              have hop := openK_seal (K := (ls.map BS.l)) hz hsm
              rw [hop]
              refine TL_pure (fun hx49 => ?_)
              have hsx : SmallM x49.1.abs := by rw [hx49]; exact hsm
              refine TL_q (Qt_move (.tuple _) rfl) rfl ?_
              refine TL_q (Qt_extract rfl) rfl ?_
              refine TL_q (Qt_extract rfl) rfl ?_
              refine TL_e rfl (Ef_allocN (fun b10 => ?_))
              refine TL_n (Ef_storeN rfl rfl (?_))
              refine TL_q (Qt_assign (.int .i64 _) rfl) rfl ?_
              refine TL_nil ?_
              refine X_then ?_
              refine T_seq ?_
              refine T_region ?_
              refine TL_q (Qt_move (.int .i64 _) rfl) rfl ?_
              refine TL_q (Qt_eql rfl rfl) rfl ?_
              refine TL_q (Qt_move (.bool _) rfl) rfl ?_
              refine TL_split 54 rfl (fun h54 => ?_) (fun h54 => ?_)
              ·
                have p54 := h54
                try simp only [decide_eq_true_eq, decide_eq_false_iff_not, Bool.not_eq_true', Bool.not_eq_false', Option.isNone_iff_eq_none, ne_eq, Decidable.not_not, Int.not_lt, Int.not_le] at p54
                refine TL_take rfl rfl h54 ?_
                refine TL_q (Qt_loadN rfl rfl) rfl ?_
                refine TL_take rfl rfl h54 ?_
                refine TL_q (Qt_loadN rfl rfl) rfl ?_
                refine TL_take rfl rfl h54 ?_
                refine TL_e rfl (Ef_call (sameM_c (v := x49.1) (u := m) (by have : x49.1.body.l.length ≤ 3000 := hsx.body; omega) (by have := hsx.parts; rw [parts_len] at this; omega) (fun x hx => by have : x.l.length ≤ 3000 := hsx.each x.l (List.mem_map.2 ⟨x, hx, rfl⟩); omega)) rfl (fun x57 => ?_))
                refine TL_q (Qt_pick_t (.bool _) rfl h54 rfl) rfl ?_
                refine TL_q (Qt_assign (.bool _) rfl) rfl ?_
                refine TL_nil ?_
                refine X_then ?_
                refine T_ret ?_
                exact X_ret () [.bool true] Try.results3 ⟨by refine congrArg Value.bool ?_; simp [hx49], trivial⟩ rfl (Subs.st inferInstance)
              ·
                have p54 := h54
                try simp only [decide_eq_true_eq, decide_eq_false_iff_not, Bool.not_eq_true', Bool.not_eq_false', Option.isNone_iff_eq_none, ne_eq, Decidable.not_not, Int.not_lt, Int.not_le] at p54
                exact absurd h54 (by simp)
end Go.Proofs.Ytgjkgdjjolnhdaa
