/- Walks: the reference on messages: Long, Copied, Same. -/
import Derived.Test.YtpdpapcmfnhgpaaMs
namespace Go.Proofs.Ytpdpapcmfnhgpaa
open Go.RowKit Go.Sx
set_option maxRecDepth 100000
set_option linter.unusedSimpArgs false
set_option linter.unusedVariables false
def longM (m : MsgD) : Bool := decide (3000 < m.body.length) || decide (20 < m.parts.length) || m.parts.any fun c => decide (3000 < c.length)
theorem small_of_longM {m : MsgD} (h : longM m = false) : SmallM m := by
  simp only [longM, Bool.or_eq_false_iff, decide_eq_false_iff_not, List.any_eq_false, decide_eq_true_eq] at h
  exact ⟨by omega, by omega, fun x hx => by have := h.2 x hx; omega⟩
theorem MsgD.ext_iff' (x y : MsgD) : x = y ↔ x.kind = y.kind ∧ x.frm = y.frm ∧ x.view = y.view ∧ x.reg = y.reg ∧ x.slot = y.slot ∧ x.hash = y.hash ∧ x.body = y.body ∧ x.parts = y.parts := by cases x; cases y; simp
instance : DecidableEq MsgD := fun x y => decidable_of_iff _ (MsgD.ext_iff' x y).symm
theorem longM_1 {m : MsgV} (h : 3000 < m.body.l.length) : longM m.abs = true := by simp [longM, MsgV.abs, h]
theorem longM_2 {m : MsgV} (h : 20 < m.parts.ls.length) : longM m.abs = true := by simp [longM, MsgV.abs, h]
theorem longM_3 {m : MsgV} (k : Nat) (hk : k < m.parts.ls.length) (h : 3000 < m.parts.ls[k].l.length) : longM m.abs = true := by
  have : (m.abs.parts.any fun c => decide (3000 < c.length)) = true := any_of_get _ m.abs.parts k (by rw [parts_len]; exact hk) (by simpa [MsgV.abs] using h)
  simp [longM, this]
theorem longM_no {m : MsgV} (h1 : ¬ 3000 < m.body.l.length) (h2 : ¬ 20 < m.parts.ls.length) (h3 : (m.parts.ls.map BS.l).any (fun c => decide (3000 < c.length)) = false) : longM m.abs = false := by
  have e1 : decide (3000 < m.abs.body.length) = false := decide_eq_false h1
  have e2 : decide (20 < m.abs.parts.length) = false := decide_eq_false (by rw [parts_len]; exact h2)
  have e3 : (m.abs.parts.any fun c => decide (3000 < c.length)) = false := h3
  simp only [longM, e1, e2, e3, Bool.or_self]

set_option maxHeartbeats 1000000 in
theorem sameM_c {w0 : World} {H : List SA} {v u : MsgV} [rbv : RdB w0 H (.slice v.body.a v.body.l.length v.body.c) v.body.l] [rcv : RdC w0 H (.slice v.parts.a v.parts.ls.length v.parts.c) 1 (v.parts.ls.map BS.val)] [rev : RdE w0 H v.parts.ls] [rbu : RdB w0 H (.slice u.body.a u.body.l.length u.body.c) u.body.l] [rcu : RdC w0 H (.slice u.parts.a u.parts.ls.length u.parts.c) 1 (u.parts.ls.map BS.val)] [reu : RdE w0 H u.parts.ls] (hb : v.body.l.length ≤ 4294967296) (hc : v.parts.ls.length ≤ 4294967296) (he1 : ∀ x ∈ v.parts.ls, x.l.length ≤ 4294967296) :
    CT Try.prog w0 (H) 11 [.agg v.cells, .agg u.cells] (α := Unit) (fun _ => .bool (decide (v.abs = u.abs))) (fun _ => H) := by
  refine CT_intro Try.func11 rfl Try.ntmps11 rfl ?_
  refine T_seq ?_
  refine T_region ?_
  refine TL_e rfl (Ef_boxN rfl (fun b2 => ?_))
  refine TL_e rfl (Ef_boxN rfl (fun b3 => ?_))
  refine TL_q (Qt_assign (.bool _) rfl) rfl ?_
  refine TL_nil ?_
  refine X_then ?_
  refine T_seq ?_
  refine T_region ?_
  refine TL_q (Qt_fieldAddr 0 rfl rfl) rfl ?_
  refine TL_q (Qt_load1 rfl) rfl ?_
  refine TL_q (Qt_fieldAddr 0 rfl rfl) rfl ?_
  refine TL_q (Qt_load1 rfl) rfl ?_
  refine TL_q (Qt_eql rfl rfl) rfl ?_
  refine TL_q (Qt_move (.bool _) rfl) rfl ?_
  refine TL_split 10 rfl (fun h10 => ?_) (fun h10 => ?_)
  ·
    have p10 := h10
    try simp only [decide_eq_true_eq, decide_eq_false_iff_not, Bool.not_eq_true', Bool.not_eq_false', Option.isNone_iff_eq_none, ne_eq, Decidable.not_not, Int.not_lt, Int.not_le] at p10
    refine TL_take rfl rfl h10 ?_
    refine TL_q (Qt_fieldAddr 1 rfl rfl) rfl ?_
    refine TL_take rfl rfl h10 ?_
    refine TL_q (Qt_load1 rfl) rfl ?_
    refine TL_take rfl rfl h10 ?_
    refine TL_q (Qt_fieldAddr 1 rfl rfl) rfl ?_
    refine TL_take rfl rfl h10 ?_
    refine TL_q (Qt_load1 rfl) rfl ?_
    refine TL_take rfl rfl h10 ?_
    refine TL_q (Qt_eql rfl rfl) rfl ?_
    refine TL_q (Qt_pick_t (.bool _) rfl h10 rfl) rfl ?_
    refine TL_q (Qt_move (.bool _) rfl) rfl ?_
    refine TL_split 17 rfl (fun h17 => ?_) (fun h17 => ?_)
    ·
      have p17 := h17
      try simp only [decide_eq_true_eq, decide_eq_false_iff_not, Bool.not_eq_true', Bool.not_eq_false', Option.isNone_iff_eq_none, ne_eq, Decidable.not_not, Int.not_lt, Int.not_le] at p17
      refine TL_take rfl rfl h17 ?_
      refine TL_q (Qt_fieldAddr 2 rfl rfl) rfl ?_
      refine TL_take rfl rfl h17 ?_
      refine TL_q (Qt_load1 rfl) rfl ?_
      refine TL_take rfl rfl h17 ?_
      refine TL_q (Qt_fieldAddr 2 rfl rfl) rfl ?_
      refine TL_take rfl rfl h17 ?_
      refine TL_q (Qt_load1 rfl) rfl ?_
      refine TL_take rfl rfl h17 ?_
      refine TL_q (Qt_eql rfl rfl) rfl ?_
      refine TL_q (Qt_pick_t (.bool _) rfl h17 rfl) rfl ?_
      refine TL_q (Qt_move (.bool _) rfl) rfl ?_
      refine TL_split 24 rfl (fun h24 => ?_) (fun h24 => ?_)
      ·
        have p24 := h24
        try simp only [decide_eq_true_eq, decide_eq_false_iff_not, Bool.not_eq_true', Bool.not_eq_false', Option.isNone_iff_eq_none, ne_eq, Decidable.not_not, Int.not_lt, Int.not_le] at p24
        refine TL_take rfl rfl h24 ?_
        refine TL_q (Qt_fieldAddr 3 rfl rfl) rfl ?_
        refine TL_take rfl rfl h24 ?_
        refine TL_q (Qt_load1 rfl) rfl ?_
        refine TL_take rfl rfl h24 ?_
        refine TL_q (Qt_fieldAddr 3 rfl rfl) rfl ?_
        refine TL_take rfl rfl h24 ?_
        refine TL_q (Qt_load1 rfl) rfl ?_
        refine TL_take rfl rfl h24 ?_
        refine TL_q (Qt_eql rfl rfl) rfl ?_
        refine TL_q (Qt_pick_t (.bool _) rfl h24 rfl) rfl ?_
        refine TL_q (Qt_move (.bool _) rfl) rfl ?_
        refine TL_split 31 rfl (fun h31 => ?_) (fun h31 => ?_)
        ·
          have p31 := h31
          try simp only [decide_eq_true_eq, decide_eq_false_iff_not, Bool.not_eq_true', Bool.not_eq_false', Option.isNone_iff_eq_none, ne_eq, Decidable.not_not, Int.not_lt, Int.not_le] at p31
          refine TL_take rfl rfl h31 ?_
          refine TL_q (Qt_fieldAddr 4 rfl rfl) rfl ?_
          refine TL_take rfl rfl h31 ?_
          refine TL_q (Qt_load1 rfl) rfl ?_
          refine TL_take rfl rfl h31 ?_
          refine TL_q (Qt_fieldAddr 4 rfl rfl) rfl ?_
          refine TL_take rfl rfl h31 ?_
          refine TL_q (Qt_load1 rfl) rfl ?_
          refine TL_take rfl rfl h31 ?_
          refine TL_q (Qt_eql rfl rfl) rfl ?_
          refine TL_q (Qt_pick_t (.bool _) rfl h31 rfl) rfl ?_
          refine TL_q (Qt_move (.bool _) rfl) rfl ?_
          refine TL_split 38 rfl (fun h38 => ?_) (fun h38 => ?_)
          ·
            have p38 := h38
            try simp only [decide_eq_true_eq, decide_eq_false_iff_not, Bool.not_eq_true', Bool.not_eq_false', Option.isNone_iff_eq_none, ne_eq, Decidable.not_not, Int.not_lt, Int.not_le] at p38
            refine TL_take rfl rfl h38 ?_
            refine TL_q (Qt_fieldAddr 5 rfl rfl) rfl ?_
            refine TL_take rfl rfl h38 ?_
            refine TL_q (Qt_loadN rfl rfl) rfl ?_
            refine TL_take rfl rfl h38 ?_
            refine TL_q (Qt_fieldAddr 5 rfl rfl) rfl ?_
            refine TL_take rfl rfl h38 ?_
            refine TL_q (Qt_loadN rfl rfl) rfl ?_
            refine TL_take rfl rfl h38 ?_
            refine TL_q (Qt_agg_eql rfl rfl (by kernel_rfl)) rfl ?_
            refine TL_q (Qt_pick_t (.bool _) rfl h38 rfl) rfl ?_
            refine TL_q (Qt_move (.bool _) rfl) rfl ?_
            refine TL_split 45 rfl (fun h45 => ?_) (fun h45 => ?_)
            ·
              have p45 := h45
              try simp only [decide_eq_true_eq, decide_eq_false_iff_not, Bool.not_eq_true', Bool.not_eq_false', Option.isNone_iff_eq_none, ne_eq, Decidable.not_not, Int.not_lt, Int.not_le] at p45
              refine TL_take rfl rfl h45 ?_
              refine TL_q (Qt_fieldAddr 37 rfl rfl) rfl ?_
              refine TL_take rfl rfl h45 ?_
              refine TL_q (Qt_load1 rfl) rfl ?_
              refine TL_take rfl rfl h45 ?_
              refine TL_q (Qt_fieldAddr 37 rfl rfl) rfl ?_
              refine TL_take rfl rfl h45 ?_
              refine TL_q (Qt_load1 rfl) rfl ?_
              refine TL_take rfl rfl h45 ?_
              refine TL_e rfl (Ef_call (same_c hb) rfl (fun x50 => ?_))
              refine TL_q (Qt_pick_t (.bool _) rfl h45 rfl) rfl ?_
              refine TL_q (Qt_move (.bool _) rfl) rfl ?_
              refine TL_split 52 rfl (fun h52 => ?_) (fun h52 => ?_)
              ·
                have p52 := h52
                try simp only [decide_eq_true_eq, decide_eq_false_iff_not, Bool.not_eq_true', Bool.not_eq_false', Option.isNone_iff_eq_none, ne_eq, Decidable.not_not, Int.not_lt, Int.not_le] at p52
                refine TL_take rfl rfl h52 ?_
                refine TL_q (Qt_fieldAddr 38 rfl rfl) rfl ?_
                refine TL_take rfl rfl h52 ?_
                refine TL_q (Qt_load1 rfl) rfl ?_
                refine TL_take rfl rfl h52 ?_
                refine TL_q (Qt_fieldAddr 38 rfl rfl) rfl ?_
                refine TL_take rfl rfl h52 ?_
                refine TL_q (Qt_load1 rfl) rfl ?_
                refine TL_take rfl rfl h52 ?_
                refine TL_e rfl (Ef_call (sameParts_c hc he1) rfl (fun x57 => ?_))
                refine TL_q (Qt_pick_t (.bool _) rfl h52 rfl) rfl ?_
                refine TL_q (Qt_assign (.bool _) rfl) rfl ?_
                refine TL_nil ?_
                refine X_then ?_
                refine T_ret ?_
                refine X_ret () [.bool (decide (v.abs = u.abs))] Try.results11 ⟨?_, trivial⟩ rfl (Subs.st inferInstance)
                refine congrArg Value.bool ?_
                rw [Bool.eq_iff_iff]
                simp only [decide_eq_true_eq, MsgD.ext_iff']
                simp only [MsgV.abs]
                first | (simp_all; done) | (simp_all; omega)
              ·
                have p52 := h52
                try simp only [decide_eq_true_eq, decide_eq_false_iff_not, Bool.not_eq_true', Bool.not_eq_false', Option.isNone_iff_eq_none, ne_eq, Decidable.not_not, Int.not_lt, Int.not_le] at p52
                refine TL_pass rfl rfl h52 rfl ?_
                refine TL_pass rfl rfl h52 rfl ?_
                refine TL_pass rfl rfl h52 rfl ?_
                refine TL_pass rfl rfl h52 rfl ?_
                refine TL_pass rfl rfl h52 rfl ?_
                refine TL_q (Qt_pick_f (.bool _) rfl h52 rfl) rfl ?_
                refine TL_q (Qt_assign (.bool _) rfl) rfl ?_
                refine TL_nil ?_
                refine X_then ?_
                refine T_ret ?_
                refine X_ret () [.bool (decide (v.abs = u.abs))] Try.results11 ⟨?_, trivial⟩ rfl (Subs.st inferInstance)
                refine congrArg Value.bool ?_
                rw [Bool.eq_iff_iff]
                simp only [decide_eq_true_eq, MsgD.ext_iff']
                simp only [MsgV.abs]
                first | (simp_all; done) | (simp_all; omega)
            ·
              have p45 := h45
              try simp only [decide_eq_true_eq, decide_eq_false_iff_not, Bool.not_eq_true', Bool.not_eq_false', Option.isNone_iff_eq_none, ne_eq, Decidable.not_not, Int.not_lt, Int.not_le] at p45
              refine TL_pass rfl rfl h45 rfl ?_
              refine TL_pass rfl rfl h45 rfl ?_
              refine TL_pass rfl rfl h45 rfl ?_
              refine TL_pass rfl rfl h45 rfl ?_
              refine TL_pass rfl rfl h45 rfl ?_
              refine TL_q (Qt_pick_f (.bool _) rfl h45 rfl) rfl ?_
              refine TL_q (Qt_move (.bool _) rfl) rfl ?_
              refine TL_pass rfl rfl rfl rfl ?_
              refine TL_pass rfl rfl rfl rfl ?_
              refine TL_pass rfl rfl rfl rfl ?_
              refine TL_pass rfl rfl rfl rfl ?_
              refine TL_pass rfl rfl rfl rfl ?_
              refine TL_q (Qt_pick_f (.bool _) rfl rfl rfl) rfl ?_
              refine TL_q (Qt_assign (.bool _) rfl) rfl ?_
              refine TL_nil ?_
              refine X_then ?_
              refine T_ret ?_
              refine X_ret () [.bool (decide (v.abs = u.abs))] Try.results11 ⟨?_, trivial⟩ rfl (Subs.st inferInstance)
              refine congrArg Value.bool ?_
              rw [Bool.eq_iff_iff]
              simp only [decide_eq_true_eq, MsgD.ext_iff']
              simp only [MsgV.abs]
              first | (simp_all; done) | (simp_all; omega)
          ·
            have p38 := h38
            try simp only [decide_eq_true_eq, decide_eq_false_iff_not, Bool.not_eq_true', Bool.not_eq_false', Option.isNone_iff_eq_none, ne_eq, Decidable.not_not, Int.not_lt, Int.not_le] at p38
            refine TL_pass rfl rfl h38 rfl ?_
            refine TL_pass rfl rfl h38 rfl ?_
            refine TL_pass rfl rfl h38 rfl ?_
            refine TL_pass rfl rfl h38 rfl ?_
            refine TL_pass rfl rfl h38 rfl ?_
            refine TL_q (Qt_pick_f (.bool _) rfl h38 rfl) rfl ?_
            refine TL_q (Qt_move (.bool _) rfl) rfl ?_
            refine TL_pass rfl rfl rfl rfl ?_
            refine TL_pass rfl rfl rfl rfl ?_
            refine TL_pass rfl rfl rfl rfl ?_
            refine TL_pass rfl rfl rfl rfl ?_
            refine TL_pass rfl rfl rfl rfl ?_
            refine TL_q (Qt_pick_f (.bool _) rfl rfl rfl) rfl ?_
            refine TL_q (Qt_move (.bool _) rfl) rfl ?_
            refine TL_pass rfl rfl rfl rfl ?_
            refine TL_pass rfl rfl rfl rfl ?_
            refine TL_pass rfl rfl rfl rfl ?_
            refine TL_pass rfl rfl rfl rfl ?_
            refine TL_pass rfl rfl rfl rfl ?_
            refine TL_q (Qt_pick_f (.bool _) rfl rfl rfl) rfl ?_
            refine TL_q (Qt_assign (.bool _) rfl) rfl ?_
            refine TL_nil ?_
            refine X_then ?_
            refine T_ret ?_
            refine X_ret () [.bool (decide (v.abs = u.abs))] Try.results11 ⟨?_, trivial⟩ rfl (Subs.st inferInstance)
            refine congrArg Value.bool ?_
            rw [Bool.eq_iff_iff]
            simp only [decide_eq_true_eq, MsgD.ext_iff']
            simp only [MsgV.abs]
            first | (simp_all; done) | (simp_all; omega)
        ·
          have p31 := h31
          try simp only [decide_eq_true_eq, decide_eq_false_iff_not, Bool.not_eq_true', Bool.not_eq_false', Option.isNone_iff_eq_none, ne_eq, Decidable.not_not, Int.not_lt, Int.not_le] at p31
          refine TL_pass rfl rfl h31 rfl ?_
          refine TL_pass rfl rfl h31 rfl ?_
          refine TL_pass rfl rfl h31 rfl ?_
          refine TL_pass rfl rfl h31 rfl ?_
          refine TL_pass rfl rfl h31 rfl ?_
          refine TL_q (Qt_pick_f (.bool _) rfl h31 rfl) rfl ?_
          refine TL_q (Qt_move (.bool _) rfl) rfl ?_
          refine TL_pass rfl rfl rfl rfl ?_
          refine TL_pass rfl rfl rfl rfl ?_
          refine TL_pass rfl rfl rfl rfl ?_
          refine TL_pass rfl rfl rfl rfl ?_
          refine TL_pass rfl rfl rfl rfl ?_
          refine TL_q (Qt_pick_f (.bool _) rfl rfl rfl) rfl ?_
          refine TL_q (Qt_move (.bool _) rfl) rfl ?_
          refine TL_pass rfl rfl rfl rfl ?_
          refine TL_pass rfl rfl rfl rfl ?_
          refine TL_pass rfl rfl rfl rfl ?_
          refine TL_pass rfl rfl rfl rfl ?_
          refine TL_pass rfl rfl rfl rfl ?_
          refine TL_q (Qt_pick_f (.bool _) rfl rfl rfl) rfl ?_
          refine TL_q (Qt_move (.bool _) rfl) rfl ?_
          refine TL_pass rfl rfl rfl rfl ?_
          refine TL_pass rfl rfl rfl rfl ?_
          refine TL_pass rfl rfl rfl rfl ?_
          refine TL_pass rfl rfl rfl rfl ?_
          refine TL_pass rfl rfl rfl rfl ?_
          refine TL_q (Qt_pick_f (.bool _) rfl rfl rfl) rfl ?_
          refine TL_q (Qt_assign (.bool _) rfl) rfl ?_
          refine TL_nil ?_
          refine X_then ?_
          refine T_ret ?_
          refine X_ret () [.bool (decide (v.abs = u.abs))] Try.results11 ⟨?_, trivial⟩ rfl (Subs.st inferInstance)
          refine congrArg Value.bool ?_
          rw [Bool.eq_iff_iff]
          simp only [decide_eq_true_eq, MsgD.ext_iff']
          simp only [MsgV.abs]
          first | (simp_all; done) | (simp_all; omega)
      ·
        have p24 := h24
        try simp only [decide_eq_true_eq, decide_eq_false_iff_not, Bool.not_eq_true', Bool.not_eq_false', Option.isNone_iff_eq_none, ne_eq, Decidable.not_not, Int.not_lt, Int.not_le] at p24
        refine TL_pass rfl rfl h24 rfl ?_
        refine TL_pass rfl rfl h24 rfl ?_
        refine TL_pass rfl rfl h24 rfl ?_
        refine TL_pass rfl rfl h24 rfl ?_
        refine TL_pass rfl rfl h24 rfl ?_
        refine TL_q (Qt_pick_f (.bool _) rfl h24 rfl) rfl ?_
        refine TL_q (Qt_move (.bool _) rfl) rfl ?_
        refine TL_pass rfl rfl rfl rfl ?_
        refine TL_pass rfl rfl rfl rfl ?_
        refine TL_pass rfl rfl rfl rfl ?_
        refine TL_pass rfl rfl rfl rfl ?_
        refine TL_pass rfl rfl rfl rfl ?_
        refine TL_q (Qt_pick_f (.bool _) rfl rfl rfl) rfl ?_
        refine TL_q (Qt_move (.bool _) rfl) rfl ?_
        refine TL_pass rfl rfl rfl rfl ?_
        refine TL_pass rfl rfl rfl rfl ?_
        refine TL_pass rfl rfl rfl rfl ?_
        refine TL_pass rfl rfl rfl rfl ?_
        refine TL_pass rfl rfl rfl rfl ?_
        refine TL_q (Qt_pick_f (.bool _) rfl rfl rfl) rfl ?_
        refine TL_q (Qt_move (.bool _) rfl) rfl ?_
        refine TL_pass rfl rfl rfl rfl ?_
        refine TL_pass rfl rfl rfl rfl ?_
        refine TL_pass rfl rfl rfl rfl ?_
        refine TL_pass rfl rfl rfl rfl ?_
        refine TL_pass rfl rfl rfl rfl ?_
        refine TL_q (Qt_pick_f (.bool _) rfl rfl rfl) rfl ?_
        refine TL_q (Qt_move (.bool _) rfl) rfl ?_
        refine TL_pass rfl rfl rfl rfl ?_
        refine TL_pass rfl rfl rfl rfl ?_
        refine TL_pass rfl rfl rfl rfl ?_
        refine TL_pass rfl rfl rfl rfl ?_
        refine TL_pass rfl rfl rfl rfl ?_
        refine TL_q (Qt_pick_f (.bool _) rfl rfl rfl) rfl ?_
        refine TL_q (Qt_assign (.bool _) rfl) rfl ?_
        refine TL_nil ?_
        refine X_then ?_
        refine T_ret ?_
        refine X_ret () [.bool (decide (v.abs = u.abs))] Try.results11 ⟨?_, trivial⟩ rfl (Subs.st inferInstance)
        refine congrArg Value.bool ?_
        rw [Bool.eq_iff_iff]
        simp only [decide_eq_true_eq, MsgD.ext_iff']
        simp only [MsgV.abs]
        first | (simp_all; done) | (simp_all; omega)
    ·
      have p17 := h17
      try simp only [decide_eq_true_eq, decide_eq_false_iff_not, Bool.not_eq_true', Bool.not_eq_false', Option.isNone_iff_eq_none, ne_eq, Decidable.not_not, Int.not_lt, Int.not_le] at p17
      refine TL_pass rfl rfl h17 rfl ?_
      refine TL_pass rfl rfl h17 rfl ?_
      refine TL_pass rfl rfl h17 rfl ?_
      refine TL_pass rfl rfl h17 rfl ?_
      refine TL_pass rfl rfl h17 rfl ?_
      refine TL_q (Qt_pick_f (.bool _) rfl h17 rfl) rfl ?_
      refine TL_q (Qt_move (.bool _) rfl) rfl ?_
      refine TL_pass rfl rfl rfl rfl ?_
      refine TL_pass rfl rfl rfl rfl ?_
      refine TL_pass rfl rfl rfl rfl ?_
      refine TL_pass rfl rfl rfl rfl ?_
      refine TL_pass rfl rfl rfl rfl ?_
      refine TL_q (Qt_pick_f (.bool _) rfl rfl rfl) rfl ?_
      refine TL_q (Qt_move (.bool _) rfl) rfl ?_
      refine TL_pass rfl rfl rfl rfl ?_
      refine TL_pass rfl rfl rfl rfl ?_
      refine TL_pass rfl rfl rfl rfl ?_
      refine TL_pass rfl rfl rfl rfl ?_
      refine TL_pass rfl rfl rfl rfl ?_
      refine TL_q (Qt_pick_f (.bool _) rfl rfl rfl) rfl ?_
      refine TL_q (Qt_move (.bool _) rfl) rfl ?_
      refine TL_pass rfl rfl rfl rfl ?_
      refine TL_pass rfl rfl rfl rfl ?_
      refine TL_pass rfl rfl rfl rfl ?_
      refine TL_pass rfl rfl rfl rfl ?_
      refine TL_pass rfl rfl rfl rfl ?_
      refine TL_q (Qt_pick_f (.bool _) rfl rfl rfl) rfl ?_
      refine TL_q (Qt_move (.bool _) rfl) rfl ?_
      refine TL_pass rfl rfl rfl rfl ?_
      refine TL_pass rfl rfl rfl rfl ?_
      refine TL_pass rfl rfl rfl rfl ?_
      refine TL_pass rfl rfl rfl rfl ?_
      refine TL_pass rfl rfl rfl rfl ?_
      refine TL_q (Qt_pick_f (.bool _) rfl rfl rfl) rfl ?_
      refine TL_q (Qt_move (.bool _) rfl) rfl ?_
      refine TL_pass rfl rfl rfl rfl ?_
      refine TL_pass rfl rfl rfl rfl ?_
      refine TL_pass rfl rfl rfl rfl ?_
      refine TL_pass rfl rfl rfl rfl ?_
      refine TL_pass rfl rfl rfl rfl ?_
      refine TL_q (Qt_pick_f (.bool _) rfl rfl rfl) rfl ?_
      refine TL_q (Qt_assign (.bool _) rfl) rfl ?_
      refine TL_nil ?_
      refine X_then ?_
      refine T_ret ?_
      refine X_ret () [.bool (decide (v.abs = u.abs))] Try.results11 ⟨?_, trivial⟩ rfl (Subs.st inferInstance)
      refine congrArg Value.bool ?_
      rw [Bool.eq_iff_iff]
      simp only [decide_eq_true_eq, MsgD.ext_iff']
      simp only [MsgV.abs]
      first | (simp_all; done) | (simp_all; omega)
  ·
    have p10 := h10
    try simp only [decide_eq_true_eq, decide_eq_false_iff_not, Bool.not_eq_true', Bool.not_eq_false', Option.isNone_iff_eq_none, ne_eq, Decidable.not_not, Int.not_lt, Int.not_le] at p10
    refine TL_pass rfl rfl h10 rfl ?_
    refine TL_pass rfl rfl h10 rfl ?_
    refine TL_pass rfl rfl h10 rfl ?_
    refine TL_pass rfl rfl h10 rfl ?_
    refine TL_pass rfl rfl h10 rfl ?_
    refine TL_q (Qt_pick_f (.bool _) rfl h10 rfl) rfl ?_
    refine TL_q (Qt_move (.bool _) rfl) rfl ?_
    refine TL_pass rfl rfl rfl rfl ?_
    refine TL_pass rfl rfl rfl rfl ?_
    refine TL_pass rfl rfl rfl rfl ?_
    refine TL_pass rfl rfl rfl rfl ?_
    refine TL_pass rfl rfl rfl rfl ?_
    refine TL_q (Qt_pick_f (.bool _) rfl rfl rfl) rfl ?_
    refine TL_q (Qt_move (.bool _) rfl) rfl ?_
    refine TL_pass rfl rfl rfl rfl ?_
    refine TL_pass rfl rfl rfl rfl ?_
    refine TL_pass rfl rfl rfl rfl ?_
    refine TL_pass rfl rfl rfl rfl ?_
    refine TL_pass rfl rfl rfl rfl ?_
    refine TL_q (Qt_pick_f (.bool _) rfl rfl rfl) rfl ?_
    refine TL_q (Qt_move (.bool _) rfl) rfl ?_
    refine TL_pass rfl rfl rfl rfl ?_
    refine TL_pass rfl rfl rfl rfl ?_
    refine TL_pass rfl rfl rfl rfl ?_
    refine TL_pass rfl rfl rfl rfl ?_
    refine TL_pass rfl rfl rfl rfl ?_
    refine TL_q (Qt_pick_f (.bool _) rfl rfl rfl) rfl ?_
    refine TL_q (Qt_move (.bool _) rfl) rfl ?_
    refine TL_pass rfl rfl rfl rfl ?_
    refine TL_pass rfl rfl rfl rfl ?_
    refine TL_pass rfl rfl rfl rfl ?_
    refine TL_pass rfl rfl rfl rfl ?_
    refine TL_pass rfl rfl rfl rfl ?_
    refine TL_q (Qt_pick_f (.bool _) rfl rfl rfl) rfl ?_
    refine TL_q (Qt_move (.bool _) rfl) rfl ?_
    refine TL_pass rfl rfl rfl rfl ?_
    refine TL_pass rfl rfl rfl rfl ?_
    refine TL_pass rfl rfl rfl rfl ?_
    refine TL_pass rfl rfl rfl rfl ?_
    refine TL_pass rfl rfl rfl rfl ?_
    refine TL_q (Qt_pick_f (.bool _) rfl rfl rfl) rfl ?_
    refine TL_q (Qt_move (.bool _) rfl) rfl ?_
    refine TL_pass rfl rfl rfl rfl ?_
    refine TL_pass rfl rfl rfl rfl ?_
    refine TL_pass rfl rfl rfl rfl ?_
    refine TL_pass rfl rfl rfl rfl ?_
    refine TL_pass rfl rfl rfl rfl ?_
    refine TL_q (Qt_pick_f (.bool _) rfl rfl rfl) rfl ?_
    refine TL_q (Qt_assign (.bool _) rfl) rfl ?_
    refine TL_nil ?_
    refine X_then ?_
    refine T_ret ?_
    refine X_ret () [.bool (decide (v.abs = u.abs))] Try.results11 ⟨?_, trivial⟩ rfl (Subs.st inferInstance)
    refine congrArg Value.bool ?_
    rw [Bool.eq_iff_iff]
    simp only [decide_eq_true_eq, MsgD.ext_iff']
    simp only [MsgV.abs]
    first | (simp_all; done) | (simp_all; omega)
set_option maxHeartbeats 1000000 in
theorem copiedM_c {w0 : World} {H : List SA} {m : MsgV} [rb : RdB w0 H (.slice m.body.a m.body.l.length m.body.c) m.body.l] [rc : RdC w0 H (.slice m.parts.a m.parts.ls.length m.parts.c) 1 (m.parts.ls.map BS.val)] [re : RdE w0 H m.parts.ls] (hs : SmallM m.abs) :
    CT Try.prog w0 (H) 46 [.agg m.cells] (α := MsgV × List Nat) (fun y => .agg y.1.cells) (fun y => pu (y.1.abs = m.abs) :: dat y.2 (Deep.leads y.1) :: H) := by
  have hp20 : m.parts.ls.length ≤ 20 := by have := hs.parts; rwa [parts_len] at this
  refine CT_intro Try.func46 rfl Try.ntmps46 rfl ?_
  refine T_seq ?_
  refine T_region ?_
  refine TL_e rfl (Ef_boxN rfl (fun b1 => ?_))
  refine TL_e rfl (Ef_allocN (fun b2 => ?_))
  refine TL_nil ?_
  refine X_then ?_
  refine T_seq ?_
  refine T_region ?_
  refine TL_q (Qt_assign (.slice _ _ _) rfl) rfl ?_
  refine TL_nil ?_
  refine X_then ?_
  refine T_seq ?_
  refine T_region ?_
  refine TL_q (Qt_move (.slice _ _ _) rfl) rfl ?_
  refine TL_q (Qt_fieldAddr 37 rfl rfl) rfl ?_
  refine TL_q (Qt_load1 rfl) rfl ?_
  refine TL_e rfl (Ef_appendB (sv := .slice _ _ _) (xv := .slice _ _ _) rfl rfl (by have h1 : m.body.l.length ≤ 3000 := hs.body; simp; omega) rfl (fun a10 c10 => ?_))
  rw [List.nil_append]
  refine TL_q (Qt_assign (.slice _ _ _) rfl) rfl ?_
  refine TL_nil ?_
  refine X_then ?_
  refine T_seq ?_
  refine T_region ?_
  refine TL_q (Qt_assign (.slice _ _ _) rfl) rfl ?_
  refine TL_nil ?_
  refine X_then ?_
  refine T_seq ?_
  refine T_seq ?_
  refine T_region ?_
  refine TL_q (Qt_assign (.int .i64 _) rfl) rfl ?_
  refine TL_nil ?_
  refine X_then ?_
  refine T_block ?_
  refine T_loop [4, 5, 6, 11, 12, 13, 14, 15, 16, 17, 18, 19, 20, 21, 22, 23, 24, 25, 26, 27, 28] [5, 4] (fun us H' => ∃ (k : Nat) (a : Option Addr) (c : Nat) (ls : List BS) (fp : List Nat), us = [.int .i64 (k : Int), .slice a ls.length c] ∧ row (.slice a (ls).length c) 37 1 ((ls).map BS.val) :: eachA fp ls :: row (.slice a10 m.body.l.length c10) 5 1 (bytesV m.body.l) :: blk b1 (.cells m.cells 45 (0, 0)) :: blk b2 (.cells MsgV.zero.cells 45 (0, 0)) :: H = H' ∧ k ≤ m.parts.ls.length ∧ (ls.map BS.l = (m.parts.ls.map BS.l).take k) ∧ (ls.length = k)) (fun us => match us with | .int _ i :: _ => m.parts.ls.length - i.toNat | _ => 0) ⟨0, none, 0, [], [], rfl, rfl, by omega, rfl, rfl⟩ (fun w hw => by
        have h0 : St w0 (row (.slice a10 m.body.l.length c10) 5 1 (bytesV m.body.l) :: blk b1 (.cells m.cells 45 (0, 0)) :: blk b2 (.cells MsgV.zero.cells 45 (0, 0)) :: H) w := Subs.st inferInstance w hw
        exact (h0.eachNil).addNil 37 1) ?_
  rintro τ0 _ _  ⟨k, a, c, ls, fp, rfl, rfl, hk0, hls, hll⟩ _
  refine T_seq ?_
  refine T_seq ?_
  refine T_region ?_
  refine TL_q (Qt_move (.int .i64 _) rfl) rfl ?_
  refine TL_q (Qt_fieldAddr 38 rfl rfl) rfl ?_
  refine TL_q (Qt_load1 rfl) rfl ?_
  refine TL_q (Qt_len_slice rfl Try.underlying38) rfl ?_
  refine TL_q (Qt_lss rfl rfl) rfl ?_
  refine TL_nil ?_
  refine X_then ?_
  refine T_cond rfl (fun h15 => ?_) (fun h15 => ?_)
  ·
    have p15 := h15
    try simp only [decide_eq_true_eq, decide_eq_false_iff_not, Bool.not_eq_true', Bool.not_eq_false', Option.isNone_iff_eq_none, ne_eq, Decidable.not_not, Int.not_lt, Int.not_le] at p15
    have hk : k < m.parts.ls.length := by omega
    refine T_skip ?_
    refine X_then ?_
    refine T_seq ?_
    refine T_block ?_
    refine T_seq ?_
    refine T_region ?_
    refine TL_q (Qt_assign (.slice _ _ _) rfl) rfl ?_
    refine TL_nil ?_
    refine X_then ?_
    refine T_seq ?_
    refine T_region ?_
    refine TL_q (Qt_move (.slice _ _ _) rfl) rfl ?_
    refine TL_q (Qt_fieldAddr 38 rfl rfl) rfl ?_
    refine TL_q (Qt_load1 rfl) rfl ?_
    refine TL_q (Qt_move (.int .i64 _) rfl) rfl ?_
    refine TL_q (Qt_indexR rfl rfl (by omega) (by simp; omega)) rfl ?_
    refine TL_q (Qt_loadR (.slice _ _ _) rfl (vals_get _ _ hk)) rfl ?_
    refine TL_e rfl (Ef_appendB (sv := .slice _ _ _) (xv := .slice _ _ _) rfl rfl (by have := hs.each' hk; simp; omega) rfl (fun a24 c24 => ?_))
    rw [List.nil_append]
    refine TL_q (Qt_assign (.slice _ _ _) rfl) rfl ?_
    refine TL_nil ?_
    refine X_then ?_
    refine T_region ?_
    refine TL_q (Qt_move (.slice _ _ _) rfl) rfl ?_
    refine TL_q (Qt_move (.slice _ _ _) rfl) rfl ?_
    refine TL_e rfl (Ef_slice1 (v := .slice _ _ _) rfl (fun a27 c27 => ?_))
    refine TL_e rfl (Ef_appendP (sv := .slice _ _ _) (xv := .slice _ _ _) ⟨a24, c24, m.parts.ls[k].l⟩ rfl rfl (by omega) rfl (fun a28 c28 => ?_))
    refine TL_q (Qt_assign (.slice _ _ _) rfl) rfl ?_
    refine TL_nil ?_
    refine X_block ?_
    refine X_then ?_
    refine T_region ?_
    refine TL_q (Qt_move (.int .i64 _) rfl) rfl ?_
    first
      | refine TL_q (Qt_add rfl rfl (by omega) (by omega)) rfl ?_
      | refine TL_q (Qt_addw rfl rfl) rfl ?_
    refine TL_q (Qt_assign (.int .i64 _) rfl) rfl ?_
    refine TL_nil ?_
    apply X_loop
    case ha => exact (by repeat (first | with_reducible exact agree_refl | refine agree_upd rfl ?_ | refine agree_mix rfl ?_ | refine agree_setAll rfl ?_))
    case hI => exact ⟨k + 1, a28, c28, ls ++ [⟨a24, c24, m.parts.ls[k].l⟩], rowFp (.slice a24 m.parts.ls[k].l.length c24) ++ fp, rfl, rfl, by omega, by rw [List.map_append, hls, take_get _ _ (by simpa using hk)]; simp, by simp [hll]⟩
    case hm => exact by show m.parts.ls.length - (k + 1 : Int).toNat < m.parts.ls.length - (k : Int).toNat; omega
    case hH => exact fun w hw => eachUnder (Subs.st inferInstance w hw : St w0 (row (.slice a28 (ls ++ [(⟨a24, c24, m.parts.ls[k].l⟩ : BS)]).length c28) 37 1 ((ls ++ [(⟨a24, c24, m.parts.ls[k].l⟩ : BS)]).map BS.val) :: row (BS.val ⟨a24, c24, m.parts.ls[k].l⟩) 5 1 (bytesV (BS.l ⟨a24, c24, m.parts.ls[k].l⟩)) :: eachA fp ls :: row (.slice a10 m.body.l.length c10) 5 1 (bytesV m.body.l) :: blk b1 (.cells m.cells 45 (0, 0)) :: blk b2 (.cells MsgV.zero.cells 45 (0, 0)) :: H) w)
  ·
    have p15 := h15
    try simp only [decide_eq_true_eq, decide_eq_false_iff_not, Bool.not_eq_true', Bool.not_eq_false', Option.isNone_iff_eq_none, ne_eq, Decidable.not_not, Int.not_lt, Int.not_le] at p15
    have hls : ls.map BS.l = m.parts.ls.map BS.l := by rw [hls]; exact List.take_of_length_le (by simp; omega)
    refine T_exit ?_
    refine X_then_exit ?_
    refine X_loop_exit ?_
    refine X_block_exit ?_
    refine X_then ?_
    refine T_seq ?_
    refine T_region ?_
    refine TL_q (Qt_move (.slice _ _ _) rfl) rfl ?_
    refine TL_q (Qt_fieldAddr 37 rfl rfl) rfl ?_
    refine TL_n (Ef_store1 (.slice _ _ _) rfl rfl (?_))
    refine TL_nil ?_
    refine X_then ?_
    refine T_seq ?_
    refine T_region ?_
    refine TL_q (Qt_move (.slice _ _ _) rfl) rfl ?_
    refine TL_q (Qt_fieldAddr 38 rfl rfl) rfl ?_
    refine TL_n (Ef_store1 (.slice _ _ _) rfl rfl (?_))
    refine TL_nil ?_
    refine X_then ?_
    refine T_seq ?_
    refine T_region ?_
    refine TL_q (Qt_loadN rfl rfl) rfl ?_
    refine TL_n (Ef_storeN rfl rfl (?_))
    refine TL_nil ?_
    refine X_then ?_
    refine T_ret ?_
    refine X_conv (fun w hw => St.datMsg (m := ({ m with body := ⟨a10, c10, m.body.l⟩, parts := ⟨a, c, ls⟩ } : MsgV)) (fp := fp) (e := 37) (e2 := 5) (H := blk b2 (.cells (({ m with body := ⟨a10, c10, m.body.l⟩, parts := ⟨a, c, ls⟩ } : MsgV)).cells 45 (0, 0)) :: H) (Subs.st inferInstance w hw)) (fun fp2 => ?_)
    exact X_ret (({ m with body := ⟨a10, c10, m.body.l⟩, parts := ⟨a, c, ls⟩ } : MsgV), fp2) [_] Try.results46 ⟨⟨_, rfl, res_cellN rfl⟩, trivial⟩ rfl (fun w hw => (Subs.st inferInstance w hw : St w0 (dat fp2 (Deep.leads ({ m with body := ⟨a10, c10, m.body.l⟩, parts := ⟨a, c, ls⟩ } : MsgV)) :: H) w).addPure (by simp only [MsgV.abs, hls]))
end Go.Proofs.Ytpdpapcmfnhgpaa
