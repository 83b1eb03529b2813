/- Walks of package reqs: which requests are formed, their texts, the request of bytes. -/
import Derived.Test.YtnijomppbgdmnaaQa
import Derived.Test.YtnijomppbgdmnaaKc
import Derived.Test.YtnijomppbgdmnaaTc
namespace Go.Proofs.Ytnijomppbgdmnaa
section
open Go.RowKit Go.Sx
set_option maxRecDepth 100000
set_option linter.unusedSimpArgs false
set_option linter.unusedVariables false
/-- A request as data. -/
structure ReqD where
  client : Int
  seq : Int
  kind : Int
  key : Int
  a : Int
  b : Int
  sig : List UInt8
@[reducible] def ReqD.zero : ReqD := ⟨0, 0, 0, 0, 0, 0, []⟩
def ReqV.abs (r : ReqV) : ReqD := ⟨r.client, r.seq, r.op.kind, r.op.key, r.op.a, r.op.b, r.sig.l⟩
def rightQ (c kind key a b : Int) : Bool :=
  if c = 0 then decide (kind = 6 ∧ key = 0 ∧ b = 0 ∧ 0 ≤ a ∧ a ≤ 65535)
  else decide ((0 ≤ key ∧ key < 16) ∧ (((kind = 1 ∨ kind = 5) ∧ a = 0 ∧ b = 0) ∨ ((kind = 2 ∨ kind = 3) ∧ b = 0) ∨ kind = 4))
def formedQ (r : ReqD) : Bool := decide ((0 ≤ r.client ∧ r.client < 6) ∧ (1 ≤ r.seq ∧ r.seq ≤ 8) ∧ rightQ r.client r.kind r.key r.a r.b = true ∧ r.sig.length ≤ 1000)
def textQ (r : ReqD) : List UInt8 := if formedQ r = false then [] else putFixed (putFixed (putFixed (putFixed [] (IntKind.u64.wrap r.client) 1) (IntKind.u64.wrap r.seq) 1) (IntKind.u64.wrap r.kind) 1) (IntKind.u64.wrap r.key) 1 ++ packed (foldN r.a) ++ packed (foldN r.b)
def Sig64 (x : Int) : Prop := -9223372036854775808 ≤ x ∧ x ≤ 9223372036854775807
/-- What a request's text tells. -/
def textG (l : List UInt8) : Int × ReqD :=
  if l.length < 4 then (1, .zero) else if (rdPacked (l.drop 4)).1 ≠ 0 then ((rdPacked (l.drop 4)).1, .zero)
  else if (rdPacked (l.drop (4 + (rdPacked (l.drop 4)).2.2))).1 ≠ 0 then ((rdPacked (l.drop (4 + (rdPacked (l.drop 4)).2.2))).1, .zero)
  else (if 4 + (rdPacked (l.drop 4)).2.2 + (rdPacked (l.drop (4 + (rdPacked (l.drop 4)).2.2))).2.2 < l.length then 2 else 0,
    ⟨(l.getD 0 0).toNat, (l.getD 1 0).toNat, (l.getD 2 0).toNat, (l.getD 3 0).toNat, unfoldN (rdPacked (l.drop 4)).2.1, unfoldN (rdPacked (l.drop (4 + (rdPacked (l.drop 4)).2.2))).2.1, []⟩)
/-- The request of bytes. -/
def getG (l : List UInt8) : Int × ReqD :=
  if (rdText l 100).1 ≠ 0 then ((rdText l 100).1, .zero) else if (textG (rdText l 100).2.1).1 ≠ 0 then ((textG (rdText l 100).2.1).1, .zero)
  else if (rdText (l.drop (rdText l 100).2.2) 1000).1 ≠ 0 then ((rdText (l.drop (rdText l 100).2.2) 1000).1, .zero)
  else if (rdText l 100).2.2 + (rdText (l.drop (rdText l 100).2.2) 1000).2.2 < l.length then (2, .zero)
  else if formedQ { (textG (rdText l 100).2.1).2 with sig := (rdText (l.drop (rdText l 100).2.2) 1000).2.1 } = false then (15, .zero)
  else (0, { (textG (rdText l 100).2.1).2 with sig := (rdText (l.drop (rdText l 100).2.2) 1000).2.1 })
theorem putFixed1 (l : List UInt8) (x : Int) : (putFixed l x 1).length = l.length + 1 := by
  unfold putFixed
  rw [if_pos (show wideB 1 = true from rfl), List.length_append, fixed_length]; rfl
theorem textQ_len {r : ReqD} (ha : Sig64 r.a) (hb : Sig64 r.b) : (textQ r).length ≤ 100 := by
  unfold textQ
  split
  · simp
  · have h1 := packed_length_le (foldN r.a) (foldN_lt ha)
    have h2 := packed_length_le (foldN r.b) (foldN_lt hb)
    simp only [List.length_append, putFixed1, List.length_nil]
    omega
theorem sig64_zero : Sig64 0 := ⟨by decide, by decide⟩
theorem textG_sig (l : List UInt8) : Sig64 (textG l).2.a ∧ Sig64 (textG l).2.b := by
  unfold textG
  repeat' split
  all_goals first | exact ⟨sig64_zero, sig64_zero⟩ | exact ⟨unfoldN_range (rdPacked_bound _).2.2, unfoldN_range (rdPacked_bound _).2.2⟩
theorem getG_sig (l : List UInt8) : Sig64 (getG l).2.a ∧ Sig64 (getG l).2.b := by
  have h := textG_sig (rdText l 100).2.1
  unfold getG
  repeat' split
  all_goals first | exact ⟨sig64_zero, sig64_zero⟩ | exact h
attribute [local irreducible] sha putFixed
set_option maxHeartbeats 1000000 in
theorem right_c {w0 : World} {H : List SA} {c : Int} {o : OpV} :
    CT Try.prog w0 (H) 89 [.int .i64 c, .agg o.cells] (α := Unit) (fun _ => .bool (rightQ c o.kind o.key o.a o.b)) (fun _ => H) := by
  refine CT_intro Try.func89 rfl Try.ntmps89 rfl ?_
  refine T_seq ?_
  refine T_region ?_
  refine TL_e rfl (Ef_boxN rfl (fun b3 => ?_))
  refine TL_q (Qt_assign (.bool _) rfl) rfl ?_
  refine TL_nil ?_
  refine X_then ?_
  refine T_seq ?_
  refine T_seq ?_
  refine T_region ?_
  refine TL_q (Qt_move (.int .i64 _) rfl) rfl ?_
  refine TL_q (Qt_eql rfl rfl) rfl ?_
  refine TL_nil ?_
  refine X_then ?_
  refine T_cond rfl (fun h6 => ?_) (fun h6 => ?_)
  ·
    have p6 := h6
    try simp only [decide_eq_true_eq, decide_eq_false_iff_not, Bool.not_eq_true', Bool.not_eq_false', Option.isNone_iff_eq_none, ne_eq, Decidable.not_not, Int.not_lt, Int.not_le] at p6
    refine T_seq ?_
    refine T_region ?_
    refine TL_q (Qt_fieldAddr 0 rfl rfl) rfl ?_
    refine TL_q (Qt_load1 rfl) rfl ?_
    refine TL_q (Qt_eql rfl rfl) rfl ?_
    refine TL_q (Qt_move (.bool _) rfl) rfl ?_
    refine TL_split 10 rfl (fun h10 => ?_) (fun h10 => ?_)
    ·
      have p10 := h10
      try simp only [decide_eq_true_eq, decide_eq_false_iff_not, Bool.not_eq_true', Bool.not_eq_false', Option.isNone_iff_eq_none, ne_eq, Decidable.not_not, Int.not_lt, Int.not_le] at p10
      refine TL_take rfl rfl h10 ?_
      refine TL_q (Qt_fieldAddr 1 rfl rfl) rfl ?_
      refine TL_take rfl rfl h10 ?_
      refine TL_q (Qt_load1 rfl) rfl ?_
      refine TL_take rfl rfl h10 ?_
      refine TL_q (Qt_eql rfl rfl) rfl ?_
      refine TL_q (Qt_pick_t (.bool _) rfl h10 rfl) rfl ?_
      refine TL_q (Qt_move (.bool _) rfl) rfl ?_
      refine TL_split 15 rfl (fun h15 => ?_) (fun h15 => ?_)
      ·
        have p15 := h15
        try simp only [decide_eq_true_eq, decide_eq_false_iff_not, Bool.not_eq_true', Bool.not_eq_false', Option.isNone_iff_eq_none, ne_eq, Decidable.not_not, Int.not_lt, Int.not_le] at p15
        refine TL_take rfl rfl h15 ?_
        refine TL_q (Qt_fieldAddr 3 rfl rfl) rfl ?_
        refine TL_take rfl rfl h15 ?_
        refine TL_q (Qt_load1 rfl) rfl ?_
        refine TL_take rfl rfl h15 ?_
        refine TL_q (Qt_eql rfl rfl) rfl ?_
        refine TL_q (Qt_pick_t (.bool _) rfl h15 rfl) rfl ?_
        refine TL_q (Qt_move (.bool _) rfl) rfl ?_
        refine TL_split 20 rfl (fun h20 => ?_) (fun h20 => ?_)
        ·
          have p20 := h20
          try simp only [decide_eq_true_eq, decide_eq_false_iff_not, Bool.not_eq_true', Bool.not_eq_false', Option.isNone_iff_eq_none, ne_eq, Decidable.not_not, Int.not_lt, Int.not_le] at p20
          refine TL_take rfl rfl h20 ?_
          refine TL_q (Qt_fieldAddr 2 rfl rfl) rfl ?_
          refine TL_take rfl rfl h20 ?_
          refine TL_q (Qt_load1 rfl) rfl ?_
          refine TL_take rfl rfl h20 ?_
          refine TL_q (Qt_geq rfl rfl) rfl ?_
          refine TL_q (Qt_pick_t (.bool _) rfl h20 rfl) rfl ?_
          refine TL_q (Qt_move (.bool _) rfl) rfl ?_
          refine TL_split 25 rfl (fun h25 => ?_) (fun h25 => ?_)
          ·
            have p25 := h25
            try simp only [decide_eq_true_eq, decide_eq_false_iff_not, Bool.not_eq_true', Bool.not_eq_false', Option.isNone_iff_eq_none, ne_eq, Decidable.not_not, Int.not_lt, Int.not_le] at p25
            refine TL_take rfl rfl h25 ?_
            refine TL_q (Qt_fieldAddr 2 rfl rfl) rfl ?_
            refine TL_take rfl rfl h25 ?_
            refine TL_q (Qt_load1 rfl) rfl ?_
            refine TL_take rfl rfl h25 ?_
            refine TL_q (Qt_leq rfl rfl) rfl ?_
            refine TL_q (Qt_pick_t (.bool _) rfl h25 rfl) rfl ?_
            refine TL_q (Qt_assign (.bool _) rfl) rfl ?_
            refine TL_nil ?_
            refine X_then ?_
            refine T_ret ?_
            refine X_then_ret ?_
            exact X_ret () [_] Try.results89 ⟨rfl, trivial⟩ (congrArg Value.bool (by first | (unfold rightQ; simp_all; done) | (unfold rightQ; simp_all; omega) | (unfold rightQ; rw [if_pos (by omega)]; simp_all) | (unfold rightQ; rw [if_neg (by omega)]; simp_all <;> omega))) (Subs.st inferInstance)
          ·
            have p25 := h25
            try simp only [decide_eq_true_eq, decide_eq_false_iff_not, Bool.not_eq_true', Bool.not_eq_false', Option.isNone_iff_eq_none, ne_eq, Decidable.not_not, Int.not_lt, Int.not_le] at p25
            refine TL_pass rfl rfl h25 rfl ?_
            refine TL_pass rfl rfl h25 rfl ?_
            refine TL_pass rfl rfl h25 rfl ?_
            refine TL_q (Qt_pick_f (.bool _) rfl h25 rfl) rfl ?_
            refine TL_q (Qt_assign (.bool _) rfl) rfl ?_
            refine TL_nil ?_
            refine X_then ?_
            refine T_ret ?_
            refine X_then_ret ?_
            exact X_ret () [_] Try.results89 ⟨rfl, trivial⟩ (congrArg Value.bool (by first | (unfold rightQ; simp_all; done) | (unfold rightQ; simp_all; omega) | (unfold rightQ; rw [if_pos (by omega)]; simp_all) | (unfold rightQ; rw [if_neg (by omega)]; simp_all <;> omega))) (Subs.st inferInstance)
        ·
          have p20 := h20
          try simp only [decide_eq_true_eq, decide_eq_false_iff_not, Bool.not_eq_true', Bool.not_eq_false', Option.isNone_iff_eq_none, ne_eq, Decidable.not_not, Int.not_lt, Int.not_le] at p20
          refine TL_pass rfl rfl h20 rfl ?_
          refine TL_pass rfl rfl h20 rfl ?_
          refine TL_pass rfl rfl h20 rfl ?_
          refine TL_q (Qt_pick_f (.bool _) rfl h20 rfl) rfl ?_
          refine TL_q (Qt_move (.bool _) rfl) rfl ?_
          refine TL_pass rfl rfl rfl rfl ?_
          refine TL_pass rfl rfl rfl rfl ?_
          refine TL_pass rfl rfl rfl rfl ?_
          refine TL_q (Qt_pick_f (.bool _) rfl rfl rfl) rfl ?_
          refine TL_q (Qt_assign (.bool _) rfl) rfl ?_
          refine TL_nil ?_
          refine X_then ?_
          refine T_ret ?_
          refine X_then_ret ?_
          exact X_ret () [_] Try.results89 ⟨rfl, trivial⟩ (congrArg Value.bool (by first | (unfold rightQ; simp_all; done) | (unfold rightQ; simp_all; omega) | (unfold rightQ; rw [if_pos (by omega)]; simp_all) | (unfold rightQ; rw [if_neg (by omega)]; simp_all <;> omega))) (Subs.st inferInstance)
      ·
        have p15 := h15
        try simp only [decide_eq_true_eq, decide_eq_false_iff_not, Bool.not_eq_true', Bool.not_eq_false', Option.isNone_iff_eq_none, ne_eq, Decidable.not_not, Int.not_lt, Int.not_le] at p15
        refine TL_pass rfl rfl h15 rfl ?_
        refine TL_pass rfl rfl h15 rfl ?_
        refine TL_pass rfl rfl h15 rfl ?_
        refine TL_q (Qt_pick_f (.bool _) rfl h15 rfl) rfl ?_
        refine TL_q (Qt_move (.bool _) rfl) rfl ?_
        refine TL_pass rfl rfl rfl rfl ?_
        refine TL_pass rfl rfl rfl rfl ?_
        refine TL_pass rfl rfl rfl rfl ?_
        refine TL_q (Qt_pick_f (.bool _) rfl rfl rfl) rfl ?_
        refine TL_q (Qt_move (.bool _) rfl) rfl ?_
        refine TL_pass rfl rfl rfl rfl ?_
        refine TL_pass rfl rfl rfl rfl ?_
        refine TL_pass rfl rfl rfl rfl ?_
        refine TL_q (Qt_pick_f (.bool _) rfl rfl rfl) rfl ?_
        refine TL_q (Qt_assign (.bool _) rfl) rfl ?_
        refine TL_nil ?_
        refine X_then ?_
        refine T_ret ?_
        refine X_then_ret ?_
        exact X_ret () [_] Try.results89 ⟨rfl, trivial⟩ (congrArg Value.bool (by first | (unfold rightQ; simp_all; done) | (unfold rightQ; simp_all; omega) | (unfold rightQ; rw [if_pos (by omega)]; simp_all) | (unfold rightQ; rw [if_neg (by omega)]; simp_all <;> omega))) (Subs.st inferInstance)
    ·
      have p10 := h10
      try simp only [decide_eq_true_eq, decide_eq_false_iff_not, Bool.not_eq_true', Bool.not_eq_false', Option.isNone_iff_eq_none, ne_eq, Decidable.not_not, Int.not_lt, Int.not_le] at p10
      refine TL_pass rfl rfl h10 rfl ?_
      refine TL_pass rfl rfl h10 rfl ?_
      refine TL_pass rfl rfl h10 rfl ?_
      refine TL_q (Qt_pick_f (.bool _) rfl h10 rfl) rfl ?_
      refine TL_q (Qt_move (.bool _) rfl) rfl ?_
      refine TL_pass rfl rfl rfl rfl ?_
      refine TL_pass rfl rfl rfl rfl ?_
      refine TL_pass rfl rfl rfl rfl ?_
      refine TL_q (Qt_pick_f (.bool _) rfl rfl rfl) rfl ?_
      refine TL_q (Qt_move (.bool _) rfl) rfl ?_
      refine TL_pass rfl rfl rfl rfl ?_
      refine TL_pass rfl rfl rfl rfl ?_
      refine TL_pass rfl rfl rfl rfl ?_
      refine TL_q (Qt_pick_f (.bool _) rfl rfl rfl) rfl ?_
      refine TL_q (Qt_move (.bool _) rfl) rfl ?_
      refine TL_pass rfl rfl rfl rfl ?_
      refine TL_pass rfl rfl rfl rfl ?_
      refine TL_pass rfl rfl rfl rfl ?_
      refine TL_q (Qt_pick_f (.bool _) rfl rfl rfl) rfl ?_
      refine TL_q (Qt_assign (.bool _) rfl) rfl ?_
      refine TL_nil ?_
      refine X_then ?_
      refine T_ret ?_
      refine X_then_ret ?_
      exact X_ret () [_] Try.results89 ⟨rfl, trivial⟩ (congrArg Value.bool (by first | (unfold rightQ; simp_all; done) | (unfold rightQ; simp_all; omega) | (unfold rightQ; rw [if_pos (by omega)]; simp_all) | (unfold rightQ; rw [if_neg (by omega)]; simp_all <;> omega))) (Subs.st inferInstance)
  ·
    have p6 := h6
    try simp only [decide_eq_true_eq, decide_eq_false_iff_not, Bool.not_eq_true', Bool.not_eq_false', Option.isNone_iff_eq_none, ne_eq, Decidable.not_not, Int.not_lt, Int.not_le] at p6
    refine T_skip ?_
    refine X_then ?_
    refine T_seq ?_
    refine T_seq ?_
    refine T_region ?_
    refine TL_q (Qt_fieldAddr 1 rfl rfl) rfl ?_
    refine TL_q (Qt_load1 rfl) rfl ?_
    refine TL_q (Qt_lss rfl rfl) rfl ?_
    refine TL_q (Qt_move (.bool _) rfl) rfl ?_
    refine TL_split 33 rfl (fun h33 => ?_) (fun h33 => ?_)
    ·
      have p33 := h33
      try simp only [decide_eq_true_eq, decide_eq_false_iff_not, Bool.not_eq_true', Bool.not_eq_false', Option.isNone_iff_eq_none, ne_eq, Decidable.not_not, Int.not_lt, Int.not_le] at p33
      refine TL_pass rfl rfl h33 rfl ?_
      refine TL_pass rfl rfl h33 rfl ?_
      refine TL_pass rfl rfl h33 rfl ?_
      refine TL_q (Qt_pick_t (.bool _) rfl h33 rfl) rfl ?_
      refine TL_nil ?_
      refine X_then ?_
      refine T_cond_true rfl rfl ?_
      refine T_seq ?_
      refine T_region ?_
      refine TL_q (Qt_assign (.bool _) rfl) rfl ?_
      refine TL_nil ?_
      refine X_then ?_
      refine T_ret ?_
      refine X_then_ret ?_
      exact X_ret () [_] Try.results89 ⟨rfl, trivial⟩ (congrArg Value.bool (by first | (unfold rightQ; simp_all; done) | (unfold rightQ; simp_all; omega) | (unfold rightQ; rw [if_pos (by omega)]; simp_all) | (unfold rightQ; rw [if_neg (by omega)]; simp_all <;> omega))) (Subs.st inferInstance)
    ·
      have p33 := h33
      try simp only [decide_eq_true_eq, decide_eq_false_iff_not, Bool.not_eq_true', Bool.not_eq_false', Option.isNone_iff_eq_none, ne_eq, Decidable.not_not, Int.not_lt, Int.not_le] at p33
      refine TL_take rfl rfl h33 ?_
      refine TL_q (Qt_fieldAddr 1 rfl rfl) rfl ?_
      refine TL_take rfl rfl h33 ?_
      refine TL_q (Qt_load1 rfl) rfl ?_
      refine TL_take rfl rfl h33 ?_
      refine TL_q (Qt_geq rfl rfl) rfl ?_
      refine TL_q (Qt_pick_f (.bool _) rfl h33 rfl) rfl ?_
      refine TL_nil ?_
      refine X_then ?_
      refine T_cond rfl (fun h37 => ?_) (fun h37 => ?_)
      ·
        have p37 := h37
        try simp only [decide_eq_true_eq, decide_eq_false_iff_not, Bool.not_eq_true', Bool.not_eq_false', Option.isNone_iff_eq_none, ne_eq, Decidable.not_not, Int.not_lt, Int.not_le] at p37
        refine T_seq ?_
        refine T_region ?_
        refine TL_q (Qt_assign (.bool _) rfl) rfl ?_
        refine TL_nil ?_
        refine X_then ?_
        refine T_ret ?_
        refine X_then_ret ?_
        exact X_ret () [_] Try.results89 ⟨rfl, trivial⟩ (congrArg Value.bool (by first | (unfold rightQ; simp_all; done) | (unfold rightQ; simp_all; omega) | (unfold rightQ; rw [if_pos (by omega)]; simp_all) | (unfold rightQ; rw [if_neg (by omega)]; simp_all <;> omega))) (Subs.st inferInstance)
      ·
        have p37 := h37
        try simp only [decide_eq_true_eq, decide_eq_false_iff_not, Bool.not_eq_true', Bool.not_eq_false', Option.isNone_iff_eq_none, ne_eq, Decidable.not_not, Int.not_lt, Int.not_le] at p37
        refine T_skip ?_
        refine X_then ?_
        refine T_seq ?_
        refine T_seq ?_
        refine T_region ?_
        refine TL_q (Qt_fieldAddr 0 rfl rfl) rfl ?_
        refine TL_q (Qt_load1 rfl) rfl ?_
        refine TL_nil ?_
        refine X_then ?_
        refine T_block ?_
        refine T_seq ?_
        refine T_block ?_
        refine T_seq ?_
        refine T_block ?_
        refine T_seq ?_
        refine T_block ?_
        refine T_seq ?_
        refine T_seq ?_
        refine T_seq ?_
        refine T_seq ?_
        refine T_region ?_
        refine TL_q (Qt_eql rfl rfl) rfl ?_
        refine TL_q (Qt_assign (.bool _) rfl) rfl ?_
        refine TL_nil ?_
        refine X_then ?_
        refine T_cond rfl (fun h40 => ?_) (fun h40 => ?_)
        ·
          have p40 := h40
          try simp only [decide_eq_true_eq, decide_eq_false_iff_not, Bool.not_eq_true', Bool.not_eq_false', Option.isNone_iff_eq_none, ne_eq, Decidable.not_not, Int.not_lt, Int.not_le] at p40
          refine T_skip ?_
          refine X_then ?_
          refine T_cond_true rfl h40 ?_
          refine T_exit ?_
          refine X_then_exit ?_
          refine X_then_exit ?_
          refine X_block_exit ?_
          refine X_then ?_
          refine T_seq ?_
          refine T_region ?_
          refine TL_q (Qt_fieldAddr 2 rfl rfl) rfl ?_
          refine TL_q (Qt_load1 rfl) rfl ?_
          refine TL_q (Qt_neq rfl rfl) rfl ?_
          refine TL_nil ?_
          refine X_then ?_
          refine T_cond rfl (fun h50 => ?_) (fun h50 => ?_)
          ·
            have p50 := h50
            try simp only [decide_eq_true_eq, decide_eq_false_iff_not, Bool.not_eq_true', Bool.not_eq_false', Option.isNone_iff_eq_none, ne_eq, Decidable.not_not, Int.not_lt, Int.not_le] at p50
            refine T_seq ?_
            refine T_region ?_
            refine TL_q (Qt_assign (.bool _) rfl) rfl ?_
            refine TL_nil ?_
            refine X_then ?_
            refine T_ret ?_
            refine X_block_ret ?_
            refine X_then_ret ?_
            refine X_block_ret ?_
            refine X_then_ret ?_
            refine X_block_ret ?_
            refine X_then_ret ?_
            exact X_ret () [_] Try.results89 ⟨rfl, trivial⟩ (congrArg Value.bool (by first | (unfold rightQ; simp_all; done) | (unfold rightQ; simp_all; omega) | (unfold rightQ; rw [if_pos (by omega)]; simp_all) | (unfold rightQ; rw [if_neg (by omega)]; simp_all <;> omega))) (Subs.st inferInstance)
          ·
            have p50 := h50
            try simp only [decide_eq_true_eq, decide_eq_false_iff_not, Bool.not_eq_true', Bool.not_eq_false', Option.isNone_iff_eq_none, ne_eq, Decidable.not_not, Int.not_lt, Int.not_le] at p50
            refine T_skip ?_
            refine X_block ?_
            refine X_then ?_
            refine T_seq ?_
            refine T_seq ?_
            refine T_region ?_
            refine TL_q (Qt_fieldAddr 3 rfl rfl) rfl ?_
            refine TL_q (Qt_load1 rfl) rfl ?_
            refine TL_q (Qt_eql rfl rfl) rfl ?_
            refine TL_q (Qt_assign (.bool _) rfl) rfl ?_
            refine TL_nil ?_
            refine X_then ?_
            refine T_ret ?_
            refine X_then_ret ?_
            refine X_block_ret ?_
            refine X_then_ret ?_
            refine X_block_ret ?_
            refine X_then_ret ?_
            exact X_ret () [_] Try.results89 ⟨rfl, trivial⟩ (congrArg Value.bool (by first | (unfold rightQ; simp_all; done) | (unfold rightQ; simp_all; omega) | (unfold rightQ; rw [if_pos (by omega)]; simp_all) | (unfold rightQ; rw [if_neg (by omega)]; simp_all <;> omega))) (Subs.st inferInstance)
        ·
          have p40 := h40
          try simp only [decide_eq_true_eq, decide_eq_false_iff_not, Bool.not_eq_true', Bool.not_eq_false', Option.isNone_iff_eq_none, ne_eq, Decidable.not_not, Int.not_lt, Int.not_le] at p40
          refine T_region ?_
          refine TL_q (Qt_eql rfl rfl) rfl ?_
          refine TL_q (Qt_assign (.bool _) rfl) rfl ?_
          refine TL_nil ?_
          refine X_then ?_
          refine T_cond rfl (fun h40 => ?_) (fun h40 => ?_)
          ·
            have p40 := h40
            try simp only [decide_eq_true_eq, decide_eq_false_iff_not, Bool.not_eq_true', Bool.not_eq_false', Option.isNone_iff_eq_none, ne_eq, Decidable.not_not, Int.not_lt, Int.not_le] at p40
            refine T_exit ?_
            refine X_then_exit ?_
            refine X_then_exit ?_
            refine X_block_exit ?_
            refine X_then ?_
            refine T_seq ?_
            refine T_region ?_
            refine TL_q (Qt_fieldAddr 2 rfl rfl) rfl ?_
            refine TL_q (Qt_load1 rfl) rfl ?_
            refine TL_q (Qt_neq rfl rfl) rfl ?_
            refine TL_nil ?_
            refine X_then ?_
            refine T_cond rfl (fun h50 => ?_) (fun h50 => ?_)
            ·
              have p50 := h50
              try simp only [decide_eq_true_eq, decide_eq_false_iff_not, Bool.not_eq_true', Bool.not_eq_false', Option.isNone_iff_eq_none, ne_eq, Decidable.not_not, Int.not_lt, Int.not_le] at p50
              refine T_seq ?_
              refine T_region ?_
              refine TL_q (Qt_assign (.bool _) rfl) rfl ?_
              refine TL_nil ?_
              refine X_then ?_
              refine T_ret ?_
              refine X_block_ret ?_
              refine X_then_ret ?_
              refine X_block_ret ?_
              refine X_then_ret ?_
              refine X_block_ret ?_
              refine X_then_ret ?_
              exact X_ret () [_] Try.results89 ⟨rfl, trivial⟩ (congrArg Value.bool (by first | (unfold rightQ; simp_all; done) | (unfold rightQ; simp_all; omega) | (unfold rightQ; rw [if_pos (by omega)]; simp_all) | (unfold rightQ; rw [if_neg (by omega)]; simp_all <;> omega))) (Subs.st inferInstance)
            ·
              have p50 := h50
              try simp only [decide_eq_true_eq, decide_eq_false_iff_not, Bool.not_eq_true', Bool.not_eq_false', Option.isNone_iff_eq_none, ne_eq, Decidable.not_not, Int.not_lt, Int.not_le] at p50
              refine T_skip ?_
              refine X_block ?_
              refine X_then ?_
              refine T_seq ?_
              refine T_seq ?_
              refine T_region ?_
              refine TL_q (Qt_fieldAddr 3 rfl rfl) rfl ?_
              refine TL_q (Qt_load1 rfl) rfl ?_
              refine TL_q (Qt_eql rfl rfl) rfl ?_
              refine TL_q (Qt_assign (.bool _) rfl) rfl ?_
              refine TL_nil ?_
              refine X_then ?_
              refine T_ret ?_
              refine X_then_ret ?_
              refine X_block_ret ?_
              refine X_then_ret ?_
              refine X_block_ret ?_
              refine X_then_ret ?_
              exact X_ret () [_] Try.results89 ⟨rfl, trivial⟩ (congrArg Value.bool (by first | (unfold rightQ; simp_all; done) | (unfold rightQ; simp_all; omega) | (unfold rightQ; rw [if_pos (by omega)]; simp_all) | (unfold rightQ; rw [if_neg (by omega)]; simp_all <;> omega))) (Subs.st inferInstance)
          ·
            have p40 := h40
            try simp only [decide_eq_true_eq, decide_eq_false_iff_not, Bool.not_eq_true', Bool.not_eq_false', Option.isNone_iff_eq_none, ne_eq, Decidable.not_not, Int.not_lt, Int.not_le] at p40
            refine T_skip ?_
            refine X_then ?_
            refine T_seq ?_
            refine T_seq ?_
            refine T_seq ?_
            refine T_region ?_
            refine TL_q (Qt_eql rfl rfl) rfl ?_
            refine TL_q (Qt_assign (.bool _) rfl) rfl ?_
            refine TL_nil ?_
            refine X_then ?_
            refine T_cond rfl (fun h43 => ?_) (fun h43 => ?_)
            ·
              have p43 := h43
              try simp only [decide_eq_true_eq, decide_eq_false_iff_not, Bool.not_eq_true', Bool.not_eq_false', Option.isNone_iff_eq_none, ne_eq, Decidable.not_not, Int.not_lt, Int.not_le] at p43
              refine T_skip ?_
              refine X_then ?_
              refine T_cond_true rfl h43 ?_
              refine T_exit ?_
              refine X_then_exit ?_
              refine X_then_exit ?_
              refine X_block_far rfl ?_
              refine X_then_exit ?_
              refine X_block_exit ?_
              refine X_then ?_
              refine T_seq ?_
              refine T_seq ?_
              refine T_region ?_
              refine TL_q (Qt_fieldAddr 3 rfl rfl) rfl ?_
              refine TL_q (Qt_load1 rfl) rfl ?_
              refine TL_q (Qt_eql rfl rfl) rfl ?_
              refine TL_q (Qt_assign (.bool _) rfl) rfl ?_
              refine TL_nil ?_
              refine X_then ?_
              refine T_ret ?_
              refine X_then_ret ?_
              refine X_block_ret ?_
              refine X_then_ret ?_
              refine X_block_ret ?_
              refine X_then_ret ?_
              exact X_ret () [_] Try.results89 ⟨rfl, trivial⟩ (congrArg Value.bool (by first | (unfold rightQ; simp_all; done) | (unfold rightQ; simp_all; omega) | (unfold rightQ; rw [if_pos (by omega)]; simp_all) | (unfold rightQ; rw [if_neg (by omega)]; simp_all <;> omega))) (Subs.st inferInstance)
            ·
              have p43 := h43
              try simp only [decide_eq_true_eq, decide_eq_false_iff_not, Bool.not_eq_true', Bool.not_eq_false', Option.isNone_iff_eq_none, ne_eq, Decidable.not_not, Int.not_lt, Int.not_le] at p43
              refine T_region ?_
              refine TL_q (Qt_eql rfl rfl) rfl ?_
              refine TL_q (Qt_assign (.bool _) rfl) rfl ?_
              refine TL_nil ?_
              refine X_then ?_
              refine T_cond rfl (fun h43 => ?_) (fun h43 => ?_)
              ·
                have p43 := h43
                try simp only [decide_eq_true_eq, decide_eq_false_iff_not, Bool.not_eq_true', Bool.not_eq_false', Option.isNone_iff_eq_none, ne_eq, Decidable.not_not, Int.not_lt, Int.not_le] at p43
                refine T_exit ?_
                refine X_then_exit ?_
                refine X_then_exit ?_
                refine X_block_far rfl ?_
                refine X_then_exit ?_
                refine X_block_exit ?_
                refine X_then ?_
                refine T_seq ?_
                refine T_seq ?_
                refine T_region ?_
                refine TL_q (Qt_fieldAddr 3 rfl rfl) rfl ?_
                refine TL_q (Qt_load1 rfl) rfl ?_
                refine TL_q (Qt_eql rfl rfl) rfl ?_
                refine TL_q (Qt_assign (.bool _) rfl) rfl ?_
                refine TL_nil ?_
                refine X_then ?_
                refine T_ret ?_
                refine X_then_ret ?_
                refine X_block_ret ?_
                refine X_then_ret ?_
                refine X_block_ret ?_
                refine X_then_ret ?_
                exact X_ret () [_] Try.results89 ⟨rfl, trivial⟩ (congrArg Value.bool (by first | (unfold rightQ; simp_all; done) | (unfold rightQ; simp_all; omega) | (unfold rightQ; rw [if_pos (by omega)]; simp_all) | (unfold rightQ; rw [if_neg (by omega)]; simp_all <;> omega))) (Subs.st inferInstance)
              ·
                have p43 := h43
                try simp only [decide_eq_true_eq, decide_eq_false_iff_not, Bool.not_eq_true', Bool.not_eq_false', Option.isNone_iff_eq_none, ne_eq, Decidable.not_not, Int.not_lt, Int.not_le] at p43
                refine T_skip ?_
                refine X_then ?_
                refine T_seq ?_
                refine T_region ?_
                refine TL_q (Qt_eql rfl rfl) rfl ?_
                refine TL_q (Qt_assign (.bool _) rfl) rfl ?_
                refine TL_nil ?_
                refine X_then ?_
                refine T_cond rfl (fun h46 => ?_) (fun h46 => ?_)
                ·
                  have p46 := h46
                  try simp only [decide_eq_true_eq, decide_eq_false_iff_not, Bool.not_eq_true', Bool.not_eq_false', Option.isNone_iff_eq_none, ne_eq, Decidable.not_not, Int.not_lt, Int.not_le] at p46
                  refine T_exit ?_
                  refine X_then_exit ?_
                  refine X_block_far rfl ?_
                  refine X_then_exit ?_
                  refine X_block_far rfl ?_
                  refine X_then_exit ?_
                  refine X_block_exit ?_
                  refine X_then ?_
                  refine T_seq ?_
                  refine T_seq ?_
                  refine T_region ?_
                  refine TL_q (Qt_assign (.bool _) rfl) rfl ?_
                  refine TL_nil ?_
                  refine X_then ?_
                  refine T_ret ?_
                  refine X_then_ret ?_
                  refine X_block_ret ?_
                  refine X_then_ret ?_
                  exact X_ret () [_] Try.results89 ⟨rfl, trivial⟩ (congrArg Value.bool (by first | (unfold rightQ; simp_all; done) | (unfold rightQ; simp_all; omega) | (unfold rightQ; rw [if_pos (by omega)]; simp_all) | (unfold rightQ; rw [if_neg (by omega)]; simp_all <;> omega))) (Subs.st inferInstance)
                ·
                  have p46 := h46
                  try simp only [decide_eq_true_eq, decide_eq_false_iff_not, Bool.not_eq_true', Bool.not_eq_false', Option.isNone_iff_eq_none, ne_eq, Decidable.not_not, Int.not_lt, Int.not_le] at p46
                  refine T_skip ?_
                  refine X_then ?_
                  refine T_exit ?_
                  refine X_block_far rfl ?_
                  refine X_then_exit ?_
                  refine X_block_far rfl ?_
                  refine X_then_exit ?_
                  refine X_block_far rfl ?_
                  refine X_then_exit ?_
                  refine X_block_exit ?_
                  refine X_then ?_
                  refine T_seq ?_
                  refine T_region ?_
                  refine TL_q (Qt_assign (.bool _) rfl) rfl ?_
                  refine TL_nil ?_
                  refine X_then ?_
                  refine T_ret ?_
                  exact X_ret () [_] Try.results89 ⟨rfl, trivial⟩ (congrArg Value.bool (by first | (unfold rightQ; simp_all; done) | (unfold rightQ; simp_all; omega) | (unfold rightQ; rw [if_pos (by omega)]; simp_all) | (unfold rightQ; rw [if_neg (by omega)]; simp_all <;> omega))) (Subs.st inferInstance)
set_option maxHeartbeats 1000000 in
theorem formedQ_c {w0 : World} {H : List SA} {r : ReqV} :
    CT Try.prog w0 (H) 75 [.agg r.cells] (α := Unit) (fun _ => .bool (formedQ r.abs)) (fun _ => H) := by
  refine CT_intro Try.func75 rfl Try.ntmps75 rfl ?_
  refine T_seq ?_
  refine T_region ?_
  refine TL_e rfl (Ef_boxN rfl (fun b1 => ?_))
  refine TL_q (Qt_assign (.bool _) rfl) rfl ?_
  refine TL_nil ?_
  refine X_then ?_
  refine T_seq ?_
  refine T_region ?_
  refine TL_q (Qt_fieldAddr 0 rfl rfl) rfl ?_
  refine TL_q (Qt_load1 rfl) rfl ?_
  refine TL_q (Qt_geq rfl rfl) rfl ?_
  refine TL_q (Qt_move (.bool _) rfl) rfl ?_
  refine TL_split 6 rfl (fun h6 => ?_) (fun h6 => ?_)
  ·
    have p6 := h6
    try simp only [decide_eq_true_eq, decide_eq_false_iff_not, Bool.not_eq_true', Bool.not_eq_false', Option.isNone_iff_eq_none, ne_eq, Decidable.not_not, Int.not_lt, Int.not_le] at p6
    refine TL_take rfl rfl h6 ?_
    refine TL_q (Qt_fieldAddr 0 rfl rfl) rfl ?_
    refine TL_take rfl rfl h6 ?_
    refine TL_q (Qt_load1 rfl) rfl ?_
    refine TL_take rfl rfl h6 ?_
    refine TL_q (Qt_lss rfl rfl) rfl ?_
    refine TL_q (Qt_pick_t (.bool _) rfl h6 rfl) rfl ?_
    refine TL_q (Qt_move (.bool _) rfl) rfl ?_
    refine TL_split 11 rfl (fun h11 => ?_) (fun h11 => ?_)
    ·
      have p11 := h11
      try simp only [decide_eq_true_eq, decide_eq_false_iff_not, Bool.not_eq_true', Bool.not_eq_false', Option.isNone_iff_eq_none, ne_eq, Decidable.not_not, Int.not_lt, Int.not_le] at p11
      refine TL_take rfl rfl h11 ?_
      refine TL_q (Qt_fieldAddr 1 rfl rfl) rfl ?_
      refine TL_take rfl rfl h11 ?_
      refine TL_q (Qt_load1 rfl) rfl ?_
      refine TL_take rfl rfl h11 ?_
      refine TL_q (Qt_geq rfl rfl) rfl ?_
      refine TL_q (Qt_pick_t (.bool _) rfl h11 rfl) rfl ?_
      refine TL_q (Qt_move (.bool _) rfl) rfl ?_
      refine TL_split 16 rfl (fun h16 => ?_) (fun h16 => ?_)
      ·
        have p16 := h16
        try simp only [decide_eq_true_eq, decide_eq_false_iff_not, Bool.not_eq_true', Bool.not_eq_false', Option.isNone_iff_eq_none, ne_eq, Decidable.not_not, Int.not_lt, Int.not_le] at p16
        refine TL_take rfl rfl h16 ?_
        refine TL_q (Qt_fieldAddr 1 rfl rfl) rfl ?_
        refine TL_take rfl rfl h16 ?_
        refine TL_q (Qt_load1 rfl) rfl ?_
        refine TL_take rfl rfl h16 ?_
        refine TL_q (Qt_leq rfl rfl) rfl ?_
        refine TL_q (Qt_pick_t (.bool _) rfl h16 rfl) rfl ?_
        refine TL_q (Qt_move (.bool _) rfl) rfl ?_
        refine TL_split 21 rfl (fun h21 => ?_) (fun h21 => ?_)
        ·
          have p21 := h21
          try simp only [decide_eq_true_eq, decide_eq_false_iff_not, Bool.not_eq_true', Bool.not_eq_false', Option.isNone_iff_eq_none, ne_eq, Decidable.not_not, Int.not_lt, Int.not_le] at p21
          refine TL_take rfl rfl h21 ?_
          refine TL_q (Qt_fieldAddr 0 rfl rfl) rfl ?_
          refine TL_take rfl rfl h21 ?_
          refine TL_q (Qt_load1 rfl) rfl ?_
          refine TL_take rfl rfl h21 ?_
          refine TL_q (Qt_fieldAddr 2 rfl rfl) rfl ?_
          refine TL_take rfl rfl h21 ?_
          refine TL_q (Qt_loadN rfl rfl) rfl ?_
          refine TL_take rfl rfl h21 ?_
          refine TL_e rfl (Ef_call (right_c (c := r.client) (o := r.op)) rfl (fun x26 => ?_))
          refine TL_q (Qt_pick_t (.bool _) rfl h21 rfl) rfl ?_
          refine TL_q (Qt_move (.bool _) rfl) rfl ?_
          refine TL_split 28 rfl (fun h28 => ?_) (fun h28 => ?_)
          ·
            have p28 := h28
            try simp only [decide_eq_true_eq, decide_eq_false_iff_not, Bool.not_eq_true', Bool.not_eq_false', Option.isNone_iff_eq_none, ne_eq, Decidable.not_not, Int.not_lt, Int.not_le] at p28
            refine TL_take rfl rfl h28 ?_
            refine TL_q (Qt_fieldAddr 6 rfl rfl) rfl ?_
            refine TL_take rfl rfl h28 ?_
            refine TL_q (Qt_load1 rfl) rfl ?_
            refine TL_take rfl rfl h28 ?_
            refine TL_q (Qt_len_slice rfl Try.underlying36) rfl ?_
            refine TL_take rfl rfl h28 ?_
            refine TL_q (Qt_leq rfl rfl) rfl ?_
            refine TL_q (Qt_pick_t (.bool _) rfl h28 rfl) rfl ?_
            refine TL_q (Qt_assign (.bool _) rfl) rfl ?_
            refine TL_nil ?_
            refine X_then ?_
            refine T_ret ?_
            exact X_ret () [_] Try.results75 ⟨rfl, trivial⟩ (congrArg Value.bool (by first | (unfold formedQ; simp only [ReqV.abs]; simp_all; done) | (unfold formedQ; simp only [ReqV.abs]; simp_all; omega) | (symm; unfold formedQ; exact decide_eq_false (by simp only [ReqV.abs]; rintro ⟨⟨h1, h2⟩, -⟩; omega)) | (symm; unfold formedQ; exact decide_eq_false (by simp only [ReqV.abs]; rintro ⟨-, ⟨h1, h2⟩, -⟩; omega)))) (Subs.st inferInstance)
          ·
            have p28 := h28
            try simp only [decide_eq_true_eq, decide_eq_false_iff_not, Bool.not_eq_true', Bool.not_eq_false', Option.isNone_iff_eq_none, ne_eq, Decidable.not_not, Int.not_lt, Int.not_le] at p28
            refine TL_pass rfl rfl h28 rfl ?_
            refine TL_pass rfl rfl h28 rfl ?_
            refine TL_pass rfl rfl h28 rfl ?_
            refine TL_pass rfl rfl h28 rfl ?_
            refine TL_q (Qt_pick_f (.bool _) rfl h28 rfl) rfl ?_
            refine TL_q (Qt_assign (.bool _) rfl) rfl ?_
            refine TL_nil ?_
            refine X_then ?_
            refine T_ret ?_
            exact X_ret () [_] Try.results75 ⟨rfl, trivial⟩ (congrArg Value.bool (by first | (unfold formedQ; simp only [ReqV.abs]; simp_all; done) | (unfold formedQ; simp only [ReqV.abs]; simp_all; omega) | (symm; unfold formedQ; exact decide_eq_false (by simp only [ReqV.abs]; rintro ⟨⟨h1, h2⟩, -⟩; omega)) | (symm; unfold formedQ; exact decide_eq_false (by simp only [ReqV.abs]; rintro ⟨-, ⟨h1, h2⟩, -⟩; omega)))) (Subs.st inferInstance)
        ·
          have p21 := h21
          try simp only [decide_eq_true_eq, decide_eq_false_iff_not, Bool.not_eq_true', Bool.not_eq_false', Option.isNone_iff_eq_none, ne_eq, Decidable.not_not, Int.not_lt, Int.not_le] at p21
          refine TL_pass rfl rfl h21 rfl ?_
          refine TL_pass rfl rfl h21 rfl ?_
          refine TL_pass rfl rfl h21 rfl ?_
          refine TL_pass rfl rfl h21 rfl ?_
          refine TL_pass rfl rfl h21 rfl ?_
          refine TL_q (Qt_pick_f (.bool _) rfl h21 rfl) rfl ?_
          refine TL_q (Qt_move (.bool _) rfl) rfl ?_
          refine TL_pass rfl rfl rfl rfl ?_
          refine TL_pass rfl rfl rfl rfl ?_
          refine TL_pass rfl rfl rfl rfl ?_
          refine TL_pass rfl rfl rfl rfl ?_
          refine TL_q (Qt_pick_f (.bool _) rfl rfl rfl) rfl ?_
          refine TL_q (Qt_assign (.bool _) rfl) rfl ?_
          refine TL_nil ?_
          refine X_then ?_
          refine T_ret ?_
          exact X_ret () [_] Try.results75 ⟨rfl, trivial⟩ (congrArg Value.bool (by first | (unfold formedQ; simp only [ReqV.abs]; simp_all; done) | (unfold formedQ; simp only [ReqV.abs]; simp_all; omega) | (symm; unfold formedQ; exact decide_eq_false (by simp only [ReqV.abs]; rintro ⟨⟨h1, h2⟩, -⟩; omega)) | (symm; unfold formedQ; exact decide_eq_false (by simp only [ReqV.abs]; rintro ⟨-, ⟨h1, h2⟩, -⟩; omega)))) (Subs.st inferInstance)
      ·
        have p16 := h16
        try simp only [decide_eq_true_eq, decide_eq_false_iff_not, Bool.not_eq_true', Bool.not_eq_false', Option.isNone_iff_eq_none, ne_eq, Decidable.not_not, Int.not_lt, Int.not_le] at p16
        refine TL_pass rfl rfl h16 rfl ?_
        refine TL_pass rfl rfl h16 rfl ?_
        refine TL_pass rfl rfl h16 rfl ?_
        refine TL_q (Qt_pick_f (.bool _) rfl h16 rfl) rfl ?_
        refine TL_q (Qt_move (.bool _) rfl) rfl ?_
        refine TL_pass rfl rfl rfl rfl ?_
        refine TL_pass rfl rfl rfl rfl ?_
        refine TL_pass rfl rfl rfl rfl ?_
        refine TL_pass rfl rfl rfl rfl ?_
        refine TL_pass rfl rfl rfl rfl ?_
        refine TL_q (Qt_pick_f (.bool _) rfl rfl rfl) rfl ?_
        refine TL_q (Qt_move (.bool _) rfl) rfl ?_
        refine TL_pass rfl rfl rfl rfl ?_
        refine TL_pass rfl rfl rfl rfl ?_
        refine TL_pass rfl rfl rfl rfl ?_
        refine TL_pass rfl rfl rfl rfl ?_
        refine TL_q (Qt_pick_f (.bool _) rfl rfl rfl) rfl ?_
        refine TL_q (Qt_assign (.bool _) rfl) rfl ?_
        refine TL_nil ?_
        refine X_then ?_
        refine T_ret ?_
        exact X_ret () [_] Try.results75 ⟨rfl, trivial⟩ (congrArg Value.bool (by first | (unfold formedQ; simp only [ReqV.abs]; simp_all; done) | (unfold formedQ; simp only [ReqV.abs]; simp_all; omega) | (symm; unfold formedQ; exact decide_eq_false (by simp only [ReqV.abs]; rintro ⟨⟨h1, h2⟩, -⟩; omega)) | (symm; unfold formedQ; exact decide_eq_false (by simp only [ReqV.abs]; rintro ⟨-, ⟨h1, h2⟩, -⟩; omega)))) (Subs.st inferInstance)
    ·
      have p11 := h11
      try simp only [decide_eq_true_eq, decide_eq_false_iff_not, Bool.not_eq_true', Bool.not_eq_false', Option.isNone_iff_eq_none, ne_eq, Decidable.not_not, Int.not_lt, Int.not_le] at p11
      refine TL_pass rfl rfl h11 rfl ?_
      refine TL_pass rfl rfl h11 rfl ?_
      refine TL_pass rfl rfl h11 rfl ?_
      refine TL_q (Qt_pick_f (.bool _) rfl h11 rfl) rfl ?_
      refine TL_q (Qt_move (.bool _) rfl) rfl ?_
      refine TL_pass rfl rfl rfl rfl ?_
      refine TL_pass rfl rfl rfl rfl ?_
      refine TL_pass rfl rfl rfl rfl ?_
      refine TL_q (Qt_pick_f (.bool _) rfl rfl rfl) rfl ?_
      refine TL_q (Qt_move (.bool _) rfl) rfl ?_
      refine TL_pass rfl rfl rfl rfl ?_
      refine TL_pass rfl rfl rfl rfl ?_
      refine TL_pass rfl rfl rfl rfl ?_
      refine TL_pass rfl rfl rfl rfl ?_
      refine TL_pass rfl rfl rfl rfl ?_
      refine TL_q (Qt_pick_f (.bool _) rfl rfl rfl) rfl ?_
      refine TL_q (Qt_move (.bool _) rfl) rfl ?_
      refine TL_pass rfl rfl rfl rfl ?_
      refine TL_pass rfl rfl rfl rfl ?_
      refine TL_pass rfl rfl rfl rfl ?_
      refine TL_pass rfl rfl rfl rfl ?_
      refine TL_q (Qt_pick_f (.bool _) rfl rfl rfl) rfl ?_
      refine TL_q (Qt_assign (.bool _) rfl) rfl ?_
      refine TL_nil ?_
      refine X_then ?_
      refine T_ret ?_
      exact X_ret () [_] Try.results75 ⟨rfl, trivial⟩ (congrArg Value.bool (by first | (unfold formedQ; simp only [ReqV.abs]; simp_all; done) | (unfold formedQ; simp only [ReqV.abs]; simp_all; omega) | (symm; unfold formedQ; exact decide_eq_false (by simp only [ReqV.abs]; rintro ⟨⟨h1, h2⟩, -⟩; omega)) | (symm; unfold formedQ; exact decide_eq_false (by simp only [ReqV.abs]; rintro ⟨-, ⟨h1, h2⟩, -⟩; omega)))) (Subs.st inferInstance)
  ·
    have p6 := h6
    try simp only [decide_eq_true_eq, decide_eq_false_iff_not, Bool.not_eq_true', Bool.not_eq_false', Option.isNone_iff_eq_none, ne_eq, Decidable.not_not, Int.not_lt, Int.not_le] at p6
    refine TL_pass rfl rfl h6 rfl ?_
    refine TL_pass rfl rfl h6 rfl ?_
    refine TL_pass rfl rfl h6 rfl ?_
    refine TL_q (Qt_pick_f (.bool _) rfl h6 rfl) rfl ?_
    refine TL_q (Qt_move (.bool _) rfl) rfl ?_
    refine TL_pass rfl rfl rfl rfl ?_
    refine TL_pass rfl rfl rfl rfl ?_
    refine TL_pass rfl rfl rfl rfl ?_
    refine TL_q (Qt_pick_f (.bool _) rfl rfl rfl) rfl ?_
    refine TL_q (Qt_move (.bool _) rfl) rfl ?_
    refine TL_pass rfl rfl rfl rfl ?_
    refine TL_pass rfl rfl rfl rfl ?_
    refine TL_pass rfl rfl rfl rfl ?_
    refine TL_q (Qt_pick_f (.bool _) rfl rfl rfl) rfl ?_
    refine TL_q (Qt_move (.bool _) rfl) rfl ?_
    refine TL_pass rfl rfl rfl rfl ?_
    refine TL_pass rfl rfl rfl rfl ?_
    refine TL_pass rfl rfl rfl rfl ?_
    refine TL_pass rfl rfl rfl rfl ?_
    refine TL_pass rfl rfl rfl rfl ?_
    refine TL_q (Qt_pick_f (.bool _) rfl rfl rfl) rfl ?_
    refine TL_q (Qt_move (.bool _) rfl) rfl ?_
    refine TL_pass rfl rfl rfl rfl ?_
    refine TL_pass rfl rfl rfl rfl ?_
    refine TL_pass rfl rfl rfl rfl ?_
    refine TL_pass rfl rfl rfl rfl ?_
    refine TL_q (Qt_pick_f (.bool _) rfl rfl rfl) rfl ?_
    refine TL_q (Qt_assign (.bool _) rfl) rfl ?_
    refine TL_nil ?_
    refine X_then ?_
    refine T_ret ?_
    exact X_ret () [_] Try.results75 ⟨rfl, trivial⟩ (congrArg Value.bool (by first | (unfold formedQ; simp only [ReqV.abs]; simp_all; done) | (unfold formedQ; simp only [ReqV.abs]; simp_all; omega) | (symm; unfold formedQ; exact decide_eq_false (by simp only [ReqV.abs]; rintro ⟨⟨h1, h2⟩, -⟩; omega)) | (symm; unfold formedQ; exact decide_eq_false (by simp only [ReqV.abs]; rintro ⟨-, ⟨h1, h2⟩, -⟩; omega)))) (Subs.st inferInstance)
set_option maxHeartbeats 1000000 in
theorem textQ_c {w0 : World} {H : List SA} {r : ReqV} (ha : Sig64 r.op.a) (hb : Sig64 r.op.b) :
    CT Try.prog w0 (H) 77 [.agg r.cells] (α := AC) (fun y => .slice y.a (textQ r.abs).length y.c) (fun y => row (.slice y.a (textQ r.abs).length y.c) 5 1 (bytesV (textQ r.abs)) :: H) := by
  refine CT_intro Try.func77 rfl Try.ntmps77 rfl ?_
  refine T_seq ?_
  refine T_region ?_
  refine TL_e rfl (Ef_boxN rfl (fun b1 => ?_))
  refine TL_q (Qt_assign (.slice _ _ _) rfl) rfl ?_
  refine TL_nil ?_
  refine X_then ?_
  refine T_seq ?_
  refine T_seq ?_
  refine T_region ?_
  refine TL_q (Qt_loadN rfl rfl) rfl ?_
  refine TL_e rfl (Ef_call (formedQ_c (r := r)) rfl (fun x7 => ?_))
  refine TL_q (Qt_not rfl) rfl ?_
  refine TL_nil ?_
  refine X_then ?_
  refine T_cond rfl (fun h8 => ?_) (fun h8 => ?_)
  ·
    have p8 := h8
    try simp only [decide_eq_true_eq, decide_eq_false_iff_not, Bool.not_eq_true', Bool.not_eq_false', Option.isNone_iff_eq_none, ne_eq, Decidable.not_not, Int.not_lt, Int.not_le] at p8
    have hq : textQ r.abs = [] := if_pos (by simpa using h8)
    refine T_seq ?_
    refine T_region ?_
    refine TL_q (Qt_assign (.slice _ _ _) rfl) rfl ?_
    refine TL_nil ?_
    refine X_then ?_
    refine T_ret ?_
    refine X_then_ret ?_
    rw [hq]
    exact X_ret ⟨none, 0⟩ [_] Try.results77 ⟨rfl, trivial⟩ rfl (fun w hw => (Subs.st inferInstance w hw : St w0 H w).addNilB 5)
  ·
    have p8 := h8
    try simp only [decide_eq_true_eq, decide_eq_false_iff_not, Bool.not_eq_true', Bool.not_eq_false', Option.isNone_iff_eq_none, ne_eq, Decidable.not_not, Int.not_lt, Int.not_le] at p8
    have hq8 : ¬ formedQ r.abs = false := by simpa using h8
    refine T_skip ?_
    refine X_then ?_
    refine T_seq ?_
    refine T_region ?_
    refine TL_q (Qt_assign (.slice _ _ _) rfl) rfl ?_
    refine TL_nil ?_
    refine X_then ?_
    refine T_seq ?_
    refine T_seq ?_
    refine T_region ?_
    refine TL_q (Qt_fieldAddr 0 rfl rfl) rfl ?_
    refine TL_q (Qt_load1 rfl) rfl ?_
    refine TL_q (Qt_fieldAddr 1 rfl rfl) rfl ?_
    refine TL_q (Qt_load1 rfl) rfl ?_
    refine TL_q (Qt_fieldAddr 2 rfl rfl) rfl ?_
    refine TL_q (Qt_fieldAddr 2 rfl rfl) rfl ?_
    refine TL_q (Qt_load1 rfl) rfl ?_
    refine TL_q (Qt_fieldAddr 2 rfl rfl) rfl ?_
    refine TL_q (Qt_fieldAddr 3 rfl rfl) rfl ?_
    refine TL_q (Qt_load1 rfl) rfl ?_
    refine TL_q (Qt_build_arr #[(.int .i64 _), (.int .i64 _), (.int .i64 _), (.int .i64 _)] Try.underlying159 rfl rfl rfl) rfl ?_
    refine TL_q (Qt_move (.int .i64 _) rfl) rfl ?_
    refine TL_nil ?_
    refine X_then ?_
    refine T_block ?_
    refine T_unroll (TU_round ?_)
    refine T_seq ?_
    refine T_region ?_
    refine TL_q (Qt_lss rfl rfl) rfl ?_
    refine TL_nil ?_
    refine X_then ?_
    refine T_seq ?_
    refine T_cond_true rfl (by first | rfl | decide) ?_
    refine T_skip ?_
    refine X_then ?_
    refine T_seq ?_
    refine T_block ?_
    refine T_seq ?_
    refine T_region ?_
    refine TL_q (Qt_index (_) rfl rfl Try.underlying159 (by omega) (by omega) (rfl)) rfl ?_
    refine TL_q (Qt_assign (.int .i64 _) rfl) rfl ?_
    refine TL_nil ?_
    refine X_then ?_
    refine T_region ?_
    refine TL_q (Qt_move (.slice _ _ _) rfl) rfl ?_
    refine TL_q (Qt_move (.int .i64 _) rfl) rfl ?_
    refine TL_q (Qt_conv rfl rfl Try.underlying121) rfl ?_
    refine TL_e rfl (Ef_call (putFixed_c (a := none) (l := []) (c := 0) (x := (IntKind.u64.wrap r.client)) (n := 1) (hr := RdB.nil') (by first | omega | (simp; done)) (u64_nonneg _)) rfl (fun x26 => ?_))
    obtain ⟨l0, hl0⟩ : ∃ l : List UInt8, l = putFixed [] (IntKind.u64.wrap r.client) 1 := ⟨_, rfl⟩
    rw [← hl0]
    have hn0 : l0.length = 1 := by have h := putFixed1 [] (IntKind.u64.wrap r.client); rw [hl0]; first | exact h | omega
    refine TL_q (Qt_assign (.slice _ _ _) rfl) rfl ?_
    refine TL_nil ?_
    refine X_block ?_
    refine X_then ?_
    refine T_region ?_
    first
      | refine TL_q (Qt_add rfl rfl (by omega) (by omega)) rfl ?_
      | refine TL_q (Qt_addw rfl rfl) rfl ?_
    refine TL_q (Qt_move (.int .i64 _) rfl) rfl ?_
    refine TL_nil ?_
    refine X_again (TU_round ?_)
    refine T_seq ?_
    refine T_region ?_
    refine TL_q (Qt_lss rfl rfl) rfl ?_
    refine TL_nil ?_
    refine X_then ?_
    refine T_seq ?_
    refine T_cond_true rfl (by first | rfl | decide) ?_
    refine T_skip ?_
    refine X_then ?_
    refine T_seq ?_
    refine T_block ?_
    refine T_seq ?_
    refine T_region ?_
    refine TL_q (Qt_index (_) rfl rfl Try.underlying159 (by omega) (by omega) (rfl)) rfl ?_
    refine TL_q (Qt_assign (.int .i64 _) rfl) rfl ?_
    refine TL_nil ?_
    refine X_then ?_
    refine T_region ?_
    refine TL_q (Qt_move (.slice _ _ _) rfl) rfl ?_
    refine TL_q (Qt_move (.int .i64 _) rfl) rfl ?_
    refine TL_q (Qt_conv rfl rfl Try.underlying121) rfl ?_
    refine TL_e rfl (Ef_call (putFixed_c (l := l0) (x := (IntKind.u64.wrap r.seq)) (n := 1) (by first | omega | (simp; done)) (u64_nonneg _)) rfl (fun x26 => ?_))
    obtain ⟨l1, hl1⟩ : ∃ l : List UInt8, l = putFixed l0 (IntKind.u64.wrap r.seq) 1 := ⟨_, rfl⟩
    rw [← hl1]
    have hn1 : l1.length = 2 := by have h := putFixed1 l0 (IntKind.u64.wrap r.seq); rw [hl1]; first | exact h | omega
    refine TL_q (Qt_assign (.slice _ _ _) rfl) rfl ?_
    refine TL_nil ?_
    refine X_block ?_
    refine X_then ?_
    refine T_region ?_
    first
      | refine TL_q (Qt_add rfl rfl (by omega) (by omega)) rfl ?_
      | refine TL_q (Qt_addw rfl rfl) rfl ?_
    refine TL_q (Qt_move (.int .i64 _) rfl) rfl ?_
    refine TL_nil ?_
    refine X_again (TU_round ?_)
    refine T_seq ?_
    refine T_region ?_
    refine TL_q (Qt_lss rfl rfl) rfl ?_
    refine TL_nil ?_
    refine X_then ?_
    refine T_seq ?_
    refine T_cond_true rfl (by first | rfl | decide) ?_
    refine T_skip ?_
    refine X_then ?_
    refine T_seq ?_
    refine T_block ?_
    refine T_seq ?_
    refine T_region ?_
    refine TL_q (Qt_index (_) rfl rfl Try.underlying159 (by omega) (by omega) (rfl)) rfl ?_
    refine TL_q (Qt_assign (.int .i64 _) rfl) rfl ?_
    refine TL_nil ?_
    refine X_then ?_
    refine T_region ?_
    refine TL_q (Qt_move (.slice _ _ _) rfl) rfl ?_
    refine TL_q (Qt_move (.int .i64 _) rfl) rfl ?_
    refine TL_q (Qt_conv rfl rfl Try.underlying121) rfl ?_
    refine TL_e rfl (Ef_call (putFixed_c (l := l1) (x := (IntKind.u64.wrap r.op.kind)) (n := 1) (by first | omega | (simp; done)) (u64_nonneg _)) rfl (fun x26 => ?_))
    obtain ⟨l2, hl2⟩ : ∃ l : List UInt8, l = putFixed l1 (IntKind.u64.wrap r.op.kind) 1 := ⟨_, rfl⟩
    rw [← hl2]
    have hn2 : l2.length = 3 := by have h := putFixed1 l1 (IntKind.u64.wrap r.op.kind); rw [hl2]; first | exact h | omega
    refine TL_q (Qt_assign (.slice _ _ _) rfl) rfl ?_
    refine TL_nil ?_
    refine X_block ?_
    refine X_then ?_
    refine T_region ?_
    first
      | refine TL_q (Qt_add rfl rfl (by omega) (by omega)) rfl ?_
      | refine TL_q (Qt_addw rfl rfl) rfl ?_
    refine TL_q (Qt_move (.int .i64 _) rfl) rfl ?_
    refine TL_nil ?_
    refine X_again (TU_round ?_)
    refine T_seq ?_
    refine T_region ?_
    refine TL_q (Qt_lss rfl rfl) rfl ?_
    refine TL_nil ?_
    refine X_then ?_
    refine T_seq ?_
    refine T_cond_true rfl (by first | rfl | decide) ?_
    refine T_skip ?_
    refine X_then ?_
    refine T_seq ?_
    refine T_block ?_
    refine T_seq ?_
    refine T_region ?_
    refine TL_q (Qt_index (_) rfl rfl Try.underlying159 (by omega) (by omega) (rfl)) rfl ?_
    refine TL_q (Qt_assign (.int .i64 _) rfl) rfl ?_
    refine TL_nil ?_
    refine X_then ?_
    refine T_region ?_
    refine TL_q (Qt_move (.slice _ _ _) rfl) rfl ?_
    refine TL_q (Qt_move (.int .i64 _) rfl) rfl ?_
    refine TL_q (Qt_conv rfl rfl Try.underlying121) rfl ?_
    refine TL_e rfl (Ef_call (putFixed_c (l := l2) (x := (IntKind.u64.wrap r.op.key)) (n := 1) (by first | omega | (simp; done)) (u64_nonneg _)) rfl (fun x26 => ?_))
    obtain ⟨l3, hl3⟩ : ∃ l : List UInt8, l = putFixed l2 (IntKind.u64.wrap r.op.key) 1 := ⟨_, rfl⟩
    rw [← hl3]
    have hn3 : l3.length = 4 := by have h := putFixed1 l2 (IntKind.u64.wrap r.op.key); rw [hl3]; first | exact h | omega
    refine TL_q (Qt_assign (.slice _ _ _) rfl) rfl ?_
    refine TL_nil ?_
    refine X_block ?_
    refine X_then ?_
    refine T_region ?_
    first
      | refine TL_q (Qt_add rfl rfl (by omega) (by omega)) rfl ?_
      | refine TL_q (Qt_addw rfl rfl) rfl ?_
    refine TL_q (Qt_move (.int .i64 _) rfl) rfl ?_
    refine TL_nil ?_
    refine X_again (TU_round ?_)
    refine T_seq ?_
    refine T_region ?_
    refine TL_q (Qt_lss rfl rfl) rfl ?_
    refine TL_nil ?_
    refine X_then ?_
    refine T_seq ?_
    refine T_cond_false rfl (by first | rfl | decide) ?_
    refine T_exit ?_
    refine X_then_exit ?_
    refine X_again_exit ?_
    refine X_block_exit ?_
    refine X_then ?_
    refine T_seq ?_
    refine T_draw (blk b1 (.cells r.cells 104 (0, 0)) :: H) [(0, true), (1, true), (2, true), (3, true), (5, true), (6, true), (7, true), (4, false), (8, false), (9, true)] (by kernel_rfl) (by kernel_rfl) rfl (by kernel_rfl) (Subs.st inferInstance) (fun hns0 => ?_)
    refine DL_q hns0 rfl (Qt_move (.slice _ _ _) rfl) rfl ?_
    refine DL_q hns0 rfl (Qt_fieldAddr 2 rfl rfl) rfl ?_
    refine DL_q hns0 rfl (Qt_fieldAddr 4 rfl rfl) rfl ?_
    refine DL_q hns0 rfl (Qt_load1 rfl) rfl ?_
    refine DL_q hns0 rfl (Qt_fieldAddr 2 rfl rfl) rfl ?_
    refine DL_q hns0 rfl (Qt_fieldAddr 5 rfl rfl) rfl ?_
    refine DL_q hns0 rfl (Qt_load1 rfl) rfl ?_
    refine DL_e rfl rfl (Ef_call (putFolded_c (l := l3) (x := r.op.a) (by omega) ha) rfl (fun x32 => ⟨(Subs.st inferInstance), ?_⟩))
    refine DL_e rfl rfl (Ef_call (putFolded_c (l := l3 ++ packed (foldN r.op.a)) (x := r.op.b) (by have := packed_length_le (foldN r.op.a) (foldN_lt ha); rw [List.length_append]; omega) hb) rfl (fun x36 => ⟨(Subs.st inferInstance), ?_⟩))
    refine DL_q hns0 rfl (Qt_assign (.slice _ _ _) rfl) rfl ?_
    refine DL_nil ?_
    refine X_then ?_
    refine T_ret ?_
    have hq : textQ r.abs = l3 ++ packed (foldN r.op.a) ++ packed (foldN r.op.b) := by unfold textQ; rw [if_neg hq8, hl3, hl2, hl1, hl0]; rfl
    rw [hq]
    exact X_ret ⟨x36.a, x36.c⟩ [_] Try.results77 ⟨rfl, trivial⟩ rfl (Subs.st inferInstance)
end
section
open Go.RowKit Go.Sx
set_option maxRecDepth 100000
set_option linter.unusedSimpArgs false
set_option linter.unusedVariables false
attribute [local irreducible] sha putFixed
set_option maxHeartbeats 1000000 in
theorem textG_c {w0 : World} {H : List SA} {a : Option Addr} {l : List UInt8} {c : Nat} [hr : RdB w0 H (.slice a l.length c) l] (hl : l.length ≤ 4294967296) :
    CT Try.prog w0 (H) 88 [.slice a l.length c] (α := ReqV) (fun y => .tuple #[.agg y.cells, .int .i64 (textG l).1]) (fun y => pu (y.abs = (textG l).2 ∧ y.sig = ⟨none, 0, []⟩) :: H) := by
  refine CT_intro Try.func88 rfl Try.ntmps88 rfl ?_
  refine T_seq ?_
  refine T_region ?_
  refine TL_e rfl (Ef_allocN (fun b2 => ?_))
  refine TL_q (Qt_assign (.int .i64 _) rfl) rfl ?_
  refine TL_nil ?_
  refine X_then ?_
  refine T_seq ?_
  refine T_region ?_
  refine TL_q (Qt_move (.slice _ _ _) rfl) rfl ?_
  refine TL_e rfl (Ef_call (rnew_c hl) rfl (fun x15 => ?_))
  refine TL_pure (fun h15 => ?_)
  refine TL_q (Qt_assign (.pointer _) rfl) rfl ?_
  refine TL_nil ?_
  refine X_then ?_
  refine T_seq ?_
  refine T_region ?_
  refine TL_e rfl (Ef_allocN (fun b5 => ?_))
  refine TL_nil ?_
  refine X_then ?_
  refine T_seq ?_
  refine T_seq ?_
  refine T_region ?_
  refine TL_q (Qt_fieldAddr 0 rfl rfl) rfl ?_
  refine TL_q (Qt_fieldAddr 1 rfl rfl) rfl ?_
  refine TL_q (Qt_fieldAddr 2 rfl rfl) rfl ?_
  refine TL_q (Qt_fieldAddr 2 rfl rfl) rfl ?_
  refine TL_q (Qt_fieldAddr 2 rfl rfl) rfl ?_
  refine TL_q (Qt_fieldAddr 3 rfl rfl) rfl ?_
  refine TL_q (Qt_build_arr #[(.pointer _), (.pointer _), (.pointer _), (.pointer _)] Try.underlying161 rfl rfl rfl) rfl ?_
  refine TL_q (Qt_move (.int .i64 _) rfl) rfl ?_
  refine TL_nil ?_
  refine X_then ?_
  refine T_block ?_
  refine T_unroll (TU_round ?_)
  refine T_seq ?_
  refine T_region ?_
  refine TL_q (Qt_lss rfl rfl) rfl ?_
  refine TL_nil ?_
  refine X_then ?_
  refine T_seq ?_
  refine T_cond_true rfl (by first | rfl | decide) ?_
  refine T_skip ?_
  refine X_then ?_
  refine T_seq ?_
  refine T_block ?_
  refine T_seq ?_
  refine T_region ?_
  refine TL_q (Qt_index (_) rfl rfl Try.underlying161 (by omega) (by omega) (rfl)) rfl ?_
  refine TL_q (Qt_assign (.pointer _) rfl) rfl ?_
  refine TL_nil ?_
  refine X_then ?_
  refine T_seq ?_
  refine T_region ?_
  refine TL_q (Qt_move (.pointer _) rfl) rfl ?_
  refine TL_frontB x15.1 ?_
  refine TL_e rfl (Ef_call (fixed1_c (b := x15.2) (k := 0) (by omega) (by rw [h15]; omega)) rfl (fun x28 => ?_))
  refine TL_pure (fun h28 => ?_)
  obtain ⟨u0, q0, e0⟩ := x28
  simp only [Rd1] at h28
  have hb0 := u0.toNat_lt
  refine TL_q (Qt_move (.tuple _) rfl) rfl ?_
  refine TL_q (Qt_extract rfl) rfl ?_
  refine TL_q (Qt_extract rfl) rfl ?_
  refine TL_q (Qt_assign (.int .u64 _) rfl) rfl ?_
  refine TL_q (Qt_assign (.int .i64 _) rfl) rfl ?_
  refine TL_nil ?_
  refine X_then ?_
  refine T_seq ?_
  refine T_seq ?_
  refine T_region ?_
  refine TL_q (Qt_move (.int .i64 _) rfl) rfl ?_
  refine TL_q (Qt_neq rfl rfl) rfl ?_
  refine TL_nil ?_
  refine X_then ?_
  refine T_cond rfl (fun h32 => ?_) (fun h32 => ?_)
  ·
    have p32 := h32
    try simp only [decide_eq_true_eq, decide_eq_false_iff_not, Bool.not_eq_true', Bool.not_eq_false', Option.isNone_iff_eq_none, ne_eq, Decidable.not_not, Int.not_lt, Int.not_le] at p32
    have hs0 : x15.2.l.length ≤ 0 ∧ e0 = 1 := by
      rcases h28 with ⟨-, -, -, h4⟩ | ⟨h1, -, -, h4⟩
      · (try simp only at h32); omega
      · exact ⟨h1, h4⟩
    obtain ⟨hs0, rfl⟩ := hs0
    refine T_seq ?_
    refine T_region ?_
    refine TL_q (Qt_build [] rfl (by kernel_rfl)) rfl ?_
    refine TL_q (Qt_move (.int .i64 _) rfl) rfl ?_
    refine TL_n (Ef_storeN rfl rfl (?_))
    refine TL_q (Qt_assign (.int .i64 _) rfl) rfl ?_
    refine TL_nil ?_
    refine X_then ?_
    refine T_ret ?_
    refine X_then_ret ?_
    refine X_block_ret ?_
    refine X_then_ret ?_
    refine X_again_ret ?_
    refine X_block_ret ?_
    refine X_then_ret ?_
    have e : textG l = (1, .zero) := if_pos (by rw [← h15]; omega)
    rw [e]
    exact X_ret ReqV.zero [_, _] Try.results88 ⟨⟨_, rfl, res_cellN rfl⟩, rfl, trivial⟩ rfl (fun w hw => (Subs.st inferInstance w hw : St w0 H w).addPure ⟨rfl, rfl⟩)
  ·
    have p32 := h32
    try simp only [decide_eq_true_eq, decide_eq_false_iff_not, Bool.not_eq_true', Bool.not_eq_false', Option.isNone_iff_eq_none, ne_eq, Decidable.not_not, Int.not_lt, Int.not_le] at p32
    obtain ⟨hk0, hv0, ha0⟩ : 0 < x15.2.l.length ∧ u0 = x15.2.l.getD 0 0 ∧ q0 = 0 + 1 := by
      rcases h28 with ⟨h1, h2, h3, -⟩ | ⟨-, -, -, h4⟩
      · exact ⟨h1, h2, h3⟩
      · (try simp only at h32); omega
    subst ha0
    refine T_skip ?_
    refine X_then ?_
    refine T_region ?_
    refine TL_q (Qt_move (.pointer _) rfl) rfl ?_
    refine TL_q (Qt_move (.int .u64 _) rfl) rfl ?_
    refine TL_q (Qt_conv_i64 rfl rfl Try.underlying3 (by dsimp only; omega) (by dsimp only; omega)) rfl ?_
    refine TL_q (Qt_nilCheck rfl) rfl ?_
    refine TL_n (Ef_store1 (.int .i64 _) rfl rfl (?_))
    refine TL_nil ?_
    refine X_block ?_
    refine X_then ?_
    refine T_region ?_
    first
      | refine TL_q (Qt_add rfl rfl (by omega) (by omega)) rfl ?_
      | refine TL_q (Qt_addw rfl rfl) rfl ?_
    refine TL_q (Qt_move (.int .i64 _) rfl) rfl ?_
    refine TL_nil ?_
    refine X_again (TU_round ?_)
    refine T_seq ?_
    refine T_region ?_
    refine TL_q (Qt_lss rfl rfl) rfl ?_
    refine TL_nil ?_
    refine X_then ?_
    refine T_seq ?_
    refine T_cond_true rfl (by first | rfl | decide) ?_
    refine T_skip ?_
    refine X_then ?_
    refine T_seq ?_
    refine T_block ?_
    refine T_seq ?_
    refine T_region ?_
    refine TL_q (Qt_index (_) rfl rfl Try.underlying161 (by omega) (by omega) (rfl)) rfl ?_
    refine TL_q (Qt_assign (.pointer _) rfl) rfl ?_
    refine TL_nil ?_
    refine X_then ?_
    refine T_seq ?_
    refine T_region ?_
    refine TL_q (Qt_move (.pointer _) rfl) rfl ?_
    refine TL_frontB x15.1 ?_
    refine TL_e rfl (Ef_call (fixed1_c (b := x15.2) (k := 0 + 1) (by omega) (by rw [h15]; omega)) rfl (fun x28 => ?_))
    refine TL_pure (fun h28 => ?_)
    obtain ⟨u1, q1, e1⟩ := x28
    simp only [Rd1] at h28
    have hb1 := u1.toNat_lt
    refine TL_q (Qt_move (.tuple _) rfl) rfl ?_
    refine TL_q (Qt_extract rfl) rfl ?_
    refine TL_q (Qt_extract rfl) rfl ?_
    refine TL_q (Qt_assign (.int .u64 _) rfl) rfl ?_
    refine TL_q (Qt_assign (.int .i64 _) rfl) rfl ?_
    refine TL_nil ?_
    refine X_then ?_
    refine T_seq ?_
    refine T_seq ?_
    refine T_region ?_
    refine TL_q (Qt_move (.int .i64 _) rfl) rfl ?_
    refine TL_q (Qt_neq rfl rfl) rfl ?_
    refine TL_nil ?_
    refine X_then ?_
    refine T_cond rfl (fun h32 => ?_) (fun h32 => ?_)
    ·
      have p32 := h32
      try simp only [decide_eq_true_eq, decide_eq_false_iff_not, Bool.not_eq_true', Bool.not_eq_false', Option.isNone_iff_eq_none, ne_eq, Decidable.not_not, Int.not_lt, Int.not_le] at p32
      have hs1 : x15.2.l.length ≤ 1 ∧ e1 = 1 := by
        rcases h28 with ⟨-, -, -, h4⟩ | ⟨h1, -, -, h4⟩
        · (try simp only at h32); omega
        · exact ⟨h1, h4⟩
      obtain ⟨hs1, rfl⟩ := hs1
      refine T_seq ?_
      refine T_region ?_
      refine TL_q (Qt_build [] rfl (by kernel_rfl)) rfl ?_
      refine TL_q (Qt_move (.int .i64 _) rfl) rfl ?_
      refine TL_n (Ef_storeN rfl rfl (?_))
      refine TL_q (Qt_assign (.int .i64 _) rfl) rfl ?_
      refine TL_nil ?_
      refine X_then ?_
      refine T_ret ?_
      refine X_then_ret ?_
      refine X_block_ret ?_
      refine X_then_ret ?_
      refine X_again_ret ?_
      refine X_block_ret ?_
      refine X_then_ret ?_
      have e : textG l = (1, .zero) := if_pos (by rw [← h15]; omega)
      rw [e]
      exact X_ret ReqV.zero [_, _] Try.results88 ⟨⟨_, rfl, res_cellN rfl⟩, rfl, trivial⟩ rfl (fun w hw => (Subs.st inferInstance w hw : St w0 H w).addPure ⟨rfl, rfl⟩)
    ·
      have p32 := h32
      try simp only [decide_eq_true_eq, decide_eq_false_iff_not, Bool.not_eq_true', Bool.not_eq_false', Option.isNone_iff_eq_none, ne_eq, Decidable.not_not, Int.not_lt, Int.not_le] at p32
      obtain ⟨hk1, hv1, ha1⟩ : 1 < x15.2.l.length ∧ u1 = x15.2.l.getD 1 0 ∧ q1 = 1 + 1 := by
        rcases h28 with ⟨h1, h2, h3, -⟩ | ⟨-, -, -, h4⟩
        · exact ⟨h1, h2, h3⟩
        · (try simp only at h32); omega
      subst ha1
      refine T_skip ?_
      refine X_then ?_
      refine T_region ?_
      refine TL_q (Qt_move (.pointer _) rfl) rfl ?_
      refine TL_q (Qt_move (.int .u64 _) rfl) rfl ?_
      refine TL_q (Qt_conv_i64 rfl rfl Try.underlying3 (by dsimp only; omega) (by dsimp only; omega)) rfl ?_
      refine TL_q (Qt_nilCheck rfl) rfl ?_
      refine TL_n (Ef_store1 (.int .i64 _) rfl rfl (?_))
      refine TL_nil ?_
      refine X_block ?_
      refine X_then ?_
      refine T_region ?_
      first
        | refine TL_q (Qt_add rfl rfl (by omega) (by omega)) rfl ?_
        | refine TL_q (Qt_addw rfl rfl) rfl ?_
      refine TL_q (Qt_move (.int .i64 _) rfl) rfl ?_
      refine TL_nil ?_
      refine X_again (TU_round ?_)
      refine T_seq ?_
      refine T_region ?_
      refine TL_q (Qt_lss rfl rfl) rfl ?_
      refine TL_nil ?_
      refine X_then ?_
      refine T_seq ?_
      refine T_cond_true rfl (by first | rfl | decide) ?_
      refine T_skip ?_
      refine X_then ?_
      refine T_seq ?_
      refine T_block ?_
      refine T_seq ?_
      refine T_region ?_
      refine TL_q (Qt_index (_) rfl rfl Try.underlying161 (by omega) (by omega) (rfl)) rfl ?_
      refine TL_q (Qt_assign (.pointer _) rfl) rfl ?_
      refine TL_nil ?_
      refine X_then ?_
      refine T_seq ?_
      refine T_region ?_
      refine TL_q (Qt_move (.pointer _) rfl) rfl ?_
      refine TL_frontB x15.1 ?_
      refine TL_e rfl (Ef_call (fixed1_c (b := x15.2) (k := 1 + 1) (by omega) (by rw [h15]; omega)) rfl (fun x28 => ?_))
      refine TL_pure (fun h28 => ?_)
      obtain ⟨u2, q2, e2⟩ := x28
      simp only [Rd1] at h28
      have hb2 := u2.toNat_lt
      refine TL_q (Qt_move (.tuple _) rfl) rfl ?_
      refine TL_q (Qt_extract rfl) rfl ?_
      refine TL_q (Qt_extract rfl) rfl ?_
      refine TL_q (Qt_assign (.int .u64 _) rfl) rfl ?_
      refine TL_q (Qt_assign (.int .i64 _) rfl) rfl ?_
      refine TL_nil ?_
      refine X_then ?_
      refine T_seq ?_
      refine T_seq ?_
      refine T_region ?_
      refine TL_q (Qt_move (.int .i64 _) rfl) rfl ?_
      refine TL_q (Qt_neq rfl rfl) rfl ?_
      refine TL_nil ?_
      refine X_then ?_
      refine T_cond rfl (fun h32 => ?_) (fun h32 => ?_)
      ·
        have p32 := h32
        try simp only [decide_eq_true_eq, decide_eq_false_iff_not, Bool.not_eq_true', Bool.not_eq_false', Option.isNone_iff_eq_none, ne_eq, Decidable.not_not, Int.not_lt, Int.not_le] at p32
        have hs2 : x15.2.l.length ≤ 2 ∧ e2 = 1 := by
          rcases h28 with ⟨-, -, -, h4⟩ | ⟨h1, -, -, h4⟩
          · (try simp only at h32); omega
          · exact ⟨h1, h4⟩
        obtain ⟨hs2, rfl⟩ := hs2
        refine T_seq ?_
        refine T_region ?_
        refine TL_q (Qt_build [] rfl (by kernel_rfl)) rfl ?_
        refine TL_q (Qt_move (.int .i64 _) rfl) rfl ?_
        refine TL_n (Ef_storeN rfl rfl (?_))
        refine TL_q (Qt_assign (.int .i64 _) rfl) rfl ?_
        refine TL_nil ?_
        refine X_then ?_
        refine T_ret ?_
        refine X_then_ret ?_
        refine X_block_ret ?_
        refine X_then_ret ?_
        refine X_again_ret ?_
        refine X_block_ret ?_
        refine X_then_ret ?_
        have e : textG l = (1, .zero) := if_pos (by rw [← h15]; omega)
        rw [e]
        exact X_ret ReqV.zero [_, _] Try.results88 ⟨⟨_, rfl, res_cellN rfl⟩, rfl, trivial⟩ rfl (fun w hw => (Subs.st inferInstance w hw : St w0 H w).addPure ⟨rfl, rfl⟩)
      ·
        have p32 := h32
        try simp only [decide_eq_true_eq, decide_eq_false_iff_not, Bool.not_eq_true', Bool.not_eq_false', Option.isNone_iff_eq_none, ne_eq, Decidable.not_not, Int.not_lt, Int.not_le] at p32
        obtain ⟨hk2, hv2, ha2⟩ : 2 < x15.2.l.length ∧ u2 = x15.2.l.getD 2 0 ∧ q2 = 2 + 1 := by
          rcases h28 with ⟨h1, h2, h3, -⟩ | ⟨-, -, -, h4⟩
          · exact ⟨h1, h2, h3⟩
          · (try simp only at h32); omega
        subst ha2
        refine T_skip ?_
        refine X_then ?_
        refine T_region ?_
        refine TL_q (Qt_move (.pointer _) rfl) rfl ?_
        refine TL_q (Qt_move (.int .u64 _) rfl) rfl ?_
        refine TL_q (Qt_conv_i64 rfl rfl Try.underlying3 (by dsimp only; omega) (by dsimp only; omega)) rfl ?_
        refine TL_q (Qt_nilCheck rfl) rfl ?_
        refine TL_n (Ef_store1 (.int .i64 _) rfl rfl (?_))
        refine TL_nil ?_
        refine X_block ?_
        refine X_then ?_
        refine T_region ?_
        first
          | refine TL_q (Qt_add rfl rfl (by omega) (by omega)) rfl ?_
          | refine TL_q (Qt_addw rfl rfl) rfl ?_
        refine TL_q (Qt_move (.int .i64 _) rfl) rfl ?_
        refine TL_nil ?_
        refine X_again (TU_round ?_)
        refine T_seq ?_
        refine T_region ?_
        refine TL_q (Qt_lss rfl rfl) rfl ?_
        refine TL_nil ?_
        refine X_then ?_
        refine T_seq ?_
        refine T_cond_true rfl (by first | rfl | decide) ?_
        refine T_skip ?_
        refine X_then ?_
        refine T_seq ?_
        refine T_block ?_
        refine T_seq ?_
        refine T_region ?_
        refine TL_q (Qt_index (_) rfl rfl Try.underlying161 (by omega) (by omega) (rfl)) rfl ?_
        refine TL_q (Qt_assign (.pointer _) rfl) rfl ?_
        refine TL_nil ?_
        refine X_then ?_
        refine T_seq ?_
        refine T_region ?_
        refine TL_q (Qt_move (.pointer _) rfl) rfl ?_
        refine TL_frontB x15.1 ?_
        refine TL_e rfl (Ef_call (fixed1_c (b := x15.2) (k := 2 + 1) (by omega) (by rw [h15]; omega)) rfl (fun x28 => ?_))
        refine TL_pure (fun h28 => ?_)
        obtain ⟨u3, q3, e3⟩ := x28
        simp only [Rd1] at h28
        have hb3 := u3.toNat_lt
        refine TL_q (Qt_move (.tuple _) rfl) rfl ?_
        refine TL_q (Qt_extract rfl) rfl ?_
        refine TL_q (Qt_extract rfl) rfl ?_
        refine TL_q (Qt_assign (.int .u64 _) rfl) rfl ?_
        refine TL_q (Qt_assign (.int .i64 _) rfl) rfl ?_
        refine TL_nil ?_
        refine X_then ?_
        refine T_seq ?_
        refine T_seq ?_
        refine T_region ?_
        refine TL_q (Qt_move (.int .i64 _) rfl) rfl ?_
        refine TL_q (Qt_neq rfl rfl) rfl ?_
        refine TL_nil ?_
        refine X_then ?_
        refine T_cond rfl (fun h32 => ?_) (fun h32 => ?_)
        ·
          have p32 := h32
          try simp only [decide_eq_true_eq, decide_eq_false_iff_not, Bool.not_eq_true', Bool.not_eq_false', Option.isNone_iff_eq_none, ne_eq, Decidable.not_not, Int.not_lt, Int.not_le] at p32
          have hs3 : x15.2.l.length ≤ 3 ∧ e3 = 1 := by
            rcases h28 with ⟨-, -, -, h4⟩ | ⟨h1, -, -, h4⟩
            · (try simp only at h32); omega
            · exact ⟨h1, h4⟩
          obtain ⟨hs3, rfl⟩ := hs3
          refine T_seq ?_
          refine T_region ?_
          refine TL_q (Qt_build [] rfl (by kernel_rfl)) rfl ?_
          refine TL_q (Qt_move (.int .i64 _) rfl) rfl ?_
          refine TL_n (Ef_storeN rfl rfl (?_))
          refine TL_q (Qt_assign (.int .i64 _) rfl) rfl ?_
          refine TL_nil ?_
          refine X_then ?_
          refine T_ret ?_
          refine X_then_ret ?_
          refine X_block_ret ?_
          refine X_then_ret ?_
          refine X_again_ret ?_
          refine X_block_ret ?_
          refine X_then_ret ?_
          have e : textG l = (1, .zero) := if_pos (by rw [← h15]; omega)
          rw [e]
          exact X_ret ReqV.zero [_, _] Try.results88 ⟨⟨_, rfl, res_cellN rfl⟩, rfl, trivial⟩ rfl (fun w hw => (Subs.st inferInstance w hw : St w0 H w).addPure ⟨rfl, rfl⟩)
        ·
          have p32 := h32
          try simp only [decide_eq_true_eq, decide_eq_false_iff_not, Bool.not_eq_true', Bool.not_eq_false', Option.isNone_iff_eq_none, ne_eq, Decidable.not_not, Int.not_lt, Int.not_le] at p32
          obtain ⟨hk3, hv3, ha3⟩ : 3 < x15.2.l.length ∧ u3 = x15.2.l.getD 3 0 ∧ q3 = 3 + 1 := by
            rcases h28 with ⟨h1, h2, h3, -⟩ | ⟨-, -, -, h4⟩
            · exact ⟨h1, h2, h3⟩
            · (try simp only at h32); omega
          subst ha3
          refine T_skip ?_
          refine X_then ?_
          refine T_region ?_
          refine TL_q (Qt_move (.pointer _) rfl) rfl ?_
          refine TL_q (Qt_move (.int .u64 _) rfl) rfl ?_
          refine TL_q (Qt_conv_i64 rfl rfl Try.underlying3 (by dsimp only; omega) (by dsimp only; omega)) rfl ?_
          refine TL_q (Qt_nilCheck rfl) rfl ?_
          refine TL_n (Ef_store1 (.int .i64 _) rfl rfl (?_))
          refine TL_nil ?_
          refine X_block ?_
          refine X_then ?_
          refine T_region ?_
          first
            | refine TL_q (Qt_add rfl rfl (by omega) (by omega)) rfl ?_
            | refine TL_q (Qt_addw rfl rfl) rfl ?_
          refine TL_q (Qt_move (.int .i64 _) rfl) rfl ?_
          refine TL_nil ?_
          refine X_again (TU_round ?_)
          refine T_seq ?_
          refine T_region ?_
          refine TL_q (Qt_lss rfl rfl) rfl ?_
          refine TL_nil ?_
          refine X_then ?_
          refine T_seq ?_
          refine T_cond_false rfl (by first | rfl | decide) ?_
          refine T_exit ?_
          refine X_then_exit ?_
          refine X_again_exit ?_
          refine X_block_exit ?_
          refine X_then ?_
          refine T_seq ?_
          refine T_seq ?_
          refine T_region ?_
          refine TL_q (Qt_fieldAddr 2 rfl rfl) rfl ?_
          refine TL_q (Qt_fieldAddr 4 rfl rfl) rfl ?_
          refine TL_q (Qt_fieldAddr 2 rfl rfl) rfl ?_
          refine TL_q (Qt_fieldAddr 5 rfl rfl) rfl ?_
          refine TL_q (Qt_build_arr #[(.pointer _), (.pointer _)] Try.underlying163 rfl rfl rfl) rfl ?_
          refine TL_q (Qt_move (.int .i64 _) rfl) rfl ?_
          refine TL_nil ?_
          refine X_then ?_
          refine T_block ?_
          refine T_unroll (TU_round ?_)
          refine T_seq ?_
          refine T_region ?_
          refine TL_q (Qt_lss rfl rfl) rfl ?_
          refine TL_nil ?_
          refine X_then ?_
          refine T_seq ?_
          refine T_cond_true rfl (by first | rfl | decide) ?_
          refine T_skip ?_
          refine X_then ?_
          refine T_seq ?_
          refine T_block ?_
          refine T_seq ?_
          refine T_region ?_
          refine TL_q (Qt_index (_) rfl rfl Try.underlying163 (by omega) (by omega) (rfl)) rfl ?_
          refine TL_q (Qt_assign (.pointer _) rfl) rfl ?_
          refine TL_nil ?_
          refine X_then ?_
          refine T_seq ?_
          refine T_region ?_
          refine TL_q (Qt_move (.pointer _) rfl) rfl ?_
          refine TL_frontB x15.1 ?_
          refine TL_e rfl (Ef_call (folded_c (b := x15.2) (k := 3 + 1) (by omega) (by rw [h15]; omega)) rfl (fun x50 => ?_))
          refine TL_q (Qt_move (.tuple _) rfl) rfl ?_
          refine TL_q (Qt_extract rfl) rfl ?_
          refine TL_q (Qt_extract rfl) rfl ?_
          refine TL_q (Qt_assign (.int .i64 _) rfl) rfl ?_
          refine TL_q (Qt_assign (.int .i64 _) rfl) rfl ?_
          refine TL_nil ?_
          refine X_then ?_
          refine T_seq ?_
          refine T_seq ?_
          refine T_region ?_
          refine TL_q (Qt_move (.int .i64 _) rfl) rfl ?_
          refine TL_q (Qt_neq rfl rfl) rfl ?_
          refine TL_nil ?_
          refine X_then ?_
          refine T_cond rfl (fun h54 => ?_) (fun h54 => ?_)
          ·
            have p54 := h54
            try simp only [decide_eq_true_eq, decide_eq_false_iff_not, Bool.not_eq_true', Bool.not_eq_false', Option.isNone_iff_eq_none, ne_eq, Decidable.not_not, Int.not_lt, Int.not_le] at p54
            refine T_seq ?_
            refine T_region ?_
            refine TL_q (Qt_build [] rfl (by kernel_rfl)) rfl ?_
            refine TL_q (Qt_move (.int .i64 _) rfl) rfl ?_
            refine TL_n (Ef_storeN rfl rfl (?_))
            refine TL_q (Qt_assign (.int .i64 _) rfl) rfl ?_
            refine TL_nil ?_
            refine X_then ?_
            refine T_ret ?_
            refine X_then_ret ?_
            refine X_block_ret ?_
            refine X_then_ret ?_
            refine X_again_ret ?_
            refine X_block_ret ?_
            refine X_then_ret ?_
            have e : textG l = ((rdPacked (x15.2.l.drop (3 + 1))).1, .zero) := by rw [← h15]; unfold textG; rw [if_neg (by omega), if_pos p54]
            rw [e]
            exact X_ret ReqV.zero [_, _] Try.results88 ⟨⟨_, rfl, res_cellN rfl⟩, rfl, trivial⟩ rfl (fun w hw => (Subs.st inferInstance w hw : St w0 H w).addPure ⟨rfl, rfl⟩)
          ·
            have p54 := h54
            try simp only [decide_eq_true_eq, decide_eq_false_iff_not, Bool.not_eq_true', Bool.not_eq_false', Option.isNone_iff_eq_none, ne_eq, Decidable.not_not, Int.not_lt, Int.not_le] at p54
            have z1 : (rdPacked (x15.2.l.drop (3 + 1))).1 = 0 := by omega
            rw [if_pos z1]
            refine T_skip ?_
            refine X_then ?_
            refine T_region ?_
            refine TL_q (Qt_move (.pointer _) rfl) rfl ?_
            refine TL_q (Qt_move (.int .i64 _) rfl) rfl ?_
            refine TL_q (Qt_nilCheck rfl) rfl ?_
            refine TL_n (Ef_store1 (.int .i64 _) rfl rfl (?_))
            refine TL_nil ?_
            refine X_block ?_
            refine X_then ?_
            refine T_region ?_
            first
              | refine TL_q (Qt_add rfl rfl (by omega) (by omega)) rfl ?_
              | refine TL_q (Qt_addw rfl rfl) rfl ?_
            refine TL_q (Qt_move (.int .i64 _) rfl) rfl ?_
            refine TL_nil ?_
            refine X_again (TU_round ?_)
            refine T_seq ?_
            refine T_region ?_
            refine TL_q (Qt_lss rfl rfl) rfl ?_
            refine TL_nil ?_
            refine X_then ?_
            refine T_seq ?_
            refine T_cond_true rfl (by first | rfl | decide) ?_
            refine T_skip ?_
            refine X_then ?_
            refine T_seq ?_
            refine T_block ?_
            refine T_seq ?_
            refine T_region ?_
            refine TL_q (Qt_index (_) rfl rfl Try.underlying163 (by omega) (by omega) (rfl)) rfl ?_
            refine TL_q (Qt_assign (.pointer _) rfl) rfl ?_
            refine TL_nil ?_
            refine X_then ?_
            refine T_seq ?_
            refine T_region ?_
            refine TL_q (Qt_move (.pointer _) rfl) rfl ?_
            refine TL_frontB x15.1 ?_
            refine TL_e rfl (Ef_call (folded_c (b := x15.2) (k := (3 + 1 + (rdPacked (x15.2.l.drop (3 + 1))).2.2)) (by have := (rdPacked_bound (x15.2.l.drop (3 + 1))).2.1; rw [List.length_drop] at this; omega) (by rw [h15]; omega)) rfl (fun x50 => ?_))
            refine TL_q (Qt_move (.tuple _) rfl) rfl ?_
            refine TL_q (Qt_extract rfl) rfl ?_
            refine TL_q (Qt_extract rfl) rfl ?_
            refine TL_q (Qt_assign (.int .i64 _) rfl) rfl ?_
            refine TL_q (Qt_assign (.int .i64 _) rfl) rfl ?_
            refine TL_nil ?_
            refine X_then ?_
            refine T_seq ?_
            refine T_seq ?_
            refine T_region ?_
            refine TL_q (Qt_move (.int .i64 _) rfl) rfl ?_
            refine TL_q (Qt_neq rfl rfl) rfl ?_
            refine TL_nil ?_
            refine X_then ?_
            refine T_cond rfl (fun h54 => ?_) (fun h54 => ?_)
            ·
              have p54 := h54
              try simp only [decide_eq_true_eq, decide_eq_false_iff_not, Bool.not_eq_true', Bool.not_eq_false', Option.isNone_iff_eq_none, ne_eq, Decidable.not_not, Int.not_lt, Int.not_le] at p54
              refine T_seq ?_
              refine T_region ?_
              refine TL_q (Qt_build [] rfl (by kernel_rfl)) rfl ?_
              refine TL_q (Qt_move (.int .i64 _) rfl) rfl ?_
              refine TL_n (Ef_storeN rfl rfl (?_))
              refine TL_q (Qt_assign (.int .i64 _) rfl) rfl ?_
              refine TL_nil ?_
              refine X_then ?_
              refine T_ret ?_
              refine X_then_ret ?_
              refine X_block_ret ?_
              refine X_then_ret ?_
              refine X_again_ret ?_
              refine X_block_ret ?_
              refine X_then_ret ?_
              have e : textG l = ((rdPacked (x15.2.l.drop (3 + 1 + (rdPacked (x15.2.l.drop (3 + 1))).2.2))).1, .zero) := by rw [← h15]; unfold textG; rw [if_neg (by omega), if_neg (by simpa using z1), if_pos p54]
              rw [e]
              exact X_ret ReqV.zero [_, _] Try.results88 ⟨⟨_, rfl, res_cellN rfl⟩, rfl, trivial⟩ rfl (fun w hw => (Subs.st inferInstance w hw : St w0 H w).addPure ⟨rfl, rfl⟩)
            ·
              have p54 := h54
              try simp only [decide_eq_true_eq, decide_eq_false_iff_not, Bool.not_eq_true', Bool.not_eq_false', Option.isNone_iff_eq_none, ne_eq, Decidable.not_not, Int.not_lt, Int.not_le] at p54
              have z2 : (rdPacked (x15.2.l.drop (3 + 1 + (rdPacked (x15.2.l.drop (3 + 1))).2.2))).1 = 0 := by omega
              rw [if_pos z2]
              refine T_skip ?_
              refine X_then ?_
              refine T_region ?_
              refine TL_q (Qt_move (.pointer _) rfl) rfl ?_
              refine TL_q (Qt_move (.int .i64 _) rfl) rfl ?_
              refine TL_q (Qt_nilCheck rfl) rfl ?_
              refine TL_n (Ef_store1 (.int .i64 _) rfl rfl (?_))
              refine TL_nil ?_
              refine X_block ?_
              refine X_then ?_
              refine T_region ?_
              first
                | refine TL_q (Qt_add rfl rfl (by omega) (by omega)) rfl ?_
                | refine TL_q (Qt_addw rfl rfl) rfl ?_
              refine TL_q (Qt_move (.int .i64 _) rfl) rfl ?_
              refine TL_nil ?_
              refine X_again (TU_round ?_)
              refine T_seq ?_
              refine T_region ?_
              refine TL_q (Qt_lss rfl rfl) rfl ?_
              refine TL_nil ?_
              refine X_then ?_
              refine T_seq ?_
              refine T_cond_false rfl (by first | rfl | decide) ?_
              refine T_exit ?_
              refine X_then_exit ?_
              refine X_again_exit ?_
              refine X_block_exit ?_
              refine X_then ?_
              refine T_seq ?_
              refine T_draw (blk b5 (.cells (ReqV.mk (u0.toNat : Int) (u1.toNat : Int) ⟨(u2.toNat : Int), (u3.toNat : Int), unfoldN (rdPacked (x15.2.l.drop (3 + 1))).2.1, unfoldN (rdPacked (x15.2.l.drop (3 + 1 + (rdPacked (x15.2.l.drop (3 + 1))).2.2))).2.1⟩ ⟨none, 0, []⟩).cells 104 (0, 0)) :: H) [(0, true), (1, true), (2, false), (3, false), (4, true)] (by kernel_rfl) (by kernel_rfl) rfl (by kernel_rfl) (Subs.st inferInstance) (fun hns0 => ?_)
              refine DL_q hns0 rfl (Qt_loadN rfl rfl) rfl ?_
              refine DL_q hns0 rfl (Qt_move (.pointer _) rfl) rfl ?_
              refine DL_frontB x15.1 ?_
              refine DL_e rfl rfl (Ef_call (done_c (b := x15.2) (k := (3 + 1 + (rdPacked (x15.2.l.drop (3 + 1))).2.2) + (rdPacked (x15.2.l.drop (3 + 1 + (rdPacked (x15.2.l.drop (3 + 1))).2.2))).2.2) (by have h1 := (rdPacked_bound (x15.2.l.drop (3 + 1))).2.1; have h2 := (rdPacked_bound (x15.2.l.drop (3 + 1 + (rdPacked (x15.2.l.drop (3 + 1))).2.2))).2.1; rw [List.length_drop] at h1 h2; omega) (by rw [h15]; omega)) rfl (fun x63 => ⟨(Subs.st inferInstance), ?_⟩))
              refine DL_n rfl (Ef_storeN rfl rfl (⟨(Subs.st inferInstance), ?_⟩))
              refine DL_q hns0 rfl (Qt_assign (.int .i64 _) rfl) rfl ?_
              refine DL_nil ?_
              refine X_then ?_
              refine T_ret ?_
              have e : textG l = ((if (3 + 1 + (rdPacked (x15.2.l.drop (3 + 1))).2.2) + (rdPacked (x15.2.l.drop (3 + 1 + (rdPacked (x15.2.l.drop (3 + 1))).2.2))).2.2 < x15.2.l.length then (2 : Int) else 0), (ReqV.mk (u0.toNat : Int) (u1.toNat : Int) ⟨(u2.toNat : Int), (u3.toNat : Int), unfoldN (rdPacked (x15.2.l.drop (3 + 1))).2.1, unfoldN (rdPacked (x15.2.l.drop (3 + 1 + (rdPacked (x15.2.l.drop (3 + 1))).2.2))).2.1⟩ ⟨none, 0, []⟩).abs) := by
                rw [← h15]; unfold textG; rw [if_neg (by omega), if_neg (by simpa using z1), if_neg (by simpa using z2), hv0, hv1, hv2, hv3]; rfl
              rw [e]
              exact X_ret (ReqV.mk (u0.toNat : Int) (u1.toNat : Int) ⟨(u2.toNat : Int), (u3.toNat : Int), unfoldN (rdPacked (x15.2.l.drop (3 + 1))).2.1, unfoldN (rdPacked (x15.2.l.drop (3 + 1 + (rdPacked (x15.2.l.drop (3 + 1))).2.2))).2.1⟩ ⟨none, 0, []⟩) [_, _] Try.results88 ⟨⟨_, rfl, res_cellN rfl⟩, rfl, trivial⟩ rfl (fun w hw => (Subs.st inferInstance w hw : St w0 H w).addPure ⟨rfl, rfl⟩)
set_option maxHeartbeats 1000000 in
theorem getQ_c {w0 : World} {H : List SA} {a : Option Addr} {l : List UInt8} {c : Nat} [hr : RdB w0 H (.slice a l.length c) l] (hl : l.length ≤ 4294967296) :
    CT Try.prog w0 (H) 73 [.slice a l.length c] (α := ReqV) (fun y => .tuple #[.agg y.cells, .int .i64 (getG l).1]) (fun y => pu (y.abs = (getG l).2) :: row (.slice y.sig.a (y.sig.l).length y.sig.c) 5 1 (bytesV (y.sig.l)) :: H) := by
  refine CT_intro Try.func73 rfl Try.ntmps73 rfl ?_
  refine T_seq ?_
  refine T_region ?_
  refine TL_e rfl (Ef_allocN (fun b2 => ?_))
  refine TL_q (Qt_assign (.int .i64 _) rfl) rfl ?_
  refine TL_nil ?_
  refine X_then ?_
  refine T_seq ?_
  refine T_region ?_
  refine TL_q (Qt_move (.slice _ _ _) rfl) rfl ?_
  refine TL_e rfl (Ef_call (rnew_c hl) rfl (fun x9 => ?_))
  refine TL_pure (fun h9 => ?_)
  have hlen := congrArg List.length h9
  refine TL_q (Qt_assign (.pointer _) rfl) rfl ?_
  refine TL_nil ?_
  refine X_then ?_
  refine T_seq ?_
  refine T_region ?_
  refine TL_q (Qt_move (.pointer _) rfl) rfl ?_
  refine TL_frontB x9.1 ?_
  refine TL_e rfl (Ef_call (text_c (b := x9.2) (k := 0) (m := 100) (by omega) (by rw [h9]; omega) (by decide)) rfl (fun x12 => ?_))
  rw [List.drop_zero]
  obtain ⟨hb1, hb2⟩ := rdText_bound x9.2.l 100
  refine TL_q (Qt_move (.tuple _) rfl) rfl ?_
  refine TL_q (Qt_extract rfl) rfl ?_
  refine TL_q (Qt_extract rfl) rfl ?_
  refine TL_q (Qt_assign (.slice _ _ _) rfl) rfl ?_
  refine TL_q (Qt_assign (.int .i64 _) rfl) rfl ?_
  refine TL_nil ?_
  refine X_then ?_
  refine T_seq ?_
  refine T_seq ?_
  refine T_region ?_
  refine TL_q (Qt_move (.int .i64 _) rfl) rfl ?_
  refine TL_q (Qt_neq rfl rfl) rfl ?_
  refine TL_nil ?_
  refine X_then ?_
  refine T_cond rfl (fun h16 => ?_) (fun h16 => ?_)
  ·
    have p16 := h16
    try simp only [decide_eq_true_eq, decide_eq_false_iff_not, Bool.not_eq_true', Bool.not_eq_false', Option.isNone_iff_eq_none, ne_eq, Decidable.not_not, Int.not_lt, Int.not_le] at p16
    refine T_seq ?_
    refine T_region ?_
    refine TL_q (Qt_build [] rfl (by kernel_rfl)) rfl ?_
    refine TL_q (Qt_move (.int .i64 _) rfl) rfl ?_
    refine TL_n (Ef_storeN rfl rfl (?_))
    refine TL_q (Qt_assign (.int .i64 _) rfl) rfl ?_
    refine TL_nil ?_
    refine X_then ?_
    refine T_ret ?_
    refine X_then_ret ?_
    have e : getG l = ((rdText x9.2.l 100).1, .zero) := by
      rw [← h9]; unfold getG; rw [if_pos p16]
    rw [e]
    exact X_ret ReqV.zero [_, _] Try.results73 ⟨⟨_, rfl, res_cellN rfl⟩, rfl, trivial⟩ rfl (fun w hw => ((Subs.st inferInstance w hw : St w0 H w).addNilB 5).addPure rfl)
  ·
    have p16 := h16
    try simp only [decide_eq_true_eq, decide_eq_false_iff_not, Bool.not_eq_true', Bool.not_eq_false', Option.isNone_iff_eq_none, ne_eq, Decidable.not_not, Int.not_lt, Int.not_le] at p16
    refine T_skip ?_
    refine X_then ?_
    refine T_seq ?_
    refine T_region ?_
    refine TL_q (Qt_move (.slice _ _ _) rfl) rfl ?_
    refine TL_e rfl (Ef_call (textG_c (a := x12.a) (l := (rdText x9.2.l 100).2.1) (c := x12.c) (by omega)) rfl (fun x21 => ?_))
    refine TL_pure (fun h21 => ?_)
    obtain ⟨h21, h21s⟩ := h21
    have htsg := textG_sig (rdText x9.2.l 100).2.1
    refine TL_q (Qt_move (.tuple _) rfl) rfl ?_
    refine TL_q (Qt_extract rfl) rfl ?_
    refine TL_q (Qt_extract rfl) rfl ?_
    refine TL_e rfl (Ef_allocN (fun b7 => ?_))
    refine TL_n (Ef_storeN rfl rfl (?_))
    refine TL_q (Qt_assign (.int .i64 _) rfl) rfl ?_
    refine TL_nil ?_
    refine X_then ?_
    refine T_seq ?_
    refine T_seq ?_
    refine T_region ?_
    refine TL_q (Qt_move (.int .i64 _) rfl) rfl ?_
    refine TL_q (Qt_neq rfl rfl) rfl ?_
    refine TL_nil ?_
    refine X_then ?_
    refine T_cond rfl (fun h25 => ?_) (fun h25 => ?_)
    ·
      have p25 := h25
      try simp only [decide_eq_true_eq, decide_eq_false_iff_not, Bool.not_eq_true', Bool.not_eq_false', Option.isNone_iff_eq_none, ne_eq, Decidable.not_not, Int.not_lt, Int.not_le] at p25
      refine T_seq ?_
      refine T_region ?_
      refine TL_q (Qt_build [] rfl (by kernel_rfl)) rfl ?_
      refine TL_q (Qt_move (.int .i64 _) rfl) rfl ?_
      refine TL_n (Ef_storeN rfl rfl (?_))
      refine TL_q (Qt_assign (.int .i64 _) rfl) rfl ?_
      refine TL_nil ?_
      refine X_then ?_
      refine T_ret ?_
      refine X_then_ret ?_
      have e : getG l = ((textG (rdText x9.2.l 100).2.1).1, .zero) := by
        rw [← h9]; unfold getG; rw [if_neg (by omega), if_pos p25]
      rw [e]
      exact X_ret ReqV.zero [_, _] Try.results73 ⟨⟨_, rfl, res_cellN rfl⟩, rfl, trivial⟩ rfl (fun w hw => ((Subs.st inferInstance w hw : St w0 H w).addNilB 5).addPure rfl)
    ·
      have p25 := h25
      try simp only [decide_eq_true_eq, decide_eq_false_iff_not, Bool.not_eq_true', Bool.not_eq_false', Option.isNone_iff_eq_none, ne_eq, Decidable.not_not, Int.not_lt, Int.not_le] at p25
      refine T_skip ?_
      refine X_then ?_
      refine T_seq ?_
      refine T_seq ?_
      refine T_region ?_
      refine TL_q (Qt_move (.pointer _) rfl) rfl ?_
      refine TL_frontB x9.1 ?_
      refine TL_e rfl (Ef_call (text_c (b := x9.2) (k := 0 + (rdText x9.2.l 100).2.2) (m := 1000) (by omega) (by rw [h9]; omega) (by decide)) rfl (fun x30 => ?_))
      rw [Nat.zero_add]
      obtain ⟨hb3, hb4⟩ := rdText_bound (x9.2.l.drop (rdText x9.2.l 100).2.2) 1000
      rw [List.length_drop] at hb3 hb4
      refine TL_q (Qt_move (.tuple _) rfl) rfl ?_
      refine TL_q (Qt_extract rfl) rfl ?_
      refine TL_q (Qt_extract rfl) rfl ?_
      refine TL_q (Qt_fieldAddr 6 rfl rfl) rfl ?_
      refine TL_n (Ef_store1 (.slice _ _ _) rfl rfl (?_))
      refine TL_q (Qt_assign (.int .i64 _) rfl) rfl ?_
      refine TL_nil ?_
      refine X_then ?_
      refine T_seq ?_
      refine T_region ?_
      refine TL_q (Qt_move (.int .i64 _) rfl) rfl ?_
      refine TL_q (Qt_neq rfl rfl) rfl ?_
      refine TL_nil ?_
      refine X_then ?_
      refine T_cond rfl (fun h35 => ?_) (fun h35 => ?_)
      ·
        have p35 := h35
        try simp only [decide_eq_true_eq, decide_eq_false_iff_not, Bool.not_eq_true', Bool.not_eq_false', Option.isNone_iff_eq_none, ne_eq, Decidable.not_not, Int.not_lt, Int.not_le] at p35
        refine T_seq ?_
        refine T_region ?_
        refine TL_q (Qt_build [] rfl (by kernel_rfl)) rfl ?_
        refine TL_q (Qt_move (.int .i64 _) rfl) rfl ?_
        refine TL_n (Ef_storeN rfl rfl (?_))
        refine TL_q (Qt_assign (.int .i64 _) rfl) rfl ?_
        refine TL_nil ?_
        refine X_then ?_
        refine T_ret ?_
        refine X_then_ret ?_
        have e : getG l = ((rdText (x9.2.l.drop (rdText x9.2.l 100).2.2) 1000).1, .zero) := by
          rw [← h9]; unfold getG; rw [if_neg (by omega), if_neg (by omega), if_pos p35]
        rw [e]
        exact X_ret ReqV.zero [_, _] Try.results73 ⟨⟨_, rfl, res_cellN rfl⟩, rfl, trivial⟩ rfl (fun w hw => ((Subs.st inferInstance w hw : St w0 H w).addNilB 5).addPure rfl)
      ·
        have p35 := h35
        try simp only [decide_eq_true_eq, decide_eq_false_iff_not, Bool.not_eq_true', Bool.not_eq_false', Option.isNone_iff_eq_none, ne_eq, Decidable.not_not, Int.not_lt, Int.not_le] at p35
        refine T_skip ?_
        refine X_then ?_
        refine T_seq ?_
        refine T_block ?_
        refine T_seq ?_
        refine T_region ?_
        refine TL_q (Qt_move (.pointer _) rfl) rfl ?_
        refine TL_frontB x9.1 ?_
        refine TL_e rfl (Ef_call (done_c (b := x9.2) (k := (rdText x9.2.l 100).2.2 + (rdText (x9.2.l.drop (rdText x9.2.l 100).2.2) 1000).2.2) (by omega) (by rw [h9]; omega)) rfl (fun x40 => ?_))
        refine TL_q (Qt_neq rfl rfl) rfl ?_
        refine TL_q (Qt_assign (.bool _) rfl) rfl ?_
        refine TL_nil ?_
        refine X_then ?_
        refine T_cond rfl (fun h38 => ?_) (fun h38 => ?_)
        ·
          have p38 := h38
          try simp only [decide_eq_true_eq, decide_eq_false_iff_not, Bool.not_eq_true', Bool.not_eq_false', Option.isNone_iff_eq_none, ne_eq, Decidable.not_not, Int.not_lt, Int.not_le] at p38
          have hdn : (rdText x9.2.l 100).2.2 + (rdText (x9.2.l.drop (rdText x9.2.l 100).2.2) 1000).2.2 < x9.2.l.length := by by_cases hh : (rdText x9.2.l 100).2.2 + (rdText (x9.2.l.drop (rdText x9.2.l 100).2.2) 1000).2.2 < x9.2.l.length; exact hh; simp [hh] at h38
          refine T_seq ?_
          refine T_region ?_
          refine TL_q (Qt_build [] rfl (by kernel_rfl)) rfl ?_
          refine TL_n (Ef_storeN rfl rfl (?_))
          refine TL_q (Qt_assign (.int .i64 _) rfl) rfl ?_
          refine TL_nil ?_
          refine X_then ?_
          refine T_ret ?_
          refine X_block_ret ?_
          refine X_then_ret ?_
          have e : getG l = (2, .zero) := by
            rw [← h9]; unfold getG; rw [if_neg (by omega), if_neg (by omega), if_neg (by omega), if_pos hdn]
          rw [e]
          exact X_ret ReqV.zero [_, _] Try.results73 ⟨⟨_, rfl, res_cellN rfl⟩, rfl, trivial⟩ rfl (fun w hw => ((Subs.st inferInstance w hw : St w0 H w).addNilB 5).addPure rfl)
        ·
          have p38 := h38
          try simp only [decide_eq_true_eq, decide_eq_false_iff_not, Bool.not_eq_true', Bool.not_eq_false', Option.isNone_iff_eq_none, ne_eq, Decidable.not_not, Int.not_lt, Int.not_le] at p38
          have hdn : ¬ (rdText x9.2.l 100).2.2 + (rdText (x9.2.l.drop (rdText x9.2.l 100).2.2) 1000).2.2 < x9.2.l.length := by intro hh; simp [hh] at h38
          refine T_seq ?_
          refine T_region ?_
          refine TL_q (Qt_loadN rfl rfl) rfl ?_
          refine TL_e rfl (Ef_call (formedQ_c (r := (ReqV.mk x21.client x21.seq x21.op ⟨x30.a, x30.c, (rdText (x9.2.l.drop (rdText x9.2.l 100).2.2) 1000).2.1⟩))) rfl (fun x45 => ?_))
          refine TL_q (Qt_not rfl) rfl ?_
          refine TL_q (Qt_assign (.bool _) rfl) rfl ?_
          refine TL_nil ?_
          refine X_then ?_
          refine T_cond rfl (fun h43 => ?_) (fun h43 => ?_)
          ·
            have p43 := h43
            try simp only [decide_eq_true_eq, decide_eq_false_iff_not, Bool.not_eq_true', Bool.not_eq_false', Option.isNone_iff_eq_none, ne_eq, Decidable.not_not, Int.not_lt, Int.not_le] at p43
            refine T_seq ?_
            refine T_region ?_
            refine TL_q (Qt_build [] rfl (by kernel_rfl)) rfl ?_
            refine TL_n (Ef_storeN rfl rfl (?_))
            refine TL_q (Qt_assign (.int .i64 _) rfl) rfl ?_
            refine TL_nil ?_
            refine X_then ?_
            refine T_ret ?_
            refine X_block_ret ?_
            refine X_then_ret ?_
            have e : getG l = (15, .zero) := by
              rw [← h9]; unfold getG; rw [if_neg (by omega), if_neg (by omega), if_neg (by omega), if_neg hdn, if_pos (by rw [← h21]; have h : (!(formedQ (ReqV.mk x21.client x21.seq x21.op ⟨x30.a, x30.c, (rdText (x9.2.l.drop (rdText x9.2.l 100).2.2) 1000).2.1⟩).abs)) = true := h43; exact (Bool.not_eq_true' _).mp h)]
            rw [e]
            exact X_ret ReqV.zero [_, _] Try.results73 ⟨⟨_, rfl, res_cellN rfl⟩, rfl, trivial⟩ rfl (fun w hw => ((Subs.st inferInstance w hw : St w0 H w).addNilB 5).addPure rfl)
          ·
            have p43 := h43
            try simp only [decide_eq_true_eq, decide_eq_false_iff_not, Bool.not_eq_true', Bool.not_eq_false', Option.isNone_iff_eq_none, ne_eq, Decidable.not_not, Int.not_lt, Int.not_le] at p43
            refine T_skip ?_
            refine X_block ?_
            refine X_then ?_
            refine T_seq ?_
            refine T_region ?_
            refine TL_q (Qt_loadN rfl rfl) rfl ?_
            refine TL_n (Ef_storeN rfl rfl (?_))
            refine TL_q (Qt_assign (.int .i64 _) rfl) rfl ?_
            refine TL_nil ?_
            refine X_then ?_
            refine T_ret ?_
            have e : getG l = (0, { (textG (rdText x9.2.l 100).2.1).2 with sig := (rdText (x9.2.l.drop (rdText x9.2.l 100).2.2) 1000).2.1 }) := by
              rw [← h9]; unfold getG; rw [if_neg (by omega), if_neg (by omega), if_neg (by omega), if_neg hdn, if_neg (by rw [← h21]; intro hh; have h : (!(formedQ (ReqV.mk x21.client x21.seq x21.op ⟨x30.a, x30.c, (rdText (x9.2.l.drop (rdText x9.2.l 100).2.2) 1000).2.1⟩).abs)) = false := h43; rw [show formedQ (ReqV.mk x21.client x21.seq x21.op ⟨x30.a, x30.c, (rdText (x9.2.l.drop (rdText x9.2.l 100).2.2) 1000).2.1⟩).abs = false from hh] at h; cases h)]
            rw [e]
            exact X_ret (ReqV.mk x21.client x21.seq x21.op ⟨x30.a, x30.c, (rdText (x9.2.l.drop (rdText x9.2.l 100).2.2) 1000).2.1⟩) [_, _] Try.results73 ⟨⟨_, rfl, res_cellN rfl⟩, rfl, trivial⟩ rfl (fun w hw => (Subs.st inferInstance w hw : St w0 (row (.slice x30.a ((rdText (x9.2.l.drop (rdText x9.2.l 100).2.2) 1000).2.1).length x30.c) 5 1 (bytesV ((rdText (x9.2.l.drop (rdText x9.2.l 100).2.2) 1000).2.1)) :: H) w).addPure (by rw [← h21]; rfl))
end
end Go.Proofs.Ytnijomppbgdmnaa
