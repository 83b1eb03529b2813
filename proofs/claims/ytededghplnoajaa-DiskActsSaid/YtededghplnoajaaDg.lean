/- Walks: package disk: Rename, Delete; acts of the laws on disks. -/
import Derived.Test.YtededghplnoajaaDf
namespace Go.Proofs.Ytededghplnoajaa
open Go.RowKit Go.Sx
set_option maxRecDepth 100000
set_option linter.unusedSimpArgs false
set_option linter.unusedVariables false
set_option maxHeartbeats 1000000 in
theorem there_c {w0 : World} {H : List SA} {p : Nat} {s : DS} {nm : ByteArray} :
    CT Try.prog w0 (DS.H p s H) 50 [.pointer (some ⟨p, 0, none⟩), .string nm] (α := Unit) (fun _ => .bool (hasE s.e2 nm)) (fun _ => DS.H p s H) := by
  refine CT_intro Try.func50 rfl Try.ntmps50 rfl ?_
  refine T_seq ?_
  refine T_region ?_
  refine TL_q (Qt_assign (.bool _) rfl) rfl ?_
  refine TL_nil ?_
  refine X_then ?_
  refine T_seq ?_
  refine T_region ?_
  refine TL_q (Qt_move (.pointer _) rfl) rfl ?_
  refine TL_q (Qt_nilCheck rfl) rfl ?_
  refine TL_q (Qt_fieldAddr 2 rfl rfl) rfl ?_
  refine TL_q (Qt_load1 rfl) rfl ?_
  refine TL_q (Qt_move (.string _) rfl) rfl ?_
  refine TL_q (Qt_lookup2 (key := nm) (enc := encS) (ev := BS.val) (zB) rfl rfl Try.underlying61 bs_zero) rfl ?_
  refine TL_q (Qt_move (.tuple _) rfl) rfl ?_
  refine TL_q (Qt_extract rfl) rfl ?_
  refine TL_q (Qt_extract rfl) rfl ?_
  refine TL_q (Qt_assign (.slice _ _ _) rfl) rfl ?_
  refine TL_q (Qt_assign (.bool _) rfl) rfl ?_
  refine TL_nil ?_
  refine X_then ?_
  refine T_seq ?_
  refine T_region ?_
  refine TL_q (Qt_move (.bool _) rfl) rfl ?_
  refine TL_q (Qt_assign (.bool _) rfl) rfl ?_
  refine TL_nil ?_
  refine X_then ?_
  refine T_ret ?_
  exact X_ret () [_] Try.results50 ⟨rfl, trivial⟩ rfl (Subs.st inferInstance)
set_option maxHeartbeats 1000000 in
theorem rename_c {w0 : World} {H : List SA} {p : Nat} {s : DS} {N M : Nat} (hok : s.Ok N M) (hN : N ≤ 1000000) (hM : M ≤ 1000000000) {nm to : ByteArray} :
    CT Try.prog w0 (DS.H p s H) 33 [.pointer (some ⟨p, 0, none⟩), .string nm, .string to] (α := DS × Int) (fun y => .int .i64 y.2) (fun y => pu (MvR (⟨3, nm, to, ⟨none, 0, []⟩⟩ : ActV) (namedB nm && namedB to) s y.1 y.2) :: DS.H p y.1 H) := by
  refine CT_intro Try.func33 rfl Try.ntmps33 rfl ?_
  refine T_seq ?_
  refine T_region ?_
  refine TL_q (Qt_assign (.int .i64 _) rfl) rfl ?_
  refine TL_nil ?_
  refine X_then ?_
  refine T_seq ?_
  refine T_block ?_
  refine T_seq ?_
  refine T_region ?_
  refine TL_q (Qt_move (.pointer _) rfl) rfl ?_
  refine TL_q (Qt_ptr_nil rfl rfl Try.underlying28) rfl ?_
  refine TL_q (Qt_assign (.bool _) rfl) rfl ?_
  refine TL_nil ?_
  refine X_then ?_
  refine T_cond rfl (fun h7 => ?_) (fun h7 => ?_)
  ·
    have p7 := h7
    try simp only [decide_eq_true_eq, decide_eq_false_iff_not, Bool.not_eq_true', Bool.not_eq_false', Option.isNone_iff_eq_none, ne_eq, Decidable.not_not, Int.not_lt, Int.not_le] at p7
    cases h7
  ·
    have p7 := h7
    try simp only [decide_eq_true_eq, decide_eq_false_iff_not, Bool.not_eq_true', Bool.not_eq_false', Option.isNone_iff_eq_none, ne_eq, Decidable.not_not, Int.not_lt, Int.not_le] at p7
    refine T_seq ?_
    refine T_region ?_
    refine TL_q (Qt_move (.pointer _) rfl) rfl ?_
    refine TL_q (Qt_nilCheck rfl) rfl ?_
    refine TL_q (Qt_fieldAddr 5 rfl rfl) rfl ?_
    refine TL_q (Qt_load1 rfl) rfl ?_
    refine TL_q (Qt_assign (.bool _) rfl) rfl ?_
    refine TL_nil ?_
    refine X_then ?_
    refine T_cond rfl (fun h10 => ?_) (fun h10 => ?_)
    ·
      have p10 := h10
      try simp only [decide_eq_true_eq, decide_eq_false_iff_not, Bool.not_eq_true', Bool.not_eq_false', Option.isNone_iff_eq_none, ne_eq, Decidable.not_not, Int.not_lt, Int.not_le] at p10
      refine T_seq ?_
      refine T_region ?_
      refine TL_q (Qt_assign (.int .i64 _) rfl) rfl ?_
      refine TL_nil ?_
      refine X_then ?_
      refine T_ret ?_
      refine X_block_ret ?_
      refine X_then_ret ?_
      exact X_ret (s, 14) [_] Try.results33 ⟨rfl, trivial⟩ rfl (fun w hw => St.addPure (Subs.st inferInstance w hw) (.inl ⟨h10, rfl, rfl⟩))
    ·
      have p10 := h10
      try simp only [decide_eq_true_eq, decide_eq_false_iff_not, Bool.not_eq_true', Bool.not_eq_false', Option.isNone_iff_eq_none, ne_eq, Decidable.not_not, Int.not_lt, Int.not_le] at p10
      refine T_seq ?_
      refine T_region ?_
      refine TL_q (Qt_move (.string _) rfl) rfl ?_
      refine TL_e rfl (Ef_call (named_c) rfl (fun x17 => ?_))
      refine TL_q (Qt_not rfl) rfl ?_
      refine TL_q (Qt_move (.bool _) rfl) rfl ?_
      refine TL_split 19 rfl (fun h19 => ?_) (fun h19 => ?_)
      ·
        have p19 := h19
        try simp only [decide_eq_true_eq, decide_eq_false_iff_not, Bool.not_eq_true', Bool.not_eq_false', Option.isNone_iff_eq_none, ne_eq, Decidable.not_not, Int.not_lt, Int.not_le] at p19
        refine TL_pass rfl rfl h19 rfl ?_
        refine TL_pass rfl rfl h19 rfl ?_
        refine TL_pass rfl rfl h19 rfl ?_
        refine TL_q (Qt_pick_t (.bool _) rfl h19 rfl) rfl ?_
        refine TL_q (Qt_assign (.bool _) rfl) rfl ?_
        refine TL_nil ?_
        refine X_then ?_
        refine T_cond_true rfl rfl ?_
        refine T_seq ?_
        refine T_region ?_
        refine TL_q (Qt_assign (.int .i64 _) rfl) rfl ?_
        refine TL_nil ?_
        refine X_then ?_
        refine T_ret ?_
        refine X_block_ret ?_
        refine X_then_ret ?_
        exact X_ret (s, 15) [_] Try.results33 ⟨rfl, trivial⟩ rfl (fun w hw => St.addPure (Subs.st inferInstance w hw) (.inr (.inl ⟨h10, by simp_all, rfl, rfl⟩)))
      ·
        have p19 := h19
        try simp only [decide_eq_true_eq, decide_eq_false_iff_not, Bool.not_eq_true', Bool.not_eq_false', Option.isNone_iff_eq_none, ne_eq, Decidable.not_not, Int.not_lt, Int.not_le] at p19
        refine TL_take rfl rfl h19 ?_
        refine TL_q (Qt_move (.string _) rfl) rfl ?_
        refine TL_take rfl rfl h19 ?_
        refine TL_e rfl (Ef_call (named_c) rfl (fun x21 => ?_))
        refine TL_take rfl rfl h19 ?_
        refine TL_q (Qt_not rfl) rfl ?_
        refine TL_q (Qt_pick_f (.bool _) rfl h19 rfl) rfl ?_
        refine TL_q (Qt_assign (.bool _) rfl) rfl ?_
        refine TL_nil ?_
        refine X_then ?_
        refine T_cond rfl (fun h15 => ?_) (fun h15 => ?_)
        ·
          have p15 := h15
          try simp only [decide_eq_true_eq, decide_eq_false_iff_not, Bool.not_eq_true', Bool.not_eq_false', Option.isNone_iff_eq_none, ne_eq, Decidable.not_not, Int.not_lt, Int.not_le] at p15
          refine T_seq ?_
          refine T_region ?_
          refine TL_q (Qt_assign (.int .i64 _) rfl) rfl ?_
          refine TL_nil ?_
          refine X_then ?_
          refine T_ret ?_
          refine X_block_ret ?_
          refine X_then_ret ?_
          exact X_ret (s, 15) [_] Try.results33 ⟨rfl, trivial⟩ rfl (fun w hw => St.addPure (Subs.st inferInstance w hw) (.inr (.inl ⟨h10, by simp_all, rfl, rfl⟩)))
        ·
          have p15 := h15
          try simp only [decide_eq_true_eq, decide_eq_false_iff_not, Bool.not_eq_true', Bool.not_eq_false', Option.isNone_iff_eq_none, ne_eq, Decidable.not_not, Int.not_lt, Int.not_le] at p15
          refine T_seq ?_
          refine T_region ?_
          refine TL_q (Qt_move (.pointer _) rfl) rfl ?_
          refine TL_q (Qt_move (.string _) rfl) rfl ?_
          refine TL_e rfl (Ef_call (there_c (s := s)) rfl (fun x27 => ?_))
          refine TL_q (Qt_not rfl) rfl ?_
          refine TL_q (Qt_assign (.bool _) rfl) rfl ?_
          refine TL_nil ?_
          refine X_then ?_
          refine T_cond rfl (fun h24 => ?_) (fun h24 => ?_)
          ·
            have p24 := h24
            try simp only [decide_eq_true_eq, decide_eq_false_iff_not, Bool.not_eq_true', Bool.not_eq_false', Option.isNone_iff_eq_none, ne_eq, Decidable.not_not, Int.not_lt, Int.not_le] at p24
            refine T_seq ?_
            refine T_region ?_
            refine TL_q (Qt_assign (.int .i64 _) rfl) rfl ?_
            refine TL_nil ?_
            refine X_then ?_
            refine T_ret ?_
            refine X_block_ret ?_
            refine X_then_ret ?_
            exact X_ret (s, 13) [_] Try.results33 ⟨rfl, trivial⟩ rfl (fun w hw => St.addPure (Subs.st inferInstance w hw) (.inr (.inr (.inl ⟨h10, by simp_all, by simpa using h24, rfl, rfl⟩))))
          ·
            have p24 := h24
            try simp only [decide_eq_true_eq, decide_eq_false_iff_not, Bool.not_eq_true', Bool.not_eq_false', Option.isNone_iff_eq_none, ne_eq, Decidable.not_not, Int.not_lt, Int.not_le] at p24
            refine T_skip ?_
            refine X_block ?_
            refine X_then ?_
            refine T_seq ?_
            refine T_region ?_
            refine TL_q (Qt_move (.pointer _) rfl) rfl ?_
            refine TL_q (Qt_move (.string _) rfl) rfl ?_
            refine TL_q (Qt_move (.string _) rfl) rfl ?_
            refine TL_q (Qt_build [(0, (.int .i64 _)), (1, (.string _)), (2, (.string _))] rfl (by kernel_rfl)) rfl ?_
            refine TL_e rfl (Ef_call (ddo_c (s := s) hok hN (by omega) (a := ⟨3, nm, to, ⟨none, 0, []⟩⟩) hok.zero) rfl (fun x33 => ?_))
            refine TL_pure (fun hd => ?_)
            refine TL_q (Qt_assign (.int .i64 _) rfl) rfl ?_
            refine TL_nil ?_
            refine X_then ?_
            refine T_ret ?_
            exact X_ret x33 [_] Try.results33 ⟨rfl, trivial⟩ rfl (fun w hw => St.addPure (Subs.st inferInstance w hw) (.inr (.inr (.inr ⟨h10, by simp_all, by simpa using h24, hd⟩))))
set_option maxHeartbeats 1000000 in
theorem delete_c {w0 : World} {H : List SA} {p : Nat} {s : DS} {N M : Nat} (hok : s.Ok N M) (hN : N ≤ 1000000) (hM : M ≤ 1000000000) {nm : ByteArray} :
    CT Try.prog w0 (DS.H p s H) 34 [.pointer (some ⟨p, 0, none⟩), .string nm] (α := DS × Int) (fun y => .int .i64 y.2) (fun y => pu (MvR (⟨4, nm, ⟨#[]⟩, ⟨none, 0, []⟩⟩ : ActV) (namedB nm) s y.1 y.2) :: DS.H p y.1 H) := by
  refine CT_intro Try.func34 rfl Try.ntmps34 rfl ?_
  refine T_seq ?_
  refine T_region ?_
  refine TL_q (Qt_assign (.int .i64 _) rfl) rfl ?_
  refine TL_nil ?_
  refine X_then ?_
  refine T_seq ?_
  refine T_block ?_
  refine T_seq ?_
  refine T_region ?_
  refine TL_q (Qt_move (.pointer _) rfl) rfl ?_
  refine TL_q (Qt_ptr_nil rfl rfl Try.underlying28) rfl ?_
  refine TL_q (Qt_assign (.bool _) rfl) rfl ?_
  refine TL_nil ?_
  refine X_then ?_
  refine T_cond rfl (fun h5 => ?_) (fun h5 => ?_)
  ·
    have p5 := h5
    try simp only [decide_eq_true_eq, decide_eq_false_iff_not, Bool.not_eq_true', Bool.not_eq_false', Option.isNone_iff_eq_none, ne_eq, Decidable.not_not, Int.not_lt, Int.not_le] at p5
    cases h5
  ·
    have p5 := h5
    try simp only [decide_eq_true_eq, decide_eq_false_iff_not, Bool.not_eq_true', Bool.not_eq_false', Option.isNone_iff_eq_none, ne_eq, Decidable.not_not, Int.not_lt, Int.not_le] at p5
    refine T_seq ?_
    refine T_region ?_
    refine TL_q (Qt_move (.pointer _) rfl) rfl ?_
    refine TL_q (Qt_nilCheck rfl) rfl ?_
    refine TL_q (Qt_fieldAddr 5 rfl rfl) rfl ?_
    refine TL_q (Qt_load1 rfl) rfl ?_
    refine TL_q (Qt_assign (.bool _) rfl) rfl ?_
    refine TL_nil ?_
    refine X_then ?_
    refine T_cond rfl (fun h8 => ?_) (fun h8 => ?_)
    ·
      have p8 := h8
      try simp only [decide_eq_true_eq, decide_eq_false_iff_not, Bool.not_eq_true', Bool.not_eq_false', Option.isNone_iff_eq_none, ne_eq, Decidable.not_not, Int.not_lt, Int.not_le] at p8
      refine T_seq ?_
      refine T_region ?_
      refine TL_q (Qt_assign (.int .i64 _) rfl) rfl ?_
      refine TL_nil ?_
      refine X_then ?_
      refine T_ret ?_
      refine X_block_ret ?_
      refine X_then_ret ?_
      exact X_ret (s, 14) [_] Try.results34 ⟨rfl, trivial⟩ rfl (fun w hw => St.addPure (Subs.st inferInstance w hw) (.inl ⟨h8, rfl, rfl⟩))
    ·
      have p8 := h8
      try simp only [decide_eq_true_eq, decide_eq_false_iff_not, Bool.not_eq_true', Bool.not_eq_false', Option.isNone_iff_eq_none, ne_eq, Decidable.not_not, Int.not_lt, Int.not_le] at p8
      refine T_seq ?_
      refine T_region ?_
      refine TL_q (Qt_move (.string _) rfl) rfl ?_
      refine TL_e rfl (Ef_call (named_c) rfl (fun x15 => ?_))
      refine TL_q (Qt_not rfl) rfl ?_
      refine TL_q (Qt_assign (.bool _) rfl) rfl ?_
      refine TL_nil ?_
      refine X_then ?_
      refine T_cond rfl (fun h13 => ?_) (fun h13 => ?_)
      ·
        have p13 := h13
        try simp only [decide_eq_true_eq, decide_eq_false_iff_not, Bool.not_eq_true', Bool.not_eq_false', Option.isNone_iff_eq_none, ne_eq, Decidable.not_not, Int.not_lt, Int.not_le] at p13
        refine T_seq ?_
        refine T_region ?_
        refine TL_q (Qt_assign (.int .i64 _) rfl) rfl ?_
        refine TL_nil ?_
        refine X_then ?_
        refine T_ret ?_
        refine X_block_ret ?_
        refine X_then_ret ?_
        exact X_ret (s, 15) [_] Try.results34 ⟨rfl, trivial⟩ rfl (fun w hw => St.addPure (Subs.st inferInstance w hw) (.inr (.inl ⟨h8, by simpa using h13, rfl, rfl⟩)))
      ·
        have p13 := h13
        try simp only [decide_eq_true_eq, decide_eq_false_iff_not, Bool.not_eq_true', Bool.not_eq_false', Option.isNone_iff_eq_none, ne_eq, Decidable.not_not, Int.not_lt, Int.not_le] at p13
        refine T_seq ?_
        refine T_region ?_
        refine TL_q (Qt_move (.pointer _) rfl) rfl ?_
        refine TL_q (Qt_move (.string _) rfl) rfl ?_
        refine TL_e rfl (Ef_call (there_c (s := s)) rfl (fun x20 => ?_))
        refine TL_q (Qt_not rfl) rfl ?_
        refine TL_q (Qt_assign (.bool _) rfl) rfl ?_
        refine TL_nil ?_
        refine X_then ?_
        refine T_cond rfl (fun h17 => ?_) (fun h17 => ?_)
        ·
          have p17 := h17
          try simp only [decide_eq_true_eq, decide_eq_false_iff_not, Bool.not_eq_true', Bool.not_eq_false', Option.isNone_iff_eq_none, ne_eq, Decidable.not_not, Int.not_lt, Int.not_le] at p17
          refine T_seq ?_
          refine T_region ?_
          refine TL_q (Qt_assign (.int .i64 _) rfl) rfl ?_
          refine TL_nil ?_
          refine X_then ?_
          refine T_ret ?_
          refine X_block_ret ?_
          refine X_then_ret ?_
          exact X_ret (s, 13) [_] Try.results34 ⟨rfl, trivial⟩ rfl (fun w hw => St.addPure (Subs.st inferInstance w hw) (.inr (.inr (.inl ⟨h8, by simpa using h13, by simpa using h17, rfl, rfl⟩))))
        ·
          have p17 := h17
          try simp only [decide_eq_true_eq, decide_eq_false_iff_not, Bool.not_eq_true', Bool.not_eq_false', Option.isNone_iff_eq_none, ne_eq, Decidable.not_not, Int.not_lt, Int.not_le] at p17
          refine T_skip ?_
          refine X_block ?_
          refine X_then ?_
          refine T_seq ?_
          refine T_region ?_
          refine TL_q (Qt_move (.pointer _) rfl) rfl ?_
          refine TL_q (Qt_move (.string _) rfl) rfl ?_
          refine TL_q (Qt_build [(0, (.int .i64 _)), (1, (.string _))] rfl (by kernel_rfl)) rfl ?_
          refine TL_e rfl (Ef_call (ddo_c (s := s) hok hN (by omega) (a := ⟨4, nm, ⟨#[]⟩, ⟨none, 0, []⟩⟩) hok.zero) rfl (fun x25 => ?_))
          refine TL_pure (fun hd => ?_)
          refine TL_q (Qt_assign (.int .i64 _) rfl) rfl ?_
          refine TL_nil ?_
          refine X_then ?_
          refine T_ret ?_
          exact X_ret x25 [_] Try.results34 ⟨rfl, trivial⟩ rfl (fun w hw => St.addPure (Subs.st inferInstance w hw) (.inr (.inr (.inr ⟨h8, by simpa using h13, by simpa using h17, hd⟩))))
theorem MvR.ok {s s' : DS} {N M : Nat} {a : ActV} {ok : Bool} {e : Int} (h : MvR a ok s s' e) (hok : s.Ok N M) (ha : a.b = zB) : s'.Ok (N + 1) (M + 1000) := by
  have h1 := hok.mono (Nat.le_add_right N 1) (Nat.le_add_right M 1000)
  rcases h with ⟨-, -, rfl⟩ | ⟨-, -, -, rfl⟩ | ⟨-, -, -, -, rfl⟩ | ⟨-, -, -, hd⟩
  · exact h1
  · exact h1
  · exact h1
  · exact hd.ok hok (by rw [ha]; exact hok.zero) (by rw [ha]; exact Nat.zero_le _)
/-- What an act leaves of a disk, as far as it is asked. -/
def DoA (kind : Int) (nm to : ByteArray) (s s' : DS) : Prop :=
  (s.fuse = -1 → s.down = false → s'.fuse = -1 ∧ s'.down = false) ∧ s'.pend.length ≤ s.pend.length + 1 ∧
  (kind ≤ 3 → s'.e1 = s.e1 ∧ ∀ a ∈ s'.pend, a ∈ s.pend ∨ (a.name = nm ∧ (a.to = to ∨ a.to = ⟨#[]⟩)))
theorem burnF_neg {f : Int} (h : f = -1) : burnF f = -1 := by subst h; rfl
theorem DoR.doA {s s' : DS} {a : ActV} {e : Int} {kind : Int} {to : ByteArray} (h : DoR s a s' e) (ht : a.to = to ∨ a.to = ⟨#[]⟩) : DoA kind a.name to s s' := by
  rcases h with ⟨hb, -, rfl⟩ | ⟨-, -, x, pa, pc, fp, hx, rfl⟩
  · refine ⟨fun h1 h2 => ?_, Nat.le_succ _, fun _ => ⟨rfl, fun a ha => .inl ha⟩⟩
    rw [h1, h2] at hb; cases hb
  · refine ⟨fun h1 h2 => ⟨burnF_neg h1, rfl⟩, by show (s.pend ++ [a]).length ≤ _; simp, fun _ => ⟨rfl, fun b hb => ?_⟩⟩
    rcases List.mem_append.1 hb with h1 | h1
    · exact .inl h1
    · obtain rfl : b = a := by simpa using h1
      exact .inr ⟨rfl, ht⟩
theorem DoA.same {kind : Int} {nm to : ByteArray} {s : DS} : DoA kind nm to s s := ⟨fun h1 h2 => ⟨h1, h2⟩, Nat.le_succ _, fun _ => ⟨rfl, fun a ha => .inl ha⟩⟩
theorem AppR.doA {k : Int} {less : Nat} {s s' : DS} {nm to : ByteArray} {b : List UInt8} {e kind : Int} (h : AppR k less s nm b s' e) : DoA kind nm to s s' := by
  rcases h with ⟨-, -, rfl⟩ | ⟨-, -, -, rfl⟩ | ⟨-, -, -, -, rfl⟩ | ⟨-, -, -, cl, fp, hcl, hd⟩
  · exact DoA.same
  · exact DoA.same
  · exact DoA.same
  · exact hd.doA (to := to) (.inr rfl)
theorem MvR.doA {s s' : DS} {a : ActV} {ok : Bool} {e kind : Int} {to : ByteArray} (h : MvR a ok s s' e) (ht : a.to = to ∨ a.to = ⟨#[]⟩) : DoA kind a.name to s s' := by
  rcases h with ⟨-, -, rfl⟩ | ⟨-, -, -, rfl⟩ | ⟨-, -, -, -, rfl⟩ | ⟨-, -, -, hd⟩
  · exact DoA.same
  · exact DoA.same
  · exact DoA.same
  · exact hd.doA ht
theorem SyncR.doA {s s' : DS} {kind : Int} {nm to : ByteArray} (h : SyncR s s') (hk : 3 < kind) : DoA kind nm to s s' := by
  rcases h with ⟨hb, rfl⟩ | ⟨-, q1, q2, rfl⟩
  · refine ⟨fun h1 h2 => ?_, Nat.le_succ _, fun h => by omega⟩
    rw [h1, h2] at hb; cases hb
  · exact ⟨fun h1 h2 => ⟨burnF_neg h1, rfl⟩, Nat.zero_le _, fun h => by omega⟩
theorem CrashR.doA {s s' : DS} {N M kp : Nat} {torn kind : Int} {nm to : ByteArray} (h : CrashR s N M kp torn s') (hk : 3 < kind) : DoA kind nm to s s' := by
  obtain ⟨e1, c1, q, fp, bs, hc, rfl⟩ := h
  exact ⟨fun _ _ => ⟨rfl, rfl⟩, Nat.zero_le _, fun h => by omega⟩

set_option maxHeartbeats 1000000 in
theorem do10_c {w0 : World} {H : List SA} {p : Nat} {s : DS} {N M : Nat} (hok : s.Ok N M) (hN : N ≤ 1000000) (hM : M ≤ 1000000000) (hM0 : 1000 ≤ M) {kind : Int} {nm to : ByteArray} {b : BS} {kp : Nat} {torn cut n : Int} (hb : b.l.length ≤ 1000) (hkp : kp < 18446744073709551616) (hk5 : kind < 6) (hk0 : 0 ≤ kind) [rb : RdB w0 H (.slice b.a b.l.length b.c) b.l] :
    CT Try.prog w0 (DS.H p s H) 14 [.pointer (some ⟨p, 0, none⟩), .agg (RActV.mk kind nm to b (PlanV.mk (kp : Int) torn cut) n).cells] (α := DS × Int) (fun y => .tuple #[.pointer (some ⟨p, 0, none⟩), .int .i64 y.2]) (fun y => pu (DoA kind nm to s y.1 ∧ y.1.Ok (N + 1 + s.pend.length) (M + 1000 * (1 + s.pend.length))) :: DS.H p y.1 H) := by
  refine CT_intro Try.func14 rfl Try.ntmps14 rfl ?_
  refine T_seq ?_
  refine T_region ?_
  refine TL_e rfl (Ef_boxN rfl (fun b3 => ?_))
  refine TL_q (Qt_assign (.pointer _) rfl) rfl ?_
  refine TL_q (Qt_assign (.int .i64 _) rfl) rfl ?_
  refine TL_nil ?_
  refine X_then ?_
  refine T_seq ?_
  refine T_seq ?_
  refine T_region ?_
  refine TL_q (Qt_fieldAddr 0 rfl rfl) rfl ?_
  refine TL_q (Qt_load1 rfl) rfl ?_
  refine TL_nil ?_
  refine X_then ?_
  refine T_block ?_
  refine T_seq ?_
  refine T_region ?_
  refine TL_q (Qt_eql rfl rfl) rfl ?_
  refine TL_q (Qt_assign (.bool _) rfl) rfl ?_
  refine TL_nil ?_
  refine X_then ?_
  refine T_cond rfl (fun h8 => ?_) (fun h8 => ?_)
  ·
    have p8 := h8
    try simp only [decide_eq_true_eq, decide_eq_false_iff_not, Bool.not_eq_true', Bool.not_eq_false', Option.isNone_iff_eq_none, ne_eq, Decidable.not_not, Int.not_lt, Int.not_le] at p8
    refine T_seq ?_
    refine T_region ?_
    refine TL_q (Qt_move (.pointer _) rfl) rfl ?_
    refine TL_q (Qt_move (.pointer _) rfl) rfl ?_
    refine TL_q (Qt_fieldAddr 1 rfl rfl) rfl ?_
    refine TL_q (Qt_load1 rfl) rfl ?_
    refine TL_q (Qt_fieldAddr 3 rfl rfl) rfl ?_
    refine TL_q (Qt_load1 rfl) rfl ?_
    refine TL_conv (fun w hw => (Subs.st inferInstance w hw : St w0 (DS.H p s (blk b3 (.cells (RActV.mk kind nm to b (PlanV.mk (kp : Int) torn cut) n).cells 34 (0, 0)) :: H)) w)) ?_
    refine TL_e rfl (Ef_call (append_c (p := p) (s := s) hok hN (by omega) (nm := nm) (b := b) hb (by omega)) rfl (fun x16 => ?_))
    refine TL_pure (fun h16 => ?_)
    refine TL_q (Qt_assign (.pointer _) rfl) rfl ?_
    refine TL_q (Qt_assign (.int .i64 _) rfl) rfl ?_
    refine TL_nil ?_
    refine X_then ?_
    refine T_ret ?_
    refine X_block_ret ?_
    refine X_then_ret ?_
    exact X_ret (x16.1, x16.2) [_, _] Try.results14 ⟨rfl, rfl, trivial⟩ rfl (fun w hw => St.addPure (Subs.st inferInstance w hw) ⟨h16.doA, (h16.ok hok hb (by omega)).mono (by omega) (by omega)⟩)
  ·
    have p8 := h8
    try simp only [decide_eq_true_eq, decide_eq_false_iff_not, Bool.not_eq_true', Bool.not_eq_false', Option.isNone_iff_eq_none, ne_eq, Decidable.not_not, Int.not_lt, Int.not_le] at p8
    refine T_seq ?_
    refine T_region ?_
    refine TL_q (Qt_eql rfl rfl) rfl ?_
    refine TL_q (Qt_assign (.bool _) rfl) rfl ?_
    refine TL_nil ?_
    refine X_then ?_
    refine T_cond rfl (fun h17 => ?_) (fun h17 => ?_)
    ·
      have p17 := h17
      try simp only [decide_eq_true_eq, decide_eq_false_iff_not, Bool.not_eq_true', Bool.not_eq_false', Option.isNone_iff_eq_none, ne_eq, Decidable.not_not, Int.not_lt, Int.not_le] at p17
      refine T_seq ?_
      refine T_region ?_
      refine TL_q (Qt_move (.pointer _) rfl) rfl ?_
      refine TL_q (Qt_move (.pointer _) rfl) rfl ?_
      refine TL_q (Qt_fieldAddr 1 rfl rfl) rfl ?_
      refine TL_q (Qt_load1 rfl) rfl ?_
      refine TL_q (Qt_fieldAddr 3 rfl rfl) rfl ?_
      refine TL_q (Qt_load1 rfl) rfl ?_
      refine TL_conv (fun w hw => (Subs.st inferInstance w hw : St w0 (DS.H p s (blk b3 (.cells (RActV.mk kind nm to b (PlanV.mk (kp : Int) torn cut) n).cells 34 (0, 0)) :: H)) w)) ?_
      refine TL_e rfl (Ef_call (write_c (p := p) (s := s) hok hN (by omega) (nm := nm) (b := b) hb (by omega)) rfl (fun x25 => ?_))
      refine TL_pure (fun h25 => ?_)
      refine TL_q (Qt_assign (.pointer _) rfl) rfl ?_
      refine TL_q (Qt_assign (.int .i64 _) rfl) rfl ?_
      refine TL_nil ?_
      refine X_then ?_
      refine T_ret ?_
      refine X_block_ret ?_
      refine X_then_ret ?_
      exact X_ret (x25.1, x25.2) [_, _] Try.results14 ⟨rfl, rfl, trivial⟩ rfl (fun w hw => St.addPure (Subs.st inferInstance w hw) ⟨h25.doA, (h25.ok hok hb (by omega)).mono (by omega) (by omega)⟩)
    ·
      have p17 := h17
      try simp only [decide_eq_true_eq, decide_eq_false_iff_not, Bool.not_eq_true', Bool.not_eq_false', Option.isNone_iff_eq_none, ne_eq, Decidable.not_not, Int.not_lt, Int.not_le] at p17
      refine T_seq ?_
      refine T_region ?_
      refine TL_q (Qt_eql rfl rfl) rfl ?_
      refine TL_q (Qt_assign (.bool _) rfl) rfl ?_
      refine TL_nil ?_
      refine X_then ?_
      refine T_cond rfl (fun h26 => ?_) (fun h26 => ?_)
      ·
        have p26 := h26
        try simp only [decide_eq_true_eq, decide_eq_false_iff_not, Bool.not_eq_true', Bool.not_eq_false', Option.isNone_iff_eq_none, ne_eq, Decidable.not_not, Int.not_lt, Int.not_le] at p26
        refine T_seq ?_
        refine T_region ?_
        refine TL_q (Qt_move (.pointer _) rfl) rfl ?_
        refine TL_q (Qt_move (.pointer _) rfl) rfl ?_
        refine TL_q (Qt_fieldAddr 1 rfl rfl) rfl ?_
        refine TL_q (Qt_load1 rfl) rfl ?_
        refine TL_q (Qt_fieldAddr 2 rfl rfl) rfl ?_
        refine TL_q (Qt_load1 rfl) rfl ?_
        refine TL_conv (fun w hw => (Subs.st inferInstance w hw : St w0 (DS.H p s (blk b3 (.cells (RActV.mk kind nm to b (PlanV.mk (kp : Int) torn cut) n).cells 34 (0, 0)) :: H)) w)) ?_
        refine TL_e rfl (Ef_call (rename_c (p := p) (s := s) hok hN hM (nm := nm) (to := to)) rfl (fun x34 => ?_))
        refine TL_pure (fun h34 => ?_)
        refine TL_q (Qt_assign (.pointer _) rfl) rfl ?_
        refine TL_q (Qt_assign (.int .i64 _) rfl) rfl ?_
        refine TL_nil ?_
        refine X_then ?_
        refine T_ret ?_
        refine X_block_ret ?_
        refine X_then_ret ?_
        exact X_ret (x34.1, x34.2) [_, _] Try.results14 ⟨rfl, rfl, trivial⟩ rfl (fun w hw => St.addPure (Subs.st inferInstance w hw) ⟨h34.doA (.inl rfl), (h34.ok hok rfl).mono (by omega) (by omega)⟩)
      ·
        have p26 := h26
        try simp only [decide_eq_true_eq, decide_eq_false_iff_not, Bool.not_eq_true', Bool.not_eq_false', Option.isNone_iff_eq_none, ne_eq, Decidable.not_not, Int.not_lt, Int.not_le] at p26
        refine T_seq ?_
        refine T_region ?_
        refine TL_q (Qt_eql rfl rfl) rfl ?_
        refine TL_q (Qt_assign (.bool _) rfl) rfl ?_
        refine TL_nil ?_
        refine X_then ?_
        refine T_cond rfl (fun h35 => ?_) (fun h35 => ?_)
        ·
          have p35 := h35
          try simp only [decide_eq_true_eq, decide_eq_false_iff_not, Bool.not_eq_true', Bool.not_eq_false', Option.isNone_iff_eq_none, ne_eq, Decidable.not_not, Int.not_lt, Int.not_le] at p35
          refine T_seq ?_
          refine T_region ?_
          refine TL_q (Qt_move (.pointer _) rfl) rfl ?_
          refine TL_q (Qt_move (.pointer _) rfl) rfl ?_
          refine TL_q (Qt_fieldAddr 1 rfl rfl) rfl ?_
          refine TL_q (Qt_load1 rfl) rfl ?_
          refine TL_conv (fun w hw => (Subs.st inferInstance w hw : St w0 (DS.H p s (blk b3 (.cells (RActV.mk kind nm to b (PlanV.mk (kp : Int) torn cut) n).cells 34 (0, 0)) :: H)) w)) ?_
          refine TL_e rfl (Ef_call (delete_c (p := p) (s := s) hok hN hM (nm := nm)) rfl (fun x41 => ?_))
          refine TL_pure (fun h41 => ?_)
          refine TL_q (Qt_assign (.pointer _) rfl) rfl ?_
          refine TL_q (Qt_assign (.int .i64 _) rfl) rfl ?_
          refine TL_nil ?_
          refine X_then ?_
          refine T_ret ?_
          refine X_block_ret ?_
          refine X_then_ret ?_
          exact X_ret (x41.1, x41.2) [_, _] Try.results14 ⟨rfl, rfl, trivial⟩ rfl (fun w hw => St.addPure (Subs.st inferInstance w hw) ⟨h41.doA (.inr rfl), (h41.ok hok rfl).mono (by omega) (by omega)⟩)
        ·
          have p35 := h35
          try simp only [decide_eq_true_eq, decide_eq_false_iff_not, Bool.not_eq_true', Bool.not_eq_false', Option.isNone_iff_eq_none, ne_eq, Decidable.not_not, Int.not_lt, Int.not_le] at p35
          refine T_seq ?_
          refine T_region ?_
          refine TL_q (Qt_eql rfl rfl) rfl ?_
          refine TL_q (Qt_assign (.bool _) rfl) rfl ?_
          refine TL_nil ?_
          refine X_then ?_
          refine T_cond rfl (fun h42 => ?_) (fun h42 => ?_)
          ·
            have p42 := h42
            try simp only [decide_eq_true_eq, decide_eq_false_iff_not, Bool.not_eq_true', Bool.not_eq_false', Option.isNone_iff_eq_none, ne_eq, Decidable.not_not, Int.not_lt, Int.not_le] at p42
            refine T_region ?_
            refine TL_q (Qt_move (.pointer _) rfl) rfl ?_
            refine TL_conv (fun w hw => (Subs.st inferInstance w hw : St w0 (DS.H p s (blk b3 (.cells (RActV.mk kind nm to b (PlanV.mk (kp : Int) torn cut) n).cells 34 (0, 0)) :: H)) w)) ?_
            refine TL_e rfl (Ef_call (sync_c (p := p) (s := s) hok hN (by omega)) rfl (fun x45 => ?_))
            refine TL_pure (fun h45 => ?_)
            refine TL_nil ?_
            refine X_block ?_
            refine X_then ?_
            refine T_seq ?_
            refine T_region ?_
            refine TL_q (Qt_move (.pointer _) rfl) rfl ?_
            refine TL_q (Qt_assign (.pointer _) rfl) rfl ?_
            refine TL_q (Qt_assign (.int .i64 _) rfl) rfl ?_
            refine TL_nil ?_
            refine X_then ?_
            refine T_ret ?_
            exact X_ret (x45, 0) [_, _] Try.results14 ⟨rfl, rfl, trivial⟩ rfl (fun w hw => St.addPure (Subs.st inferInstance w hw) ⟨h45.doA (by omega), (h45.ok hok).mono (by omega) (by omega)⟩)
          ·
            have p42 := h42
            try simp only [decide_eq_true_eq, decide_eq_false_iff_not, Bool.not_eq_true', Bool.not_eq_false', Option.isNone_iff_eq_none, ne_eq, Decidable.not_not, Int.not_lt, Int.not_le] at p42
            refine T_seq ?_
            refine T_region ?_
            refine TL_q (Qt_eql rfl rfl) rfl ?_
            refine TL_q (Qt_assign (.bool _) rfl) rfl ?_
            refine TL_nil ?_
            refine X_then ?_
            refine T_cond rfl (fun h46 => ?_) (fun h46 => ?_)
            ·
              have p46 := h46
              try simp only [decide_eq_true_eq, decide_eq_false_iff_not, Bool.not_eq_true', Bool.not_eq_false', Option.isNone_iff_eq_none, ne_eq, Decidable.not_not, Int.not_lt, Int.not_le] at p46
              refine T_region ?_
              refine TL_q (Qt_move (.pointer _) rfl) rfl ?_
              refine TL_q (Qt_fieldAddr 4 rfl rfl) rfl ?_
              refine TL_q (Qt_loadN rfl rfl) rfl ?_
              refine TL_conv (fun w hw => (Subs.st inferInstance w hw : St w0 (DS.H p s (blk b3 (.cells (RActV.mk kind nm to b (PlanV.mk (kp : Int) torn cut) n).cells 34 (0, 0)) :: H)) w)) ?_
              refine TL_e rfl (Ef_call (crash_c (p := p) (s := s) hok hN hM (kp := kp) (torn := torn) (cut := cut) hkp) rfl (fun x51 => ?_))
              refine TL_pure (fun h51 => ?_)
              refine TL_nil ?_
              refine X_block ?_
              refine X_then ?_
              refine T_seq ?_
              refine T_region ?_
              refine TL_q (Qt_move (.pointer _) rfl) rfl ?_
              refine TL_q (Qt_assign (.pointer _) rfl) rfl ?_
              refine TL_q (Qt_assign (.int .i64 _) rfl) rfl ?_
              refine TL_nil ?_
              refine X_then ?_
              refine T_ret ?_
              exact X_ret (x51, 0) [_, _] Try.results14 ⟨rfl, rfl, trivial⟩ rfl (fun w hw => St.addPure (Subs.st inferInstance w hw) ⟨h51.doA (by omega), (h51.ok hok).mono (by omega) (by omega)⟩)
            ·
              have p46 := h46
              try simp only [decide_eq_true_eq, decide_eq_false_iff_not, Bool.not_eq_true', Bool.not_eq_false', Option.isNone_iff_eq_none, ne_eq, Decidable.not_not, Int.not_lt, Int.not_le] at p46
              refine T_seq ?_
              refine T_region ?_
              refine TL_q (Qt_eql rfl rfl) rfl ?_
              refine TL_q (Qt_assign (.bool _) rfl) rfl ?_
              refine TL_nil ?_
              refine X_then ?_
              refine T_cond rfl (fun h52 => ?_) (fun h52 => ?_)
              ·
                have p52 := h52
                try simp only [decide_eq_true_eq, decide_eq_false_iff_not, Bool.not_eq_true', Bool.not_eq_false', Option.isNone_iff_eq_none, ne_eq, Decidable.not_not, Int.not_lt, Int.not_le] at p52
                exfalso; omega
              ·
                have p52 := h52
                try simp only [decide_eq_true_eq, decide_eq_false_iff_not, Bool.not_eq_true', Bool.not_eq_false', Option.isNone_iff_eq_none, ne_eq, Decidable.not_not, Int.not_lt, Int.not_le] at p52
                refine T_seq ?_
                refine T_region ?_
                refine TL_q (Qt_eql rfl rfl) rfl ?_
                refine TL_q (Qt_assign (.bool _) rfl) rfl ?_
                refine TL_nil ?_
                refine X_then ?_
                refine T_cond rfl (fun h56 => ?_) (fun h56 => ?_)
                ·
                  have p56 := h56
                  try simp only [decide_eq_true_eq, decide_eq_false_iff_not, Bool.not_eq_true', Bool.not_eq_false', Option.isNone_iff_eq_none, ne_eq, Decidable.not_not, Int.not_lt, Int.not_le] at p56
                  exfalso; omega
                ·
                  have p56 := h56
                  try simp only [decide_eq_true_eq, decide_eq_false_iff_not, Bool.not_eq_true', Bool.not_eq_false', Option.isNone_iff_eq_none, ne_eq, Decidable.not_not, Int.not_lt, Int.not_le] at p56
                  exfalso; omega
theorem do10R_c {w0 : World} {H : List SA} {p : Nat} {s : DS} {N M : Nat} (hok : s.Ok N M) (hN : N ≤ 1000000) (hM : M ≤ 1000000000) (hM0 : 1000 ≤ M) {ra : RActV} (hb : ra.b.l.length ≤ 1000) (hkp : 0 ≤ ra.p.keep ∧ ra.p.keep < 18446744073709551616) (hk5 : ra.kind < 6) (hk0 : 0 ≤ ra.kind) [rb : RdB w0 H (.slice ra.b.a ra.b.l.length ra.b.c) ra.b.l] :
    CT Try.prog w0 (DS.H p s H) 14 [.pointer (some ⟨p, 0, none⟩), .agg ra.cells] (α := DS × Int) (fun y => .tuple #[.pointer (some ⟨p, 0, none⟩), .int .i64 y.2]) (fun y => pu (DoA ra.kind ra.name ra.to s y.1 ∧ y.1.Ok (N + 1 + s.pend.length) (M + 1000 * (1 + s.pend.length))) :: DS.H p y.1 H) := by
  obtain ⟨kind, nm, to, b, ⟨keep, torn, cut⟩, n⟩ := ra
  obtain ⟨kp, hk⟩ := Int.eq_ofNat_of_zero_le hkp.1
  simp only at hk hkp
  subst hk
  exact do10_c hok hN hM hM0 hb (by omega) hk5 hk0
def rightA (k : Int) : Bool := decide (0 ≤ k ∧ k ≤ 7)
set_option maxHeartbeats 1000000 in
theorem right10_c {w0 : World} {H : List SA} {a : RActV} :
    CT Try.prog w0 (H) 13 [.agg a.cells] (α := Unit) (fun _ => .bool (rightA a.kind)) (fun _ => H) := by
  refine CT_intro Try.func13 rfl Try.ntmps13 rfl ?_
  refine T_seq ?_
  refine T_region ?_
  refine TL_e rfl (Ef_boxN rfl (fun b1 => ?_))
  refine TL_q (Qt_assign (.bool _) rfl) rfl ?_
  refine TL_nil ?_
  refine X_then ?_
  refine T_seq ?_
  refine T_region ?_
  refine TL_q (Qt_fieldAddr 0 rfl rfl) rfl ?_
  refine TL_q (Qt_load1 rfl) rfl ?_
  refine TL_q (Qt_geq rfl rfl) rfl ?_
  refine TL_q (Qt_move (.bool _) rfl) rfl ?_
  refine TL_split 6 rfl (fun h6 => ?_) (fun h6 => ?_)
  ·
    have p6 := h6
    try simp only [decide_eq_true_eq, decide_eq_false_iff_not, Bool.not_eq_true', Bool.not_eq_false', Option.isNone_iff_eq_none, ne_eq, Decidable.not_not, Int.not_lt, Int.not_le] at p6
    refine TL_take rfl rfl h6 ?_
    refine TL_q (Qt_fieldAddr 0 rfl rfl) rfl ?_
    refine TL_take rfl rfl h6 ?_
    refine TL_q (Qt_load1 rfl) rfl ?_
    refine TL_take rfl rfl h6 ?_
    refine TL_q (Qt_leq rfl rfl) rfl ?_
    refine TL_q (Qt_pick_t (.bool _) rfl h6 rfl) rfl ?_
    refine TL_q (Qt_assign (.bool _) rfl) rfl ?_
    refine TL_nil ?_
    refine X_then ?_
    refine T_ret ?_
    refine X_ret () [.bool (rightA a.kind)] Try.results13 ⟨?_, trivial⟩ rfl (Subs.st inferInstance)
    refine congrArg Value.bool ?_
    rw [Bool.eq_iff_iff]
    simp only [rightA, decide_eq_true_eq, Bool.false_eq_true, false_iff]
    omega
  ·
    have p6 := h6
    try simp only [decide_eq_true_eq, decide_eq_false_iff_not, Bool.not_eq_true', Bool.not_eq_false', Option.isNone_iff_eq_none, ne_eq, Decidable.not_not, Int.not_lt, Int.not_le] at p6
    refine TL_pass rfl rfl h6 rfl ?_
    refine TL_pass rfl rfl h6 rfl ?_
    refine TL_pass rfl rfl h6 rfl ?_
    refine TL_q (Qt_pick_f (.bool _) rfl h6 rfl) rfl ?_
    refine TL_q (Qt_assign (.bool _) rfl) rfl ?_
    refine TL_nil ?_
    refine X_then ?_
    refine T_ret ?_
    refine X_ret () [.bool (rightA a.kind)] Try.results13 ⟨?_, trivial⟩ rfl (Subs.st inferInstance)
    refine congrArg Value.bool ?_
    rw [Bool.eq_iff_iff]
    simp only [rightA, decide_eq_true_eq, Bool.false_eq_true, false_iff]
    omega
theorem act_get (l : List RActV) (i j : Nat) (hi : i < l.length) (hj : j < 8) {u : Value} (h : CellAt l[i].cells j u) : (l.flatMap RActV.list)[i * 8 + j]? = some u := by
  rw [flat_get RActV.list 8 RActV.list_len l i j hi hj]
  exact cell_list (l := l[i].list) h
theorem act_pos {l : List RActV} {i : Nat} (hi : i < l.length) : 0 < (l.flatMap RActV.list).length := by rw [flat_len _ 8 RActV.list_len]; omega
def ShortA (l : List RActV) : Prop := l.length ≤ 80 ∧ ∀ a ∈ l, a.b.l.length ≤ 300

set_option maxHeartbeats 1000000 in
theorem long10_c {w0 : World} {H : List SA} {a : Option Addr} {l : List RActV} {c : Nat} [hr : RdC w0 H (.slice a l.length c) 8 (l.flatMap RActV.list)] :
    CT Try.prog w0 (H) 10 [.slice a l.length c] (α := Bool) (fun b => .bool b) (fun b => pu (b = false → ShortA l) :: H) := by
  refine CT_intro Try.func10 rfl Try.ntmps10 rfl ?_
  refine T_seq ?_
  refine T_region ?_
  refine TL_q (Qt_assign (.bool _) rfl) rfl ?_
  refine TL_nil ?_
  refine X_then ?_
  refine T_seq ?_
  refine T_seq ?_
  refine T_region ?_
  refine TL_q (Qt_move (.slice _ _ _) rfl) rfl ?_
  refine TL_q (Qt_len_slice rfl Try.underlying22) rfl ?_
  refine TL_q (Qt_gtr rfl rfl) rfl ?_
  refine TL_nil ?_
  refine X_then ?_
  refine T_cond rfl (fun h6 => ?_) (fun h6 => ?_)
  ·
    have p6 := h6
    try simp only [decide_eq_true_eq, decide_eq_false_iff_not, Bool.not_eq_true', Bool.not_eq_false', Option.isNone_iff_eq_none, ne_eq, Decidable.not_not, Int.not_lt, Int.not_le] at p6
    refine T_seq ?_
    refine T_region ?_
    refine TL_q (Qt_assign (.bool _) rfl) rfl ?_
    refine TL_nil ?_
    refine X_then ?_
    refine T_ret ?_
    refine X_then_ret ?_
    exact X_ret true [_] Try.results10 ⟨rfl, trivial⟩ rfl (fun w hw => (Subs.st inferInstance w hw : St w0 H w).addPure (fun h => by cases h))
  ·
    have p6 := h6
    try simp only [decide_eq_true_eq, decide_eq_false_iff_not, Bool.not_eq_true', Bool.not_eq_false', Option.isNone_iff_eq_none, ne_eq, Decidable.not_not, Int.not_lt, Int.not_le] at p6
    refine T_skip ?_
    refine X_then ?_
    refine T_seq ?_
    refine T_seq ?_
    refine T_region ?_
    refine TL_q (Qt_move (.slice _ _ _) rfl) rfl ?_
    refine TL_q (Qt_len_slice rfl Try.underlying22) rfl ?_
    refine TL_q (Qt_move (.int .i64 _) rfl) rfl ?_
    refine TL_nil ?_
    refine X_then ?_
    refine T_block ?_
    refine T_loop [2, 3, 9, 10, 11, 12, 13, 14, 15, 16, 17, 18, 19, 20, 21, 22, 23, 24, 25, 26, 27, 28, 29, 30, 31, 32, 33, 34, 35, 36, 37] [9] (fun us H' => ∃ (k : Nat), us = [.int .i64 (k : Int)] ∧ H = H' ∧ k ≤ l.length ∧ (∀ (i : Nat) (hi : i < l.length), i < k → l[i].b.l.length ≤ 300)) (fun us => match us with | .int _ i :: _ => l.length - i.toNat | _ => 0) ⟨0, rfl, rfl, by omega, fun i hi h => by omega⟩ (Subs.st inferInstance) ?_
    rintro τ0 _ _  ⟨k, rfl, rfl, hk0, hpre⟩ _
    refine T_seq ?_
    refine T_region ?_
    refine TL_q (Qt_lss rfl rfl) rfl ?_
    refine TL_nil ?_
    refine X_then ?_
    refine T_seq ?_
    refine T_cond rfl (fun h10 => ?_) (fun h10 => ?_)
    ·
      have p10 := h10
      try simp only [decide_eq_true_eq, decide_eq_false_iff_not, Bool.not_eq_true', Bool.not_eq_false', Option.isNone_iff_eq_none, ne_eq, Decidable.not_not, Int.not_lt, Int.not_le] at p10
      have hk : k < l.length := by omega
      refine T_skip ?_
      refine X_then ?_
      refine T_seq ?_
      refine T_block ?_
      refine T_seq ?_
      refine T_region ?_
      refine TL_q (Qt_move (.int .i64 _) rfl) rfl ?_
      refine TL_q (Qt_assign (.int .i64 _) rfl) rfl ?_
      refine TL_nil ?_
      refine X_then ?_
      refine T_seq ?_
      refine T_region ?_
      refine TL_q (Qt_move (.slice _ _ _) rfl) rfl ?_
      refine TL_q (Qt_move (.int .i64 _) rfl) rfl ?_
      refine TL_q (Qt_indexN rfl rfl (by omega) (by omega)) rfl ?_
      refine TL_q (Qt_fieldR rfl 8 (act_pos hk)) rfl ?_
      refine TL_q (Qt_loadRs 8 (.slice _ _ _) rfl (act_get l k 3 hk (by decide) inferInstance)) rfl ?_
      refine TL_q (Qt_len_slice rfl Try.underlying32) rfl ?_
      refine TL_q (Qt_gtr rfl rfl) rfl ?_
      refine TL_q (Qt_move (.bool _) rfl) rfl ?_
      refine TL_split 19 rfl (fun h19 => ?_) (fun h19 => ?_)
      ·
        have p19 := h19
        try simp only [decide_eq_true_eq, decide_eq_false_iff_not, Bool.not_eq_true', Bool.not_eq_false', Option.isNone_iff_eq_none, ne_eq, Decidable.not_not, Int.not_lt, Int.not_le] at p19
        refine TL_pass rfl rfl h19 rfl ?_
        refine TL_pass rfl rfl h19 rfl ?_
        refine TL_pass rfl rfl h19 rfl ?_
        refine TL_pass rfl rfl h19 rfl ?_
        refine TL_pass rfl rfl h19 rfl ?_
        refine TL_pass rfl rfl h19 rfl ?_
        refine TL_pass rfl rfl h19 rfl ?_
        refine TL_q (Qt_pick_t (.bool _) rfl h19 rfl) rfl ?_
        refine TL_q (Qt_move (.bool _) rfl) rfl ?_
        refine TL_pass rfl rfl rfl rfl ?_
        refine TL_pass rfl rfl rfl rfl ?_
        refine TL_pass rfl rfl rfl rfl ?_
        refine TL_pass rfl rfl rfl rfl ?_
        refine TL_pass rfl rfl rfl rfl ?_
        refine TL_pass rfl rfl rfl rfl ?_
        refine TL_pass rfl rfl rfl rfl ?_
        refine TL_q (Qt_pick_t (.bool _) rfl rfl rfl) rfl ?_
        refine TL_nil ?_
        refine X_then ?_
        refine T_cond_true rfl rfl ?_
        refine T_seq ?_
        refine T_region ?_
        refine TL_q (Qt_assign (.bool _) rfl) rfl ?_
        refine TL_nil ?_
        refine X_then ?_
        refine T_ret ?_
        refine X_block_ret ?_
        refine X_then_ret ?_
        refine X_loop_ret ?_
        refine X_block_ret ?_
        refine X_then_ret ?_
        exact X_ret true [_] Try.results10 ⟨rfl, trivial⟩ rfl (fun w hw => (Subs.st inferInstance w hw : St w0 H w).addPure (fun h => by cases h))
      ·
        have p19 := h19
        try simp only [decide_eq_true_eq, decide_eq_false_iff_not, Bool.not_eq_true', Bool.not_eq_false', Option.isNone_iff_eq_none, ne_eq, Decidable.not_not, Int.not_lt, Int.not_le] at p19
        refine TL_take rfl rfl h19 ?_
        refine TL_q (Qt_move (.slice _ _ _) rfl) rfl ?_
        refine TL_take rfl rfl h19 ?_
        refine TL_q (Qt_move (.int .i64 _) rfl) rfl ?_
        refine TL_take rfl rfl h19 ?_
        refine TL_q (Qt_indexN rfl rfl (by omega) (by omega)) rfl ?_
        refine TL_take rfl rfl h19 ?_
        refine TL_q (Qt_fieldR rfl 8 (act_pos hk)) rfl ?_
        refine TL_take rfl rfl h19 ?_
        refine TL_q (Qt_loadRs 8 (.string _) rfl (act_get l k 1 hk (by decide) inferInstance)) rfl ?_
        refine TL_take rfl rfl h19 ?_
        refine TL_q (Qt_len_string rfl Try.underlying9) rfl ?_
        refine TL_take rfl rfl h19 ?_
        refine TL_q (Qt_gtr rfl rfl) rfl ?_
        refine TL_q (Qt_pick_f (.bool _) rfl h19 rfl) rfl ?_
        refine TL_q (Qt_move (.bool _) rfl) rfl ?_
        refine TL_split 28 rfl (fun h28 => ?_) (fun h28 => ?_)
        ·
          have p28 := h28
          try simp only [decide_eq_true_eq, decide_eq_false_iff_not, Bool.not_eq_true', Bool.not_eq_false', Option.isNone_iff_eq_none, ne_eq, Decidable.not_not, Int.not_lt, Int.not_le] at p28
          refine TL_pass rfl rfl h28 rfl ?_
          refine TL_pass rfl rfl h28 rfl ?_
          refine TL_pass rfl rfl h28 rfl ?_
          refine TL_pass rfl rfl h28 rfl ?_
          refine TL_pass rfl rfl h28 rfl ?_
          refine TL_pass rfl rfl h28 rfl ?_
          refine TL_pass rfl rfl h28 rfl ?_
          refine TL_q (Qt_pick_t (.bool _) rfl h28 rfl) rfl ?_
          refine TL_nil ?_
          refine X_then ?_
          refine T_cond_true rfl rfl ?_
          refine T_seq ?_
          refine T_region ?_
          refine TL_q (Qt_assign (.bool _) rfl) rfl ?_
          refine TL_nil ?_
          refine X_then ?_
          refine T_ret ?_
          refine X_block_ret ?_
          refine X_then_ret ?_
          refine X_loop_ret ?_
          refine X_block_ret ?_
          refine X_then_ret ?_
          exact X_ret true [_] Try.results10 ⟨rfl, trivial⟩ rfl (fun w hw => (Subs.st inferInstance w hw : St w0 H w).addPure (fun h => by cases h))
        ·
          have p28 := h28
          try simp only [decide_eq_true_eq, decide_eq_false_iff_not, Bool.not_eq_true', Bool.not_eq_false', Option.isNone_iff_eq_none, ne_eq, Decidable.not_not, Int.not_lt, Int.not_le] at p28
          refine TL_take rfl rfl h28 ?_
          refine TL_q (Qt_move (.slice _ _ _) rfl) rfl ?_
          refine TL_take rfl rfl h28 ?_
          refine TL_q (Qt_move (.int .i64 _) rfl) rfl ?_
          refine TL_take rfl rfl h28 ?_
          refine TL_q (Qt_indexN rfl rfl (by omega) (by omega)) rfl ?_
          refine TL_take rfl rfl h28 ?_
          refine TL_q (Qt_fieldR rfl 8 (act_pos hk)) rfl ?_
          refine TL_take rfl rfl h28 ?_
          refine TL_q (Qt_loadRs 8 (.string _) rfl (act_get l k 2 hk (by decide) inferInstance)) rfl ?_
          refine TL_take rfl rfl h28 ?_
          refine TL_q (Qt_len_string rfl Try.underlying9) rfl ?_
          refine TL_take rfl rfl h28 ?_
          refine TL_q (Qt_gtr rfl rfl) rfl ?_
          refine TL_q (Qt_pick_f (.bool _) rfl h28 rfl) rfl ?_
          refine TL_nil ?_
          refine X_then ?_
          refine T_cond rfl (fun h36 => ?_) (fun h36 => ?_)
          ·
            have p36 := h36
            try simp only [decide_eq_true_eq, decide_eq_false_iff_not, Bool.not_eq_true', Bool.not_eq_false', Option.isNone_iff_eq_none, ne_eq, Decidable.not_not, Int.not_lt, Int.not_le] at p36
            refine T_seq ?_
            refine T_region ?_
            refine TL_q (Qt_assign (.bool _) rfl) rfl ?_
            refine TL_nil ?_
            refine X_then ?_
            refine T_ret ?_
            refine X_block_ret ?_
            refine X_then_ret ?_
            refine X_loop_ret ?_
            refine X_block_ret ?_
            refine X_then_ret ?_
            exact X_ret true [_] Try.results10 ⟨rfl, trivial⟩ rfl (fun w hw => (Subs.st inferInstance w hw : St w0 H w).addPure (fun h => by cases h))
          ·
            have p36 := h36
            try simp only [decide_eq_true_eq, decide_eq_false_iff_not, Bool.not_eq_true', Bool.not_eq_false', Option.isNone_iff_eq_none, ne_eq, Decidable.not_not, Int.not_lt, Int.not_le] at p36
            have hone : l[k].b.l.length ≤ 300 := by omega
            refine T_skip ?_
            refine X_block ?_
            refine X_then ?_
            refine T_region ?_
            first
              | refine TL_q (Qt_add rfl rfl (by omega) (by omega)) rfl ?_
              | refine TL_q (Qt_addw rfl rfl) rfl ?_
            refine TL_q (Qt_move (.int .i64 _) rfl) rfl ?_
            refine TL_nil ?_
            apply X_loop
            case ha => exact (by repeat (first | with_reducible exact agree_refl | refine agree_upd rfl ?_ | refine agree_mix rfl ?_ | refine agree_setAll rfl ?_))
            case hI => exact ⟨k + 1, rfl, rfl, by omega, fun i hi h => by rcases Nat.lt_or_ge i k with h1 | h1; exact hpre i hi h1; obtain rfl : i = k := (by omega); exact hone⟩
            case hm => exact by show l.length - (k + 1 : Int).toNat < l.length - (k : Int).toNat; omega
            case hH => exact (Subs.st inferInstance)
    ·
      have p10 := h10
      try simp only [decide_eq_true_eq, decide_eq_false_iff_not, Bool.not_eq_true', Bool.not_eq_false', Option.isNone_iff_eq_none, ne_eq, Decidable.not_not, Int.not_lt, Int.not_le] at p10
      refine T_exit ?_
      refine X_then_exit ?_
      refine X_loop_exit ?_
      refine X_block_exit ?_
      refine X_then ?_
      refine T_seq ?_
      refine T_region ?_
      refine TL_q (Qt_assign (.bool _) rfl) rfl ?_
      refine TL_nil ?_
      refine X_then ?_
      refine T_ret ?_
      exact X_ret false [_] Try.results10 ⟨rfl, trivial⟩ rfl (fun w hw => (Subs.st inferInstance w hw : St w0 H w).addPure (fun _ => ⟨by omega, fun a ha => by obtain ⟨i, hi, rfl⟩ := List.getElem_of_mem ha; exact hpre i hi (by omega)⟩))
end Go.Proofs.Ytededghplnoajaa
