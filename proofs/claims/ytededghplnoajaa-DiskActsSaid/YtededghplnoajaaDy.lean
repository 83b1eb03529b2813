/- Walks: acts done to a disk and to the reference; the law DiskCopy. -/
import Derived.Test.YtededghplnoajaaDx
namespace Go.Proofs.Ytededghplnoajaa
open Go.RowKit Go.Sx
set_option maxRecDepth 100000
set_option linter.unusedSimpArgs false
set_option linter.unusedVariables false
theorem StepX.sub {N M : Nat} {ra : RActV} {s s' : DS} {e : Int} (h : StepX N M ra s s' e) : ∀ x ∈ s.bs, x ∈ s'.bs := by
  rcases h with ⟨-, -, kp, -, hc⟩ | ⟨h5, hs⟩
  · exact hc.sub
  · rcases hs with ⟨-, hs⟩ | ⟨-, hs⟩ | ⟨-, hs⟩ | ⟨-, hs⟩ | ⟨-, -, hs⟩ | ⟨h6, -⟩ | ⟨-, -, q1, q2, pa, pc, rfl⟩ | ⟨-, -, rfl⟩
    · exact hs.sub
    · exact hs.sub
    · exact hs.sub
    · exact hs.sub
    · exact hs.sub
    · exact absurd h6 h5
    · exact fun _ h => h
    · exact fun _ h => h
/-- What the reference may read: heads of the acts' bytes. -/
def srcL (l : List RActV) (b : BS) : Prop := ∃ x ∈ l, ∃ m, b = ⟨x.b.a, x.b.c, x.b.l.take m⟩
theorem srcL_rd {w0 : World} {H : List SA} {l : List RActV} (h : ∀ x ∈ l, RdB w0 H (.slice x.b.a x.b.l.length x.b.c) x.b.l) : ∀ b : BS, srcL l b → RdB w0 H (.slice b.a b.l.length b.c) b.l := by
  rintro b ⟨x, hx, m, rfl⟩
  have := h x hx
  exact (RdB.takeI (a := x.b.a) (c := x.b.c) (l := x.b.l) (m := m) : RdB w0 H (.slice x.b.a (x.b.l.take m).length x.b.c) (x.b.l.take m))
theorem RdB.conv {w0 : World} {H H' : List SA} {v : Value} {l : List UInt8} (h : RdB w0 H v l) (hs : ∀ w, St w0 H' w → St w0 H w) : RdB w0 H' v l := ⟨fun w hw => h.rd w (hs w hw)⟩
theorem newR_ri (Src : BS → Prop) (n : Int) : RI Src (newR n) ⟨[], [], [], []⟩ 1000 0 := ⟨.inr rfl, (fun g hg => by cases hg), (fun a ha => by cases ha), Nat.zero_le _, (fun x hx => by cases hx), (fun a ha => by cases ha), Nat.zero_le _⟩
attribute [local irreducible] namesE roomOf

set_option maxHeartbeats 1000000 in
theorem do12_c {w0 : World} {H : List SA} {p : Nat} {s : DS} {N M : Nat} (hok : s.Ok N M) (hN : N ≤ 1000000) (hM : M ≤ 1000000000) (hM0 : 1000 ≤ M) {ra : RActV} (hb : ra.b.l.length ≤ 1000) (hk0 : 0 ≤ ra.kind ∧ ra.kind ≤ 7) {kp : Nat} (hkp : ra.p.keep = (kp : Int)) (hkl : kp < 18446744073709551616) [rb : RdB w0 H (.slice ra.b.a ra.b.l.length ra.b.c) ra.b.l] :
    CT Try.prog w0 (DS.H p s H) 14 [.pointer (some ⟨p, 0, none⟩), .agg ra.cells] (α := Nat × DS × Int) (fun y => .tuple #[.pointer (some ⟨y.1, 0, none⟩), .int .i64 y.2.2]) (fun y => pu (StepX N M ra s y.2.1 y.2.2 ∧ (ra.kind ≠ 6 → y.1 = p)) :: DS.H y.1 y.2.1 H) := by
  refine CT_intro Try.func14 rfl Try.ntmps14 rfl ?_
  refine T_seq ?_
  refine T_region ?_
  refine TL_e rfl (Ef_boxN rfl (fun b3 => ?_))
  refine TL_q (Qt_assign (.pointer _) rfl) rfl ?_
  refine TL_q (Qt_assign (.int .i64 _) rfl) rfl ?_
  refine TL_nil ?_
  refine X_then ?_
  refine T_seq ?_
  refine T_seq ?_
  refine T_region ?_
  refine TL_q (Qt_fieldAddr 0 rfl rfl) rfl ?_
  refine TL_q (Qt_load1 rfl) rfl ?_
  refine TL_nil ?_
  refine X_then ?_
  refine T_block ?_
  refine T_seq ?_
  refine T_region ?_
  refine TL_q (Qt_eql rfl rfl) rfl ?_
  refine TL_q (Qt_assign (.bool _) rfl) rfl ?_
  refine TL_nil ?_
  refine X_then ?_
  refine T_cond rfl (fun h8 => ?_) (fun h8 => ?_)
  ·
    have p8 := h8
    try simp only [decide_eq_true_eq, decide_eq_false_iff_not, Bool.not_eq_true', Bool.not_eq_false', Option.isNone_iff_eq_none, ne_eq, Decidable.not_not, Int.not_lt, Int.not_le] at p8
    refine T_seq ?_
    refine T_region ?_
    refine TL_q (Qt_move (.pointer _) rfl) rfl ?_
    refine TL_q (Qt_move (.pointer _) rfl) rfl ?_
    refine TL_q (Qt_fieldAddr 1 rfl rfl) rfl ?_
    refine TL_q (Qt_load1 rfl) rfl ?_
    refine TL_q (Qt_fieldAddr 3 rfl rfl) rfl ?_
    refine TL_q (Qt_load1 rfl) rfl ?_
    refine TL_conv (fun w hw => (Subs.st inferInstance w hw : St w0 (DS.H p s (blk b3 (.cells ra.cells 34 (0, 0)) :: H)) w)) ?_
    refine TL_e rfl (Ef_call (append_c (p := p) (s := s) hok hN (by omega) (nm := ra.name) (b := ra.b) hb (by omega)) rfl (fun x16 => ?_))
    refine TL_pure (fun h16 => ?_)
    refine TL_q (Qt_assign (.pointer _) rfl) rfl ?_
    refine TL_q (Qt_assign (.int .i64 _) rfl) rfl ?_
    refine TL_nil ?_
    refine X_then ?_
    refine T_ret ?_
    refine X_block_ret ?_
    refine X_then_ret ?_
    exact X_ret (p, x16.1, x16.2) [_, _] Try.results14 ⟨rfl, rfl, trivial⟩ rfl (fun w hw => St.addPure (Subs.st inferInstance w hw) ⟨.inr ⟨by omega, .inl ⟨by omega, h16⟩⟩, fun _ => rfl⟩)
  ·
    have p8 := h8
    try simp only [decide_eq_true_eq, decide_eq_false_iff_not, Bool.not_eq_true', Bool.not_eq_false', Option.isNone_iff_eq_none, ne_eq, Decidable.not_not, Int.not_lt, Int.not_le] at p8
    refine T_seq ?_
    refine T_region ?_
    refine TL_q (Qt_eql rfl rfl) rfl ?_
    refine TL_q (Qt_assign (.bool _) rfl) rfl ?_
    refine TL_nil ?_
    refine X_then ?_
    refine T_cond rfl (fun h17 => ?_) (fun h17 => ?_)
    ·
      have p17 := h17
      try simp only [decide_eq_true_eq, decide_eq_false_iff_not, Bool.not_eq_true', Bool.not_eq_false', Option.isNone_iff_eq_none, ne_eq, Decidable.not_not, Int.not_lt, Int.not_le] at p17
      refine T_seq ?_
      refine T_region ?_
      refine TL_q (Qt_move (.pointer _) rfl) rfl ?_
      refine TL_q (Qt_move (.pointer _) rfl) rfl ?_
      refine TL_q (Qt_fieldAddr 1 rfl rfl) rfl ?_
      refine TL_q (Qt_load1 rfl) rfl ?_
      refine TL_q (Qt_fieldAddr 3 rfl rfl) rfl ?_
      refine TL_q (Qt_load1 rfl) rfl ?_
      refine TL_conv (fun w hw => (Subs.st inferInstance w hw : St w0 (DS.H p s (blk b3 (.cells ra.cells 34 (0, 0)) :: H)) w)) ?_
      refine TL_e rfl (Ef_call (write_c (p := p) (s := s) hok hN (by omega) (nm := ra.name) (b := ra.b) hb (by omega)) rfl (fun x25 => ?_))
      refine TL_pure (fun h25 => ?_)
      refine TL_q (Qt_assign (.pointer _) rfl) rfl ?_
      refine TL_q (Qt_assign (.int .i64 _) rfl) rfl ?_
      refine TL_nil ?_
      refine X_then ?_
      refine T_ret ?_
      refine X_block_ret ?_
      refine X_then_ret ?_
      exact X_ret (p, x25.1, x25.2) [_, _] Try.results14 ⟨rfl, rfl, trivial⟩ rfl (fun w hw => St.addPure (Subs.st inferInstance w hw) ⟨.inr ⟨by omega, .inr (.inl ⟨by omega, h25⟩)⟩, fun _ => rfl⟩)
    ·
      have p17 := h17
      try simp only [decide_eq_true_eq, decide_eq_false_iff_not, Bool.not_eq_true', Bool.not_eq_false', Option.isNone_iff_eq_none, ne_eq, Decidable.not_not, Int.not_lt, Int.not_le] at p17
      refine T_seq ?_
      refine T_region ?_
      refine TL_q (Qt_eql rfl rfl) rfl ?_
      refine TL_q (Qt_assign (.bool _) rfl) rfl ?_
      refine TL_nil ?_
      refine X_then ?_
      refine T_cond rfl (fun h26 => ?_) (fun h26 => ?_)
      ·
        have p26 := h26
        try simp only [decide_eq_true_eq, decide_eq_false_iff_not, Bool.not_eq_true', Bool.not_eq_false', Option.isNone_iff_eq_none, ne_eq, Decidable.not_not, Int.not_lt, Int.not_le] at p26
        refine T_seq ?_
        refine T_region ?_
        refine TL_q (Qt_move (.pointer _) rfl) rfl ?_
        refine TL_q (Qt_move (.pointer _) rfl) rfl ?_
        refine TL_q (Qt_fieldAddr 1 rfl rfl) rfl ?_
        refine TL_q (Qt_load1 rfl) rfl ?_
        refine TL_q (Qt_fieldAddr 2 rfl rfl) rfl ?_
        refine TL_q (Qt_load1 rfl) rfl ?_
        refine TL_conv (fun w hw => (Subs.st inferInstance w hw : St w0 (DS.H p s (blk b3 (.cells ra.cells 34 (0, 0)) :: H)) w)) ?_
        refine TL_e rfl (Ef_call (rename_c (p := p) (s := s) hok hN hM (nm := ra.name) (to := ra.to)) rfl (fun x34 => ?_))
        refine TL_pure (fun h34 => ?_)
        refine TL_q (Qt_assign (.pointer _) rfl) rfl ?_
        refine TL_q (Qt_assign (.int .i64 _) rfl) rfl ?_
        refine TL_nil ?_
        refine X_then ?_
        refine T_ret ?_
        refine X_block_ret ?_
        refine X_then_ret ?_
        exact X_ret (p, x34.1, x34.2) [_, _] Try.results14 ⟨rfl, rfl, trivial⟩ rfl (fun w hw => St.addPure (Subs.st inferInstance w hw) ⟨.inr ⟨by omega, .inr (.inr (.inl ⟨by omega, h34⟩))⟩, fun _ => rfl⟩)
      ·
        have p26 := h26
        try simp only [decide_eq_true_eq, decide_eq_false_iff_not, Bool.not_eq_true', Bool.not_eq_false', Option.isNone_iff_eq_none, ne_eq, Decidable.not_not, Int.not_lt, Int.not_le] at p26
        refine T_seq ?_
        refine T_region ?_
        refine TL_q (Qt_eql rfl rfl) rfl ?_
        refine TL_q (Qt_assign (.bool _) rfl) rfl ?_
        refine TL_nil ?_
        refine X_then ?_
        refine T_cond rfl (fun h35 => ?_) (fun h35 => ?_)
        ·
          have p35 := h35
          try simp only [decide_eq_true_eq, decide_eq_false_iff_not, Bool.not_eq_true', Bool.not_eq_false', Option.isNone_iff_eq_none, ne_eq, Decidable.not_not, Int.not_lt, Int.not_le] at p35
          refine T_seq ?_
          refine T_region ?_
          refine TL_q (Qt_move (.pointer _) rfl) rfl ?_
          refine TL_q (Qt_move (.pointer _) rfl) rfl ?_
          refine TL_q (Qt_fieldAddr 1 rfl rfl) rfl ?_
          refine TL_q (Qt_load1 rfl) rfl ?_
          refine TL_conv (fun w hw => (Subs.st inferInstance w hw : St w0 (DS.H p s (blk b3 (.cells ra.cells 34 (0, 0)) :: H)) w)) ?_
          refine TL_e rfl (Ef_call (delete_c (p := p) (s := s) hok hN hM (nm := ra.name)) rfl (fun x41 => ?_))
          refine TL_pure (fun h41 => ?_)
          refine TL_q (Qt_assign (.pointer _) rfl) rfl ?_
          refine TL_q (Qt_assign (.int .i64 _) rfl) rfl ?_
          refine TL_nil ?_
          refine X_then ?_
          refine T_ret ?_
          refine X_block_ret ?_
          refine X_then_ret ?_
          exact X_ret (p, x41.1, x41.2) [_, _] Try.results14 ⟨rfl, rfl, trivial⟩ rfl (fun w hw => St.addPure (Subs.st inferInstance w hw) ⟨.inr ⟨by omega, .inr (.inr (.inr (.inl ⟨by omega, h41⟩)))⟩, fun _ => rfl⟩)
        ·
          have p35 := h35
          try simp only [decide_eq_true_eq, decide_eq_false_iff_not, Bool.not_eq_true', Bool.not_eq_false', Option.isNone_iff_eq_none, ne_eq, Decidable.not_not, Int.not_lt, Int.not_le] at p35
          refine T_seq ?_
          refine T_region ?_
          refine TL_q (Qt_eql rfl rfl) rfl ?_
          refine TL_q (Qt_assign (.bool _) rfl) rfl ?_
          refine TL_nil ?_
          refine X_then ?_
          refine T_cond rfl (fun h42 => ?_) (fun h42 => ?_)
          ·
            have p42 := h42
            try simp only [decide_eq_true_eq, decide_eq_false_iff_not, Bool.not_eq_true', Bool.not_eq_false', Option.isNone_iff_eq_none, ne_eq, Decidable.not_not, Int.not_lt, Int.not_le] at p42
            refine T_region ?_
            refine TL_q (Qt_move (.pointer _) rfl) rfl ?_
            refine TL_conv (fun w hw => (Subs.st inferInstance w hw : St w0 (DS.H p s (blk b3 (.cells ra.cells 34 (0, 0)) :: H)) w)) ?_
            refine TL_e rfl (Ef_call (sync_c (p := p) (s := s) hok hN (by omega)) rfl (fun x45 => ?_))
            refine TL_pure (fun h45 => ?_)
            refine TL_nil ?_
            refine X_block ?_
            refine X_then ?_
            refine T_seq ?_
            refine T_region ?_
            refine TL_q (Qt_move (.pointer _) rfl) rfl ?_
            refine TL_q (Qt_assign (.pointer _) rfl) rfl ?_
            refine TL_q (Qt_assign (.int .i64 _) rfl) rfl ?_
            refine TL_nil ?_
            refine X_then ?_
            refine T_ret ?_
            first
              | exact X_ret (p, x45, 0) [_, _] Try.results14 ⟨rfl, rfl, trivial⟩ rfl (fun w hw => St.addPure (Subs.st inferInstance w hw) ⟨.inr ⟨by omega, .inr (.inr (.inr (.inr (.inl ⟨by omega, rfl, h45⟩))))⟩, fun _ => rfl⟩)
              | exact X_ret (p, x51, 0) [_, _] Try.results14 ⟨rfl, rfl, trivial⟩ rfl (fun w hw => St.addPure (Subs.st inferInstance w hw) ⟨.inl ⟨by omega, rfl, kp, hkp, h51⟩, fun _ => rfl⟩)
              | exact X_ret (p, fuseS s ra.n, 0) [_, _] Try.results14 ⟨rfl, rfl, trivial⟩ rfl (fun w hw => St.addPure (Subs.st inferInstance w hw) ⟨.inr ⟨by omega, .inr (.inr (.inr (.inr (.inr (.inr (.inr (⟨by omega, rfl, rfl⟩)))))))⟩, fun _ => rfl⟩)
          ·
            have p42 := h42
            try simp only [decide_eq_true_eq, decide_eq_false_iff_not, Bool.not_eq_true', Bool.not_eq_false', Option.isNone_iff_eq_none, ne_eq, Decidable.not_not, Int.not_lt, Int.not_le] at p42
            refine T_seq ?_
            refine T_region ?_
            refine TL_q (Qt_eql rfl rfl) rfl ?_
            refine TL_q (Qt_assign (.bool _) rfl) rfl ?_
            refine TL_nil ?_
            refine X_then ?_
            refine T_cond rfl (fun h46 => ?_) (fun h46 => ?_)
            ·
              have p46 := h46
              try simp only [decide_eq_true_eq, decide_eq_false_iff_not, Bool.not_eq_true', Bool.not_eq_false', Option.isNone_iff_eq_none, ne_eq, Decidable.not_not, Int.not_lt, Int.not_le] at p46
              refine T_region ?_
              refine TL_q (Qt_move (.pointer _) rfl) rfl ?_
              refine TL_q (Qt_fieldAddr 4 rfl rfl) rfl ?_
              refine TL_q (Qt_val (Qt_loadN rfl rfl) (show Value.agg ra.p.cells = Value.agg (PlanV.mk (kp : Int) ra.p.torn ra.p.cut).cells from by rw [← hkp])) rfl ?_
              refine TL_conv (fun w hw => (Subs.st inferInstance w hw : St w0 (DS.H p s (blk b3 (.cells ra.cells 34 (0, 0)) :: H)) w)) ?_
              refine TL_e rfl (Ef_call (crash2_c (p := p) (s := s) hok hN hM (kp := kp) (torn := ra.p.torn) (cut := ra.p.cut) hkl) rfl (fun x51 => ?_))
              refine TL_pure (fun h51 => ?_)
              refine TL_nil ?_
              refine X_block ?_
              refine X_then ?_
              refine T_seq ?_
              refine T_region ?_
              refine TL_q (Qt_move (.pointer _) rfl) rfl ?_
              refine TL_q (Qt_assign (.pointer _) rfl) rfl ?_
              refine TL_q (Qt_assign (.int .i64 _) rfl) rfl ?_
              refine TL_nil ?_
              refine X_then ?_
              refine T_ret ?_
              first
                | exact X_ret (p, x45, 0) [_, _] Try.results14 ⟨rfl, rfl, trivial⟩ rfl (fun w hw => St.addPure (Subs.st inferInstance w hw) ⟨.inr ⟨by omega, .inr (.inr (.inr (.inr (.inl ⟨by omega, rfl, h45⟩))))⟩, fun _ => rfl⟩)
                | exact X_ret (p, x51, 0) [_, _] Try.results14 ⟨rfl, rfl, trivial⟩ rfl (fun w hw => St.addPure (Subs.st inferInstance w hw) ⟨.inl ⟨by omega, rfl, kp, hkp, h51⟩, fun _ => rfl⟩)
                | exact X_ret (p, fuseS s ra.n, 0) [_, _] Try.results14 ⟨rfl, rfl, trivial⟩ rfl (fun w hw => St.addPure (Subs.st inferInstance w hw) ⟨.inr ⟨by omega, .inr (.inr (.inr (.inr (.inr (.inr (.inr (⟨by omega, rfl, rfl⟩)))))))⟩, fun _ => rfl⟩)
            ·
              have p46 := h46
              try simp only [decide_eq_true_eq, decide_eq_false_iff_not, Bool.not_eq_true', Bool.not_eq_false', Option.isNone_iff_eq_none, ne_eq, Decidable.not_not, Int.not_lt, Int.not_le] at p46
              refine T_seq ?_
              refine T_region ?_
              refine TL_q (Qt_eql rfl rfl) rfl ?_
              refine TL_q (Qt_assign (.bool _) rfl) rfl ?_
              refine TL_nil ?_
              refine X_then ?_
              refine T_cond rfl (fun h52 => ?_) (fun h52 => ?_)
              ·
                have p52 := h52
                try simp only [decide_eq_true_eq, decide_eq_false_iff_not, Bool.not_eq_true', Bool.not_eq_false', Option.isNone_iff_eq_none, ne_eq, Decidable.not_not, Int.not_lt, Int.not_le] at p52
                refine T_seq ?_
                refine T_region ?_
                refine TL_q (Qt_move (.pointer _) rfl) rfl ?_
                refine TL_conv (fun w hw => (Subs.st inferInstance w hw : St w0 (DS.H p s (blk b3 (.cells ra.cells 34 (0, 0)) :: H)) w)) ?_
                refine TL_e rfl (Ef_call (dcopy_c (p := p) (s := s) hok hN hM) rfl (fun x55 => ?_))
                refine TL_q (Qt_assign (.pointer _) rfl) rfl ?_
                refine TL_q (Qt_assign (.int .i64 _) rfl) rfl ?_
                refine TL_nil ?_
                refine X_then ?_
                refine T_ret ?_
                refine X_block_ret ?_
                refine X_then_ret ?_
                exact X_ret (x55.1, cpyS s x55.2.1 x55.2.2.1 x55.2.2.2.a x55.2.2.2.c, 0) [_, _] Try.results14 ⟨rfl, rfl, trivial⟩ rfl (fun w hw => St.addPure (Subs.st inferInstance w hw) ⟨.inr ⟨by omega, .inr (.inr (.inr (.inr (.inr (.inr (.inl ⟨by omega, rfl, _, _, _, _, rfl⟩))))))⟩, fun h => by omega⟩)
              ·
                have p52 := h52
                try simp only [decide_eq_true_eq, decide_eq_false_iff_not, Bool.not_eq_true', Bool.not_eq_false', Option.isNone_iff_eq_none, ne_eq, Decidable.not_not, Int.not_lt, Int.not_le] at p52
                refine T_seq ?_
                refine T_region ?_
                refine TL_q (Qt_eql rfl rfl) rfl ?_
                refine TL_q (Qt_assign (.bool _) rfl) rfl ?_
                refine TL_nil ?_
                refine X_then ?_
                refine T_cond rfl (fun h56 => ?_) (fun h56 => ?_)
                ·
                  have p56 := h56
                  try simp only [decide_eq_true_eq, decide_eq_false_iff_not, Bool.not_eq_true', Bool.not_eq_false', Option.isNone_iff_eq_none, ne_eq, Decidable.not_not, Int.not_lt, Int.not_le] at p56
                  refine T_region ?_
                  refine TL_q (Qt_move (.pointer _) rfl) rfl ?_
                  refine TL_q (Qt_fieldAddr 7 rfl rfl) rfl ?_
                  refine TL_q (Qt_load1 rfl) rfl ?_
                  refine TL_conv (fun w hw => (Subs.st inferInstance w hw : St w0 (DS.H p s (blk b3 (.cells ra.cells 34 (0, 0)) :: H)) w)) ?_
                  refine TL_e rfl (Ef_call (dfuse_c (p := p) (s := s) (n := ra.n)) rfl (fun x61 => ?_))
                  refine TL_nil ?_
                  refine X_block ?_
                  refine X_then ?_
                  refine T_seq ?_
                  refine T_region ?_
                  refine TL_q (Qt_move (.pointer _) rfl) rfl ?_
                  refine TL_q (Qt_assign (.pointer _) rfl) rfl ?_
                  refine TL_q (Qt_assign (.int .i64 _) rfl) rfl ?_
                  refine TL_nil ?_
                  refine X_then ?_
                  refine T_ret ?_
                  first
                    | exact X_ret (p, x45, 0) [_, _] Try.results14 ⟨rfl, rfl, trivial⟩ rfl (fun w hw => St.addPure (Subs.st inferInstance w hw) ⟨.inr ⟨by omega, .inr (.inr (.inr (.inr (.inl ⟨by omega, rfl, h45⟩))))⟩, fun _ => rfl⟩)
                    | exact X_ret (p, x51, 0) [_, _] Try.results14 ⟨rfl, rfl, trivial⟩ rfl (fun w hw => St.addPure (Subs.st inferInstance w hw) ⟨.inl ⟨by omega, rfl, kp, hkp, h51⟩, fun _ => rfl⟩)
                    | exact X_ret (p, fuseS s ra.n, 0) [_, _] Try.results14 ⟨rfl, rfl, trivial⟩ rfl (fun w hw => St.addPure (Subs.st inferInstance w hw) ⟨.inr ⟨by omega, .inr (.inr (.inr (.inr (.inr (.inr (.inr (⟨by omega, rfl, rfl⟩)))))))⟩, fun _ => rfl⟩)
                ·
                  have p56 := h56
                  try simp only [decide_eq_true_eq, decide_eq_false_iff_not, Bool.not_eq_true', Bool.not_eq_false', Option.isNone_iff_eq_none, ne_eq, Decidable.not_not, Int.not_lt, Int.not_le] at p56
                  exfalso; omega
set_option maxHeartbeats 1000000 in
theorem ddown_c {w0 : World} {H : List SA} {p : Nat} {s : DS} :
    CT Try.prog w0 (DS.H p s H) 27 [.pointer (some ⟨p, 0, none⟩)] (α := Unit) (fun _ => .bool s.down) (fun _ => DS.H p s H) := by
  refine CT_intro Try.func27 rfl Try.ntmps27 rfl ?_
  refine T_seq ?_
  refine T_region ?_
  refine TL_q (Qt_assign (.bool _) rfl) rfl ?_
  refine TL_nil ?_
  refine X_then ?_
  refine T_seq ?_
  refine T_region ?_
  refine TL_q (Qt_move (.pointer _) rfl) rfl ?_
  refine TL_q (Qt_ptr_not_nil rfl rfl Try.underlying28) rfl ?_
  refine TL_q (Qt_move (.bool _) rfl) rfl ?_
  refine TL_split 5 rfl (fun h5 => ?_) (fun h5 => ?_)
  ·
    have p5 := h5
    try simp only [decide_eq_true_eq, decide_eq_false_iff_not, Bool.not_eq_true', Bool.not_eq_false', Option.isNone_iff_eq_none, ne_eq, Decidable.not_not, Int.not_lt, Int.not_le] at p5
    refine TL_take rfl rfl h5 ?_
    refine TL_q (Qt_move (.pointer _) rfl) rfl ?_
    refine TL_take rfl rfl h5 ?_
    refine TL_q (Qt_nilCheck rfl) rfl ?_
    refine TL_take rfl rfl h5 ?_
    refine TL_q (Qt_fieldAddr 5 rfl rfl) rfl ?_
    refine TL_take rfl rfl h5 ?_
    refine TL_q (Qt_load1 rfl) rfl ?_
    refine TL_q (Qt_pick_t (.bool _) rfl h5 rfl) rfl ?_
    refine TL_q (Qt_assign (.bool _) rfl) rfl ?_
    refine TL_nil ?_
    refine X_then ?_
    refine T_ret ?_
    exact X_ret () [_] Try.results27 ⟨rfl, trivial⟩ rfl (Subs.st inferInstance)
  ·
    have p5 := h5
    try simp only [decide_eq_true_eq, decide_eq_false_iff_not, Bool.not_eq_true', Bool.not_eq_false', Option.isNone_iff_eq_none, ne_eq, Decidable.not_not, Int.not_lt, Int.not_le] at p5
    cases h5
set_option maxHeartbeats 1000000 in
theorem diskCopy_c {w0 : World} {H : List SA} {a a2 : Option Addr} {l m : List RActV} {c c2 : Nat} [hr : RdC w0 H (.slice a l.length c) 8 (l.flatMap RActV.list)] [hr2 : RdC w0 H (.slice a2 m.length c2) 8 (m.flatMap RActV.list)] (rl : ∀ x ∈ l, RdB w0 H (.slice x.b.a x.b.l.length x.b.c) x.b.l) (rm : ∀ x ∈ m, RdB w0 H (.slice x.b.a x.b.l.length x.b.c) x.b.l) (kl : ∀ x ∈ l, 0 ≤ x.p.keep ∧ x.p.keep < 18446744073709551616) (km : ∀ x ∈ m, 0 ≤ x.p.keep ∧ x.p.keep < 18446744073709551616) (nl : ∀ x ∈ l, x.n ≤ 9223372036854775807) (nm : ∀ x ∈ m, x.n ≤ 9223372036854775807) :
    CT Try.prog w0 (H) 5 [.slice a l.length c, .slice a2 m.length c2] (α := Unit) (fun _ => .bool true) (fun _ => H) := by
  refine CT_intro Try.func5 rfl Try.ntmps5 rfl ?_
  refine T_seq ?_
  refine T_region ?_
  refine TL_q (Qt_assign (.bool _) rfl) rfl ?_
  refine TL_nil ?_
  refine X_then ?_
  refine T_seq ?_
  refine T_seq ?_
  refine T_region ?_
  refine TL_e rfl (Ef_call (wakes10_c) rfl (fun x12 => ?_))
  refine TL_q (Qt_not rfl) rfl ?_
  refine TL_nil ?_
  refine X_then ?_
  refine T_cond rfl (fun h13 => ?_) (fun h13 => ?_)
  ·
    have p13 := h13
    try simp only [decide_eq_true_eq, decide_eq_false_iff_not, Bool.not_eq_true', Bool.not_eq_false', Option.isNone_iff_eq_none, ne_eq, Decidable.not_not, Int.not_lt, Int.not_le] at p13
    cases h13
  ·
    have p13 := h13
    try simp only [decide_eq_true_eq, decide_eq_false_iff_not, Bool.not_eq_true', Bool.not_eq_false', Option.isNone_iff_eq_none, ne_eq, Decidable.not_not, Int.not_lt, Int.not_le] at p13
    refine T_skip ?_
    refine X_then ?_
    refine T_seq ?_
    refine T_seq ?_
    refine T_region ?_
    refine TL_q (Qt_move (.slice _ _ _) rfl) rfl ?_
    refine TL_e rfl (Ef_call (long10_c (l := l)) rfl (fun x15 => ?_))
    refine TL_pure (fun hs15 => ?_)
    refine TL_q (Qt_move (.bool _) rfl) rfl ?_
    refine TL_split 16 rfl (fun h16 => ?_) (fun h16 => ?_)
    ·
      have p16 := h16
      try simp only [decide_eq_true_eq, decide_eq_false_iff_not, Bool.not_eq_true', Bool.not_eq_false', Option.isNone_iff_eq_none, ne_eq, Decidable.not_not, Int.not_lt, Int.not_le] at p16
      refine TL_pass rfl rfl h16 rfl ?_
      refine TL_pass rfl rfl h16 rfl ?_
      refine TL_q (Qt_pick_t (.bool _) rfl h16 rfl) rfl ?_
      refine TL_nil ?_
      refine X_then ?_
      refine T_cond_true rfl rfl ?_
      refine T_seq ?_
      refine T_region ?_
      refine TL_q (Qt_assign (.bool _) rfl) rfl ?_
      refine TL_nil ?_
      refine X_then ?_
      refine T_ret ?_
      refine X_then_ret ?_
      exact X_ret () [_] Try.results5 ⟨rfl, trivial⟩ rfl (Subs.st inferInstance)
    ·
      have p16 := h16
      try simp only [decide_eq_true_eq, decide_eq_false_iff_not, Bool.not_eq_true', Bool.not_eq_false', Option.isNone_iff_eq_none, ne_eq, Decidable.not_not, Int.not_lt, Int.not_le] at p16
      have hsl : ShortA l := hs15 h16
      have hl80 := hsl.1
      refine TL_take rfl rfl h16 ?_
      refine TL_q (Qt_move (.slice _ _ _) rfl) rfl ?_
      refine TL_take rfl rfl h16 ?_
      refine TL_e rfl (Ef_call (long10_c (l := m)) rfl (fun x18 => ?_))
      refine TL_pure (fun hs18 => ?_)
      refine TL_q (Qt_pick_f (.bool _) rfl h16 rfl) rfl ?_
      refine TL_nil ?_
      refine X_then ?_
      refine T_cond rfl (fun h19 => ?_) (fun h19 => ?_)
      ·
        have p19 := h19
        try simp only [decide_eq_true_eq, decide_eq_false_iff_not, Bool.not_eq_true', Bool.not_eq_false', Option.isNone_iff_eq_none, ne_eq, Decidable.not_not, Int.not_lt, Int.not_le] at p19
        refine T_seq ?_
        refine T_region ?_
        refine TL_q (Qt_assign (.bool _) rfl) rfl ?_
        refine TL_nil ?_
        refine X_then ?_
        refine T_ret ?_
        refine X_then_ret ?_
        exact X_ret () [_] Try.results5 ⟨rfl, trivial⟩ rfl (Subs.st inferInstance)
      ·
        have p19 := h19
        try simp only [decide_eq_true_eq, decide_eq_false_iff_not, Bool.not_eq_true', Bool.not_eq_false', Option.isNone_iff_eq_none, ne_eq, Decidable.not_not, Int.not_lt, Int.not_le] at p19
        have hsm : ShortA m := hs18 h19
        have hm80 := hsm.1
        refine T_skip ?_
        refine X_then ?_
        refine T_seq ?_
        refine T_region ?_
        refine TL_e rfl (Ef_call (dnew_c (n := 65536)) rfl (fun x20 => ?_))
        refine TL_e rfl (Ef_call (rnew_c (n := 65536)) rfl (fun x21 => ?_))
        refine TL_q (Qt_assign (.pointer _) rfl) rfl ?_
        refine TL_q (Qt_assign (.pointer _) rfl) rfl ?_
        refine TL_nil ?_
        refine X_then ?_
        refine T_seq ?_
        refine T_seq ?_
        refine T_region ?_
        refine TL_q (Qt_move (.slice _ _ _) rfl) rfl ?_
        refine TL_q (Qt_len_slice rfl Try.underlying22) rfl ?_
        refine TL_q (Qt_move (.int .i64 _) rfl) rfl ?_
        refine TL_nil ?_
        refine X_then ?_
        refine T_block ?_
        refine T_loop [5, 8, 24, 25, 26, 27, 28, 29, 30, 31, 32, 33, 34, 35, 36, 37, 38, 39] [24, 5] (fun us H' => ∃ (k : Nat) (p : Nat) (s : DS) (r : RS) (P : PL), us = [.int .i64 (k : Int), .pointer (some ⟨p, 0, none⟩)] ∧ DS.H p s (rblk x21 r :: rrow r :: flA P.ff P.fls :: eachA P.fo P.xs :: H) = H' ∧ k ≤ l.length ∧ (s.Ok (11 + 83 * k) (2000 + 83000 * k)) ∧ (s.pend.length ≤ k) ∧ (Corr s r) ∧ (RI (srcL l) r P (1000 + 82000 * k) (82 * k))) (fun us => match us with | .int _ i :: _ => l.length - i.toNat | _ => 0) ⟨0, x20.1, newS x20.2.1 x20.2.2 65536, newR 65536, ⟨[], [], [], []⟩, rfl, rfl, by omega, (newS_ok _ _ _).mono (by omega) (by omega), Nat.le_refl _, corr_new _ _ _, newR_ri _ _⟩ (fun w hw => Subs.st inferInstance w (St.flNil ((Subs.st inferInstance w hw : St w0 (DS.H x20.1 (newS x20.2.1 x20.2.2 65536) (rblk x21 (newR 65536) :: rrow (newR 65536) :: H)) w).eachNil))) ?_
        rintro τ0 _ _  ⟨k, p, s, r, P, rfl, rfl, hk0, hok, hpl, hco, hri2⟩ _
        refine T_seq ?_
        refine T_region ?_
        refine TL_q (Qt_lss rfl rfl) rfl ?_
        refine TL_nil ?_
        refine X_then ?_
        refine T_seq ?_
        refine T_cond rfl (fun h25 => ?_) (fun h25 => ?_)
        ·
          have p25 := h25
          try simp only [decide_eq_true_eq, decide_eq_false_iff_not, Bool.not_eq_true', Bool.not_eq_false', Option.isNone_iff_eq_none, ne_eq, Decidable.not_not, Int.not_lt, Int.not_le] at p25
          have hk : k < l.length := by omega
          refine T_skip ?_
          refine X_then ?_
          refine T_seq ?_
          refine T_block ?_
          refine T_seq ?_
          refine T_region ?_
          refine TL_q (Qt_indexN rfl rfl (by omega) (by omega)) rfl ?_
          refine TL_q (Qt_val (Qt_loadRN 8 l[k].list rfl (flat_slice _ 8 RActV.list_len l k hk) (RActV.list_len _) (by decide)) (show Value.agg l[k].list.toArray = Value.agg l[k].cells from rfl)) rfl ?_
          refine TL_e rfl (Ef_allocN (fun b8 => ?_))
          refine TL_n (Ef_storeN rfl rfl (?_))
          refine TL_nil ?_
          refine X_then ?_
          refine T_seq ?_
          refine T_region ?_
          refine TL_q (Qt_loadN rfl rfl) rfl ?_
          refine TL_e rfl (Ef_call (right10_c (a := l[k])) rfl (fun x29 => ?_))
          refine TL_nil ?_
          refine X_then ?_
          refine T_cond rfl (fun h29 => ?_) (fun h29 => ?_)
          ·
            have p29 := h29
            try simp only [decide_eq_true_eq, decide_eq_false_iff_not, Bool.not_eq_true', Bool.not_eq_false', Option.isNone_iff_eq_none, ne_eq, Decidable.not_not, Int.not_lt, Int.not_le] at p29
            have hri : rightA l[k].kind = true := h29
            refine T_seq ?_
            refine T_region ?_
            refine TL_q (Qt_move (.pointer _) rfl) rfl ?_
            refine TL_q (Qt_loadN rfl rfl) rfl ?_
            have := rl l[k] (List.getElem_mem hk)
            obtain ⟨kp, hkp⟩ := Int.eq_ofNat_of_zero_le (kl l[k] (List.getElem_mem hk)).1
            have hkl := (kl l[k] (List.getElem_mem hk)).2
            have hpe := hco.pend.len
            refine TL_conv (fun w hw => (Subs.st inferInstance w hw : St w0 (DS.H p s (blk b8 (.cells l[k].cells 34 (0, 0)) :: rblk x21 r :: rrow r :: flA P.ff P.fls :: eachA P.fo P.xs :: H)) w)) ?_
            refine TL_e rfl (Ef_call (do12_c (p := p) (s := s) hok (by omega) (by omega) (by omega) (ra := l[k]) (by have := hsl.2 l[k] (List.getElem_mem hk); omega) (of_decide_eq_true hri) hkp (by omega)) rfl (fun x33 => ?_))
            refine TL_pure (fun h33 => ?_)
            replace h33 := h33.1
            have hok33 := (h33.toR.ok hok (by omega) (by have := hsl.2 l[k] (List.getElem_mem hk); omega) (nl _ (List.getElem_mem hk))).mono (N' := 11 + 83 * (k + 1)) (M' := 2000 + 83000 * (k + 1)) (by omega) (by omega)
            have hpl33 := h33.toR.pend
            refine TL_q (Qt_move (.tuple _) rfl) rfl ?_
            refine TL_q (Qt_extract rfl) rfl ?_
            refine TL_q (Qt_extract rfl) rfl ?_
            refine TL_q (Qt_assign (.pointer _) rfl) rfl ?_
            refine TL_nil ?_
            refine X_then ?_
            refine T_region ?_
            refine TL_q (Qt_move (.pointer _) rfl) rfl ?_
            refine TL_q (Qt_loadN rfl rfl) rfl ?_
            refine TL_conv (fun w hw => (Subs.st inferInstance w hw : St w0 (rblk x21 r :: rrow r :: flA P.ff P.fls :: eachA P.fo P.xs :: DS.H x33.1 x33.2.1 (blk b8 (.cells l[k].cells 34 (0, 0)) :: H)) w)) ?_
            refine TL_e rfl (Ef_call (rdo_c (q := x21) (s := r) (P := P) (Src := srcL l) (fun b hb => RdB.conv (srcL_rd rl b hb) (fun w hw => Subs.st inferInstance w hw)) hri2 (by omega) (by omega) (by omega) (by omega) (by rw [← hco.fu]; exact hok.fuse1) (ra := l[k]) (kp := kp) hkp (by omega) (by have := hsl.2 l[k] (List.getElem_mem hk); omega) (of_decide_eq_true hri) (fun m => ⟨l[k], List.getElem_mem hk, m, rfl⟩)) rfl (fun x38 => ?_))
            refine TL_pure (fun h38 => ?_)
            obtain ⟨⟨L, hL, hrd⟩, hri38⟩ := h38
            obtain ⟨hee, hco38⟩ := corr_step hco hok.good1 hok.good2 (of_decide_eq_true hri) hkp h33 hL hrd
            refine TL_nil ?_
            refine X_block ?_
            refine X_then ?_
            refine T_region ?_
            first
              | refine TL_q (Qt_add rfl rfl (by omega) (by omega)) rfl ?_
              | refine TL_q (Qt_addw rfl rfl) rfl ?_
            refine TL_q (Qt_move (.int .i64 _) rfl) rfl ?_
            refine TL_nil ?_
            apply X_loop
            case ha => exact (by repeat (first | with_reducible exact agree_refl | refine agree_upd rfl ?_ | refine agree_mix rfl ?_ | refine agree_setAll rfl ?_))
            case hI => exact by first | exact ⟨k + 1, x33.1, x33.2.1, x38.1, x38.2.1, rfl, rfl, by omega, hok33, by omega, hco38, hri38.mono (by omega) (by omega)⟩ | exact ⟨k + 1, p, s, r, P, rfl, rfl, by omega, hok.mono (by omega) (by omega), by omega, hco, hri2.mono (by omega) (by omega)⟩
            case hm => exact by show l.length - (k + 1 : Int).toNat < l.length - (k : Int).toNat; omega
            case hH => exact (Subs.st inferInstance)
          ·
            have p29 := h29
            try simp only [decide_eq_true_eq, decide_eq_false_iff_not, Bool.not_eq_true', Bool.not_eq_false', Option.isNone_iff_eq_none, ne_eq, Decidable.not_not, Int.not_lt, Int.not_le] at p29
            refine T_skip ?_
            refine X_block ?_
            refine X_then ?_
            refine T_region ?_
            first
              | refine TL_q (Qt_add rfl rfl (by omega) (by omega)) rfl ?_
              | refine TL_q (Qt_addw rfl rfl) rfl ?_
            refine TL_q (Qt_move (.int .i64 _) rfl) rfl ?_
            refine TL_nil ?_
            apply X_loop
            case ha => exact (by repeat (first | with_reducible exact agree_refl | refine agree_upd rfl ?_ | refine agree_mix rfl ?_ | refine agree_setAll rfl ?_))
            case hI => exact by first | exact ⟨k + 1, x33.1, x33.2.1, x38.1, x38.2.1, rfl, rfl, by omega, hok33, by omega, hco38, hri38.mono (by omega) (by omega)⟩ | exact ⟨k + 1, p, s, r, P, rfl, rfl, by omega, hok.mono (by omega) (by omega), by omega, hco, hri2.mono (by omega) (by omega)⟩
            case hm => exact by show l.length - (k + 1 : Int).toNat < l.length - (k : Int).toNat; omega
            case hH => exact (Subs.st inferInstance)
        ·
          have p25 := h25
          try simp only [decide_eq_true_eq, decide_eq_false_iff_not, Bool.not_eq_true', Bool.not_eq_false', Option.isNone_iff_eq_none, ne_eq, Decidable.not_not, Int.not_lt, Int.not_le] at p25
          refine T_exit ?_
          refine X_then_exit ?_
          refine X_loop_exit ?_
          refine X_block_exit ?_
          refine X_then ?_
          refine T_seq ?_
          refine T_region ?_
          refine TL_q (Qt_move (.pointer _) rfl) rfl ?_
          have hoS : s.Ok 7000 7000000 := hok.mono (by omega) (by omega)
          refine TL_e rfl (Ef_call (dcopy_c (p := p) (s := s) hoS (by omega) (by omega)) rfl (fun x41 => ?_))
          refine TL_q (Qt_assign (.pointer _) rfl) rfl ?_
          refine TL_nil ?_
          refine X_then ?_
          refine T_seq ?_
          refine T_seq ?_
          refine T_region ?_
          refine TL_q (Qt_move (.slice _ _ _) rfl) rfl ?_
          refine TL_q (Qt_len_slice rfl Try.underlying22) rfl ?_
          refine TL_q (Qt_move (.int .i64 _) rfl) rfl ?_
          refine TL_nil ?_
          refine X_then ?_
          refine T_block ?_
          refine T_loop [11, 44, 45, 46, 47, 48, 49, 50, 51, 52, 53, 54, 55, 56, 57, 58] [44] (fun us H' => ∃ (j : Nat) (t : DS), us = [.int .i64 (j : Int)] ∧ DS.H x41.1 t (dblk p s :: blk (s).r1 (mapO encS BS.val (s).e1 (s).c1) :: blk (s).r2 (mapO encS BS.val (s).e2 (s).c2) :: prow s :: rblk x21 r :: rrow r :: flA P.ff P.fls :: eachA P.fo P.xs :: H) = H' ∧ j ≤ m.length ∧ (t.Ok (7000 + 170 * j) (7000000 + 170000 * j)) ∧ (t.pend.length ≤ 80 + j) ∧ (∀ x ∈ s.bs, x ∈ t.bs)) (fun us => match us with | .int _ i :: _ => m.length - i.toNat | _ => 0) ⟨0, (cpyS s x41.2.1 x41.2.2.1 x41.2.2.2.a x41.2.2.2.c), rfl, rfl, by omega, cpyS_ok (hoS.mono (by omega) (by omega)) _ _ _ _, (by show s.pend.length ≤ _; omega), fun _ h => h⟩ (Subs.st inferInstance) ?_
          rintro τ1 _ _  ⟨j, t, rfl, rfl, hj0, hokt, hplt, hsb⟩ _
          refine T_seq ?_
          refine T_region ?_
          refine TL_q (Qt_lss rfl rfl) rfl ?_
          refine TL_nil ?_
          refine X_then ?_
          refine T_seq ?_
          refine T_cond rfl (fun h45 => ?_) (fun h45 => ?_)
          ·
            have p45 := h45
            try simp only [decide_eq_true_eq, decide_eq_false_iff_not, Bool.not_eq_true', Bool.not_eq_false', Option.isNone_iff_eq_none, ne_eq, Decidable.not_not, Int.not_lt, Int.not_le] at p45
            have hk : j < m.length := by omega
            refine T_skip ?_
            refine X_then ?_
            refine T_seq ?_
            refine T_block ?_
            refine T_seq ?_
            refine T_region ?_
            refine TL_q (Qt_indexN rfl rfl (by omega) (by omega)) rfl ?_
            refine TL_q (Qt_val (Qt_loadRN 8 m[j].list rfl (flat_slice _ 8 RActV.list_len m j hk) (RActV.list_len _) (by decide)) (show Value.agg m[j].list.toArray = Value.agg m[j].cells from rfl)) rfl ?_
            refine TL_e rfl (Ef_allocN (fun b11 => ?_))
            refine TL_n (Ef_storeN rfl rfl (?_))
            refine TL_nil ?_
            refine X_then ?_
            refine T_seq ?_
            refine T_region ?_
            refine TL_q (Qt_loadN rfl rfl) rfl ?_
            refine TL_e rfl (Ef_call (right10_c (a := m[j])) rfl (fun x49 => ?_))
            refine TL_q (Qt_move (.bool _) rfl) rfl ?_
            refine TL_split 50 rfl (fun h50 => ?_) (fun h50 => ?_)
            ·
              have p50 := h50
              try simp only [decide_eq_true_eq, decide_eq_false_iff_not, Bool.not_eq_true', Bool.not_eq_false', Option.isNone_iff_eq_none, ne_eq, Decidable.not_not, Int.not_lt, Int.not_le] at p50
              refine TL_take rfl rfl h50 ?_
              refine TL_q (Qt_fieldAddr 0 rfl rfl) rfl ?_
              refine TL_take rfl rfl h50 ?_
              refine TL_q (Qt_load1 rfl) rfl ?_
              refine TL_take rfl rfl h50 ?_
              refine TL_q (Qt_neq rfl rfl) rfl ?_
              refine TL_q (Qt_pick_t (.bool _) rfl h50 rfl) rfl ?_
              refine TL_nil ?_
              refine X_then ?_
              refine T_cond rfl (fun h54 => ?_) (fun h54 => ?_)
              ·
                have p54 := h54
                try simp only [decide_eq_true_eq, decide_eq_false_iff_not, Bool.not_eq_true', Bool.not_eq_false', Option.isNone_iff_eq_none, ne_eq, Decidable.not_not, Int.not_lt, Int.not_le] at p54
                have hri : rightA m[j].kind = true := h50
                have hk6 : m[j].kind ≠ 6 := by first | (simpa using h54) | (simpa using h53)
                refine T_region ?_
                refine TL_q (Qt_move (.pointer _) rfl) rfl ?_
                refine TL_q (Qt_loadN rfl rfl) rfl ?_
                have := rm m[j] (List.getElem_mem hk)
                obtain ⟨kp, hkp⟩ := Int.eq_ofNat_of_zero_le (km m[j] (List.getElem_mem hk)).1
                have hkl := (km m[j] (List.getElem_mem hk)).2
                refine TL_conv (fun w hw => (Subs.st inferInstance w hw : St w0 (DS.H x41.1 t (blk b11 (.cells m[j].cells 34 (0, 0)) :: dblk p s :: blk (s).r1 (mapO encS BS.val (s).e1 (s).c1) :: blk (s).r2 (mapO encS BS.val (s).e2 (s).c2) :: prow s :: rblk x21 r :: rrow r :: flA P.ff P.fls :: eachA P.fo P.xs :: H)) w)) ?_
                refine TL_e rfl (Ef_call (do12_c (p := x41.1) (s := t) hokt (by omega) (by omega) (by omega) (ra := m[j]) (by have := hsm.2 m[j] (List.getElem_mem hk); omega) (of_decide_eq_true hri) hkp (by omega)) rfl (fun x57 => ?_))
                refine TL_pure (fun h57 => ?_)
                obtain ⟨h57, hp57⟩ := h57
                replace hp57 := hp57 (by omega)
                rw [hp57]
                have hok57 := (h57.toR.ok hokt (by omega) (by have := hsm.2 m[j] (List.getElem_mem hk); omega) (nm _ (List.getElem_mem hk))).mono (N' := 7000 + 170 * (j + 1)) (M' := 7000000 + 170000 * (j + 1)) (by omega) (by omega)
                have hpl57 := h57.toR.pend
                refine TL_nil ?_
                refine X_block ?_
                refine X_then ?_
                refine T_region ?_
                first
                  | refine TL_q (Qt_add rfl rfl (by omega) (by omega)) rfl ?_
                  | refine TL_q (Qt_addw rfl rfl) rfl ?_
                refine TL_q (Qt_move (.int .i64 _) rfl) rfl ?_
                refine TL_nil ?_
                apply X_loop
                case ha => exact (by repeat (first | with_reducible exact agree_refl | refine agree_upd rfl ?_ | refine agree_mix rfl ?_ | refine agree_setAll rfl ?_))
                case hI => exact by first | exact ⟨j + 1, x57.2.1, rfl, rfl, by omega, hok57, by omega, fun x hx => h57.sub x (hsb x hx)⟩ | exact ⟨j + 1, t, rfl, rfl, by omega, hokt.mono (by omega) (by omega), by omega, hsb⟩
                case hm => exact by show m.length - (j + 1 : Int).toNat < m.length - (j : Int).toNat; omega
                case hH => exact (Subs.st inferInstance)
              ·
                have p54 := h54
                try simp only [decide_eq_true_eq, decide_eq_false_iff_not, Bool.not_eq_true', Bool.not_eq_false', Option.isNone_iff_eq_none, ne_eq, Decidable.not_not, Int.not_lt, Int.not_le] at p54
                refine T_skip ?_
                refine X_block ?_
                refine X_then ?_
                refine T_region ?_
                first
                  | refine TL_q (Qt_add rfl rfl (by omega) (by omega)) rfl ?_
                  | refine TL_q (Qt_addw rfl rfl) rfl ?_
                refine TL_q (Qt_move (.int .i64 _) rfl) rfl ?_
                refine TL_nil ?_
                apply X_loop
                case ha => exact (by repeat (first | with_reducible exact agree_refl | refine agree_upd rfl ?_ | refine agree_mix rfl ?_ | refine agree_setAll rfl ?_))
                case hI => exact by first | exact ⟨j + 1, x57.2.1, rfl, rfl, by omega, hok57, by omega, fun x hx => h57.sub x (hsb x hx)⟩ | exact ⟨j + 1, t, rfl, rfl, by omega, hokt.mono (by omega) (by omega), by omega, hsb⟩
                case hm => exact by show m.length - (j + 1 : Int).toNat < m.length - (j : Int).toNat; omega
                case hH => exact (Subs.st inferInstance)
            ·
              have p50 := h50
              try simp only [decide_eq_true_eq, decide_eq_false_iff_not, Bool.not_eq_true', Bool.not_eq_false', Option.isNone_iff_eq_none, ne_eq, Decidable.not_not, Int.not_lt, Int.not_le] at p50
              refine TL_pass rfl rfl h50 rfl ?_
              refine TL_pass rfl rfl h50 rfl ?_
              refine TL_pass rfl rfl h50 rfl ?_
              refine TL_q (Qt_pick_f (.bool _) rfl h50 rfl) rfl ?_
              refine TL_nil ?_
              refine X_then ?_
              refine T_cond_false rfl rfl ?_
              refine T_skip ?_
              refine X_block ?_
              refine X_then ?_
              refine T_region ?_
              first
                | refine TL_q (Qt_add rfl rfl (by omega) (by omega)) rfl ?_
                | refine TL_q (Qt_addw rfl rfl) rfl ?_
              refine TL_q (Qt_move (.int .i64 _) rfl) rfl ?_
              refine TL_nil ?_
              apply X_loop
              case ha => exact (by repeat (first | with_reducible exact agree_refl | refine agree_upd rfl ?_ | refine agree_mix rfl ?_ | refine agree_setAll rfl ?_))
              case hI => exact by first | exact ⟨j + 1, x57.2.1, rfl, rfl, by omega, hok57, by omega, fun x hx => h57.sub x (hsb x hx)⟩ | exact ⟨j + 1, t, rfl, rfl, by omega, hokt.mono (by omega) (by omega), by omega, hsb⟩
              case hm => exact by show m.length - (j + 1 : Int).toNat < m.length - (j : Int).toNat; omega
              case hH => exact (Subs.st inferInstance)
          ·
            have p45 := h45
            try simp only [decide_eq_true_eq, decide_eq_false_iff_not, Bool.not_eq_true', Bool.not_eq_false', Option.isNone_iff_eq_none, ne_eq, Decidable.not_not, Int.not_lt, Int.not_le] at p45
            refine T_exit ?_
            refine X_then_exit ?_
            refine X_loop_exit ?_
            refine X_block_exit ?_
            refine X_then ?_
            refine T_seq ?_
            refine T_draw (rblk x21 r :: H) [(0, true), (1, true), (2, false), (3, false), (4, true), (5, true), (7, true), (8, true), (9, true), (10, true), (11, true), (6, false), (12, true), (13, true), (14, true)] (by kernel_rfl) (by kernel_rfl) rfl (by kernel_rfl) (Subs.st inferInstance) (fun hns0 => ?_)
            refine DL_q hns0 rfl (Qt_move (.pointer _) rfl) rfl ?_
            refine DL_q hns0 rfl (Qt_move (.pointer _) rfl) rfl ?_
            have hpe := hco.pend.len
            have hri61 : RI (srcL l) r P (1000 + 82000 * 80) (82 * 80) := hri2.mono (by omega) (by omega)
            have hok61 : RSOk w0 (flA P.ff P.fls :: eachA P.fo P.xs :: DS.H x41.1 t (dblk p s :: blk (s).r1 (mapO encS BS.val (s).e1 (s).c1) :: blk (s).r2 (mapO encS BS.val (s).e2 (s).c2) :: prow s :: H)) r (1000 + 82000 * 80) (82 * 80) := (hri61.ok (srcL_rd rl)).conv (fun w hw => Subs.st inferInstance w hw)
            refine DL_conv (fun w hw => (Subs.st inferInstance w hw : St w0 (rblk x21 r :: rrow r :: flA P.ff P.fls :: eachA P.fo P.xs :: DS.H x41.1 t (dblk p s :: blk (s).r1 (mapO encS BS.val (s).e1 (s).c1) :: blk (s).r2 (mapO encS BS.val (s).e2 (s).c2) :: prow s :: H)) w)) ?_
            refine DL_e rfl rfl (Ef_call (rnow_c (q := x21) (s := r) (B := 1000 + 82000 * 80) (N := 82 * 80) hok61 (by omega) (by omega) (by omega)) rfl (fun x61 => ⟨(Subs.st inferInstance), ?_⟩))
            refine DL_pure (fun h61 => ?_)
            have hokP : (poolS s t).Ok 7000 21000000 := hoS.pool (hokt.mono (N' := 21000) (M' := 21000000) (by omega) (by omega)) hsb
            have hkP : KeyL (poolS s t).e2 := hco.key2.keyL
            have hM : Rep x61.M.ls (cont s.e2) := hco.now (fun f hf => by have := h61.rep f hf; rwa [List.take_length] at this)
            have hfin : x61.M.ls.map fileD = filesE (poolS s t).e2 := hM.files hoS.good2
            have hat : RdC w0 (flA x61.ff x61.fls :: eachA x61.fo x61.xs :: rblk x21 r :: rrow r :: flA P.ff P.fls :: eachA P.fo P.xs :: dblk x41.1 t :: blk (t).r1 (mapO encS BS.val (t).e1 (t).c1) :: blk (t).r2 (mapO encS BS.val (t).e2 (t).c2) :: prow t :: H) (.slice x61.M.a x61.M.ls.length x61.M.c) 2 (x61.M.ls.flatMap FileV.list) := ⟨fun w hw => (h61.at ((hri61.ok (srcL_rd rl)).conv (H' := flA P.ff P.fls :: eachA P.fo P.xs :: H) (fun w hw => Subs.st inferInstance w hw))).rd w (Subs.st inferInstance w hw)⟩
            have hre : RdE w0 (flA x61.ff x61.fls :: eachA x61.fo x61.xs :: rblk x21 r :: rrow r :: flA P.ff P.fls :: eachA P.fo P.xs :: dblk x41.1 t :: blk (t).r1 (mapO encS BS.val (t).e1 (t).c1) :: blk (t).r2 (mapO encS BS.val (t).e2 (t).c2) :: prow t :: H) (x61.M.ls.map (·.b)) := ⟨fun z hz w hw => (h61.rd ((hri61.ok (srcL_rd rl)).conv (H' := flA P.ff P.fls :: eachA P.fo P.xs :: H) (fun w hw => Subs.st inferInstance w hw))).rd z hz w (Subs.st inferInstance w hw)⟩
            refine DL_conv (fun w hw => (Subs.st inferInstance w hw : St w0 (DS.H p (poolS s t) (flA x61.ff x61.fls :: eachA x61.fo x61.xs :: rblk x21 r :: rrow r :: flA P.ff P.fls :: eachA P.fo P.xs :: dblk x41.1 t :: blk (t).r1 (mapO encS BS.val (t).e1 (t).c1) :: blk (t).r2 (mapO encS BS.val (t).e2 (t).c2) :: prow t :: H)) w)) ?_
            refine DL_e rfl rfl (Ef_call (dsame_c (p := p) (s := (poolS s t)) hokP (by omega) (by omega) hkP (L := x61.M.ls) (a := x61.M.a) (c := x61.M.c) hfin) rfl (fun x62 => ⟨(Subs.st inferInstance), ?_⟩))
            refine DL_q hns0 rfl (Qt_move (.bool _) rfl) rfl ?_
            refine DL_split 63 rfl (fun h63 => ?_) (fun h63 => ?_)
            ·
              have p63 := h63
              try simp only [decide_eq_true_eq, decide_eq_false_iff_not, Bool.not_eq_true', Bool.not_eq_false', Option.isNone_iff_eq_none, ne_eq, Decidable.not_not, Int.not_lt, Int.not_le] at p63
              refine DL_qg hns0 rfl rfl rfl h63 (Qt_move (.pointer _) rfl) rfl ?_
              refine DL_qg hns0 rfl rfl rfl h63 (Qt_move (.pointer _) rfl) rfl ?_
              refine DL_qg hns0 rfl rfl rfl h63 (Qt_nilCheck rfl) rfl ?_
              refine DL_qg hns0 rfl rfl rfl h63 (Qt_fieldAddr 2 rfl rfl) rfl ?_
              refine DL_qg hns0 rfl rfl rfl h63 (Qt_load1 rfl) rfl ?_
              refine DL_qg hns0 rfl rfl rfl h63 (Qt_len_slice rfl Try.underlying22) rfl ?_
              refine DL_eg rfl rfl rfl h63 rfl (Ef_call (pending_c (p := p) (s := (poolS s t))) rfl (fun x65 => ⟨(Subs.st inferInstance), ?_⟩))
              refine DL_qg hns0 rfl rfl rfl h63 (Qt_eql rfl rfl) rfl ?_
              refine DL_q hns0 rfl (Qt_pick_t (.bool _) rfl h63 rfl) rfl ?_
              refine DL_q hns0 rfl (Qt_assign (.bool _) rfl) rfl ?_
              refine DL_nil ?_
              refine X_then ?_
              refine T_ret ?_
              exact X_ret () [.bool true] Try.results5 ⟨by refine congrArg Value.bool ?_; simp [hpe], trivial⟩ rfl (Subs.st inferInstance)
            ·
              have p63 := h63
              try simp only [decide_eq_true_eq, decide_eq_false_iff_not, Bool.not_eq_true', Bool.not_eq_false', Option.isNone_iff_eq_none, ne_eq, Decidable.not_not, Int.not_lt, Int.not_le] at p63
              cases h63
end Go.Proofs.Ytededghplnoajaa
