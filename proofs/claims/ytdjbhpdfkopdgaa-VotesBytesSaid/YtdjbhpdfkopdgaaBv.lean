/- The law VotesBytes: what is put is got. -/
import Derived.Test.YtdjbhpdfkopdgaaGt
import Derived.Test.YtdjbhpdfkopdgaaBt
namespace Go.Proofs.Ytdjbhpdfkopdgaa
open Go.RowKit Go.Sx
set_option maxRecDepth 100000
set_option linter.unusedSimpArgs false
set_option linter.unusedVariables false
instance RdB.datV1 {w0 : World} {H : List SA} {fp : List Nat} {x : VoteV} : RdB w0 (datV fp [x] :: H) (.slice x.batch.a x.batch.l.length x.batch.c) x.batch.l := (RdVs.own : RdVs w0 (datV fp [x] :: H) [x]).b x (by simp)
instance RdC.datV1 {w0 : World} {H : List SA} {fp : List Nat} {x : VoteV} : RdC w0 (datV fp [x] :: H) (.slice x.cert.a x.cert.ls.length x.cert.c) 1 (x.cert.ls.map BS.val) := (RdVs.own : RdVs w0 (datV fp [x] :: H) [x]).c x (by simp)
instance RdE.datV1 {w0 : World} {H : List SA} {fp : List Nat} {x : VoteV} : RdE w0 (datV fp [x] :: H) x.cert.ls := (RdVs.own : RdVs w0 (datV fp [x] :: H) [x]).e x (by simp)
theorem putV_ok {v : VoteD} (h : (putV v).2 = 0) : (putV v).1 = told v ∧ formedB v = true ∧ (told v).length ≤ 65536 ∧ v.cert.length ≤ 16 := by
  have hf := formed_of_put h
  unfold putV at h ⊢
  split at h
  · simp at h
  · split at h
    · simp at h
    · split at h
      · simp at h
      · rw [if_neg (by assumption), if_neg (by assumption), if_neg (by assumption), if_pos hf]
        exact ⟨rfl, hf, by omega, by omega⟩
theorem putV_len (v : VoteD) : (putV v).1.length ≤ 65536 := by
  unfold putV
  split
  · simp
  · split
    · simp
    · split
      · simp
      · split
        · simp; omega
        · simp
set_option maxHeartbeats 1000000 in
theorem votesBytes_c {w0 : World} {H : List SA} {v : VoteV} [rbv : RdB w0 H (.slice v.batch.a v.batch.l.length v.batch.c) v.batch.l] [rcv : RdC w0 H (.slice v.cert.a v.cert.ls.length v.cert.c) 1 (v.cert.ls.map BS.val)] [rev : RdE w0 H v.cert.ls] :
    CT Try.prog w0 (H) 6 [.agg v.cells] (α := Unit) (fun _ => .bool true) (fun _ => H) := by
  refine CT_intro Try.func6 rfl Try.ntmps6 rfl ?_
  refine T_seq ?_
  refine T_region ?_
  refine TL_e rfl (Ef_boxN rfl (fun b1 => ?_))
  refine TL_q (Qt_assign (.bool _) rfl) rfl ?_
  refine TL_nil ?_
  refine X_then ?_
  refine T_seq ?_
  refine T_seq ?_
  refine T_region ?_
  refine TL_e rfl (Ef_call (wakes_c) rfl (fun x9 => ?_))
  refine TL_q (Qt_not rfl) rfl ?_
  refine TL_nil ?_
  refine X_then ?_
  refine T_cond rfl (fun h10 => ?_) (fun h10 => ?_)
  ·
    have p10 := h10
    try simp only [decide_eq_true_eq, decide_eq_false_iff_not, Bool.not_eq_true', Bool.not_eq_false', Option.isNone_iff_eq_none, ne_eq, Decidable.not_not, Int.not_lt, Int.not_le] at p10
    cases h10
  ·
    have p10 := h10
    try simp only [decide_eq_true_eq, decide_eq_false_iff_not, Bool.not_eq_true', Bool.not_eq_false', Option.isNone_iff_eq_none, ne_eq, Decidable.not_not, Int.not_lt, Int.not_le] at p10
    refine T_skip ?_
    refine X_then ?_
    refine T_seq ?_
    refine T_seq ?_
    refine T_region ?_
    refine TL_q (Qt_loadN rfl rfl) rfl ?_
    refine TL_e rfl (Ef_sliceN (m := [v].length) [.agg v.cells] ([v].flatMap VoteV.list) rfl rfl rfl rfl (by simp [Value.cells, VoteV.size]) rfl rfl (fun a12 c12 => ?_))
    have rvv : RdVs w0 H [v] := ⟨fun u hu => by obtain rfl : u = v := (by simpa using hu); exact rbv, fun u hu => by obtain rfl : u = v := (by simpa using hu); exact rcv, fun u hu => by obtain rfl : u = v := (by simpa using hu); exact rev⟩
    refine TL_e rfl (Ef_call (long_c (vs := [v])) rfl (fun x13 => ?_))
    refine TL_nil ?_
    refine X_then ?_
    refine T_cond rfl (fun h13 => ?_) (fun h13 => ?_)
    ·
      have p13 := h13
      try simp only [decide_eq_true_eq, decide_eq_false_iff_not, Bool.not_eq_true', Bool.not_eq_false', Option.isNone_iff_eq_none, ne_eq, Decidable.not_not, Int.not_lt, Int.not_le] at p13
      refine T_seq ?_
      refine T_region ?_
      refine TL_q (Qt_assign (.bool _) rfl) rfl ?_
      refine TL_nil ?_
      refine X_then ?_
      refine T_ret ?_
      refine X_then_ret ?_
      exact X_ret () [_] Try.results6 ⟨rfl, trivial⟩ rfl (Subs.st inferInstance)
    ·
      have p13 := h13
      try simp only [decide_eq_true_eq, decide_eq_false_iff_not, Bool.not_eq_true', Bool.not_eq_false', Option.isNone_iff_eq_none, ne_eq, Decidable.not_not, Int.not_lt, Int.not_le] at p13
      have hlg : longB ([v].map VoteV.abs) = false := h13
      have hsv : SmallV v.abs := small_of_long hlg _ (by simp)
      refine T_skip ?_
      refine X_then ?_
      refine T_seq ?_
      refine T_region ?_
      refine TL_q (Qt_loadN rfl rfl) rfl ?_
      refine TL_e rfl (Ef_call (put_c hsv) rfl (fun x16 => ?_))
      refine TL_q (Qt_move (.tuple _) rfl) rfl ?_
      refine TL_q (Qt_extract rfl) rfl ?_
      refine TL_q (Qt_extract rfl) rfl ?_
      refine TL_q (Qt_assign (.slice _ _ _) rfl) rfl ?_
      refine TL_q (Qt_assign (.int .i64 _) rfl) rfl ?_
      refine TL_nil ?_
      refine X_then ?_
      refine T_seq ?_
      refine T_region ?_
      refine TL_q (Qt_loadN rfl rfl) rfl ?_
      refine TL_e rfl (Ef_call (rPut_c hsv) rfl (fun x21 => ?_))
      refine TL_q (Qt_move (.tuple _) rfl) rfl ?_
      refine TL_q (Qt_extract rfl) rfl ?_
      refine TL_q (Qt_extract rfl) rfl ?_
      refine TL_q (Qt_assign (.slice _ _ _) rfl) rfl ?_
      refine TL_q (Qt_assign (.int .i64 _) rfl) rfl ?_
      refine TL_nil ?_
      refine X_then ?_
      refine T_seq ?_
      refine T_seq ?_
      refine T_region ?_
      refine TL_q (Qt_move (.slice _ _ _) rfl) rfl ?_
      refine TL_q (Qt_move (.slice _ _ _) rfl) rfl ?_
      refine TL_e rfl (Ef_call (same_c (by have := putV_len v.abs; omega)) rfl (fun x26 => ?_))
      refine TL_q (Qt_not rfl) rfl ?_
      refine TL_q (Qt_move (.bool _) rfl) rfl ?_
      refine TL_split 28 rfl (fun h28 => ?_) (fun h28 => ?_)
      ·
        have p28 := h28
        try simp only [decide_eq_true_eq, decide_eq_false_iff_not, Bool.not_eq_true', Bool.not_eq_false', Option.isNone_iff_eq_none, ne_eq, Decidable.not_not, Int.not_lt, Int.not_le] at p28
        exact absurd h28 (by simp)
      ·
        have p28 := h28
        try simp only [decide_eq_true_eq, decide_eq_false_iff_not, Bool.not_eq_true', Bool.not_eq_false', Option.isNone_iff_eq_none, ne_eq, Decidable.not_not, Int.not_lt, Int.not_le] at p28
        refine TL_take rfl rfl h28 ?_
        refine TL_q (Qt_move (.int .i64 _) rfl) rfl ?_
        refine TL_take rfl rfl h28 ?_
        refine TL_q (Qt_move (.int .i64 _) rfl) rfl ?_
        refine TL_take rfl rfl h28 ?_
        refine TL_q (Qt_neq rfl rfl) rfl ?_
        refine TL_q (Qt_pick_f (.bool _) rfl h28 rfl) rfl ?_
        refine TL_nil ?_
        refine X_then ?_
        refine T_cond rfl (fun h32 => ?_) (fun h32 => ?_)
        ·
          have p32 := h32
          try simp only [decide_eq_true_eq, decide_eq_false_iff_not, Bool.not_eq_true', Bool.not_eq_false', Option.isNone_iff_eq_none, ne_eq, Decidable.not_not, Int.not_lt, Int.not_le] at p32
          exact absurd h32 (by simp)
        ·
          have p32 := h32
          try simp only [decide_eq_true_eq, decide_eq_false_iff_not, Bool.not_eq_true', Bool.not_eq_false', Option.isNone_iff_eq_none, ne_eq, Decidable.not_not, Int.not_lt, Int.not_le] at p32
          refine T_skip ?_
          refine X_then ?_
          refine T_seq ?_
          refine T_seq ?_
          refine T_region ?_
          refine TL_q (Qt_move (.int .i64 _) rfl) rfl ?_
          refine TL_q (Qt_neq rfl rfl) rfl ?_
          refine TL_nil ?_
          refine X_then ?_
          refine T_cond rfl (fun h34 => ?_) (fun h34 => ?_)
          ·
            have p34 := h34
            try simp only [decide_eq_true_eq, decide_eq_false_iff_not, Bool.not_eq_true', Bool.not_eq_false', Option.isNone_iff_eq_none, ne_eq, Decidable.not_not, Int.not_lt, Int.not_le] at p34
            refine T_seq ?_
            refine T_region ?_
            refine TL_q (Qt_assign (.bool _) rfl) rfl ?_
            refine TL_nil ?_
            refine X_then ?_
            refine T_ret ?_
            refine X_then_ret ?_
            exact X_ret () [_] Try.results6 ⟨rfl, trivial⟩ rfl (Subs.st inferInstance)
          ·
            have p34 := h34
            try simp only [decide_eq_true_eq, decide_eq_false_iff_not, Bool.not_eq_true', Bool.not_eq_false', Option.isNone_iff_eq_none, ne_eq, Decidable.not_not, Int.not_lt, Int.not_le] at p34
            have p34 : (putV v.abs).2 = 0 := by simpa using p34
            refine T_skip ?_
            refine X_then ?_
            refine T_seq ?_
            refine T_region ?_
            refine TL_q (Qt_move (.slice _ _ _) rfl) rfl ?_
            have hok := putV_ok p34
            have hlen : (putV v.abs).1.length ≤ 65536 := by rw [hok.1]; exact hok.2.2.1
            refine TL_e rfl (Ef_call (get_c (l := (putV v.abs).1) (v := v.abs) hok.1 hok.2.1 hlen hok.2.2.2) rfl (fun x37 => ?_))
            refine TL_pure (fun hx37 => ?_)
            refine TL_q (Qt_move (.tuple _) rfl) rfl ?_
            refine TL_q (Qt_extract rfl) rfl ?_
            refine TL_q (Qt_extract rfl) rfl ?_
            refine TL_e rfl (Ef_allocN (fun b7 => ?_))
            refine TL_n (Ef_storeN rfl rfl (?_))
            refine TL_q (Qt_assign (.int .i64 _) rfl) rfl ?_
            refine TL_nil ?_
            refine X_then ?_
            refine T_seq ?_
            refine T_region ?_
            refine TL_q (Qt_move (.int .i64 _) rfl) rfl ?_
            refine TL_q (Qt_eql rfl rfl) rfl ?_
            refine TL_q (Qt_move (.bool _) rfl) rfl ?_
            refine TL_split 42 rfl (fun h42 => ?_) (fun h42 => ?_)
            ·
              have p42 := h42
              try simp only [decide_eq_true_eq, decide_eq_false_iff_not, Bool.not_eq_true', Bool.not_eq_false', Option.isNone_iff_eq_none, ne_eq, Decidable.not_not, Int.not_lt, Int.not_le] at p42
              refine TL_take rfl rfl h42 ?_
              refine TL_q (Qt_loadN rfl rfl) rfl ?_
              refine TL_take rfl rfl h42 ?_
              refine TL_q (Qt_loadN rfl rfl) rfl ?_
              have hsx : SmallV x37.1.abs := by rw [hx37]; exact hsv
              refine TL_take rfl rfl h42 ?_
              refine TL_e rfl (Ef_call (same13_c (v := x37.1) (u := v) (by have := hsx.batch; omega) (by have := hsx.cert; omega) (fun x hx => by have := hsx.each x hx; omega)) rfl (fun x45 => ?_))
              refine TL_q (Qt_pick_t (.bool _) rfl h42 rfl) rfl ?_
              refine TL_q (Qt_assign (.bool _) rfl) rfl ?_
              refine TL_nil ?_
              refine X_then ?_
              refine T_ret ?_
              exact X_ret () [.bool true] Try.results6 ⟨by refine congrArg Value.bool ?_; simp [hx37], trivial⟩ rfl (Subs.st inferInstance)
            ·
              have p42 := h42
              try simp only [decide_eq_true_eq, decide_eq_false_iff_not, Bool.not_eq_true', Bool.not_eq_false', Option.isNone_iff_eq_none, ne_eq, Decidable.not_not, Int.not_lt, Int.not_le] at p42
              exact absurd h42 (by simp)
end Go.Proofs.Ytdjbhpdfkopdgaa
