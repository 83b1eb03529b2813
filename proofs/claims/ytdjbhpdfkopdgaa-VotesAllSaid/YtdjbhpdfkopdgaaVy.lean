/- Walks: Put of package votes; Long of the references. -/
import Derived.Test.YtdjbhpdfkopdgaaVx
namespace Go.Proofs.Ytdjbhpdfkopdgaa
open Go.RowKit Go.Sx
set_option maxRecDepth 100000
set_option linter.unusedSimpArgs false
set_option linter.unusedVariables false
/-- What a walk over votes wants of their sizes. -/
def SmallV (v : VoteD) : Prop := v.batch.length ≤ 100000 ∧ v.cert.length ≤ 100000 ∧ ∀ c ∈ v.cert, c.length ≤ 100000
theorem SmallV.batch {v : VoteV} (h : SmallV v.abs) : v.batch.l.length ≤ 100000 := h.1
theorem SmallV.cert {v : VoteV} (h : SmallV v.abs) : v.cert.ls.length ≤ 100000 := by have := h.2.1; simpa [VoteV.abs] using this
theorem SmallV.each {v : VoteV} (h : SmallV v.abs) : ∀ x ∈ v.cert.ls, x.l.length ≤ 100000 := fun x hx => h.2.2 x.l (List.mem_map.2 ⟨x, hx, rfl⟩)
theorem certs_len (v : VoteV) : v.abs.cert.length = v.cert.ls.length := by simp [VoteV.abs]

set_option maxHeartbeats 1000000 in
theorem put_c {w0 : World} {H : List SA} {v : VoteV} [rbv : RdB w0 H (.slice v.batch.a v.batch.l.length v.batch.c) v.batch.l] [rcv : RdC w0 H (.slice v.cert.a v.cert.ls.length v.cert.c) 1 (v.cert.ls.map BS.val)] [rev : RdE w0 H v.cert.ls] (hs : SmallV v.abs) :
    CT Try.prog w0 (H) 21 [.agg v.cells] (α := AC) (fun y => .tuple #[.slice y.a (putV v.abs).1.length y.c, .int .i64 (putV v.abs).2]) (fun y => row (.slice y.a (putV v.abs).1.length y.c) 5 1 (bytesV (putV v.abs).1) :: H) := by
  refine CT_intro Try.func21 rfl Try.ntmps21 rfl ?_
  refine T_seq ?_
  refine T_region ?_
  refine TL_e rfl (Ef_boxN rfl (fun b1 => ?_))
  refine TL_q (Qt_assign (.slice _ _ _) rfl) rfl ?_
  refine TL_q (Qt_assign (.int .i64 _) rfl) rfl ?_
  refine TL_nil ?_
  refine X_then ?_
  refine T_seq ?_
  refine T_seq ?_
  refine T_region ?_
  refine TL_q (Qt_fieldAddr 37 rfl rfl) rfl ?_
  refine TL_q (Qt_load1 rfl) rfl ?_
  refine TL_q (Qt_len_slice rfl Try.underlying25) rfl ?_
  refine TL_q (Qt_gtr rfl rfl) rfl ?_
  refine TL_nil ?_
  refine X_then ?_
  refine T_cond rfl (fun h11 => ?_) (fun h11 => ?_)
  ·
    have p11 := h11
    try simp only [decide_eq_true_eq, decide_eq_false_iff_not, Bool.not_eq_true', Bool.not_eq_false', Option.isNone_iff_eq_none, ne_eq, Decidable.not_not, Int.not_lt, Int.not_le] at p11
    refine T_seq ?_
    refine T_region ?_
    refine TL_q (Qt_assign (.slice _ _ _) rfl) rfl ?_
    refine TL_q (Qt_assign (.int .i64 _) rfl) rfl ?_
    refine TL_nil ?_
    refine X_then ?_
    refine T_ret ?_
    refine X_then_ret ?_
    have e : putV v.abs = ([], 4) := by unfold putV; rw [if_pos (by rw [certs_len]; omega)]
    simp only [e]
    exact X_ret ⟨none, 0⟩ [_, _] Try.results21 ⟨rfl, rfl, trivial⟩ rfl (fun w hw => (Subs.st inferInstance w hw : St w0 H w).addNilB 5)
  ·
    have p11 := h11
    try simp only [decide_eq_true_eq, decide_eq_false_iff_not, Bool.not_eq_true', Bool.not_eq_false', Option.isNone_iff_eq_none, ne_eq, Decidable.not_not, Int.not_lt, Int.not_le] at p11
    have p11 : ¬ 16 < v.abs.cert.length := by rw [certs_len]; omega
    refine T_skip ?_
    refine X_then ?_
    refine T_seq ?_
    refine T_region ?_
    refine TL_q (Qt_fieldAddr 36 rfl rfl) rfl ?_
    refine TL_q (Qt_load1 rfl) rfl ?_
    refine TL_q (Qt_len_slice rfl Try.underlying24) rfl ?_
    refine TL_q (Qt_assign (.int .i64 _) rfl) rfl ?_
    refine TL_nil ?_
    refine X_then ?_
    refine T_seq ?_
    refine T_seq ?_
    refine T_region ?_
    refine TL_q (Qt_fieldAddr 37 rfl rfl) rfl ?_
    refine TL_q (Qt_load1 rfl) rfl ?_
    refine TL_q (Qt_len_slice rfl Try.underlying25) rfl ?_
    refine TL_q (Qt_move (.int .i64 _) rfl) rfl ?_
    refine TL_nil ?_
    refine X_then ?_
    refine T_block ?_
    have hb1 := hs.batch
    have hc1 := hs.cert
    have he1 := hs.each
    refine T_loop [4, 6, 18, 19, 20, 21, 22, 23, 24, 25, 26] [18, 4] (fun vs H' => ∃ k : Nat, vs = [.int .i64 (k : Int), .int .i64 ((v.batch.l.length + sumLen (v.abs.cert.take k) : Nat) : Int)] ∧ blk b1 (.cells v.cells 27 (0, 0)) :: H = H' ∧ k ≤ v.cert.ls.length) (fun vs => match vs with | .int _ i :: _ => v.cert.ls.length - i.toNat | _ => 0) ⟨0, rfl, rfl, by omega⟩ (Subs.st inferInstance) ?_
    rintro τ0 _ _  ⟨k, rfl, rfl, hk0⟩ _
    refine T_seq ?_
    refine T_region ?_
    refine TL_q (Qt_lss rfl rfl) rfl ?_
    refine TL_nil ?_
    refine X_then ?_
    refine T_seq ?_
    refine T_cond rfl (fun h19 => ?_) (fun h19 => ?_)
    ·
      have p19 := h19
      try simp only [decide_eq_true_eq, decide_eq_false_iff_not, Bool.not_eq_true', Bool.not_eq_false', Option.isNone_iff_eq_none, ne_eq, Decidable.not_not, Int.not_lt, Int.not_le] at p19
      have hk : k < v.cert.ls.length := by omega
      refine T_skip ?_
      refine X_then ?_
      refine T_seq ?_
      refine T_block ?_
      refine T_seq ?_
      refine T_region ?_
      refine TL_q (Qt_indexR rfl rfl (by omega) (by simp; omega)) rfl ?_
      refine TL_q (Qt_loadR (.slice _ _ _) rfl (vals_get _ _ hk)) rfl ?_
      refine TL_q (Qt_assign (.slice _ _ _) rfl) rfl ?_
      refine TL_nil ?_
      refine X_then ?_
      refine T_region ?_
      refine TL_q (Qt_move (.int .i64 _) rfl) rfl ?_
      refine TL_q (Qt_move (.slice _ _ _) rfl) rfl ?_
      refine TL_q (Qt_len_slice rfl Try.underlying24) rfl ?_
      have hsl : sumLen (v.abs.cert.take k) ≤ 1600000 := by
        have h1 := sumLen_le 100000 (v.abs.cert.take k) (fun x hx => hs.2.2 x (List.mem_of_mem_take hx))
        have h2 : (v.abs.cert.take k).length ≤ 16 := by rw [List.length_take, certs_len]; omega
        have h3 := Nat.mul_le_mul_right 100000 h2
        omega
      have hel := he1 _ (List.getElem_mem hk)
      first
        | refine TL_q (Qt_add rfl rfl (by omega) (by omega)) rfl ?_
        | refine TL_q (Qt_addw rfl rfl) rfl ?_
      refine TL_q (Qt_assign (.int .i64 _) rfl) rfl ?_
      refine TL_nil ?_
      refine X_block ?_
      refine X_then ?_
      refine T_region ?_
      first
        | refine TL_q (Qt_add rfl rfl (by omega) (by omega)) rfl ?_
        | refine TL_q (Qt_addw rfl rfl) rfl ?_
      refine TL_q (Qt_move (.int .i64 _) rfl) rfl ?_
      refine TL_nil ?_
      refine X_loop _ (by repeat (first | with_reducible exact agree_refl | refine agree_upd rfl ?_ | refine agree_mix rfl ?_ | refine agree_setAll rfl ?_)) (⟨k + 1, by rw [sumLen_take _ _ (by rw [certs_len]; exact hk)]; simp only [VoteV.abs, List.getElem_map, List.map_cons, List.map_nil]; rw [← Int.natCast_add, Nat.add_assoc]; rfl, rfl, by omega⟩) (by show v.cert.ls.length - (k + 1 : Int).toNat < v.cert.ls.length - (k : Int).toNat; omega) ((Subs.st inferInstance))
    ·
      have p19 := h19
      try simp only [decide_eq_true_eq, decide_eq_false_iff_not, Bool.not_eq_true', Bool.not_eq_false', Option.isNone_iff_eq_none, ne_eq, Decidable.not_not, Int.not_lt, Int.not_le] at p19
      have et : v.abs.cert.take k = v.abs.cert := List.take_of_length_le (by rw [certs_len]; omega)
      simp only [et]
      refine T_exit ?_
      refine X_then_exit ?_
      refine X_loop_exit ?_
      refine X_block_exit ?_
      refine X_then ?_
      refine T_seq ?_
      refine T_seq ?_
      refine T_region ?_
      refine TL_q (Qt_move (.int .i64 _) rfl) rfl ?_
      refine TL_q (Qt_gtr rfl rfl) rfl ?_
      refine TL_nil ?_
      refine X_then ?_
      refine T_cond rfl (fun h28 => ?_) (fun h28 => ?_)
      ·
        have p28 := h28
        try simp only [decide_eq_true_eq, decide_eq_false_iff_not, Bool.not_eq_true', Bool.not_eq_false', Option.isNone_iff_eq_none, ne_eq, Decidable.not_not, Int.not_lt, Int.not_le] at p28
        refine T_seq ?_
        refine T_region ?_
        refine TL_q (Qt_assign (.slice _ _ _) rfl) rfl ?_
        refine TL_q (Qt_assign (.int .i64 _) rfl) rfl ?_
        refine TL_nil ?_
        refine X_then ?_
        refine T_ret ?_
        refine X_then_ret ?_
        have e : putV v.abs = ([], 4) := by unfold putV; rw [if_neg p11, if_pos (by show 65536 < v.batch.l.length + _; omega)]
        simp only [e]
        exact X_ret ⟨none, 0⟩ [_, _] Try.results21 ⟨rfl, rfl, trivial⟩ rfl (fun w hw => (Subs.st inferInstance w hw : St w0 H w).addNilB 5)
      ·
        have p28 := h28
        try simp only [decide_eq_true_eq, decide_eq_false_iff_not, Bool.not_eq_true', Bool.not_eq_false', Option.isNone_iff_eq_none, ne_eq, Decidable.not_not, Int.not_lt, Int.not_le] at p28
        have p28b : ¬ 65536 < v.abs.batch.length + sumLen v.abs.cert := by show ¬ 65536 < v.batch.l.length + _; omega
        refine T_skip ?_
        refine X_then ?_
        refine T_seq ?_
        refine T_region ?_
        refine TL_q (Qt_loadN rfl rfl) rfl ?_
        refine TL_e rfl (Ef_call (told_c (by omega) (by have := p11; rw [certs_len] at this; omega) (fun x hx => by have := le_sumLen v.abs.cert x.l (List.mem_map.2 ⟨x, hx, rfl⟩); omega)) rfl (fun x30 => ?_))
        refine TL_q (Qt_assign (.slice _ _ _) rfl) rfl ?_
        refine TL_nil ?_
        refine X_then ?_
        refine T_seq ?_
        refine T_block ?_
        refine T_seq ?_
        refine T_region ?_
        refine TL_q (Qt_move (.slice _ _ _) rfl) rfl ?_
        refine TL_q (Qt_len_slice rfl Try.underlying24) rfl ?_
        refine TL_q (Qt_gtr rfl rfl) rfl ?_
        refine TL_q (Qt_assign (.bool _) rfl) rfl ?_
        refine TL_nil ?_
        refine X_then ?_
        refine T_cond rfl (fun h31 => ?_) (fun h31 => ?_)
        ·
          have p31 := h31
          try simp only [decide_eq_true_eq, decide_eq_false_iff_not, Bool.not_eq_true', Bool.not_eq_false', Option.isNone_iff_eq_none, ne_eq, Decidable.not_not, Int.not_lt, Int.not_le] at p31
          refine T_seq ?_
          refine T_region ?_
          refine TL_q (Qt_assign (.slice _ _ _) rfl) rfl ?_
          refine TL_q (Qt_assign (.int .i64 _) rfl) rfl ?_
          refine TL_nil ?_
          refine X_then ?_
          refine T_ret ?_
          refine X_block_ret ?_
          refine X_then_ret ?_
          have e : putV v.abs = ([], 4) := by unfold putV; rw [if_neg p11, if_neg p28b, if_pos (by omega)]
          simp only [e]
          exact X_ret ⟨none, 0⟩ [_, _] Try.results21 ⟨rfl, rfl, trivial⟩ rfl (fun w hw => (Subs.st inferInstance w hw : St w0 H w).addNilB 5)
        ·
          have p31 := h31
          try simp only [decide_eq_true_eq, decide_eq_false_iff_not, Bool.not_eq_true', Bool.not_eq_false', Option.isNone_iff_eq_none, ne_eq, Decidable.not_not, Int.not_lt, Int.not_le] at p31
          refine T_seq ?_
          refine T_region ?_
          refine TL_q (Qt_loadN rfl rfl) rfl ?_
          refine TL_e rfl (Ef_call (formed_c) rfl (fun x37 => ?_))
          refine TL_q (Qt_not rfl) rfl ?_
          refine TL_q (Qt_assign (.bool _) rfl) rfl ?_
          refine TL_nil ?_
          refine X_then ?_
          refine T_cond rfl (fun h35 => ?_) (fun h35 => ?_)
          ·
            have p35 := h35
            try simp only [decide_eq_true_eq, decide_eq_false_iff_not, Bool.not_eq_true', Bool.not_eq_false', Option.isNone_iff_eq_none, ne_eq, Decidable.not_not, Int.not_lt, Int.not_le] at p35
            refine T_seq ?_
            refine T_region ?_
            refine TL_q (Qt_assign (.slice _ _ _) rfl) rfl ?_
            refine TL_q (Qt_assign (.int .i64 _) rfl) rfl ?_
            refine TL_nil ?_
            refine X_then ?_
            refine T_ret ?_
            refine X_block_ret ?_
            refine X_then_ret ?_
            have e : putV v.abs = ([], 15) := by unfold putV; rw [if_neg p11, if_neg p28b, if_neg (by omega), if_neg (by simpa using h35)]
            simp only [e]
            exact X_ret ⟨none, 0⟩ [_, _] Try.results21 ⟨rfl, rfl, trivial⟩ rfl (fun w hw => (Subs.st inferInstance w hw : St w0 H w).addNilB 5)
          ·
            have p35 := h35
            try simp only [decide_eq_true_eq, decide_eq_false_iff_not, Bool.not_eq_true', Bool.not_eq_false', Option.isNone_iff_eq_none, ne_eq, Decidable.not_not, Int.not_lt, Int.not_le] at p35
            refine T_skip ?_
            refine X_block ?_
            refine X_then ?_
            refine T_seq ?_
            refine T_region ?_
            refine TL_q (Qt_move (.slice _ _ _) rfl) rfl ?_
            refine TL_q (Qt_assign (.slice _ _ _) rfl) rfl ?_
            refine TL_q (Qt_assign (.int .i64 _) rfl) rfl ?_
            refine TL_nil ?_
            refine X_then ?_
            refine T_ret ?_
            have e : putV v.abs = (told v.abs, 0) := by unfold putV; rw [if_neg p11, if_neg p28b, if_neg (by omega), if_pos (by simpa using h35)]
            simp only [e]
            exact X_ret ⟨x30.a, x30.c⟩ [_, _] Try.results21 ⟨rfl, rfl, trivial⟩ rfl (Subs.st inferInstance)
theorem longOne_neg {v : VoteV} (h1 : ¬ 500 < v.batch.l.length) (h2 : ¬ 20 < v.cert.ls.length) (h3 : ((v.cert.ls.map BS.l).any fun c => decide (300 < c.length)) = false) : longOne v.abs = false := by
  have e1 : decide (500 < v.abs.batch.length) = false := decide_eq_false h1
  have e2 : decide (20 < v.abs.cert.length) = false := decide_eq_false (by rw [certs_len]; exact h2)
  have e3 : (v.abs.cert.any fun c => decide (300 < c.length)) = false := h3
  simp only [longOne, e1, e2, e3, Bool.or_self]
theorem longOne_1 {v : VoteV} (h : 500 < v.batch.l.length) : longOne v.abs = true := by simp [longOne, VoteV.abs, h]
theorem longOne_2 {v : VoteV} (h : 20 < v.cert.ls.length) : longOne v.abs = true := by simp [longOne, VoteV.abs, h]
theorem longOne_3 {v : VoteV} (k : Nat) (hk : k < v.cert.ls.length) (h : 300 < v.cert.ls[k].l.length) : longOne v.abs = true := by
  have : (v.abs.cert.any fun c => decide (300 < c.length)) = true := any_of_get _ v.abs.cert k (by rw [certs_len]; exact hk) (by simpa [VoteV.abs] using h)
  simp [longOne, this]
theorem longB_of {vs : List VoteV} (k : Nat) (hk : k < vs.length) (h : longOne vs[k].abs = true) : longB (vs.map VoteV.abs) = true := by
  have := any_of_get longOne (vs.map VoteV.abs) k (by simpa using hk) (by simpa using h)
  simp [longB, this]
theorem vote_pos {vs : List VoteV} {i : Nat} (hi : i < vs.length) : 0 < (vs.flatMap VoteV.list).length := by rw [flat_len _ 38 VoteV.list_len]; omega
/-- Each vote of a list reads. -/
class RdVs (w0 : World) (H : List SA) (vs : List VoteV) : Prop where
  b : ∀ v ∈ vs, RdB w0 H (.slice v.batch.a v.batch.l.length v.batch.c) v.batch.l
  c : ∀ v ∈ vs, RdC w0 H (.slice v.cert.a v.cert.ls.length v.cert.c) 1 (v.cert.ls.map BS.val)
  e : ∀ v ∈ vs, RdE w0 H v.cert.ls
instance RdVs.tail {w0 : World} {H : List SA} {x : SA} {vs : List VoteV} [h : RdVs w0 H vs] : RdVs w0 (x :: H) vs := ⟨fun v hv => have := h.b v hv; inferInstance, fun v hv => have := h.c v hv; inferInstance, fun v hv => have := h.e v hv; inferInstance⟩

set_option maxHeartbeats 1000000 in
theorem long_c {w0 : World} {H : List SA} {a : Option Addr} {vs : List VoteV} {c : Nat} [hr : RdC w0 H (.slice a vs.length c) 38 (vs.flatMap VoteV.list)] [rv : RdVs w0 H vs] :
    CT Try.prog w0 (H) 10 [.slice a vs.length c] (α := Unit) (fun _ => .bool (longB (vs.map VoteV.abs))) (fun _ => H) := by
  refine CT_intro Try.func10 rfl Try.ntmps10 rfl ?_
  refine T_seq ?_
  refine T_region ?_
  refine TL_q (Qt_assign (.bool _) rfl) rfl ?_
  refine TL_nil ?_
  refine X_then ?_
  refine T_seq ?_
  refine T_seq ?_
  refine T_region ?_
  refine TL_q (Qt_move (.slice _ _ _) rfl) rfl ?_
  refine TL_q (Qt_len_slice rfl Try.underlying30) rfl ?_
  refine TL_q (Qt_gtr rfl rfl) rfl ?_
  refine TL_nil ?_
  refine X_then ?_
  refine T_cond rfl (fun h7 => ?_) (fun h7 => ?_)
  ·
    have p7 := h7
    try simp only [decide_eq_true_eq, decide_eq_false_iff_not, Bool.not_eq_true', Bool.not_eq_false', Option.isNone_iff_eq_none, ne_eq, Decidable.not_not, Int.not_lt, Int.not_le] at p7
    refine T_seq ?_
    refine T_region ?_
    refine TL_q (Qt_assign (.bool _) rfl) rfl ?_
    refine TL_nil ?_
    refine X_then ?_
    refine T_ret ?_
    refine X_then_ret ?_
    have e : longB (vs.map VoteV.abs) = true := by simp [longB]; left; omega
    exact X_ret () [_] Try.results10 ⟨rfl, trivial⟩ (by rw [e]; rfl) (Subs.st inferInstance)
  ·
    have p7 := h7
    try simp only [decide_eq_true_eq, decide_eq_false_iff_not, Bool.not_eq_true', Bool.not_eq_false', Option.isNone_iff_eq_none, ne_eq, Decidable.not_not, Int.not_lt, Int.not_le] at p7
    refine T_skip ?_
    refine X_then ?_
    refine T_seq ?_
    refine T_seq ?_
    refine T_region ?_
    refine TL_q (Qt_assign (.int .i64 _) rfl) rfl ?_
    refine TL_nil ?_
    refine X_then ?_
    refine T_block ?_
    refine T_loop [2, 3, 4, 8, 9, 10, 11, 12, 13, 14, 15, 16, 17, 18, 19, 20, 21, 22, 23, 24, 25, 26, 27, 28, 29, 30, 31, 32, 33, 34, 35, 36, 37, 38, 39, 40, 41, 42, 43, 44, 45, 46, 47, 48, 49] [3] (fun us H' => ∃ i : Nat, us = [.int .i64 (i : Int)] ∧ H = H' ∧ i ≤ vs.length ∧ ((vs.map VoteV.abs).take i).any longOne = false) (fun us => match us with | .int _ i :: _ => vs.length - i.toNat | _ => 0) ⟨0, rfl, rfl, by omega, rfl⟩ (Subs.st inferInstance) ?_
    rintro τ0 _ _  ⟨i, rfl, rfl, hi0, hpre⟩ _
    refine T_seq ?_
    refine T_seq ?_
    refine T_region ?_
    refine TL_q (Qt_move (.int .i64 _) rfl) rfl ?_
    refine TL_q (Qt_move (.slice _ _ _) rfl) rfl ?_
    refine TL_q (Qt_len_slice rfl Try.underlying30) rfl ?_
    refine TL_q (Qt_lss rfl rfl) rfl ?_
    refine TL_nil ?_
    refine X_then ?_
    refine T_cond rfl (fun h11 => ?_) (fun h11 => ?_)
    ·
      have p11 := h11
      try simp only [decide_eq_true_eq, decide_eq_false_iff_not, Bool.not_eq_true', Bool.not_eq_false', Option.isNone_iff_eq_none, ne_eq, Decidable.not_not, Int.not_lt, Int.not_le] at p11
      have hi : i < vs.length := by omega
      refine T_skip ?_
      refine X_then ?_
      refine T_seq ?_
      refine T_block ?_
      refine T_seq ?_
      refine T_seq ?_
      refine T_region ?_
      refine TL_q (Qt_move (.slice _ _ _) rfl) rfl ?_
      refine TL_q (Qt_move (.int .i64 _) rfl) rfl ?_
      refine TL_q (Qt_indexN rfl rfl (by omega) (by omega)) rfl ?_
      refine TL_q (Qt_fieldR rfl 38 (vote_pos hi)) rfl ?_
      refine TL_q (Qt_loadRs 38 (.slice _ _ _) rfl (vote_get vs i 36 hi (by decide) inferInstance)) rfl ?_
      refine TL_q (Qt_len_slice rfl Try.underlying24) rfl ?_
      refine TL_q (Qt_gtr rfl rfl) rfl ?_
      refine TL_q (Qt_move (.bool _) rfl) rfl ?_
      refine TL_split 21 rfl (fun h21 => ?_) (fun h21 => ?_)
      ·
        have p21 := h21
        try simp only [decide_eq_true_eq, decide_eq_false_iff_not, Bool.not_eq_true', Bool.not_eq_false', Option.isNone_iff_eq_none, ne_eq, Decidable.not_not, Int.not_lt, Int.not_le] at p21
        refine TL_pass rfl rfl h21 rfl ?_
        refine TL_pass rfl rfl h21 rfl ?_
        refine TL_pass rfl rfl h21 rfl ?_
        refine TL_pass rfl rfl h21 rfl ?_
        refine TL_pass rfl rfl h21 rfl ?_
        refine TL_pass rfl rfl h21 rfl ?_
        refine TL_pass rfl rfl h21 rfl ?_
        refine TL_q (Qt_pick_t (.bool _) rfl h21 rfl) rfl ?_
        refine TL_nil ?_
        refine X_then ?_
        refine T_cond_true rfl rfl ?_
        refine T_seq ?_
        refine T_region ?_
        refine TL_q (Qt_assign (.bool _) rfl) rfl ?_
        refine TL_nil ?_
        refine X_then ?_
        refine T_ret ?_
        refine X_then_ret ?_
        refine X_block_ret ?_
        refine X_then_ret ?_
        refine X_loop_ret ?_
        refine X_block_ret ?_
        refine X_then_ret ?_
        have e := longB_of i hi (longOne_1 (by omega))
        exact X_ret () [_] Try.results10 ⟨rfl, trivial⟩ (by rw [e]; rfl) (Subs.st inferInstance)
      ·
        have p21 := h21
        try simp only [decide_eq_true_eq, decide_eq_false_iff_not, Bool.not_eq_true', Bool.not_eq_false', Option.isNone_iff_eq_none, ne_eq, Decidable.not_not, Int.not_lt, Int.not_le] at p21
        refine TL_take rfl rfl h21 ?_
        refine TL_q (Qt_move (.slice _ _ _) rfl) rfl ?_
        refine TL_take rfl rfl h21 ?_
        refine TL_q (Qt_move (.int .i64 _) rfl) rfl ?_
        refine TL_take rfl rfl h21 ?_
        refine TL_q (Qt_indexN rfl rfl (by omega) (by omega)) rfl ?_
        refine TL_take rfl rfl h21 ?_
        refine TL_q (Qt_fieldR rfl 38 (vote_pos hi)) rfl ?_
        refine TL_take rfl rfl h21 ?_
        refine TL_q (Qt_loadRs 38 (.slice _ _ _) rfl (vote_get vs i 37 hi (by decide) inferInstance)) rfl ?_
        refine TL_take rfl rfl h21 ?_
        refine TL_q (Qt_len_slice rfl Try.underlying25) rfl ?_
        refine TL_take rfl rfl h21 ?_
        refine TL_q (Qt_gtr rfl rfl) rfl ?_
        refine TL_q (Qt_pick_f (.bool _) rfl h21 rfl) rfl ?_
        refine TL_nil ?_
        refine X_then ?_
        refine T_cond rfl (fun h29 => ?_) (fun h29 => ?_)
        ·
          have p29 := h29
          try simp only [decide_eq_true_eq, decide_eq_false_iff_not, Bool.not_eq_true', Bool.not_eq_false', Option.isNone_iff_eq_none, ne_eq, Decidable.not_not, Int.not_lt, Int.not_le] at p29
          refine T_seq ?_
          refine T_region ?_
          refine TL_q (Qt_assign (.bool _) rfl) rfl ?_
          refine TL_nil ?_
          refine X_then ?_
          refine T_ret ?_
          refine X_then_ret ?_
          refine X_block_ret ?_
          refine X_then_ret ?_
          refine X_loop_ret ?_
          refine X_block_ret ?_
          refine X_then_ret ?_
          have e := longB_of i hi (longOne_2 (by omega))
          exact X_ret () [_] Try.results10 ⟨rfl, trivial⟩ (by rw [e]; rfl) (Subs.st inferInstance)
        ·
          have p29 := h29
          try simp only [decide_eq_true_eq, decide_eq_false_iff_not, Bool.not_eq_true', Bool.not_eq_false', Option.isNone_iff_eq_none, ne_eq, Decidable.not_not, Int.not_lt, Int.not_le] at p29
          refine T_skip ?_
          refine X_then ?_
          refine T_seq ?_
          refine T_region ?_
          refine TL_q (Qt_assign (.int .i64 _) rfl) rfl ?_
          refine TL_nil ?_
          refine X_then ?_
          refine T_block ?_
          refine T_loop [2, 4, 30, 31, 32, 33, 34, 35, 36, 37, 38, 39, 40, 41, 42, 43, 44, 45, 46, 47, 48, 49] [4] (fun us H' => ∃ k : Nat, us = [.int .i64 (k : Int)] ∧ H = H' ∧ k ≤ vs[i].cert.ls.length ∧ ((vs[i].cert.ls.map BS.l).take k).any (fun c => decide (300 < c.length)) = false) (fun us => match us with | .int _ k :: _ => vs[i].cert.ls.length - k.toNat | _ => 0) ⟨0, rfl, rfl, by omega, rfl⟩ (Subs.st inferInstance) ?_
          rintro τ1 _ _  ⟨k, rfl, rfl, hk0, hpre2⟩ _
          refine T_seq ?_
          refine T_seq ?_
          refine T_region ?_
          refine TL_q (Qt_move (.int .i64 _) rfl) rfl ?_
          refine TL_q (Qt_move (.slice _ _ _) rfl) rfl ?_
          refine TL_q (Qt_move (.int .i64 _) rfl) rfl ?_
          refine TL_q (Qt_indexN rfl rfl (by omega) (by omega)) rfl ?_
          refine TL_q (Qt_fieldR rfl 38 (vote_pos hi)) rfl ?_
          refine TL_q (Qt_loadRs 38 (.slice _ _ _) rfl (vote_get vs i 37 hi (by decide) inferInstance)) rfl ?_
          refine TL_q (Qt_len_slice rfl Try.underlying25) rfl ?_
          refine TL_q (Qt_lss rfl rfl) rfl ?_
          refine TL_nil ?_
          refine X_then ?_
          refine T_cond rfl (fun h37 => ?_) (fun h37 => ?_)
          ·
            have p37 := h37
            try simp only [decide_eq_true_eq, decide_eq_false_iff_not, Bool.not_eq_true', Bool.not_eq_false', Option.isNone_iff_eq_none, ne_eq, Decidable.not_not, Int.not_lt, Int.not_le] at p37
            have hk : k < vs[i].cert.ls.length := by omega
            refine T_skip ?_
            refine X_then ?_
            refine T_seq ?_
            refine T_block ?_
            refine T_seq ?_
            refine T_region ?_
            refine TL_q (Qt_move (.slice _ _ _) rfl) rfl ?_
            refine TL_q (Qt_move (.int .i64 _) rfl) rfl ?_
            refine TL_q (Qt_indexN rfl rfl (by omega) (by omega)) rfl ?_
            refine TL_q (Qt_fieldR rfl 38 (vote_pos hi)) rfl ?_
            refine TL_q (Qt_loadRs 38 (.slice _ _ _) rfl (vote_get vs i 37 hi (by decide) inferInstance)) rfl ?_
            refine TL_q (Qt_move (.int .i64 _) rfl) rfl ?_
            have := rv.c vs[i] (List.getElem_mem hi)
            refine TL_q (Qt_indexR rfl rfl (by omega) (by simp; omega)) rfl ?_
            refine TL_q (Qt_loadR (.slice _ _ _) rfl (vals_get _ _ hk)) rfl ?_
            refine TL_q (Qt_len_slice rfl Try.underlying24) rfl ?_
            refine TL_q (Qt_gtr rfl rfl) rfl ?_
            refine TL_nil ?_
            refine X_then ?_
            refine T_cond rfl (fun h49 => ?_) (fun h49 => ?_)
            ·
              have p49 := h49
              try simp only [decide_eq_true_eq, decide_eq_false_iff_not, Bool.not_eq_true', Bool.not_eq_false', Option.isNone_iff_eq_none, ne_eq, Decidable.not_not, Int.not_lt, Int.not_le] at p49
              refine T_seq ?_
              refine T_region ?_
              refine TL_q (Qt_assign (.bool _) rfl) rfl ?_
              refine TL_nil ?_
              refine X_then ?_
              refine T_ret ?_
              refine X_block_ret ?_
              refine X_then_ret ?_
              refine X_loop_ret ?_
              refine X_block_ret ?_
              refine X_block_ret ?_
              refine X_then_ret ?_
              refine X_loop_ret ?_
              refine X_block_ret ?_
              refine X_then_ret ?_
              have e := longB_of i hi (longOne_3 k hk (by omega))
              exact X_ret () [_] Try.results10 ⟨rfl, trivial⟩ (by rw [e]; rfl) (Subs.st inferInstance)
            ·
              have p49 := h49
              try simp only [decide_eq_true_eq, decide_eq_false_iff_not, Bool.not_eq_true', Bool.not_eq_false', Option.isNone_iff_eq_none, ne_eq, Decidable.not_not, Int.not_lt, Int.not_le] at p49
              refine T_skip ?_
              refine X_block ?_
              refine X_then ?_
              refine T_region ?_
              refine TL_q (Qt_move (.int .i64 _) rfl) rfl ?_
              first
                | refine TL_q (Qt_add rfl rfl (by omega) (by omega)) rfl ?_
                | refine TL_q (Qt_addw rfl rfl) rfl ?_
              refine TL_q (Qt_assign (.int .i64 _) rfl) rfl ?_
              refine TL_nil ?_
              refine X_loop _ (by repeat (first | with_reducible exact agree_refl | refine agree_upd rfl ?_ | refine agree_mix rfl ?_ | refine agree_setAll rfl ?_)) (⟨k + 1, rfl, rfl, by omega, any_take_snoc _ (vs[i].cert.ls.map BS.l) k (by simpa using hk) hpre2 (by simp; omega)⟩) (by show vs[i].cert.ls.length - (k + 1 : Int).toNat < vs[i].cert.ls.length - (k : Int).toNat; omega) ((Subs.st inferInstance))
          ·
            have p37 := h37
            try simp only [decide_eq_true_eq, decide_eq_false_iff_not, Bool.not_eq_true', Bool.not_eq_false', Option.isNone_iff_eq_none, ne_eq, Decidable.not_not, Int.not_lt, Int.not_le] at p37
            have et2 : (vs[i].cert.ls.map BS.l).take k = vs[i].cert.ls.map BS.l := List.take_of_length_le (by simp; omega)
            rw [et2] at hpre2
            have hone : longOne vs[i].abs = false := longOne_neg (by omega) (by omega) hpre2
            refine T_exit ?_
            refine X_then_exit ?_
            refine X_loop_exit ?_
            refine X_block_exit ?_
            refine X_block ?_
            refine X_then ?_
            refine T_region ?_
            refine TL_q (Qt_move (.int .i64 _) rfl) rfl ?_
            first
              | refine TL_q (Qt_add rfl rfl (by omega) (by omega)) rfl ?_
              | refine TL_q (Qt_addw rfl rfl) rfl ?_
            refine TL_q (Qt_assign (.int .i64 _) rfl) rfl ?_
            refine TL_nil ?_
            refine X_loop _ (by repeat (first | with_reducible exact agree_refl | refine agree_upd rfl ?_ | refine agree_mix rfl ?_ | refine agree_setAll rfl ?_)) (⟨i + 1, rfl, rfl, by omega, any_take_snoc longOne (vs.map VoteV.abs) i (by simpa using hi) hpre (by simpa using hone)⟩) (by show vs.length - (i + 1 : Int).toNat < vs.length - (i : Int).toNat; omega) ((Subs.st inferInstance))
    ·
      have p11 := h11
      try simp only [decide_eq_true_eq, decide_eq_false_iff_not, Bool.not_eq_true', Bool.not_eq_false', Option.isNone_iff_eq_none, ne_eq, Decidable.not_not, Int.not_lt, Int.not_le] at p11
      have et : (vs.map VoteV.abs).take i = vs.map VoteV.abs := List.take_of_length_le (by simp; omega)
      rw [et] at hpre
      refine T_exit ?_
      refine X_then_exit ?_
      refine X_loop_exit ?_
      refine X_block_exit ?_
      refine X_then ?_
      refine T_seq ?_
      refine T_region ?_
      refine TL_q (Qt_assign (.bool _) rfl) rfl ?_
      refine TL_nil ?_
      refine X_then ?_
      refine T_ret ?_
      have e : longB (vs.map VoteV.abs) = false := by simp only [longB, hpre, Bool.or_false]; simp; omega
      exact X_ret () [_] Try.results10 ⟨rfl, trivial⟩ (by rw [e]; rfl) (Subs.st inferInstance)
end Go.Proofs.Ytdjbhpdfkopdgaa
