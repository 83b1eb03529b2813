/- Walks: Put of package votes; Same, SameParts, Parts, Long of the references. -/
import Derived.Test.YtdjbhpdfkopdgaaVw
namespace Go.Proofs.Ytdjbhpdfkopdgaa
open Go.RowKit Go.Sx
set_option maxRecDepth 100000
set_option linter.unusedSimpArgs false
set_option linter.unusedVariables false
theorem sumLen_take (l : List (List UInt8)) (k : Nat) (hk : k < l.length) : sumLen (l.take (k + 1)) = sumLen (l.take k) + l[k].length := by
  rw [take_get _ _ hk]; simp only [sumLen, List.map_append, List.map_cons, List.map_nil, List.sum_append, List.sum_cons, List.sum_nil]; omega
theorem sumLen_le (n : Nat) : ∀ l : List (List UInt8), (∀ x ∈ l, x.length ≤ n) → sumLen l ≤ l.length * n
  | [], _ => by simp [sumLen]
  | x :: l, h => by
    have h1 := sumLen_le n l (fun y hy => h y (by simp [hy]))
    have h2 := h x (by simp)
    simp only [sumLen, List.map_cons, List.sum_cons, List.length_cons] at h1 ⊢
    rw [Nat.add_mul, Nat.one_mul]; omega
theorem le_sumLen : ∀ (l : List (List UInt8)) (x : List UInt8), x ∈ l → x.length ≤ sumLen l
  | y :: l, x, h => by
    simp only [sumLen, List.map_cons, List.sum_cons]
    rcases List.mem_cons.1 h with rfl | h
    · omega
    · have := le_sumLen l x h; simp only [sumLen] at this; omega
theorem take_eq_all {α : Type} {l l2 : List α} {k : Nat} (h : l.take k = l2.take k) (hk : k = l.length) (hl : l.length = l2.length) : l = l2 := by
  subst hk
  rw [List.take_length, hl, List.take_length] at h
  exact h
theorem take_eq_snoc {α : Type} {l l2 : List α} {k : Nat} (h : l.take k = l2.take k) (h1 : k < l.length) (h2 : k < l2.length) (he : l[k] = l2[k]) : l.take (k + 1) = l2.take (k + 1) := by
  rw [take_get _ _ h1, take_get _ _ h2, h, he]
theorem ne_of_get {α : Type} {l l2 : List α} {k : Nat} (h1 : k < l.length) (h2 : k < l2.length) (he : l[k] ≠ l2[k]) : l ≠ l2 := by
  rintro rfl; exact he rfl
def longOne (v : VoteD) : Bool := decide (500 < v.batch.length) || decide (20 < v.cert.length) || v.cert.any fun c => decide (300 < c.length)
def longB (l : List VoteD) : Bool := decide (40 < l.length) || l.any longOne
theorem any_take_snoc {α : Type} (p : α → Bool) (l : List α) (k : Nat) (hk : k < l.length) (h : (l.take k).any p = false) (he : p l[k] = false) : (l.take (k + 1)).any p = false := by
  rw [take_get _ _ hk, List.any_append, h]; simp [he]
theorem any_of_get {α : Type} (p : α → Bool) (l : List α) (k : Nat) (hk : k < l.length) (he : p l[k] = true) : l.any p = true := List.any_eq_true.2 ⟨l[k], List.getElem_mem hk, he⟩
theorem cell_list {l : List Value} {j : Nat} {u : Value} (h : CellAt l.toArray j u) : l[j]? = some u := by simpa using h.ok
theorem vote_get (vs : List VoteV) (i j : Nat) (hi : i < vs.length) (hj : j < 38) {u : Value} (h : CellAt vs[i].cells j u) : (vs.flatMap VoteV.list)[i * 38 + j]? = some u := by
  rw [flat_get VoteV.list 38 VoteV.list_len vs i j hi hj]
  exact cell_list (l := vs[i].list) h

set_option maxHeartbeats 1000000 in
theorem same_c {w0 : World} {H : List SA} {a a2 : Option Addr} {l l2 : List UInt8} {c c2 : Nat} [hr : RdB w0 H (.slice a l.length c) l] [hr2 : RdB w0 H (.slice a2 l2.length c2) l2] (hl : l.length ≤ 4294967296) :
    CT Try.prog w0 (H) 23 [.slice a l.length c, .slice a2 l2.length c2] (α := Unit) (fun _ => .bool (decide (l = l2))) (fun _ => H) := by
  refine CT_intro Try.func23 rfl Try.ntmps23 rfl ?_
  refine T_seq ?_
  refine T_region ?_
  refine TL_q (Qt_assign (.bool _) rfl) rfl ?_
  refine TL_nil ?_
  refine X_then ?_
  refine T_seq ?_
  refine T_seq ?_
  refine T_region ?_
  refine TL_q (Qt_move (.slice _ _ _) rfl) rfl ?_
  refine TL_q (Qt_len_slice rfl Try.underlying24) rfl ?_
  refine TL_q (Qt_move (.slice _ _ _) rfl) rfl ?_
  refine TL_q (Qt_len_slice rfl Try.underlying24) rfl ?_
  refine TL_q (Qt_neq rfl rfl) rfl ?_
  refine TL_nil ?_
  refine X_then ?_
  refine T_cond rfl (fun h10 => ?_) (fun h10 => ?_)
  ·
    have p10 := h10
    try simp only [decide_eq_true_eq, decide_eq_false_iff_not, Bool.not_eq_true', Bool.not_eq_false', Option.isNone_iff_eq_none, ne_eq, Decidable.not_not, Int.not_lt, Int.not_le] at p10
    refine T_seq ?_
    refine T_region ?_
    refine TL_q (Qt_assign (.bool _) rfl) rfl ?_
    refine TL_nil ?_
    refine X_then ?_
    refine T_ret ?_
    refine X_then_ret ?_
    have he : ¬ l = l2 := fun h => p10 (by rw [h])
    exact X_ret () [.bool (decide (l = l2))] Try.results23 ⟨by simp only [he, decide_false]; rfl, trivial⟩ rfl (Subs.st inferInstance)
  ·
    have p10 := h10
    try simp only [decide_eq_true_eq, decide_eq_false_iff_not, Bool.not_eq_true', Bool.not_eq_false', Option.isNone_iff_eq_none, ne_eq, Decidable.not_not, Int.not_lt, Int.not_le] at p10
    refine T_skip ?_
    refine X_then ?_
    refine T_seq ?_
    refine T_seq ?_
    refine T_region ?_
    refine TL_q (Qt_assign (.int .i64 _) rfl) rfl ?_
    refine TL_nil ?_
    refine X_then ?_
    refine T_block ?_
    have hll : l.length = l2.length := by omega
    refine T_loop [4, 5, 11, 12, 13, 14, 15, 16, 17, 18, 19, 20, 21, 22, 23, 24, 25] [5] (fun vs H' => ∃ k : Nat, vs = [.int .i64 (k : Int)] ∧ H = H' ∧ k ≤ l.length ∧ l.take k = l2.take k) (fun vs => match vs with | .int _ i :: _ => l.length - i.toNat | _ => 0) ⟨0, rfl, rfl, by omega, rfl⟩ (Subs.st inferInstance) ?_
    rintro τ0 _ _  ⟨k, rfl, rfl, hk0, hpre⟩ _
    refine T_seq ?_
    refine T_seq ?_
    refine T_region ?_
    refine TL_q (Qt_move (.int .i64 _) rfl) rfl ?_
    refine TL_q (Qt_move (.slice _ _ _) rfl) rfl ?_
    refine TL_q (Qt_len_slice rfl Try.underlying24) rfl ?_
    refine TL_q (Qt_lss rfl rfl) rfl ?_
    refine TL_nil ?_
    refine X_then ?_
    refine T_cond rfl (fun h14 => ?_) (fun h14 => ?_)
    ·
      have p14 := h14
      try simp only [decide_eq_true_eq, decide_eq_false_iff_not, Bool.not_eq_true', Bool.not_eq_false', Option.isNone_iff_eq_none, ne_eq, Decidable.not_not, Int.not_lt, Int.not_le] at p14
      have hk : k < l.length := by omega
      have hk2 : k < l2.length := by omega
      refine T_skip ?_
      refine X_then ?_
      refine T_seq ?_
      refine T_block ?_
      refine T_seq ?_
      refine T_draw _ [(0, true), (1, true), (2, true), (3, true), (4, true), (5, true), (6, true), (7, true), (8, true)] (by kernel_rfl) (by kernel_rfl) rfl (by kernel_rfl) (fun _ hh => hh) (fun hns0 => ?_)
      refine DL_q hns0 rfl (Qt_move (.slice _ _ _) rfl) rfl ?_
      refine DL_q hns0 rfl (Qt_move (.int .i64 _) rfl) rfl ?_
      refine DL_q hns0 rfl (Qt_indexR rfl rfl (by omega) (by simp; omega)) rfl ?_
      refine DL_q hns0 rfl (Qt_loadR (.int .u8 (l[k].toNat : Int)) rfl (bytes_get _ _ hk)) rfl ?_
      refine DL_q hns0 rfl (Qt_move (.slice _ _ _) rfl) rfl ?_
      refine DL_q hns0 rfl (Qt_move (.int .i64 _) rfl) rfl ?_
      refine DL_q hns0 rfl (Qt_indexR rfl rfl (by omega) (by simp; omega)) rfl ?_
      refine DL_q hns0 rfl (Qt_loadR (.int .u8 (l2[k].toNat : Int)) rfl (bytes_get _ _ hk2)) rfl ?_
      refine DL_q hns0 rfl (Qt_neq rfl rfl) rfl ?_
      refine DL_nil ?_
      refine X_then ?_
      refine T_cond rfl (fun h25 => ?_) (fun h25 => ?_)
      ·
        have p25 := h25
        try simp only [decide_eq_true_eq, decide_eq_false_iff_not, Bool.not_eq_true', Bool.not_eq_false', Option.isNone_iff_eq_none, ne_eq, Decidable.not_not, Int.not_lt, Int.not_le] at p25
        have hne : l[k] ≠ l2[k] := fun h => p25 (by rw [h])
        have he := ne_of_get hk hk2 hne
        refine T_seq ?_
        refine T_region ?_
        refine TL_q (Qt_assign (.bool _) rfl) rfl ?_
        refine TL_nil ?_
        refine X_then ?_
        refine T_ret ?_
        refine X_block_ret ?_
        refine X_then_ret ?_
        refine X_loop_ret ?_
        refine X_block_ret ?_
        refine X_then_ret ?_
        exact X_ret () [.bool (decide (l = l2))] Try.results23 ⟨by simp only [he, decide_false, decide_true]; rfl, trivial⟩ rfl (Subs.st inferInstance)
      ·
        have p25 := h25
        try simp only [decide_eq_true_eq, decide_eq_false_iff_not, Bool.not_eq_true', Bool.not_eq_false', Option.isNone_iff_eq_none, ne_eq, Decidable.not_not, Int.not_lt, Int.not_le] at p25
        have heq : l[k] = l2[k] := (byteOf_eq _ _).1 p25
        refine T_skip ?_
        refine X_block ?_
        refine X_then ?_
        refine T_region ?_
        refine TL_q (Qt_move (.int .i64 _) rfl) rfl ?_
        first
          | refine TL_q (Qt_add rfl rfl (by omega) (by omega)) rfl ?_
          | refine TL_q (Qt_addw rfl rfl) rfl ?_
        refine TL_q (Qt_assign (.int .i64 _) rfl) rfl ?_
        refine TL_nil ?_
        refine X_loop _ (by repeat (first | with_reducible exact agree_refl | refine agree_upd rfl ?_ | refine agree_mix rfl ?_ | refine agree_setAll rfl ?_)) (⟨k + 1, rfl, rfl, by omega, take_eq_snoc hpre hk hk2 heq⟩) (by show l.length - (k + 1 : Int).toNat < l.length - (k : Int).toNat; omega) ((Subs.st inferInstance))
    ·
      have p14 := h14
      try simp only [decide_eq_true_eq, decide_eq_false_iff_not, Bool.not_eq_true', Bool.not_eq_false', Option.isNone_iff_eq_none, ne_eq, Decidable.not_not, Int.not_lt, Int.not_le] at p14
      have he := take_eq_all hpre (by omega) hll
      refine T_exit ?_
      refine X_then_exit ?_
      refine X_loop_exit ?_
      refine X_block_exit ?_
      refine X_then ?_
      refine T_seq ?_
      refine T_region ?_
      refine TL_q (Qt_assign (.bool _) rfl) rfl ?_
      refine TL_nil ?_
      refine X_then ?_
      refine T_ret ?_
      exact X_ret () [.bool (decide (l = l2))] Try.results23 ⟨by simp only [he, decide_false, decide_true]; rfl, trivial⟩ rfl (Subs.st inferInstance)
set_option maxHeartbeats 1000000 in
theorem sameParts_c {w0 : World} {H : List SA} {a a2 : Option Addr} {l l2 : List BS} {c c2 : Nat} [hr : RdC w0 H (.slice a l.length c) 1 (l.map BS.val)] [re : RdE w0 H l] [hr2 : RdC w0 H (.slice a2 l2.length c2) 1 (l2.map BS.val)] [re2 : RdE w0 H l2] (hl : l.length ≤ 4294967296) (he1 : ∀ x ∈ l, x.l.length ≤ 4294967296) :
    CT Try.prog w0 (H) 31 [.slice a l.length c, .slice a2 l2.length c2] (α := Unit) (fun _ => .bool (decide (l.map BS.l = l2.map BS.l))) (fun _ => H) := by
  refine CT_intro Try.func31 rfl Try.ntmps31 rfl ?_
  refine T_seq ?_
  refine T_region ?_
  refine TL_q (Qt_assign (.bool _) rfl) rfl ?_
  refine TL_nil ?_
  refine X_then ?_
  refine T_seq ?_
  refine T_seq ?_
  refine T_region ?_
  refine TL_q (Qt_move (.slice _ _ _) rfl) rfl ?_
  refine TL_q (Qt_len_slice rfl Try.underlying25) rfl ?_
  refine TL_q (Qt_move (.slice _ _ _) rfl) rfl ?_
  refine TL_q (Qt_len_slice rfl Try.underlying25) rfl ?_
  refine TL_q (Qt_neq rfl rfl) rfl ?_
  refine TL_nil ?_
  refine X_then ?_
  refine T_cond rfl (fun h10 => ?_) (fun h10 => ?_)
  ·
    have p10 := h10
    try simp only [decide_eq_true_eq, decide_eq_false_iff_not, Bool.not_eq_true', Bool.not_eq_false', Option.isNone_iff_eq_none, ne_eq, Decidable.not_not, Int.not_lt, Int.not_le] at p10
    refine T_seq ?_
    refine T_region ?_
    refine TL_q (Qt_assign (.bool _) rfl) rfl ?_
    refine TL_nil ?_
    refine X_then ?_
    refine T_ret ?_
    refine X_then_ret ?_
    have he : ¬ l.map BS.l = l2.map BS.l := fun h => p10 (by have := congrArg List.length h; simp at this; omega)
    exact X_ret () [.bool (decide (l.map BS.l = l2.map BS.l))] Try.results31 ⟨by simp only [he, decide_false]; rfl, trivial⟩ rfl (Subs.st inferInstance)
  ·
    have p10 := h10
    try simp only [decide_eq_true_eq, decide_eq_false_iff_not, Bool.not_eq_true', Bool.not_eq_false', Option.isNone_iff_eq_none, ne_eq, Decidable.not_not, Int.not_lt, Int.not_le] at p10
    refine T_skip ?_
    refine X_then ?_
    refine T_seq ?_
    refine T_seq ?_
    refine T_region ?_
    refine TL_q (Qt_assign (.int .i64 _) rfl) rfl ?_
    refine TL_nil ?_
    refine X_then ?_
    refine T_block ?_
    have hll : (l.map BS.l).length = (l2.map BS.l).length := by simp; omega
    refine T_loop [4, 5, 11, 12, 13, 14, 15, 16, 17, 18, 19, 20, 21, 22, 23, 24, 25, 26] [5] (fun vs H' => ∃ k : Nat, vs = [.int .i64 (k : Int)] ∧ H = H' ∧ k ≤ l.length ∧ (l.map BS.l).take k = (l2.map BS.l).take k) (fun vs => match vs with | .int _ i :: _ => l.length - i.toNat | _ => 0) ⟨0, rfl, rfl, by omega, rfl⟩ (Subs.st inferInstance) ?_
    rintro τ0 _ _  ⟨k, rfl, rfl, hk0, hpre⟩ _
    refine T_seq ?_
    refine T_seq ?_
    refine T_region ?_
    refine TL_q (Qt_move (.int .i64 _) rfl) rfl ?_
    refine TL_q (Qt_move (.slice _ _ _) rfl) rfl ?_
    refine TL_q (Qt_len_slice rfl Try.underlying25) rfl ?_
    refine TL_q (Qt_lss rfl rfl) rfl ?_
    refine TL_nil ?_
    refine X_then ?_
    refine T_cond rfl (fun h14 => ?_) (fun h14 => ?_)
    ·
      have p14 := h14
      try simp only [decide_eq_true_eq, decide_eq_false_iff_not, Bool.not_eq_true', Bool.not_eq_false', Option.isNone_iff_eq_none, ne_eq, Decidable.not_not, Int.not_lt, Int.not_le] at p14
      have hk : k < l.length := by omega
      have hk2 : k < l2.length := by simp at hll; omega
      have : RdB w0 H (.slice l[k].a l[k].l.length l[k].c) l[k].l := re.get (List.getElem_mem hk)
      have : RdB w0 H (.slice l2[k].a l2[k].l.length l2[k].c) l2[k].l := re2.get (List.getElem_mem hk2)
      refine T_skip ?_
      refine X_then ?_
      refine T_seq ?_
      refine T_block ?_
      refine T_seq ?_
      refine T_draw _ [(0, true), (1, true), (2, true), (3, true), (4, true), (5, true), (6, true), (7, true), (8, false), (9, true)] (by kernel_rfl) (by kernel_rfl) rfl (by kernel_rfl) (fun _ hh => hh) (fun hns0 => ?_)
      refine DL_q hns0 rfl (Qt_move (.slice _ _ _) rfl) rfl ?_
      refine DL_q hns0 rfl (Qt_move (.int .i64 _) rfl) rfl ?_
      refine DL_q hns0 rfl (Qt_indexR rfl rfl (by omega) (by simp; omega)) rfl ?_
      refine DL_q hns0 rfl (Qt_loadR (.slice _ _ _) rfl (vals_get _ _ hk)) rfl ?_
      refine DL_q hns0 rfl (Qt_move (.slice _ _ _) rfl) rfl ?_
      refine DL_q hns0 rfl (Qt_move (.int .i64 _) rfl) rfl ?_
      refine DL_q hns0 rfl (Qt_indexR rfl rfl (by omega) (by simp; omega)) rfl ?_
      refine DL_q hns0 rfl (Qt_loadR (.slice _ _ _) rfl (vals_get _ _ hk2)) rfl ?_
      refine DL_e rfl rfl (Ef_call (same_c (he1 _ (List.getElem_mem hk))) rfl (fun x25 => ⟨(Subs.st inferInstance), ?_⟩))
      refine DL_q hns0 rfl (Qt_not rfl) rfl ?_
      refine DL_nil ?_
      refine X_then ?_
      refine T_cond rfl (fun h26 => ?_) (fun h26 => ?_)
      ·
        have p26 := h26
        try simp only [decide_eq_true_eq, decide_eq_false_iff_not, Bool.not_eq_true', Bool.not_eq_false', Option.isNone_iff_eq_none, ne_eq, Decidable.not_not, Int.not_lt, Int.not_le] at p26
        have hne : l[k].l ≠ l2[k].l := by simpa using p26
        have he := ne_of_get (l := l.map BS.l) (l2 := l2.map BS.l) (k := k) (by simpa using hk) (by simpa using hk2) (by simpa using hne)
        refine T_seq ?_
        refine T_region ?_
        refine TL_q (Qt_assign (.bool _) rfl) rfl ?_
        refine TL_nil ?_
        refine X_then ?_
        refine T_ret ?_
        refine X_block_ret ?_
        refine X_then_ret ?_
        refine X_loop_ret ?_
        refine X_block_ret ?_
        refine X_then_ret ?_
        exact X_ret () [.bool (decide (l.map BS.l = l2.map BS.l))] Try.results31 ⟨by simp only [he, decide_false, decide_true]; rfl, trivial⟩ rfl (Subs.st inferInstance)
      ·
        have p26 := h26
        try simp only [decide_eq_true_eq, decide_eq_false_iff_not, Bool.not_eq_true', Bool.not_eq_false', Option.isNone_iff_eq_none, ne_eq, Decidable.not_not, Int.not_lt, Int.not_le] at p26
        have heq : l[k].l = l2[k].l := by simpa using p26
        refine T_skip ?_
        refine X_block ?_
        refine X_then ?_
        refine T_region ?_
        refine TL_q (Qt_move (.int .i64 _) rfl) rfl ?_
        first
          | refine TL_q (Qt_add rfl rfl (by omega) (by omega)) rfl ?_
          | refine TL_q (Qt_addw rfl rfl) rfl ?_
        refine TL_q (Qt_assign (.int .i64 _) rfl) rfl ?_
        refine TL_nil ?_
        refine X_loop _ (by repeat (first | with_reducible exact agree_refl | refine agree_upd rfl ?_ | refine agree_mix rfl ?_ | refine agree_setAll rfl ?_)) (⟨k + 1, rfl, rfl, by omega, take_eq_snoc hpre (by simpa using hk) (by simpa using hk2) (by simpa using heq)⟩) (by show l.length - (k + 1 : Int).toNat < l.length - (k : Int).toNat; omega) ((Subs.st inferInstance))
    ·
      have p14 := h14
      try simp only [decide_eq_true_eq, decide_eq_false_iff_not, Bool.not_eq_true', Bool.not_eq_false', Option.isNone_iff_eq_none, ne_eq, Decidable.not_not, Int.not_lt, Int.not_le] at p14
      have he := take_eq_all hpre (by simp; omega) hll
      refine T_exit ?_
      refine X_then_exit ?_
      refine X_loop_exit ?_
      refine X_block_exit ?_
      refine X_then ?_
      refine T_seq ?_
      refine T_region ?_
      refine TL_q (Qt_assign (.bool _) rfl) rfl ?_
      refine TL_nil ?_
      refine X_then ?_
      refine T_ret ?_
      exact X_ret () [.bool (decide (l.map BS.l = l2.map BS.l))] Try.results31 ⟨by simp only [he, decide_false, decide_true]; rfl, trivial⟩ rfl (Subs.st inferInstance)
theorem VoteD.ext_iff' (x y : VoteD) : x = y ↔ x.kind = y.kind ∧ x.view = y.view ∧ x.reg = y.reg ∧ x.slot = y.slot ∧ x.hash = y.hash ∧ x.batch = y.batch ∧ x.cert = y.cert := by cases x; cases y; simp
instance : DecidableEq VoteD := fun x y => decidable_of_iff _ (VoteD.ext_iff' x y).symm

set_option maxHeartbeats 1000000 in
theorem same13_c {w0 : World} {H : List SA} {v u : VoteV} [rbv : RdB w0 H (.slice v.batch.a v.batch.l.length v.batch.c) v.batch.l] [rcv : RdC w0 H (.slice v.cert.a v.cert.ls.length v.cert.c) 1 (v.cert.ls.map BS.val)] [rev : RdE w0 H v.cert.ls] [rbu : RdB w0 H (.slice u.batch.a u.batch.l.length u.batch.c) u.batch.l] [rcu : RdC w0 H (.slice u.cert.a u.cert.ls.length u.cert.c) 1 (u.cert.ls.map BS.val)] [reu : RdE w0 H u.cert.ls] (hb : v.batch.l.length ≤ 4294967296) (hc : v.cert.ls.length ≤ 4294967296) (he1 : ∀ x ∈ v.cert.ls, x.l.length ≤ 4294967296) :
    CT Try.prog w0 (H) 15 [.agg v.cells, .agg u.cells] (α := Unit) (fun _ => .bool (decide (v.abs = u.abs))) (fun _ => H) := by
  refine CT_intro Try.func15 rfl Try.ntmps15 rfl ?_
  refine T_seq ?_
  refine T_region ?_
  refine TL_e rfl (Ef_boxN rfl (fun b2 => ?_))
  refine TL_e rfl (Ef_boxN rfl (fun b3 => ?_))
  refine TL_q (Qt_assign (.bool _) rfl) rfl ?_
  refine TL_nil ?_
  refine X_then ?_
  refine T_seq ?_
  refine T_region ?_
  refine TL_q (Qt_fieldAddr 0 rfl rfl) rfl ?_
  refine TL_q (Qt_load1 rfl) rfl ?_
  refine TL_q (Qt_fieldAddr 0 rfl rfl) rfl ?_
  refine TL_q (Qt_load1 rfl) rfl ?_
  refine TL_q (Qt_eql rfl rfl) rfl ?_
  refine TL_q (Qt_move (.bool _) rfl) rfl ?_
  refine TL_split 10 rfl (fun h10 => ?_) (fun h10 => ?_)
  ·
    have p10 := h10
    try simp only [decide_eq_true_eq, decide_eq_false_iff_not, Bool.not_eq_true', Bool.not_eq_false', Option.isNone_iff_eq_none, ne_eq, Decidable.not_not, Int.not_lt, Int.not_le] at p10
    refine TL_take rfl rfl h10 ?_
    refine TL_q (Qt_fieldAddr 1 rfl rfl) rfl ?_
    refine TL_take rfl rfl h10 ?_
    refine TL_q (Qt_load1 rfl) rfl ?_
    refine TL_take rfl rfl h10 ?_
    refine TL_q (Qt_fieldAddr 1 rfl rfl) rfl ?_
    refine TL_take rfl rfl h10 ?_
    refine TL_q (Qt_load1 rfl) rfl ?_
    refine TL_take rfl rfl h10 ?_
    refine TL_q (Qt_eql rfl rfl) rfl ?_
    refine TL_q (Qt_pick_t (.bool _) rfl h10 rfl) rfl ?_
    refine TL_q (Qt_move (.bool _) rfl) rfl ?_
    refine TL_split 17 rfl (fun h17 => ?_) (fun h17 => ?_)
    ·
      have p17 := h17
      try simp only [decide_eq_true_eq, decide_eq_false_iff_not, Bool.not_eq_true', Bool.not_eq_false', Option.isNone_iff_eq_none, ne_eq, Decidable.not_not, Int.not_lt, Int.not_le] at p17
      refine TL_take rfl rfl h17 ?_
      refine TL_q (Qt_fieldAddr 2 rfl rfl) rfl ?_
      refine TL_take rfl rfl h17 ?_
      refine TL_q (Qt_load1 rfl) rfl ?_
      refine TL_take rfl rfl h17 ?_
      refine TL_q (Qt_fieldAddr 2 rfl rfl) rfl ?_
      refine TL_take rfl rfl h17 ?_
      refine TL_q (Qt_load1 rfl) rfl ?_
      refine TL_take rfl rfl h17 ?_
      refine TL_q (Qt_eql rfl rfl) rfl ?_
      refine TL_q (Qt_pick_t (.bool _) rfl h17 rfl) rfl ?_
      refine TL_q (Qt_move (.bool _) rfl) rfl ?_
      refine TL_split 24 rfl (fun h24 => ?_) (fun h24 => ?_)
      ·
        have p24 := h24
        try simp only [decide_eq_true_eq, decide_eq_false_iff_not, Bool.not_eq_true', Bool.not_eq_false', Option.isNone_iff_eq_none, ne_eq, Decidable.not_not, Int.not_lt, Int.not_le] at p24
        refine TL_take rfl rfl h24 ?_
        refine TL_q (Qt_fieldAddr 3 rfl rfl) rfl ?_
        refine TL_take rfl rfl h24 ?_
        refine TL_q (Qt_load1 rfl) rfl ?_
        refine TL_take rfl rfl h24 ?_
        refine TL_q (Qt_fieldAddr 3 rfl rfl) rfl ?_
        refine TL_take rfl rfl h24 ?_
        refine TL_q (Qt_load1 rfl) rfl ?_
        refine TL_take rfl rfl h24 ?_
        refine TL_q (Qt_eql rfl rfl) rfl ?_
        refine TL_q (Qt_pick_t (.bool _) rfl h24 rfl) rfl ?_
        refine TL_q (Qt_move (.bool _) rfl) rfl ?_
        refine TL_split 31 rfl (fun h31 => ?_) (fun h31 => ?_)
        ·
          have p31 := h31
          try simp only [decide_eq_true_eq, decide_eq_false_iff_not, Bool.not_eq_true', Bool.not_eq_false', Option.isNone_iff_eq_none, ne_eq, Decidable.not_not, Int.not_lt, Int.not_le] at p31
          refine TL_take rfl rfl h31 ?_
          refine TL_q (Qt_fieldAddr 4 rfl rfl) rfl ?_
          refine TL_take rfl rfl h31 ?_
          refine TL_q (Qt_loadN rfl rfl) rfl ?_
          refine TL_take rfl rfl h31 ?_
          refine TL_q (Qt_fieldAddr 4 rfl rfl) rfl ?_
          refine TL_take rfl rfl h31 ?_
          refine TL_q (Qt_loadN rfl rfl) rfl ?_
          refine TL_take rfl rfl h31 ?_
          refine TL_q (Qt_agg_eql rfl rfl (by kernel_rfl)) rfl ?_
          refine TL_q (Qt_pick_t (.bool _) rfl h31 rfl) rfl ?_
          refine TL_q (Qt_move (.bool _) rfl) rfl ?_
          refine TL_split 38 rfl (fun h38 => ?_) (fun h38 => ?_)
          ·
            have p38 := h38
            try simp only [decide_eq_true_eq, decide_eq_false_iff_not, Bool.not_eq_true', Bool.not_eq_false', Option.isNone_iff_eq_none, ne_eq, Decidable.not_not, Int.not_lt, Int.not_le] at p38
            refine TL_take rfl rfl h38 ?_
            refine TL_q (Qt_fieldAddr 36 rfl rfl) rfl ?_
            refine TL_take rfl rfl h38 ?_
            refine TL_q (Qt_load1 rfl) rfl ?_
            refine TL_take rfl rfl h38 ?_
            refine TL_q (Qt_fieldAddr 36 rfl rfl) rfl ?_
            refine TL_take rfl rfl h38 ?_
            refine TL_q (Qt_load1 rfl) rfl ?_
            refine TL_take rfl rfl h38 ?_
            refine TL_e rfl (Ef_call (same_c hb) rfl (fun x43 => ?_))
            refine TL_q (Qt_pick_t (.bool _) rfl h38 rfl) rfl ?_
            refine TL_q (Qt_move (.bool _) rfl) rfl ?_
            refine TL_split 45 rfl (fun h45 => ?_) (fun h45 => ?_)
            ·
              have p45 := h45
              try simp only [decide_eq_true_eq, decide_eq_false_iff_not, Bool.not_eq_true', Bool.not_eq_false', Option.isNone_iff_eq_none, ne_eq, Decidable.not_not, Int.not_lt, Int.not_le] at p45
              refine TL_take rfl rfl h45 ?_
              refine TL_q (Qt_fieldAddr 37 rfl rfl) rfl ?_
              refine TL_take rfl rfl h45 ?_
              refine TL_q (Qt_load1 rfl) rfl ?_
              refine TL_take rfl rfl h45 ?_
              refine TL_q (Qt_fieldAddr 37 rfl rfl) rfl ?_
              refine TL_take rfl rfl h45 ?_
              refine TL_q (Qt_load1 rfl) rfl ?_
              refine TL_take rfl rfl h45 ?_
              refine TL_e rfl (Ef_call (sameParts_c hc he1) rfl (fun x50 => ?_))
              refine TL_q (Qt_pick_t (.bool _) rfl h45 rfl) rfl ?_
              refine TL_q (Qt_assign (.bool _) rfl) rfl ?_
              refine TL_nil ?_
              refine X_then ?_
              refine T_ret ?_
              refine X_ret () [.bool (decide (v.abs = u.abs))] Try.results15 ⟨?_, trivial⟩ rfl (Subs.st inferInstance)
              refine congrArg Value.bool ?_
              rw [Bool.eq_iff_iff]
              simp only [decide_eq_true_eq, VoteD.ext_iff']
              simp only [VoteV.abs]
              first | (simp_all; done) | (simp_all; omega)
            ·
              have p45 := h45
              try simp only [decide_eq_true_eq, decide_eq_false_iff_not, Bool.not_eq_true', Bool.not_eq_false', Option.isNone_iff_eq_none, ne_eq, Decidable.not_not, Int.not_lt, Int.not_le] at p45
              refine TL_pass rfl rfl h45 rfl ?_
              refine TL_pass rfl rfl h45 rfl ?_
              refine TL_pass rfl rfl h45 rfl ?_
              refine TL_pass rfl rfl h45 rfl ?_
              refine TL_pass rfl rfl h45 rfl ?_
              refine TL_q (Qt_pick_f (.bool _) rfl h45 rfl) rfl ?_
              refine TL_q (Qt_assign (.bool _) rfl) rfl ?_
              refine TL_nil ?_
              refine X_then ?_
              refine T_ret ?_
              refine X_ret () [.bool (decide (v.abs = u.abs))] Try.results15 ⟨?_, trivial⟩ rfl (Subs.st inferInstance)
              refine congrArg Value.bool ?_
              rw [Bool.eq_iff_iff]
              simp only [decide_eq_true_eq, VoteD.ext_iff']
              simp only [VoteV.abs]
              first | (simp_all; done) | (simp_all; omega)
          ·
            have p38 := h38
            try simp only [decide_eq_true_eq, decide_eq_false_iff_not, Bool.not_eq_true', Bool.not_eq_false', Option.isNone_iff_eq_none, ne_eq, Decidable.not_not, Int.not_lt, Int.not_le] at p38
            refine TL_pass rfl rfl h38 rfl ?_
            refine TL_pass rfl rfl h38 rfl ?_
            refine TL_pass rfl rfl h38 rfl ?_
            refine TL_pass rfl rfl h38 rfl ?_
            refine TL_pass rfl rfl h38 rfl ?_
            refine TL_q (Qt_pick_f (.bool _) rfl h38 rfl) rfl ?_
            refine TL_q (Qt_move (.bool _) rfl) rfl ?_
            refine TL_pass rfl rfl rfl rfl ?_
            refine TL_pass rfl rfl rfl rfl ?_
            refine TL_pass rfl rfl rfl rfl ?_
            refine TL_pass rfl rfl rfl rfl ?_
            refine TL_pass rfl rfl rfl rfl ?_
            refine TL_q (Qt_pick_f (.bool _) rfl rfl rfl) rfl ?_
            refine TL_q (Qt_assign (.bool _) rfl) rfl ?_
            refine TL_nil ?_
            refine X_then ?_
            refine T_ret ?_
            refine X_ret () [.bool (decide (v.abs = u.abs))] Try.results15 ⟨?_, trivial⟩ rfl (Subs.st inferInstance)
            refine congrArg Value.bool ?_
            rw [Bool.eq_iff_iff]
            simp only [decide_eq_true_eq, VoteD.ext_iff']
            simp only [VoteV.abs]
            first | (simp_all; done) | (simp_all; omega)
        ·
          have p31 := h31
          try simp only [decide_eq_true_eq, decide_eq_false_iff_not, Bool.not_eq_true', Bool.not_eq_false', Option.isNone_iff_eq_none, ne_eq, Decidable.not_not, Int.not_lt, Int.not_le] at p31
          refine TL_pass rfl rfl h31 rfl ?_
          refine TL_pass rfl rfl h31 rfl ?_
          refine TL_pass rfl rfl h31 rfl ?_
          refine TL_pass rfl rfl h31 rfl ?_
          refine TL_pass rfl rfl h31 rfl ?_
          refine TL_q (Qt_pick_f (.bool _) rfl h31 rfl) rfl ?_
          refine TL_q (Qt_move (.bool _) rfl) rfl ?_
          refine TL_pass rfl rfl rfl rfl ?_
          refine TL_pass rfl rfl rfl rfl ?_
          refine TL_pass rfl rfl rfl rfl ?_
          refine TL_pass rfl rfl rfl rfl ?_
          refine TL_pass rfl rfl rfl rfl ?_
          refine TL_q (Qt_pick_f (.bool _) rfl rfl rfl) rfl ?_
          refine TL_q (Qt_move (.bool _) rfl) rfl ?_
          refine TL_pass rfl rfl rfl rfl ?_
          refine TL_pass rfl rfl rfl rfl ?_
          refine TL_pass rfl rfl rfl rfl ?_
          refine TL_pass rfl rfl rfl rfl ?_
          refine TL_pass rfl rfl rfl rfl ?_
          refine TL_q (Qt_pick_f (.bool _) rfl rfl rfl) rfl ?_
          refine TL_q (Qt_assign (.bool _) rfl) rfl ?_
          refine TL_nil ?_
          refine X_then ?_
          refine T_ret ?_
          refine X_ret () [.bool (decide (v.abs = u.abs))] Try.results15 ⟨?_, trivial⟩ rfl (Subs.st inferInstance)
          refine congrArg Value.bool ?_
          rw [Bool.eq_iff_iff]
          simp only [decide_eq_true_eq, VoteD.ext_iff']
          simp only [VoteV.abs]
          first | (simp_all; done) | (simp_all; omega)
      ·
        have p24 := h24
        try simp only [decide_eq_true_eq, decide_eq_false_iff_not, Bool.not_eq_true', Bool.not_eq_false', Option.isNone_iff_eq_none, ne_eq, Decidable.not_not, Int.not_lt, Int.not_le] at p24
        refine TL_pass rfl rfl h24 rfl ?_
        refine TL_pass rfl rfl h24 rfl ?_
        refine TL_pass rfl rfl h24 rfl ?_
        refine TL_pass rfl rfl h24 rfl ?_
        refine TL_pass rfl rfl h24 rfl ?_
        refine TL_q (Qt_pick_f (.bool _) rfl h24 rfl) rfl ?_
        refine TL_q (Qt_move (.bool _) rfl) rfl ?_
        refine TL_pass rfl rfl rfl rfl ?_
        refine TL_pass rfl rfl rfl rfl ?_
        refine TL_pass rfl rfl rfl rfl ?_
        refine TL_pass rfl rfl rfl rfl ?_
        refine TL_pass rfl rfl rfl rfl ?_
        refine TL_q (Qt_pick_f (.bool _) rfl rfl rfl) rfl ?_
        refine TL_q (Qt_move (.bool _) rfl) rfl ?_
        refine TL_pass rfl rfl rfl rfl ?_
        refine TL_pass rfl rfl rfl rfl ?_
        refine TL_pass rfl rfl rfl rfl ?_
        refine TL_pass rfl rfl rfl rfl ?_
        refine TL_pass rfl rfl rfl rfl ?_
        refine TL_q (Qt_pick_f (.bool _) rfl rfl rfl) rfl ?_
        refine TL_q (Qt_move (.bool _) rfl) rfl ?_
        refine TL_pass rfl rfl rfl rfl ?_
        refine TL_pass rfl rfl rfl rfl ?_
        refine TL_pass rfl rfl rfl rfl ?_
        refine TL_pass rfl rfl rfl rfl ?_
        refine TL_pass rfl rfl rfl rfl ?_
        refine TL_q (Qt_pick_f (.bool _) rfl rfl rfl) rfl ?_
        refine TL_q (Qt_assign (.bool _) rfl) rfl ?_
        refine TL_nil ?_
        refine X_then ?_
        refine T_ret ?_
        refine X_ret () [.bool (decide (v.abs = u.abs))] Try.results15 ⟨?_, trivial⟩ rfl (Subs.st inferInstance)
        refine congrArg Value.bool ?_
        rw [Bool.eq_iff_iff]
        simp only [decide_eq_true_eq, VoteD.ext_iff']
        simp only [VoteV.abs]
        first | (simp_all; done) | (simp_all; omega)
    ·
      have p17 := h17
      try simp only [decide_eq_true_eq, decide_eq_false_iff_not, Bool.not_eq_true', Bool.not_eq_false', Option.isNone_iff_eq_none, ne_eq, Decidable.not_not, Int.not_lt, Int.not_le] at p17
      refine TL_pass rfl rfl h17 rfl ?_
      refine TL_pass rfl rfl h17 rfl ?_
      refine TL_pass rfl rfl h17 rfl ?_
      refine TL_pass rfl rfl h17 rfl ?_
      refine TL_pass rfl rfl h17 rfl ?_
      refine TL_q (Qt_pick_f (.bool _) rfl h17 rfl) rfl ?_
      refine TL_q (Qt_move (.bool _) rfl) rfl ?_
      refine TL_pass rfl rfl rfl rfl ?_
      refine TL_pass rfl rfl rfl rfl ?_
      refine TL_pass rfl rfl rfl rfl ?_
      refine TL_pass rfl rfl rfl rfl ?_
      refine TL_pass rfl rfl rfl rfl ?_
      refine TL_q (Qt_pick_f (.bool _) rfl rfl rfl) rfl ?_
      refine TL_q (Qt_move (.bool _) rfl) rfl ?_
      refine TL_pass rfl rfl rfl rfl ?_
      refine TL_pass rfl rfl rfl rfl ?_
      refine TL_pass rfl rfl rfl rfl ?_
      refine TL_pass rfl rfl rfl rfl ?_
      refine TL_pass rfl rfl rfl rfl ?_
      refine TL_q (Qt_pick_f (.bool _) rfl rfl rfl) rfl ?_
      refine TL_q (Qt_move (.bool _) rfl) rfl ?_
      refine TL_pass rfl rfl rfl rfl ?_
      refine TL_pass rfl rfl rfl rfl ?_
      refine TL_pass rfl rfl rfl rfl ?_
      refine TL_pass rfl rfl rfl rfl ?_
      refine TL_pass rfl rfl rfl rfl ?_
      refine TL_q (Qt_pick_f (.bool _) rfl rfl rfl) rfl ?_
      refine TL_q (Qt_move (.bool _) rfl) rfl ?_
      refine TL_pass rfl rfl rfl rfl ?_
      refine TL_pass rfl rfl rfl rfl ?_
      refine TL_pass rfl rfl rfl rfl ?_
      refine TL_pass rfl rfl rfl rfl ?_
      refine TL_pass rfl rfl rfl rfl ?_
      refine TL_q (Qt_pick_f (.bool _) rfl rfl rfl) rfl ?_
      refine TL_q (Qt_assign (.bool _) rfl) rfl ?_
      refine TL_nil ?_
      refine X_then ?_
      refine T_ret ?_
      refine X_ret () [.bool (decide (v.abs = u.abs))] Try.results15 ⟨?_, trivial⟩ rfl (Subs.st inferInstance)
      refine congrArg Value.bool ?_
      rw [Bool.eq_iff_iff]
      simp only [decide_eq_true_eq, VoteD.ext_iff']
      simp only [VoteV.abs]
      first | (simp_all; done) | (simp_all; omega)
  ·
    have p10 := h10
    try simp only [decide_eq_true_eq, decide_eq_false_iff_not, Bool.not_eq_true', Bool.not_eq_false', Option.isNone_iff_eq_none, ne_eq, Decidable.not_not, Int.not_lt, Int.not_le] at p10
    refine TL_pass rfl rfl h10 rfl ?_
    refine TL_pass rfl rfl h10 rfl ?_
    refine TL_pass rfl rfl h10 rfl ?_
    refine TL_pass rfl rfl h10 rfl ?_
    refine TL_pass rfl rfl h10 rfl ?_
    refine TL_q (Qt_pick_f (.bool _) rfl h10 rfl) rfl ?_
    refine TL_q (Qt_move (.bool _) rfl) rfl ?_
    refine TL_pass rfl rfl rfl rfl ?_
    refine TL_pass rfl rfl rfl rfl ?_
    refine TL_pass rfl rfl rfl rfl ?_
    refine TL_pass rfl rfl rfl rfl ?_
    refine TL_pass rfl rfl rfl rfl ?_
    refine TL_q (Qt_pick_f (.bool _) rfl rfl rfl) rfl ?_
    refine TL_q (Qt_move (.bool _) rfl) rfl ?_
    refine TL_pass rfl rfl rfl rfl ?_
    refine TL_pass rfl rfl rfl rfl ?_
    refine TL_pass rfl rfl rfl rfl ?_
    refine TL_pass rfl rfl rfl rfl ?_
    refine TL_pass rfl rfl rfl rfl ?_
    refine TL_q (Qt_pick_f (.bool _) rfl rfl rfl) rfl ?_
    refine TL_q (Qt_move (.bool _) rfl) rfl ?_
    refine TL_pass rfl rfl rfl rfl ?_
    refine TL_pass rfl rfl rfl rfl ?_
    refine TL_pass rfl rfl rfl rfl ?_
    refine TL_pass rfl rfl rfl rfl ?_
    refine TL_pass rfl rfl rfl rfl ?_
    refine TL_q (Qt_pick_f (.bool _) rfl rfl rfl) rfl ?_
    refine TL_q (Qt_move (.bool _) rfl) rfl ?_
    refine TL_pass rfl rfl rfl rfl ?_
    refine TL_pass rfl rfl rfl rfl ?_
    refine TL_pass rfl rfl rfl rfl ?_
    refine TL_pass rfl rfl rfl rfl ?_
    refine TL_pass rfl rfl rfl rfl ?_
    refine TL_q (Qt_pick_f (.bool _) rfl rfl rfl) rfl ?_
    refine TL_q (Qt_move (.bool _) rfl) rfl ?_
    refine TL_pass rfl rfl rfl rfl ?_
    refine TL_pass rfl rfl rfl rfl ?_
    refine TL_pass rfl rfl rfl rfl ?_
    refine TL_pass rfl rfl rfl rfl ?_
    refine TL_pass rfl rfl rfl rfl ?_
    refine TL_q (Qt_pick_f (.bool _) rfl rfl rfl) rfl ?_
    refine TL_q (Qt_assign (.bool _) rfl) rfl ?_
    refine TL_nil ?_
    refine X_then ?_
    refine T_ret ?_
    refine X_ret () [.bool (decide (v.abs = u.abs))] Try.results15 ⟨?_, trivial⟩ rfl (Subs.st inferInstance)
    refine congrArg Value.bool ?_
    rw [Bool.eq_iff_iff]
    simp only [decide_eq_true_eq, VoteD.ext_iff']
    simp only [VoteV.abs]
    first | (simp_all; done) | (simp_all; omega)
set_option maxHeartbeats 1000000 in
theorem parts_c {w0 : World} {H : List SA} {v : VoteV} :
    CT Try.prog w0 (H) 13 [.agg v.cells] (α := Unit) (fun _ => .bool (formedB v.abs)) (fun _ => H) := by
  refine CT_intro Try.func13 rfl Try.ntmps13 rfl ?_
  refine T_seq ?_
  refine T_region ?_
  refine TL_e rfl (Ef_boxN rfl (fun b1 => ?_))
  refine TL_q (Qt_assign (.bool _) rfl) rfl ?_
  refine TL_nil ?_
  refine X_then ?_
  refine T_seq ?_
  refine T_seq ?_
  refine T_region ?_
  refine TL_q (Qt_fieldAddr 0 rfl rfl) rfl ?_
  refine TL_q (Qt_load1 rfl) rfl ?_
  refine TL_q (Qt_lss rfl rfl) rfl ?_
  refine TL_q (Qt_move (.bool _) rfl) rfl ?_
  refine TL_split 7 rfl (fun h7 => ?_) (fun h7 => ?_)
  ·
    have p7 := h7
    try simp only [decide_eq_true_eq, decide_eq_false_iff_not, Bool.not_eq_true', Bool.not_eq_false', Option.isNone_iff_eq_none, ne_eq, Decidable.not_not, Int.not_lt, Int.not_le] at p7
    refine TL_pass rfl rfl h7 rfl ?_
    refine TL_pass rfl rfl h7 rfl ?_
    refine TL_pass rfl rfl h7 rfl ?_
    refine TL_q (Qt_pick_t (.bool _) rfl h7 rfl) rfl ?_
    refine TL_q (Qt_move (.bool _) rfl) rfl ?_
    refine TL_pass rfl rfl rfl rfl ?_
    refine TL_pass rfl rfl rfl rfl ?_
    refine TL_pass rfl rfl rfl rfl ?_
    refine TL_q (Qt_pick_t (.bool _) rfl rfl rfl) rfl ?_
    refine TL_q (Qt_move (.bool _) rfl) rfl ?_
    refine TL_pass rfl rfl rfl rfl ?_
    refine TL_pass rfl rfl rfl rfl ?_
    refine TL_pass rfl rfl rfl rfl ?_
    refine TL_q (Qt_pick_t (.bool _) rfl rfl rfl) rfl ?_
    refine TL_q (Qt_move (.bool _) rfl) rfl ?_
    refine TL_pass rfl rfl rfl rfl ?_
    refine TL_pass rfl rfl rfl rfl ?_
    refine TL_pass rfl rfl rfl rfl ?_
    refine TL_q (Qt_pick_t (.bool _) rfl rfl rfl) rfl ?_
    refine TL_q (Qt_move (.bool _) rfl) rfl ?_
    refine TL_pass rfl rfl rfl rfl ?_
    refine TL_pass rfl rfl rfl rfl ?_
    refine TL_pass rfl rfl rfl rfl ?_
    refine TL_q (Qt_pick_t (.bool _) rfl rfl rfl) rfl ?_
    refine TL_q (Qt_move (.bool _) rfl) rfl ?_
    refine TL_pass rfl rfl rfl rfl ?_
    refine TL_pass rfl rfl rfl rfl ?_
    refine TL_pass rfl rfl rfl rfl ?_
    refine TL_q (Qt_pick_t (.bool _) rfl rfl rfl) rfl ?_
    refine TL_q (Qt_move (.bool _) rfl) rfl ?_
    refine TL_pass rfl rfl rfl rfl ?_
    refine TL_pass rfl rfl rfl rfl ?_
    refine TL_pass rfl rfl rfl rfl ?_
    refine TL_q (Qt_pick_t (.bool _) rfl rfl rfl) rfl ?_
    refine TL_nil ?_
    refine X_then ?_
    refine T_cond_true rfl rfl ?_
    refine T_seq ?_
    refine T_region ?_
    refine TL_q (Qt_assign (.bool _) rfl) rfl ?_
    refine TL_nil ?_
    refine X_then ?_
    refine T_ret ?_
    refine X_then_ret ?_
    refine X_ret () [.bool (formedB v.abs)] Try.results13 ⟨?_, trivial⟩ rfl (Subs.st inferInstance)
    refine congrArg Value.bool ?_
    first
      | (refine Eq.symm (Bool.eq_false_iff.2 fun hf => ?_); have hf1 := (formed_spec v.abs).1 hf; simp only [within_iff, within_not, VoteV.abs] at *; first | omega | simp_all)
      | (refine Eq.symm ((formed_spec v.abs).2 ?_); simp only [within_iff, within_not, VoteV.abs, Bool.not_eq_false, Bool.not_eq_true] at *; refine ⟨by omega, by omega, by omega, by omega, by omega, fun h => ?_, fun h => ?_⟩ <;> first | omega | simp_all)
      | (rw [Bool.eq_iff_iff, formed_spec]; simp only [within_iff, within_not, VoteV.abs, decide_eq_true_eq, Bool.not_eq_false, Bool.not_eq_true] at *; constructor; (intro hd; refine ⟨by omega, by omega, by omega, by omega, by omega, fun h => ?_, fun h => ?_⟩ <;> first | omega | (simp_all; done) | (simp_all; omega)); (rintro ⟨-, -, -, -, -, -, h7⟩; have := h7 (by omega); simp_all))
  ·
    have p7 := h7
    try simp only [decide_eq_true_eq, decide_eq_false_iff_not, Bool.not_eq_true', Bool.not_eq_false', Option.isNone_iff_eq_none, ne_eq, Decidable.not_not, Int.not_lt, Int.not_le] at p7
    refine TL_take rfl rfl h7 ?_
    refine TL_q (Qt_fieldAddr 0 rfl rfl) rfl ?_
    refine TL_take rfl rfl h7 ?_
    refine TL_q (Qt_load1 rfl) rfl ?_
    refine TL_take rfl rfl h7 ?_
    refine TL_q (Qt_gtr rfl rfl) rfl ?_
    refine TL_q (Qt_pick_f (.bool _) rfl h7 rfl) rfl ?_
    refine TL_q (Qt_move (.bool _) rfl) rfl ?_
    refine TL_split 12 rfl (fun h12 => ?_) (fun h12 => ?_)
    ·
      have p12 := h12
      try simp only [decide_eq_true_eq, decide_eq_false_iff_not, Bool.not_eq_true', Bool.not_eq_false', Option.isNone_iff_eq_none, ne_eq, Decidable.not_not, Int.not_lt, Int.not_le] at p12
      refine TL_pass rfl rfl h12 rfl ?_
      refine TL_pass rfl rfl h12 rfl ?_
      refine TL_pass rfl rfl h12 rfl ?_
      refine TL_q (Qt_pick_t (.bool _) rfl h12 rfl) rfl ?_
      refine TL_q (Qt_move (.bool _) rfl) rfl ?_
      refine TL_pass rfl rfl rfl rfl ?_
      refine TL_pass rfl rfl rfl rfl ?_
      refine TL_pass rfl rfl rfl rfl ?_
      refine TL_q (Qt_pick_t (.bool _) rfl rfl rfl) rfl ?_
      refine TL_q (Qt_move (.bool _) rfl) rfl ?_
      refine TL_pass rfl rfl rfl rfl ?_
      refine TL_pass rfl rfl rfl rfl ?_
      refine TL_pass rfl rfl rfl rfl ?_
      refine TL_q (Qt_pick_t (.bool _) rfl rfl rfl) rfl ?_
      refine TL_q (Qt_move (.bool _) rfl) rfl ?_
      refine TL_pass rfl rfl rfl rfl ?_
      refine TL_pass rfl rfl rfl rfl ?_
      refine TL_pass rfl rfl rfl rfl ?_
      refine TL_q (Qt_pick_t (.bool _) rfl rfl rfl) rfl ?_
      refine TL_q (Qt_move (.bool _) rfl) rfl ?_
      refine TL_pass rfl rfl rfl rfl ?_
      refine TL_pass rfl rfl rfl rfl ?_
      refine TL_pass rfl rfl rfl rfl ?_
      refine TL_q (Qt_pick_t (.bool _) rfl rfl rfl) rfl ?_
      refine TL_q (Qt_move (.bool _) rfl) rfl ?_
      refine TL_pass rfl rfl rfl rfl ?_
      refine TL_pass rfl rfl rfl rfl ?_
      refine TL_pass rfl rfl rfl rfl ?_
      refine TL_q (Qt_pick_t (.bool _) rfl rfl rfl) rfl ?_
      refine TL_nil ?_
      refine X_then ?_
      refine T_cond_true rfl rfl ?_
      refine T_seq ?_
      refine T_region ?_
      refine TL_q (Qt_assign (.bool _) rfl) rfl ?_
      refine TL_nil ?_
      refine X_then ?_
      refine T_ret ?_
      refine X_then_ret ?_
      refine X_ret () [.bool (formedB v.abs)] Try.results13 ⟨?_, trivial⟩ rfl (Subs.st inferInstance)
      refine congrArg Value.bool ?_
      first
        | (refine Eq.symm (Bool.eq_false_iff.2 fun hf => ?_); have hf1 := (formed_spec v.abs).1 hf; simp only [within_iff, within_not, VoteV.abs] at *; first | omega | simp_all)
        | (refine Eq.symm ((formed_spec v.abs).2 ?_); simp only [within_iff, within_not, VoteV.abs, Bool.not_eq_false, Bool.not_eq_true] at *; refine ⟨by omega, by omega, by omega, by omega, by omega, fun h => ?_, fun h => ?_⟩ <;> first | omega | simp_all)
        | (rw [Bool.eq_iff_iff, formed_spec]; simp only [within_iff, within_not, VoteV.abs, decide_eq_true_eq, Bool.not_eq_false, Bool.not_eq_true] at *; constructor; (intro hd; refine ⟨by omega, by omega, by omega, by omega, by omega, fun h => ?_, fun h => ?_⟩ <;> first | omega | (simp_all; done) | (simp_all; omega)); (rintro ⟨-, -, -, -, -, -, h7⟩; have := h7 (by omega); simp_all))
    ·
      have p12 := h12
      try simp only [decide_eq_true_eq, decide_eq_false_iff_not, Bool.not_eq_true', Bool.not_eq_false', Option.isNone_iff_eq_none, ne_eq, Decidable.not_not, Int.not_lt, Int.not_le] at p12
      refine TL_take rfl rfl h12 ?_
      refine TL_q (Qt_fieldAddr 1 rfl rfl) rfl ?_
      refine TL_take rfl rfl h12 ?_
      refine TL_q (Qt_load1 rfl) rfl ?_
      refine TL_take rfl rfl h12 ?_
      refine TL_q (Qt_lss rfl rfl) rfl ?_
      refine TL_q (Qt_pick_f (.bool _) rfl h12 rfl) rfl ?_
      refine TL_q (Qt_move (.bool _) rfl) rfl ?_
      refine TL_split 17 rfl (fun h17 => ?_) (fun h17 => ?_)
      ·
        have p17 := h17
        try simp only [decide_eq_true_eq, decide_eq_false_iff_not, Bool.not_eq_true', Bool.not_eq_false', Option.isNone_iff_eq_none, ne_eq, Decidable.not_not, Int.not_lt, Int.not_le] at p17
        refine TL_pass rfl rfl h17 rfl ?_
        refine TL_pass rfl rfl h17 rfl ?_
        refine TL_pass rfl rfl h17 rfl ?_
        refine TL_q (Qt_pick_t (.bool _) rfl h17 rfl) rfl ?_
        refine TL_q (Qt_move (.bool _) rfl) rfl ?_
        refine TL_pass rfl rfl rfl rfl ?_
        refine TL_pass rfl rfl rfl rfl ?_
        refine TL_pass rfl rfl rfl rfl ?_
        refine TL_q (Qt_pick_t (.bool _) rfl rfl rfl) rfl ?_
        refine TL_q (Qt_move (.bool _) rfl) rfl ?_
        refine TL_pass rfl rfl rfl rfl ?_
        refine TL_pass rfl rfl rfl rfl ?_
        refine TL_pass rfl rfl rfl rfl ?_
        refine TL_q (Qt_pick_t (.bool _) rfl rfl rfl) rfl ?_
        refine TL_q (Qt_move (.bool _) rfl) rfl ?_
        refine TL_pass rfl rfl rfl rfl ?_
        refine TL_pass rfl rfl rfl rfl ?_
        refine TL_pass rfl rfl rfl rfl ?_
        refine TL_q (Qt_pick_t (.bool _) rfl rfl rfl) rfl ?_
        refine TL_q (Qt_move (.bool _) rfl) rfl ?_
        refine TL_pass rfl rfl rfl rfl ?_
        refine TL_pass rfl rfl rfl rfl ?_
        refine TL_pass rfl rfl rfl rfl ?_
        refine TL_q (Qt_pick_t (.bool _) rfl rfl rfl) rfl ?_
        refine TL_nil ?_
        refine X_then ?_
        refine T_cond_true rfl rfl ?_
        refine T_seq ?_
        refine T_region ?_
        refine TL_q (Qt_assign (.bool _) rfl) rfl ?_
        refine TL_nil ?_
        refine X_then ?_
        refine T_ret ?_
        refine X_then_ret ?_
        refine X_ret () [.bool (formedB v.abs)] Try.results13 ⟨?_, trivial⟩ rfl (Subs.st inferInstance)
        refine congrArg Value.bool ?_
        first
          | (refine Eq.symm (Bool.eq_false_iff.2 fun hf => ?_); have hf1 := (formed_spec v.abs).1 hf; simp only [within_iff, within_not, VoteV.abs] at *; first | omega | simp_all)
          | (refine Eq.symm ((formed_spec v.abs).2 ?_); simp only [within_iff, within_not, VoteV.abs, Bool.not_eq_false, Bool.not_eq_true] at *; refine ⟨by omega, by omega, by omega, by omega, by omega, fun h => ?_, fun h => ?_⟩ <;> first | omega | simp_all)
          | (rw [Bool.eq_iff_iff, formed_spec]; simp only [within_iff, within_not, VoteV.abs, decide_eq_true_eq, Bool.not_eq_false, Bool.not_eq_true] at *; constructor; (intro hd; refine ⟨by omega, by omega, by omega, by omega, by omega, fun h => ?_, fun h => ?_⟩ <;> first | omega | (simp_all; done) | (simp_all; omega)); (rintro ⟨-, -, -, -, -, -, h7⟩; have := h7 (by omega); simp_all))
      ·
        have p17 := h17
        try simp only [decide_eq_true_eq, decide_eq_false_iff_not, Bool.not_eq_true', Bool.not_eq_false', Option.isNone_iff_eq_none, ne_eq, Decidable.not_not, Int.not_lt, Int.not_le] at p17
        refine TL_take rfl rfl h17 ?_
        refine TL_q (Qt_fieldAddr 1 rfl rfl) rfl ?_
        refine TL_take rfl rfl h17 ?_
        refine TL_q (Qt_load1 rfl) rfl ?_
        refine TL_take rfl rfl h17 ?_
        refine TL_q (Qt_gtr rfl rfl) rfl ?_
        refine TL_q (Qt_pick_f (.bool _) rfl h17 rfl) rfl ?_
        refine TL_q (Qt_move (.bool _) rfl) rfl ?_
        refine TL_split 22 rfl (fun h22 => ?_) (fun h22 => ?_)
        ·
          have p22 := h22
          try simp only [decide_eq_true_eq, decide_eq_false_iff_not, Bool.not_eq_true', Bool.not_eq_false', Option.isNone_iff_eq_none, ne_eq, Decidable.not_not, Int.not_lt, Int.not_le] at p22
          refine TL_pass rfl rfl h22 rfl ?_
          refine TL_pass rfl rfl h22 rfl ?_
          refine TL_pass rfl rfl h22 rfl ?_
          refine TL_q (Qt_pick_t (.bool _) rfl h22 rfl) rfl ?_
          refine TL_q (Qt_move (.bool _) rfl) rfl ?_
          refine TL_pass rfl rfl rfl rfl ?_
          refine TL_pass rfl rfl rfl rfl ?_
          refine TL_pass rfl rfl rfl rfl ?_
          refine TL_q (Qt_pick_t (.bool _) rfl rfl rfl) rfl ?_
          refine TL_q (Qt_move (.bool _) rfl) rfl ?_
          refine TL_pass rfl rfl rfl rfl ?_
          refine TL_pass rfl rfl rfl rfl ?_
          refine TL_pass rfl rfl rfl rfl ?_
          refine TL_q (Qt_pick_t (.bool _) rfl rfl rfl) rfl ?_
          refine TL_q (Qt_move (.bool _) rfl) rfl ?_
          refine TL_pass rfl rfl rfl rfl ?_
          refine TL_pass rfl rfl rfl rfl ?_
          refine TL_pass rfl rfl rfl rfl ?_
          refine TL_q (Qt_pick_t (.bool _) rfl rfl rfl) rfl ?_
          refine TL_nil ?_
          refine X_then ?_
          refine T_cond_true rfl rfl ?_
          refine T_seq ?_
          refine T_region ?_
          refine TL_q (Qt_assign (.bool _) rfl) rfl ?_
          refine TL_nil ?_
          refine X_then ?_
          refine T_ret ?_
          refine X_then_ret ?_
          refine X_ret () [.bool (formedB v.abs)] Try.results13 ⟨?_, trivial⟩ rfl (Subs.st inferInstance)
          refine congrArg Value.bool ?_
          first
            | (refine Eq.symm (Bool.eq_false_iff.2 fun hf => ?_); have hf1 := (formed_spec v.abs).1 hf; simp only [within_iff, within_not, VoteV.abs] at *; first | omega | simp_all)
            | (refine Eq.symm ((formed_spec v.abs).2 ?_); simp only [within_iff, within_not, VoteV.abs, Bool.not_eq_false, Bool.not_eq_true] at *; refine ⟨by omega, by omega, by omega, by omega, by omega, fun h => ?_, fun h => ?_⟩ <;> first | omega | simp_all)
            | (rw [Bool.eq_iff_iff, formed_spec]; simp only [within_iff, within_not, VoteV.abs, decide_eq_true_eq, Bool.not_eq_false, Bool.not_eq_true] at *; constructor; (intro hd; refine ⟨by omega, by omega, by omega, by omega, by omega, fun h => ?_, fun h => ?_⟩ <;> first | omega | (simp_all; done) | (simp_all; omega)); (rintro ⟨-, -, -, -, -, -, h7⟩; have := h7 (by omega); simp_all))
        ·
          have p22 := h22
          try simp only [decide_eq_true_eq, decide_eq_false_iff_not, Bool.not_eq_true', Bool.not_eq_false', Option.isNone_iff_eq_none, ne_eq, Decidable.not_not, Int.not_lt, Int.not_le] at p22
          refine TL_take rfl rfl h22 ?_
          refine TL_q (Qt_fieldAddr 2 rfl rfl) rfl ?_
          refine TL_take rfl rfl h22 ?_
          refine TL_q (Qt_load1 rfl) rfl ?_
          refine TL_take rfl rfl h22 ?_
          refine TL_q (Qt_lss rfl rfl) rfl ?_
          refine TL_q (Qt_pick_f (.bool _) rfl h22 rfl) rfl ?_
          refine TL_q (Qt_move (.bool _) rfl) rfl ?_
          refine TL_split 27 rfl (fun h27 => ?_) (fun h27 => ?_)
          ·
            have p27 := h27
            try simp only [decide_eq_true_eq, decide_eq_false_iff_not, Bool.not_eq_true', Bool.not_eq_false', Option.isNone_iff_eq_none, ne_eq, Decidable.not_not, Int.not_lt, Int.not_le] at p27
            refine TL_pass rfl rfl h27 rfl ?_
            refine TL_pass rfl rfl h27 rfl ?_
            refine TL_pass rfl rfl h27 rfl ?_
            refine TL_q (Qt_pick_t (.bool _) rfl h27 rfl) rfl ?_
            refine TL_q (Qt_move (.bool _) rfl) rfl ?_
            refine TL_pass rfl rfl rfl rfl ?_
            refine TL_pass rfl rfl rfl rfl ?_
            refine TL_pass rfl rfl rfl rfl ?_
            refine TL_q (Qt_pick_t (.bool _) rfl rfl rfl) rfl ?_
            refine TL_q (Qt_move (.bool _) rfl) rfl ?_
            refine TL_pass rfl rfl rfl rfl ?_
            refine TL_pass rfl rfl rfl rfl ?_
            refine TL_pass rfl rfl rfl rfl ?_
            refine TL_q (Qt_pick_t (.bool _) rfl rfl rfl) rfl ?_
            refine TL_nil ?_
            refine X_then ?_
            refine T_cond_true rfl rfl ?_
            refine T_seq ?_
            refine T_region ?_
            refine TL_q (Qt_assign (.bool _) rfl) rfl ?_
            refine TL_nil ?_
            refine X_then ?_
            refine T_ret ?_
            refine X_then_ret ?_
            refine X_ret () [.bool (formedB v.abs)] Try.results13 ⟨?_, trivial⟩ rfl (Subs.st inferInstance)
            refine congrArg Value.bool ?_
            first
              | (refine Eq.symm (Bool.eq_false_iff.2 fun hf => ?_); have hf1 := (formed_spec v.abs).1 hf; simp only [within_iff, within_not, VoteV.abs] at *; first | omega | simp_all)
              | (refine Eq.symm ((formed_spec v.abs).2 ?_); simp only [within_iff, within_not, VoteV.abs, Bool.not_eq_false, Bool.not_eq_true] at *; refine ⟨by omega, by omega, by omega, by omega, by omega, fun h => ?_, fun h => ?_⟩ <;> first | omega | simp_all)
              | (rw [Bool.eq_iff_iff, formed_spec]; simp only [within_iff, within_not, VoteV.abs, decide_eq_true_eq, Bool.not_eq_false, Bool.not_eq_true] at *; constructor; (intro hd; refine ⟨by omega, by omega, by omega, by omega, by omega, fun h => ?_, fun h => ?_⟩ <;> first | omega | (simp_all; done) | (simp_all; omega)); (rintro ⟨-, -, -, -, -, -, h7⟩; have := h7 (by omega); simp_all))
          ·
            have p27 := h27
            try simp only [decide_eq_true_eq, decide_eq_false_iff_not, Bool.not_eq_true', Bool.not_eq_false', Option.isNone_iff_eq_none, ne_eq, Decidable.not_not, Int.not_lt, Int.not_le] at p27
            refine TL_take rfl rfl h27 ?_
            refine TL_q (Qt_fieldAddr 2 rfl rfl) rfl ?_
            refine TL_take rfl rfl h27 ?_
            refine TL_q (Qt_load1 rfl) rfl ?_
            refine TL_take rfl rfl h27 ?_
            refine TL_q (Qt_gtr rfl rfl) rfl ?_
            refine TL_q (Qt_pick_f (.bool _) rfl h27 rfl) rfl ?_
            refine TL_q (Qt_move (.bool _) rfl) rfl ?_
            refine TL_split 32 rfl (fun h32 => ?_) (fun h32 => ?_)
            ·
              have p32 := h32
              try simp only [decide_eq_true_eq, decide_eq_false_iff_not, Bool.not_eq_true', Bool.not_eq_false', Option.isNone_iff_eq_none, ne_eq, Decidable.not_not, Int.not_lt, Int.not_le] at p32
              refine TL_pass rfl rfl h32 rfl ?_
              refine TL_pass rfl rfl h32 rfl ?_
              refine TL_pass rfl rfl h32 rfl ?_
              refine TL_q (Qt_pick_t (.bool _) rfl h32 rfl) rfl ?_
              refine TL_q (Qt_move (.bool _) rfl) rfl ?_
              refine TL_pass rfl rfl rfl rfl ?_
              refine TL_pass rfl rfl rfl rfl ?_
              refine TL_pass rfl rfl rfl rfl ?_
              refine TL_q (Qt_pick_t (.bool _) rfl rfl rfl) rfl ?_
              refine TL_nil ?_
              refine X_then ?_
              refine T_cond_true rfl rfl ?_
              refine T_seq ?_
              refine T_region ?_
              refine TL_q (Qt_assign (.bool _) rfl) rfl ?_
              refine TL_nil ?_
              refine X_then ?_
              refine T_ret ?_
              refine X_then_ret ?_
              refine X_ret () [.bool (formedB v.abs)] Try.results13 ⟨?_, trivial⟩ rfl (Subs.st inferInstance)
              refine congrArg Value.bool ?_
              first
                | (refine Eq.symm (Bool.eq_false_iff.2 fun hf => ?_); have hf1 := (formed_spec v.abs).1 hf; simp only [within_iff, within_not, VoteV.abs] at *; first | omega | simp_all)
                | (refine Eq.symm ((formed_spec v.abs).2 ?_); simp only [within_iff, within_not, VoteV.abs, Bool.not_eq_false, Bool.not_eq_true] at *; refine ⟨by omega, by omega, by omega, by omega, by omega, fun h => ?_, fun h => ?_⟩ <;> first | omega | simp_all)
                | (rw [Bool.eq_iff_iff, formed_spec]; simp only [within_iff, within_not, VoteV.abs, decide_eq_true_eq, Bool.not_eq_false, Bool.not_eq_true] at *; constructor; (intro hd; refine ⟨by omega, by omega, by omega, by omega, by omega, fun h => ?_, fun h => ?_⟩ <;> first | omega | (simp_all; done) | (simp_all; omega)); (rintro ⟨-, -, -, -, -, -, h7⟩; have := h7 (by omega); simp_all))
            ·
              have p32 := h32
              try simp only [decide_eq_true_eq, decide_eq_false_iff_not, Bool.not_eq_true', Bool.not_eq_false', Option.isNone_iff_eq_none, ne_eq, Decidable.not_not, Int.not_lt, Int.not_le] at p32
              refine TL_take rfl rfl h32 ?_
              refine TL_q (Qt_fieldAddr 3 rfl rfl) rfl ?_
              refine TL_take rfl rfl h32 ?_
              refine TL_q (Qt_load1 rfl) rfl ?_
              refine TL_take rfl rfl h32 ?_
              refine TL_q (Qt_lss rfl rfl) rfl ?_
              refine TL_q (Qt_pick_f (.bool _) rfl h32 rfl) rfl ?_
              refine TL_q (Qt_move (.bool _) rfl) rfl ?_
              refine TL_split 37 rfl (fun h37 => ?_) (fun h37 => ?_)
              ·
                have p37 := h37
                try simp only [decide_eq_true_eq, decide_eq_false_iff_not, Bool.not_eq_true', Bool.not_eq_false', Option.isNone_iff_eq_none, ne_eq, Decidable.not_not, Int.not_lt, Int.not_le] at p37
                refine TL_pass rfl rfl h37 rfl ?_
                refine TL_pass rfl rfl h37 rfl ?_
                refine TL_pass rfl rfl h37 rfl ?_
                refine TL_q (Qt_pick_t (.bool _) rfl h37 rfl) rfl ?_
                refine TL_nil ?_
                refine X_then ?_
                refine T_cond_true rfl rfl ?_
                refine T_seq ?_
                refine T_region ?_
                refine TL_q (Qt_assign (.bool _) rfl) rfl ?_
                refine TL_nil ?_
                refine X_then ?_
                refine T_ret ?_
                refine X_then_ret ?_
                refine X_ret () [.bool (formedB v.abs)] Try.results13 ⟨?_, trivial⟩ rfl (Subs.st inferInstance)
                refine congrArg Value.bool ?_
                first
                  | (refine Eq.symm (Bool.eq_false_iff.2 fun hf => ?_); have hf1 := (formed_spec v.abs).1 hf; simp only [within_iff, within_not, VoteV.abs] at *; first | omega | simp_all)
                  | (refine Eq.symm ((formed_spec v.abs).2 ?_); simp only [within_iff, within_not, VoteV.abs, Bool.not_eq_false, Bool.not_eq_true] at *; refine ⟨by omega, by omega, by omega, by omega, by omega, fun h => ?_, fun h => ?_⟩ <;> first | omega | simp_all)
                  | (rw [Bool.eq_iff_iff, formed_spec]; simp only [within_iff, within_not, VoteV.abs, decide_eq_true_eq, Bool.not_eq_false, Bool.not_eq_true] at *; constructor; (intro hd; refine ⟨by omega, by omega, by omega, by omega, by omega, fun h => ?_, fun h => ?_⟩ <;> first | omega | (simp_all; done) | (simp_all; omega)); (rintro ⟨-, -, -, -, -, -, h7⟩; have := h7 (by omega); simp_all))
              ·
                have p37 := h37
                try simp only [decide_eq_true_eq, decide_eq_false_iff_not, Bool.not_eq_true', Bool.not_eq_false', Option.isNone_iff_eq_none, ne_eq, Decidable.not_not, Int.not_lt, Int.not_le] at p37
                refine TL_take rfl rfl h37 ?_
                refine TL_q (Qt_fieldAddr 3 rfl rfl) rfl ?_
                refine TL_take rfl rfl h37 ?_
                refine TL_q (Qt_load1 rfl) rfl ?_
                refine TL_take rfl rfl h37 ?_
                refine TL_q (Qt_gtr rfl rfl) rfl ?_
                refine TL_q (Qt_pick_f (.bool _) rfl h37 rfl) rfl ?_
                refine TL_nil ?_
                refine X_then ?_
                refine T_cond rfl (fun h41 => ?_) (fun h41 => ?_)
                ·
                  have p41 := h41
                  try simp only [decide_eq_true_eq, decide_eq_false_iff_not, Bool.not_eq_true', Bool.not_eq_false', Option.isNone_iff_eq_none, ne_eq, Decidable.not_not, Int.not_lt, Int.not_le] at p41
                  refine T_seq ?_
                  refine T_region ?_
                  refine TL_q (Qt_assign (.bool _) rfl) rfl ?_
                  refine TL_nil ?_
                  refine X_then ?_
                  refine T_ret ?_
                  refine X_then_ret ?_
                  refine X_ret () [.bool (formedB v.abs)] Try.results13 ⟨?_, trivial⟩ rfl (Subs.st inferInstance)
                  refine congrArg Value.bool ?_
                  first
                    | (refine Eq.symm (Bool.eq_false_iff.2 fun hf => ?_); have hf1 := (formed_spec v.abs).1 hf; simp only [within_iff, within_not, VoteV.abs] at *; first | omega | simp_all)
                    | (refine Eq.symm ((formed_spec v.abs).2 ?_); simp only [within_iff, within_not, VoteV.abs, Bool.not_eq_false, Bool.not_eq_true] at *; refine ⟨by omega, by omega, by omega, by omega, by omega, fun h => ?_, fun h => ?_⟩ <;> first | omega | simp_all)
                    | (rw [Bool.eq_iff_iff, formed_spec]; simp only [within_iff, within_not, VoteV.abs, decide_eq_true_eq, Bool.not_eq_false, Bool.not_eq_true] at *; constructor; (intro hd; refine ⟨by omega, by omega, by omega, by omega, by omega, fun h => ?_, fun h => ?_⟩ <;> first | omega | (simp_all; done) | (simp_all; omega)); (rintro ⟨-, -, -, -, -, -, h7⟩; have := h7 (by omega); simp_all))
                ·
                  have p41 := h41
                  try simp only [decide_eq_true_eq, decide_eq_false_iff_not, Bool.not_eq_true', Bool.not_eq_false', Option.isNone_iff_eq_none, ne_eq, Decidable.not_not, Int.not_lt, Int.not_le] at p41
                  refine T_skip ?_
                  refine X_then ?_
                  refine T_seq ?_
                  refine T_region ?_
                  refine TL_q (Qt_fieldAddr 4 rfl rfl) rfl ?_
                  refine TL_q (Qt_loadN rfl rfl) rfl ?_
                  refine TL_q (Qt_build_arr (hlist (zeroV 32)).toArray Try.underlying23 rfl rfl rfl) rfl ?_
                  refine TL_q (Qt_agg_eql rfl rfl (by kernel_rfl)) rfl ?_
                  refine TL_q (Qt_assign (.bool _) rfl) rfl ?_
                  refine TL_nil ?_
                  refine X_then ?_
                  refine T_seq ?_
                  refine T_seq ?_
                  refine T_region ?_
                  refine TL_q (Qt_fieldAddr 0 rfl rfl) rfl ?_
                  refine TL_q (Qt_load1 rfl) rfl ?_
                  refine TL_q (Qt_eql rfl rfl) rfl ?_
                  refine TL_q (Qt_move (.bool _) rfl) rfl ?_
                  refine TL_split 49 rfl (fun h49 => ?_) (fun h49 => ?_)
                  ·
                    have p49 := h49
                    try simp only [decide_eq_true_eq, decide_eq_false_iff_not, Bool.not_eq_true', Bool.not_eq_false', Option.isNone_iff_eq_none, ne_eq, Decidable.not_not, Int.not_lt, Int.not_le] at p49
                    refine TL_take rfl rfl h49 ?_
                    refine TL_q (Qt_fieldAddr 3 rfl rfl) rfl ?_
                    refine TL_take rfl rfl h49 ?_
                    refine TL_q (Qt_load1 rfl) rfl ?_
                    refine TL_take rfl rfl h49 ?_
                    refine TL_q (Qt_gtr rfl rfl) rfl ?_
                    refine TL_take rfl rfl h49 ?_
                    refine TL_q (Qt_move (.bool _) rfl) rfl ?_
                    refine TL_split 53 rfl (fun h53 => ?_) (fun h53 => ?_)
                    ·
                      have p53 := h53
                      try simp only [decide_eq_true_eq, decide_eq_false_iff_not, Bool.not_eq_true', Bool.not_eq_false', Option.isNone_iff_eq_none, ne_eq, Decidable.not_not, Int.not_lt, Int.not_le] at p53
                      refine TL_pass rfl rfl h53 rfl ?_
                      refine TL_pass rfl rfl h53 rfl ?_
                      refine TL_take rfl rfl h49 ?_
                      refine TL_q (Qt_pick_t (.bool _) rfl h53 rfl) rfl ?_
                      refine TL_take rfl rfl h49 ?_
                      refine TL_q (Qt_move (.bool _) rfl) rfl ?_
                      refine TL_pass rfl rfl rfl rfl ?_
                      refine TL_pass rfl rfl rfl rfl ?_
                      refine TL_pass rfl rfl rfl rfl ?_
                      refine TL_pass rfl rfl rfl rfl ?_
                      refine TL_take rfl rfl h49 ?_
                      refine TL_q (Qt_pick_t (.bool _) rfl rfl rfl) rfl ?_
                      refine TL_q (Qt_pick_t (.bool _) rfl h49 rfl) rfl ?_
                      refine TL_nil ?_
                      refine X_then ?_
                      refine T_cond_true rfl rfl ?_
                      refine T_seq ?_
                      refine T_region ?_
                      refine TL_q (Qt_assign (.bool _) rfl) rfl ?_
                      refine TL_nil ?_
                      refine X_then ?_
                      refine T_ret ?_
                      refine X_then_ret ?_
                      refine X_ret () [.bool (formedB v.abs)] Try.results13 ⟨?_, trivial⟩ rfl (Subs.st inferInstance)
                      refine congrArg Value.bool ?_
                      first
                        | (refine Eq.symm (Bool.eq_false_iff.2 fun hf => ?_); have hf1 := (formed_spec v.abs).1 hf; simp only [within_iff, within_not, VoteV.abs] at *; first | omega | simp_all)
                        | (refine Eq.symm ((formed_spec v.abs).2 ?_); simp only [within_iff, within_not, VoteV.abs, Bool.not_eq_false, Bool.not_eq_true] at *; refine ⟨by omega, by omega, by omega, by omega, by omega, fun h => ?_, fun h => ?_⟩ <;> first | omega | simp_all)
                        | (rw [Bool.eq_iff_iff, formed_spec]; simp only [within_iff, within_not, VoteV.abs, decide_eq_true_eq, Bool.not_eq_false, Bool.not_eq_true] at *; constructor; (intro hd; refine ⟨by omega, by omega, by omega, by omega, by omega, fun h => ?_, fun h => ?_⟩ <;> first | omega | (simp_all; done) | (simp_all; omega)); (rintro ⟨-, -, -, -, -, -, h7⟩; have := h7 (by omega); simp_all))
                    ·
                      have p53 := h53
                      try simp only [decide_eq_true_eq, decide_eq_false_iff_not, Bool.not_eq_true', Bool.not_eq_false', Option.isNone_iff_eq_none, ne_eq, Decidable.not_not, Int.not_lt, Int.not_le] at p53
                      refine TL_take rfl rfl h53 ?_
                      refine TL_q (Qt_move (.bool _) rfl) rfl ?_
                      refine TL_take rfl rfl h53 ?_
                      refine TL_q (Qt_not rfl) rfl ?_
                      refine TL_take rfl rfl h49 ?_
                      refine TL_q (Qt_pick_f (.bool _) rfl h53 rfl) rfl ?_
                      refine TL_take rfl rfl h49 ?_
                      refine TL_q (Qt_move (.bool _) rfl) rfl ?_
                      refine TL_split 57 rfl (fun h57 => ?_) (fun h57 => ?_)
                      ·
                        have p57 := h57
                        try simp only [decide_eq_true_eq, decide_eq_false_iff_not, Bool.not_eq_true', Bool.not_eq_false', Option.isNone_iff_eq_none, ne_eq, Decidable.not_not, Int.not_lt, Int.not_le] at p57
                        refine TL_pass rfl rfl h57 rfl ?_
                        refine TL_pass rfl rfl h57 rfl ?_
                        refine TL_pass rfl rfl h57 rfl ?_
                        refine TL_pass rfl rfl h57 rfl ?_
                        refine TL_take rfl rfl h49 ?_
                        refine TL_q (Qt_pick_t (.bool _) rfl h57 rfl) rfl ?_
                        refine TL_q (Qt_pick_t (.bool _) rfl h49 rfl) rfl ?_
                        refine TL_nil ?_
                        refine X_then ?_
                        refine T_cond_true rfl rfl ?_
                        refine T_seq ?_
                        refine T_region ?_
                        refine TL_q (Qt_assign (.bool _) rfl) rfl ?_
                        refine TL_nil ?_
                        refine X_then ?_
                        refine T_ret ?_
                        refine X_then_ret ?_
                        refine X_ret () [.bool (formedB v.abs)] Try.results13 ⟨?_, trivial⟩ rfl (Subs.st inferInstance)
                        refine congrArg Value.bool ?_
                        first
                          | (refine Eq.symm (Bool.eq_false_iff.2 fun hf => ?_); have hf1 := (formed_spec v.abs).1 hf; simp only [within_iff, within_not, VoteV.abs] at *; first | omega | simp_all)
                          | (refine Eq.symm ((formed_spec v.abs).2 ?_); simp only [within_iff, within_not, VoteV.abs, Bool.not_eq_false, Bool.not_eq_true] at *; refine ⟨by omega, by omega, by omega, by omega, by omega, fun h => ?_, fun h => ?_⟩ <;> first | omega | simp_all)
                          | (rw [Bool.eq_iff_iff, formed_spec]; simp only [within_iff, within_not, VoteV.abs, decide_eq_true_eq, Bool.not_eq_false, Bool.not_eq_true] at *; constructor; (intro hd; refine ⟨by omega, by omega, by omega, by omega, by omega, fun h => ?_, fun h => ?_⟩ <;> first | omega | (simp_all; done) | (simp_all; omega)); (rintro ⟨-, -, -, -, -, -, h7⟩; have := h7 (by omega); simp_all))
                      ·
                        have p57 := h57
                        try simp only [decide_eq_true_eq, decide_eq_false_iff_not, Bool.not_eq_true', Bool.not_eq_false', Option.isNone_iff_eq_none, ne_eq, Decidable.not_not, Int.not_lt, Int.not_le] at p57
                        refine TL_take rfl rfl h57 ?_
                        refine TL_q (Qt_fieldAddr 36 rfl rfl) rfl ?_
                        refine TL_take rfl rfl h57 ?_
                        refine TL_q (Qt_load1 rfl) rfl ?_
                        refine TL_take rfl rfl h57 ?_
                        refine TL_q (Qt_len_slice rfl Try.underlying24) rfl ?_
                        refine TL_take rfl rfl h57 ?_
                        refine TL_q (Qt_gtr rfl rfl) rfl ?_
                        refine TL_take rfl rfl h49 ?_
                        refine TL_q (Qt_pick_f (.bool _) rfl h57 rfl) rfl ?_
                        refine TL_q (Qt_pick_t (.bool _) rfl h49 rfl) rfl ?_
                        refine TL_nil ?_
                        refine X_then ?_
                        refine T_cond rfl (fun h63 => ?_) (fun h63 => ?_)
                        ·
                          have p63 := h63
                          try simp only [decide_eq_true_eq, decide_eq_false_iff_not, Bool.not_eq_true', Bool.not_eq_false', Option.isNone_iff_eq_none, ne_eq, Decidable.not_not, Int.not_lt, Int.not_le] at p63
                          refine T_seq ?_
                          refine T_region ?_
                          refine TL_q (Qt_assign (.bool _) rfl) rfl ?_
                          refine TL_nil ?_
                          refine X_then ?_
                          refine T_ret ?_
                          refine X_then_ret ?_
                          refine X_ret () [.bool (formedB v.abs)] Try.results13 ⟨?_, trivial⟩ rfl (Subs.st inferInstance)
                          refine congrArg Value.bool ?_
                          first
                            | (refine Eq.symm (Bool.eq_false_iff.2 fun hf => ?_); have hf1 := (formed_spec v.abs).1 hf; simp only [within_iff, within_not, VoteV.abs] at *; first | omega | simp_all)
                            | (refine Eq.symm ((formed_spec v.abs).2 ?_); simp only [within_iff, within_not, VoteV.abs, Bool.not_eq_false, Bool.not_eq_true] at *; refine ⟨by omega, by omega, by omega, by omega, by omega, fun h => ?_, fun h => ?_⟩ <;> first | omega | simp_all)
                            | (rw [Bool.eq_iff_iff, formed_spec]; simp only [within_iff, within_not, VoteV.abs, decide_eq_true_eq, Bool.not_eq_false, Bool.not_eq_true] at *; constructor; (intro hd; refine ⟨by omega, by omega, by omega, by omega, by omega, fun h => ?_, fun h => ?_⟩ <;> first | omega | (simp_all; done) | (simp_all; omega)); (rintro ⟨-, -, -, -, -, -, h7⟩; have := h7 (by omega); simp_all))
                        ·
                          have p63 := h63
                          try simp only [decide_eq_true_eq, decide_eq_false_iff_not, Bool.not_eq_true', Bool.not_eq_false', Option.isNone_iff_eq_none, ne_eq, Decidable.not_not, Int.not_lt, Int.not_le] at p63
                          refine T_skip ?_
                          refine X_then ?_
                          refine T_seq ?_
                          refine T_region ?_
                          refine TL_q (Qt_fieldAddr 0 rfl rfl) rfl ?_
                          refine TL_q (Qt_load1 rfl) rfl ?_
                          refine TL_q (Qt_eql rfl rfl) rfl ?_
                          refine TL_q (Qt_move (.bool _) rfl) rfl ?_
                          refine TL_split 67 rfl (fun h67 => ?_) (fun h67 => ?_)
                          ·
                            have p67 := h67
                            try simp only [decide_eq_true_eq, decide_eq_false_iff_not, Bool.not_eq_true', Bool.not_eq_false', Option.isNone_iff_eq_none, ne_eq, Decidable.not_not, Int.not_lt, Int.not_le] at p67
                            refine TL_pass rfl rfl h67 rfl ?_
                            refine TL_pass rfl rfl h67 rfl ?_
                            refine TL_pass rfl rfl h67 rfl ?_
                            refine TL_pass rfl rfl h67 rfl ?_
                            refine TL_q (Qt_pick_t (.bool _) rfl h67 rfl) rfl ?_
                            refine TL_q (Qt_assign (.bool _) rfl) rfl ?_
                            refine TL_nil ?_
                            refine X_then ?_
                            refine T_ret ?_
                            refine X_ret () [.bool (formedB v.abs)] Try.results13 ⟨?_, trivial⟩ rfl (Subs.st inferInstance)
                            refine congrArg Value.bool ?_
                            first
                              | (refine Eq.symm (Bool.eq_false_iff.2 fun hf => ?_); have hf1 := (formed_spec v.abs).1 hf; simp only [within_iff, within_not, VoteV.abs] at *; first | omega | simp_all)
                              | (refine Eq.symm ((formed_spec v.abs).2 ?_); simp only [within_iff, within_not, VoteV.abs, Bool.not_eq_false, Bool.not_eq_true] at *; refine ⟨by omega, by omega, by omega, by omega, by omega, fun h => ?_, fun h => ?_⟩ <;> first | omega | simp_all)
                              | (rw [Bool.eq_iff_iff, formed_spec]; simp only [within_iff, within_not, VoteV.abs, decide_eq_true_eq, Bool.not_eq_false, Bool.not_eq_true] at *; constructor; (intro hd; refine ⟨by omega, by omega, by omega, by omega, by omega, fun h => ?_, fun h => ?_⟩ <;> first | omega | (simp_all; done) | (simp_all; omega)); (rintro ⟨-, -, -, -, -, -, h7⟩; have := h7 (by omega); simp_all))
                          ·
                            have p67 := h67
                            try simp only [decide_eq_true_eq, decide_eq_false_iff_not, Bool.not_eq_true', Bool.not_eq_false', Option.isNone_iff_eq_none, ne_eq, Decidable.not_not, Int.not_lt, Int.not_le] at p67
                            refine TL_take rfl rfl h67 ?_
                            refine TL_q (Qt_fieldAddr 37 rfl rfl) rfl ?_
                            refine TL_take rfl rfl h67 ?_
                            refine TL_q (Qt_load1 rfl) rfl ?_
                            refine TL_take rfl rfl h67 ?_
                            refine TL_q (Qt_len_slice rfl Try.underlying25) rfl ?_
                            refine TL_take rfl rfl h67 ?_
                            refine TL_q (Qt_eql rfl rfl) rfl ?_
                            refine TL_q (Qt_pick_f (.bool _) rfl h67 rfl) rfl ?_
                            refine TL_q (Qt_assign (.bool _) rfl) rfl ?_
                            refine TL_nil ?_
                            refine X_then ?_
                            refine T_ret ?_
                            refine X_ret () [.bool (formedB v.abs)] Try.results13 ⟨?_, trivial⟩ rfl (Subs.st inferInstance)
                            refine congrArg Value.bool ?_
                            first
                              | (refine Eq.symm (Bool.eq_false_iff.2 fun hf => ?_); have hf1 := (formed_spec v.abs).1 hf; simp only [within_iff, within_not, VoteV.abs] at *; first | omega | simp_all)
                              | (refine Eq.symm ((formed_spec v.abs).2 ?_); simp only [within_iff, within_not, VoteV.abs, Bool.not_eq_false, Bool.not_eq_true] at *; refine ⟨by omega, by omega, by omega, by omega, by omega, fun h => ?_, fun h => ?_⟩ <;> first | omega | simp_all)
                              | (rw [Bool.eq_iff_iff, formed_spec]; simp only [within_iff, within_not, VoteV.abs, decide_eq_true_eq, Bool.not_eq_false, Bool.not_eq_true] at *; constructor; (intro hd; refine ⟨by omega, by omega, by omega, by omega, by omega, fun h => ?_, fun h => ?_⟩ <;> first | omega | (simp_all; done) | (simp_all; omega)); (rintro ⟨-, -, -, -, -, -, h7⟩; have := h7 (by omega); simp_all))
                  ·
                    have p49 := h49
                    try simp only [decide_eq_true_eq, decide_eq_false_iff_not, Bool.not_eq_true', Bool.not_eq_false', Option.isNone_iff_eq_none, ne_eq, Decidable.not_not, Int.not_lt, Int.not_le] at p49
                    refine TL_pass rfl rfl h49 rfl ?_
                    refine TL_pass rfl rfl h49 rfl ?_
                    refine TL_pass rfl rfl h49 rfl ?_
                    refine TL_pass rfl rfl h49 rfl ?_
                    refine TL_passU rfl rfl rfl ?_
                    refine TL_passU rfl rfl rfl ?_
                    refine TL_pass rfl rfl h49 rfl ?_
                    refine TL_pass rfl rfl h49 rfl ?_
                    refine TL_passU rfl rfl rfl ?_
                    refine TL_passU rfl rfl rfl ?_
                    refine TL_passU rfl rfl rfl ?_
                    refine TL_passU rfl rfl rfl ?_
                    refine TL_pass rfl rfl h49 rfl ?_
                    refine TL_q (Qt_pick_f (.bool _) rfl h49 rfl) rfl ?_
                    refine TL_nil ?_
                    refine X_then ?_
                    refine T_cond_false rfl rfl ?_
                    refine T_skip ?_
                    refine X_then ?_
                    refine T_seq ?_
                    refine T_region ?_
                    refine TL_q (Qt_fieldAddr 0 rfl rfl) rfl ?_
                    refine TL_q (Qt_load1 rfl) rfl ?_
                    refine TL_q (Qt_eql rfl rfl) rfl ?_
                    refine TL_q (Qt_move (.bool _) rfl) rfl ?_
                    refine TL_split 67 rfl (fun h67 => ?_) (fun h67 => ?_)
                    ·
                      have p67 := h67
                      try simp only [decide_eq_true_eq, decide_eq_false_iff_not, Bool.not_eq_true', Bool.not_eq_false', Option.isNone_iff_eq_none, ne_eq, Decidable.not_not, Int.not_lt, Int.not_le] at p67
                      refine TL_pass rfl rfl h67 rfl ?_
                      refine TL_pass rfl rfl h67 rfl ?_
                      refine TL_pass rfl rfl h67 rfl ?_
                      refine TL_pass rfl rfl h67 rfl ?_
                      refine TL_q (Qt_pick_t (.bool _) rfl h67 rfl) rfl ?_
                      refine TL_q (Qt_assign (.bool _) rfl) rfl ?_
                      refine TL_nil ?_
                      refine X_then ?_
                      refine T_ret ?_
                      refine X_ret () [.bool (formedB v.abs)] Try.results13 ⟨?_, trivial⟩ rfl (Subs.st inferInstance)
                      refine congrArg Value.bool ?_
                      first
                        | (refine Eq.symm (Bool.eq_false_iff.2 fun hf => ?_); have hf1 := (formed_spec v.abs).1 hf; simp only [within_iff, within_not, VoteV.abs] at *; first | omega | simp_all)
                        | (refine Eq.symm ((formed_spec v.abs).2 ?_); simp only [within_iff, within_not, VoteV.abs, Bool.not_eq_false, Bool.not_eq_true] at *; refine ⟨by omega, by omega, by omega, by omega, by omega, fun h => ?_, fun h => ?_⟩ <;> first | omega | simp_all)
                        | (rw [Bool.eq_iff_iff, formed_spec]; simp only [within_iff, within_not, VoteV.abs, decide_eq_true_eq, Bool.not_eq_false, Bool.not_eq_true] at *; constructor; (intro hd; refine ⟨by omega, by omega, by omega, by omega, by omega, fun h => ?_, fun h => ?_⟩ <;> first | omega | (simp_all; done) | (simp_all; omega)); (rintro ⟨-, -, -, -, -, -, h7⟩; have := h7 (by omega); simp_all))
                    ·
                      have p67 := h67
                      try simp only [decide_eq_true_eq, decide_eq_false_iff_not, Bool.not_eq_true', Bool.not_eq_false', Option.isNone_iff_eq_none, ne_eq, Decidable.not_not, Int.not_lt, Int.not_le] at p67
                      refine TL_take rfl rfl h67 ?_
                      refine TL_q (Qt_fieldAddr 37 rfl rfl) rfl ?_
                      refine TL_take rfl rfl h67 ?_
                      refine TL_q (Qt_load1 rfl) rfl ?_
                      refine TL_take rfl rfl h67 ?_
                      refine TL_q (Qt_len_slice rfl Try.underlying25) rfl ?_
                      refine TL_take rfl rfl h67 ?_
                      refine TL_q (Qt_eql rfl rfl) rfl ?_
                      refine TL_q (Qt_pick_f (.bool _) rfl h67 rfl) rfl ?_
                      refine TL_q (Qt_assign (.bool _) rfl) rfl ?_
                      refine TL_nil ?_
                      refine X_then ?_
                      refine T_ret ?_
                      refine X_ret () [.bool (formedB v.abs)] Try.results13 ⟨?_, trivial⟩ rfl (Subs.st inferInstance)
                      refine congrArg Value.bool ?_
                      first
                        | (refine Eq.symm (Bool.eq_false_iff.2 fun hf => ?_); have hf1 := (formed_spec v.abs).1 hf; simp only [within_iff, within_not, VoteV.abs] at *; first | omega | simp_all)
                        | (refine Eq.symm ((formed_spec v.abs).2 ?_); simp only [within_iff, within_not, VoteV.abs, Bool.not_eq_false, Bool.not_eq_true] at *; refine ⟨by omega, by omega, by omega, by omega, by omega, fun h => ?_, fun h => ?_⟩ <;> first | omega | simp_all)
                        | (rw [Bool.eq_iff_iff, formed_spec]; simp only [within_iff, within_not, VoteV.abs, decide_eq_true_eq, Bool.not_eq_false, Bool.not_eq_true] at *; constructor; (intro hd; refine ⟨by omega, by omega, by omega, by omega, by omega, fun h => ?_, fun h => ?_⟩ <;> first | omega | (simp_all; done) | (simp_all; omega)); (rintro ⟨-, -, -, -, -, -, h7⟩; have := h7 (by omega); simp_all))
end Go.Proofs.Ytdjbhpdfkopdgaa
