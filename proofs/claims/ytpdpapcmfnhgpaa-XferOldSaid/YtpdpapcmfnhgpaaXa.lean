/- Walks of Clone, Same, Copied for long texts; package xfer: cloned. -/
import Derived.Test.YtpdpapcmfnhgpaaKb
import Derived.Test.YtpdpapcmfnhgpaaMt
import Derived.Test.YtpdpapcmfnhgpaaOo
namespace Go.Proofs.Ytpdpapcmfnhgpaa
open Go.RowKit Go.Sx
set_option maxRecDepth 100000
set_option linter.unusedSimpArgs false
set_option linter.unusedVariables false
theorem Ef_appendL {P : Program} {w0 : World} {σ : Env} {H : List SA} {d : Option Nat} {ty : TypeId} {pos : String} {aft : Array Edge} {g : Option (Nat × Bool)} {K : Value → List SA → Prop} {s x : Operand} {t e : Nat} {sv xv : Value} {l l' : List UInt8} {Hr : List SA} (hs : ev σ s = sv) (hx : ev σ x = xv) [ht : TySl P t e 1 1] [hr : PickB sv H e l Hr] [hn : RdB w0 H xv l']
    (hb : l.length + l'.length ≤ 140737488355328) (hby : Nat.ble 1 32768 = true)
    (h : ∀ a c, K (.slice a (l ++ l').length c) (row (.slice a (l ++ l').length c) e 1 (bytesV (l ++ l')) :: Hr)) : Ef P w0 H σ ⟨d, .call ⟨.builtin .append, #[s, x], #[t, t]⟩, ty, pos, aft, g⟩ K := by
  obtain ⟨i, z, hi, hz, hsz, hby', hzs⟩ := ht.spec
  refine (Ef_append (K := fun v H' => H' = row v e 1 (bytesV l ++ bytesV l') :: Hr) (m := l'.length) sv xv hs hx (fun w hw => hr.st hw) hn.rd ht.ht hi hz hsz hby' hzs ht.pos (by simp) (bytesV_one l') (by simp; omega) (by simp; omega) (fun _ => rfl)).mono ?_
  intro v H' w hH hw
  subst hH
  rw [bytesV_append] at hw
  obtain ⟨a, c, rfl⟩ := row_form hw
  rw [bytesV_length] at hw
  exact ⟨_, by simpa using h a c, hw⟩
/-- A message of which the parts may be long. -/
structure SmallL (m : MsgV) : Prop where
  body : m.body.l.length ≤ 100000
  parts : m.parts.ls.length ≤ 20
  each : ∀ x ∈ m.parts.ls, x.l.length ≤ 140737488351232
theorem SmallL.each' {m : MsgV} (h : SmallL m) {k : Nat} (hk : k < m.parts.ls.length) : m.parts.ls[k].l.length ≤ 140737488351232 := h.each _ (List.getElem_mem hk)
set_option maxHeartbeats 1000000 in
theorem cloneL_c {w0 : World} {H : List SA} {a : Option Addr} {l : List UInt8} {c : Nat} [hr : RdB w0 H (.slice a l.length c) l] (hl : l.length ≤ 140737488355328) :
    CT Try.prog w0 (H) 44 [.slice a l.length c] (α := AC) (fun x => .slice x.a l.length x.c) (fun x => row (.slice x.a l.length x.c) 5 1 (bytesV l) :: H) := by
  refine CT_intro Try.func44 rfl Try.ntmps44 rfl ?_
  refine T_seq ?_
  refine T_region ?_
  refine TL_q (Qt_assign (.slice _ _ _) rfl) rfl ?_
  refine TL_nil ?_
  refine X_then ?_
  refine T_seq ?_
  refine T_seq ?_
  refine T_region ?_
  refine TL_q (Qt_move (.slice _ _ _) rfl) rfl ?_
  refine TL_q (Qt_slice_nil rfl rfl Try.underlying37) rfl ?_
  refine TL_nil ?_
  refine X_then ?_
  refine T_cond rfl (fun h4 => ?_) (fun h4 => ?_)
  ·
    have p4 := h4
    try simp only [decide_eq_true_eq, decide_eq_false_iff_not, Bool.not_eq_true', Bool.not_eq_false', Option.isNone_iff_eq_none, ne_eq, Decidable.not_not, Int.not_lt, Int.not_le] at p4
    refine T_seq ?_
    refine T_region ?_
    refine TL_q (Qt_assign (.slice _ _ _) rfl) rfl ?_
    refine TL_nil ?_
    refine X_then ?_
    refine T_ret ?_
    refine X_then_ret ?_
    subst p4
    refine X_know (fun w hw => BytesAt.none (hr.rd w hw)) (fun hnil => ?_)
    subst hnil
    exact X_ret ⟨none, 0⟩ [.slice none 0 0] Try.results44 ⟨rfl, trivial⟩ rfl (fun w hw => hw.addNilB 5)
  ·
    have p4 := h4
    try simp only [decide_eq_true_eq, decide_eq_false_iff_not, Bool.not_eq_true', Bool.not_eq_false', Option.isNone_iff_eq_none, ne_eq, Decidable.not_not, Int.not_lt, Int.not_le] at p4
    refine T_skip ?_
    refine X_then ?_
    refine T_seq ?_
    refine T_region ?_
    refine TL_e rfl (Ef_slice0 (fun a5 c5 => ?_))
    refine TL_q (Qt_move (.slice _ _ _) rfl) rfl ?_
    refine TL_e rfl (Ef_appendL (sv := .slice _ _ _) (xv := .slice _ _ _) rfl rfl (by simp; omega) rfl (fun a7 c7 => ?_))
    simp only [List.nil_append]
    refine TL_q (Qt_assign (.slice _ _ _) rfl) rfl ?_
    refine TL_nil ?_
    refine X_then ?_
    refine T_ret ?_
    exact X_ret ⟨a7, c7⟩ [_] Try.results44 ⟨rfl, trivial⟩ rfl (Subs.st inferInstance)
set_option maxHeartbeats 1000000 in
theorem sameL_c {w0 : World} {H : List SA} {a a2 : Option Addr} {l l2 : List UInt8} {c c2 : Nat} [hr : RdB w0 H (.slice a l.length c) l] [hr2 : RdB w0 H (.slice a2 l2.length c2) l2] (hl : l.length ≤ 140737488355328) :
    CT Try.prog w0 (H) 42 [.slice a l.length c, .slice a2 l2.length c2] (α := Unit) (fun _ => .bool (decide (l = l2))) (fun _ => H) := by
  refine CT_intro Try.func42 rfl Try.ntmps42 rfl ?_
  refine T_seq ?_
  refine T_region ?_
  refine TL_q (Qt_assign (.bool _) rfl) rfl ?_
  refine TL_nil ?_
  refine X_then ?_
  refine T_seq ?_
  refine T_seq ?_
  refine T_region ?_
  refine TL_q (Qt_move (.slice _ _ _) rfl) rfl ?_
  refine TL_q (Qt_len_slice rfl Try.underlying37) rfl ?_
  refine TL_q (Qt_move (.slice _ _ _) rfl) rfl ?_
  refine TL_q (Qt_len_slice rfl Try.underlying37) rfl ?_
  refine TL_q (Qt_neq rfl rfl) rfl ?_
  refine TL_nil ?_
  refine X_then ?_
  refine T_cond rfl (fun h10 => ?_) (fun h10 => ?_)
  ·
    have p10 := h10
    try simp only [decide_eq_true_eq, decide_eq_false_iff_not, Bool.not_eq_true', Bool.not_eq_false', Option.isNone_iff_eq_none, ne_eq, Decidable.not_not, Int.not_lt, Int.not_le] at p10
    refine T_seq ?_
    refine T_region ?_
    refine TL_q (Qt_assign (.bool _) rfl) rfl ?_
    refine TL_nil ?_
    refine X_then ?_
    refine T_ret ?_
    refine X_then_ret ?_
    have he : ¬ l = l2 := fun h => p10 (by rw [h])
    exact X_ret () [.bool (decide (l = l2))] Try.results42 ⟨by simp only [he, decide_false]; rfl, trivial⟩ rfl (Subs.st inferInstance)
  ·
    have p10 := h10
    try simp only [decide_eq_true_eq, decide_eq_false_iff_not, Bool.not_eq_true', Bool.not_eq_false', Option.isNone_iff_eq_none, ne_eq, Decidable.not_not, Int.not_lt, Int.not_le] at p10
    refine T_skip ?_
    refine X_then ?_
    refine T_seq ?_
    refine T_seq ?_
    refine T_region ?_
    refine TL_q (Qt_assign (.int .i64 _) rfl) rfl ?_
    refine TL_nil ?_
    refine X_then ?_
    refine T_block ?_
    have hll : l.length = l2.length := by omega
    refine T_loop [4, 5, 11, 12, 13, 14, 15, 16, 17, 18, 19, 20, 21, 22, 23, 24, 25] [5] (fun vs H' => ∃ k : Nat, vs = [.int .i64 (k : Int)] ∧ H = H' ∧ k ≤ l.length ∧ l.take k = l2.take k) (fun vs => match vs with | .int _ i :: _ => l.length - i.toNat | _ => 0) ⟨0, rfl, rfl, by omega, rfl⟩ (Subs.st inferInstance) ?_
    rintro τ0 _ _  ⟨k, rfl, rfl, hk0, hpre⟩ _
    refine T_seq ?_
    refine T_seq ?_
    refine T_region ?_
    refine TL_q (Qt_move (.int .i64 _) rfl) rfl ?_
    refine TL_q (Qt_move (.slice _ _ _) rfl) rfl ?_
    refine TL_q (Qt_len_slice rfl Try.underlying37) rfl ?_
    refine TL_q (Qt_lss rfl rfl) rfl ?_
    refine TL_nil ?_
    refine X_then ?_
    refine T_cond rfl (fun h14 => ?_) (fun h14 => ?_)
    ·
      have p14 := h14
      try simp only [decide_eq_true_eq, decide_eq_false_iff_not, Bool.not_eq_true', Bool.not_eq_false', Option.isNone_iff_eq_none, ne_eq, Decidable.not_not, Int.not_lt, Int.not_le] at p14
      have hk : k < l.length := by omega
      have hk2 : k < l2.length := by omega
      refine T_skip ?_
      refine X_then ?_
      refine T_seq ?_
      refine T_block ?_
      refine T_seq ?_
      refine T_draw _ [(0, true), (1, true), (2, true), (3, true), (4, true), (5, true), (6, true), (7, true), (8, true)] (by kernel_rfl) (by kernel_rfl) rfl (by kernel_rfl) (fun _ hh => hh) (fun hns0 => ?_)
      refine DL_q hns0 rfl (Qt_move (.slice _ _ _) rfl) rfl ?_
      refine DL_q hns0 rfl (Qt_move (.int .i64 _) rfl) rfl ?_
      refine DL_q hns0 rfl (Qt_indexR rfl rfl (by omega) (by simp; omega)) rfl ?_
      refine DL_q hns0 rfl (Qt_loadR (.int .u8 (l[k].toNat : Int)) rfl (bytes_get _ _ hk)) rfl ?_
      refine DL_q hns0 rfl (Qt_move (.slice _ _ _) rfl) rfl ?_
      refine DL_q hns0 rfl (Qt_move (.int .i64 _) rfl) rfl ?_
      refine DL_q hns0 rfl (Qt_indexR rfl rfl (by omega) (by simp; omega)) rfl ?_
      refine DL_q hns0 rfl (Qt_loadR (.int .u8 (l2[k].toNat : Int)) rfl (bytes_get _ _ hk2)) rfl ?_
      refine DL_q hns0 rfl (Qt_neq rfl rfl) rfl ?_
      refine DL_nil ?_
      refine X_then ?_
      refine T_cond rfl (fun h25 => ?_) (fun h25 => ?_)
      ·
        have p25 := h25
        try simp only [decide_eq_true_eq, decide_eq_false_iff_not, Bool.not_eq_true', Bool.not_eq_false', Option.isNone_iff_eq_none, ne_eq, Decidable.not_not, Int.not_lt, Int.not_le] at p25
        have hne : l[k] ≠ l2[k] := fun h => p25 (by rw [h])
        have he := ne_of_get hk hk2 hne
        refine T_seq ?_
        refine T_region ?_
        refine TL_q (Qt_assign (.bool _) rfl) rfl ?_
        refine TL_nil ?_
        refine X_then ?_
        refine T_ret ?_
        refine X_block_ret ?_
        refine X_then_ret ?_
        refine X_loop_ret ?_
        refine X_block_ret ?_
        refine X_then_ret ?_
        exact X_ret () [.bool (decide (l = l2))] Try.results42 ⟨by simp only [he, decide_false, decide_true]; rfl, trivial⟩ rfl (Subs.st inferInstance)
      ·
        have p25 := h25
        try simp only [decide_eq_true_eq, decide_eq_false_iff_not, Bool.not_eq_true', Bool.not_eq_false', Option.isNone_iff_eq_none, ne_eq, Decidable.not_not, Int.not_lt, Int.not_le] at p25
        have heq : l[k] = l2[k] := (byteOf_eq _ _).1 p25
        refine T_skip ?_
        refine X_block ?_
        refine X_then ?_
        refine T_region ?_
        refine TL_q (Qt_move (.int .i64 _) rfl) rfl ?_
        first
          | refine TL_q (Qt_add rfl rfl (by omega) (by omega)) rfl ?_
          | refine TL_q (Qt_addw rfl rfl) rfl ?_
        refine TL_q (Qt_assign (.int .i64 _) rfl) rfl ?_
        refine TL_nil ?_
        refine X_loop _ (by repeat (first | with_reducible exact agree_refl | refine agree_upd rfl ?_ | refine agree_mix rfl ?_ | refine agree_setAll rfl ?_)) (⟨k + 1, rfl, rfl, by omega, take_eq_snoc hpre hk hk2 heq⟩) (by show l.length - (k + 1 : Int).toNat < l.length - (k : Int).toNat; omega) ((Subs.st inferInstance))
    ·
      have p14 := h14
      try simp only [decide_eq_true_eq, decide_eq_false_iff_not, Bool.not_eq_true', Bool.not_eq_false', Option.isNone_iff_eq_none, ne_eq, Decidable.not_not, Int.not_lt, Int.not_le] at p14
      have he := take_eq_all hpre (by omega) hll
      refine T_exit ?_
      refine X_then_exit ?_
      refine X_loop_exit ?_
      refine X_block_exit ?_
      refine X_then ?_
      refine T_seq ?_
      refine T_region ?_
      refine TL_q (Qt_assign (.bool _) rfl) rfl ?_
      refine TL_nil ?_
      refine X_then ?_
      refine T_ret ?_
      exact X_ret () [.bool (decide (l = l2))] Try.results42 ⟨by simp only [he, decide_false, decide_true]; rfl, trivial⟩ rfl (Subs.st inferInstance)
set_option maxHeartbeats 1000000 in
theorem samePartsL_c {w0 : World} {H : List SA} {a a2 : Option Addr} {l l2 : List BS} {c c2 : Nat} [hr : RdC w0 H (.slice a l.length c) 1 (l.map BS.val)] [re : RdE w0 H l] [hr2 : RdC w0 H (.slice a2 l2.length c2) 1 (l2.map BS.val)] [re2 : RdE w0 H l2] (hl : l.length ≤ 140737488355328) (he1 : ∀ x ∈ l, x.l.length ≤ 140737488355328) :
    CT Try.prog w0 (H) 43 [.slice a l.length c, .slice a2 l2.length c2] (α := Unit) (fun _ => .bool (decide (l.map BS.l = l2.map BS.l))) (fun _ => H) := by
  refine CT_intro Try.func43 rfl Try.ntmps43 rfl ?_
  refine T_seq ?_
  refine T_region ?_
  refine TL_q (Qt_assign (.bool _) rfl) rfl ?_
  refine TL_nil ?_
  refine X_then ?_
  refine T_seq ?_
  refine T_seq ?_
  refine T_region ?_
  refine TL_q (Qt_move (.slice _ _ _) rfl) rfl ?_
  refine TL_q (Qt_len_slice rfl Try.underlying38) rfl ?_
  refine TL_q (Qt_move (.slice _ _ _) rfl) rfl ?_
  refine TL_q (Qt_len_slice rfl Try.underlying38) rfl ?_
  refine TL_q (Qt_neq rfl rfl) rfl ?_
  refine TL_nil ?_
  refine X_then ?_
  refine T_cond rfl (fun h10 => ?_) (fun h10 => ?_)
  ·
    have p10 := h10
    try simp only [decide_eq_true_eq, decide_eq_false_iff_not, Bool.not_eq_true', Bool.not_eq_false', Option.isNone_iff_eq_none, ne_eq, Decidable.not_not, Int.not_lt, Int.not_le] at p10
    refine T_seq ?_
    refine T_region ?_
    refine TL_q (Qt_assign (.bool _) rfl) rfl ?_
    refine TL_nil ?_
    refine X_then ?_
    refine T_ret ?_
    refine X_then_ret ?_
    have he : ¬ l.map BS.l = l2.map BS.l := fun h => p10 (by have := congrArg List.length h; simp at this; omega)
    exact X_ret () [.bool (decide (l.map BS.l = l2.map BS.l))] Try.results43 ⟨by simp only [he, decide_false]; rfl, trivial⟩ rfl (Subs.st inferInstance)
  ·
    have p10 := h10
    try simp only [decide_eq_true_eq, decide_eq_false_iff_not, Bool.not_eq_true', Bool.not_eq_false', Option.isNone_iff_eq_none, ne_eq, Decidable.not_not, Int.not_lt, Int.not_le] at p10
    refine T_skip ?_
    refine X_then ?_
    refine T_seq ?_
    refine T_seq ?_
    refine T_region ?_
    refine TL_q (Qt_assign (.int .i64 _) rfl) rfl ?_
    refine TL_nil ?_
    refine X_then ?_
    refine T_block ?_
    have hll : (l.map BS.l).length = (l2.map BS.l).length := by simp; omega
    refine T_loop [4, 5, 11, 12, 13, 14, 15, 16, 17, 18, 19, 20, 21, 22, 23, 24, 25, 26] [5] (fun vs H' => ∃ k : Nat, vs = [.int .i64 (k : Int)] ∧ H = H' ∧ k ≤ l.length ∧ (l.map BS.l).take k = (l2.map BS.l).take k) (fun vs => match vs with | .int _ i :: _ => l.length - i.toNat | _ => 0) ⟨0, rfl, rfl, by omega, rfl⟩ (Subs.st inferInstance) ?_
    rintro τ0 _ _  ⟨k, rfl, rfl, hk0, hpre⟩ _
    refine T_seq ?_
    refine T_seq ?_
    refine T_region ?_
    refine TL_q (Qt_move (.int .i64 _) rfl) rfl ?_
    refine TL_q (Qt_move (.slice _ _ _) rfl) rfl ?_
    refine TL_q (Qt_len_slice rfl Try.underlying38) rfl ?_
    refine TL_q (Qt_lss rfl rfl) rfl ?_
    refine TL_nil ?_
    refine X_then ?_
    refine T_cond rfl (fun h14 => ?_) (fun h14 => ?_)
    ·
      have p14 := h14
      try simp only [decide_eq_true_eq, decide_eq_false_iff_not, Bool.not_eq_true', Bool.not_eq_false', Option.isNone_iff_eq_none, ne_eq, Decidable.not_not, Int.not_lt, Int.not_le] at p14
      have hk : k < l.length := by omega
      have hk2 : k < l2.length := by simp at hll; omega
      have : RdB w0 H (.slice l[k].a l[k].l.length l[k].c) l[k].l := re.get (List.getElem_mem hk)
      have : RdB w0 H (.slice l2[k].a l2[k].l.length l2[k].c) l2[k].l := re2.get (List.getElem_mem hk2)
      refine T_skip ?_
      refine X_then ?_
      refine T_seq ?_
      refine T_block ?_
      refine T_seq ?_
      refine T_draw _ [(0, true), (1, true), (2, true), (3, true), (4, true), (5, true), (6, true), (7, true), (8, false), (9, true)] (by kernel_rfl) (by kernel_rfl) rfl (by kernel_rfl) (fun _ hh => hh) (fun hns0 => ?_)
      refine DL_q hns0 rfl (Qt_move (.slice _ _ _) rfl) rfl ?_
      refine DL_q hns0 rfl (Qt_move (.int .i64 _) rfl) rfl ?_
      refine DL_q hns0 rfl (Qt_indexR rfl rfl (by omega) (by simp; omega)) rfl ?_
      refine DL_q hns0 rfl (Qt_loadR (.slice _ _ _) rfl (vals_get _ _ hk)) rfl ?_
      refine DL_q hns0 rfl (Qt_move (.slice _ _ _) rfl) rfl ?_
      refine DL_q hns0 rfl (Qt_move (.int .i64 _) rfl) rfl ?_
      refine DL_q hns0 rfl (Qt_indexR rfl rfl (by omega) (by simp; omega)) rfl ?_
      refine DL_q hns0 rfl (Qt_loadR (.slice _ _ _) rfl (vals_get _ _ hk2)) rfl ?_
      refine DL_e rfl rfl (Ef_call (sameL_c (he1 _ (List.getElem_mem hk))) rfl (fun x25 => ⟨(Subs.st inferInstance), ?_⟩))
      refine DL_q hns0 rfl (Qt_not rfl) rfl ?_
      refine DL_nil ?_
      refine X_then ?_
      refine T_cond rfl (fun h26 => ?_) (fun h26 => ?_)
      ·
        have p26 := h26
        try simp only [decide_eq_true_eq, decide_eq_false_iff_not, Bool.not_eq_true', Bool.not_eq_false', Option.isNone_iff_eq_none, ne_eq, Decidable.not_not, Int.not_lt, Int.not_le] at p26
        have hne : l[k].l ≠ l2[k].l := by simpa using p26
        have he := ne_of_get (l := l.map BS.l) (l2 := l2.map BS.l) (k := k) (by simpa using hk) (by simpa using hk2) (by simpa using hne)
        refine T_seq ?_
        refine T_region ?_
        refine TL_q (Qt_assign (.bool _) rfl) rfl ?_
        refine TL_nil ?_
        refine X_then ?_
        refine T_ret ?_
        refine X_block_ret ?_
        refine X_then_ret ?_
        refine X_loop_ret ?_
        refine X_block_ret ?_
        refine X_then_ret ?_
        exact X_ret () [.bool (decide (l.map BS.l = l2.map BS.l))] Try.results43 ⟨by simp only [he, decide_false, decide_true]; rfl, trivial⟩ rfl (Subs.st inferInstance)
      ·
        have p26 := h26
        try simp only [decide_eq_true_eq, decide_eq_false_iff_not, Bool.not_eq_true', Bool.not_eq_false', Option.isNone_iff_eq_none, ne_eq, Decidable.not_not, Int.not_lt, Int.not_le] at p26
        have heq : l[k].l = l2[k].l := by simpa using p26
        refine T_skip ?_
        refine X_block ?_
        refine X_then ?_
        refine T_region ?_
        refine TL_q (Qt_move (.int .i64 _) rfl) rfl ?_
        first
          | refine TL_q (Qt_add rfl rfl (by omega) (by omega)) rfl ?_
          | refine TL_q (Qt_addw rfl rfl) rfl ?_
        refine TL_q (Qt_assign (.int .i64 _) rfl) rfl ?_
        refine TL_nil ?_
        refine X_loop _ (by repeat (first | with_reducible exact agree_refl | refine agree_upd rfl ?_ | refine agree_mix rfl ?_ | refine agree_setAll rfl ?_)) (⟨k + 1, rfl, rfl, by omega, take_eq_snoc hpre (by simpa using hk) (by simpa using hk2) (by simpa using heq)⟩) (by show l.length - (k + 1 : Int).toNat < l.length - (k : Int).toNat; omega) ((Subs.st inferInstance))
    ·
      have p14 := h14
      try simp only [decide_eq_true_eq, decide_eq_false_iff_not, Bool.not_eq_true', Bool.not_eq_false', Option.isNone_iff_eq_none, ne_eq, Decidable.not_not, Int.not_lt, Int.not_le] at p14
      have he := take_eq_all hpre (by simp; omega) hll
      refine T_exit ?_
      refine X_then_exit ?_
      refine X_loop_exit ?_
      refine X_block_exit ?_
      refine X_then ?_
      refine T_seq ?_
      refine T_region ?_
      refine TL_q (Qt_assign (.bool _) rfl) rfl ?_
      refine TL_nil ?_
      refine X_then ?_
      refine T_ret ?_
      exact X_ret () [.bool (decide (l.map BS.l = l2.map BS.l))] Try.results43 ⟨by simp only [he, decide_false, decide_true]; rfl, trivial⟩ rfl (Subs.st inferInstance)
set_option maxHeartbeats 1000000 in
theorem sameML_c {w0 : World} {H : List SA} {v u : MsgV} [rbv : RdB w0 H (.slice v.body.a v.body.l.length v.body.c) v.body.l] [rcv : RdC w0 H (.slice v.parts.a v.parts.ls.length v.parts.c) 1 (v.parts.ls.map BS.val)] [rev : RdE w0 H v.parts.ls] [rbu : RdB w0 H (.slice u.body.a u.body.l.length u.body.c) u.body.l] [rcu : RdC w0 H (.slice u.parts.a u.parts.ls.length u.parts.c) 1 (u.parts.ls.map BS.val)] [reu : RdE w0 H u.parts.ls] (hb : v.body.l.length ≤ 140737488355328) (hc : v.parts.ls.length ≤ 140737488355328) (he1 : ∀ x ∈ v.parts.ls, x.l.length ≤ 140737488355328) :
    CT Try.prog w0 (H) 11 [.agg v.cells, .agg u.cells] (α := Unit) (fun _ => .bool (decide (v.abs = u.abs))) (fun _ => H) := by
  refine CT_intro Try.func11 rfl Try.ntmps11 rfl ?_
  refine T_seq ?_
  refine T_region ?_
  refine TL_e rfl (Ef_boxN rfl (fun b2 => ?_))
  refine TL_e rfl (Ef_boxN rfl (fun b3 => ?_))
  refine TL_q (Qt_assign (.bool _) rfl) rfl ?_
  refine TL_nil ?_
  refine X_then ?_
  refine T_seq ?_
  refine T_region ?_
  refine TL_q (Qt_fieldAddr 0 rfl rfl) rfl ?_
  refine TL_q (Qt_load1 rfl) rfl ?_
  refine TL_q (Qt_fieldAddr 0 rfl rfl) rfl ?_
  refine TL_q (Qt_load1 rfl) rfl ?_
  refine TL_q (Qt_eql rfl rfl) rfl ?_
  refine TL_q (Qt_move (.bool _) rfl) rfl ?_
  refine TL_split 10 rfl (fun h10 => ?_) (fun h10 => ?_)
  ·
    have p10 := h10
    try simp only [decide_eq_true_eq, decide_eq_false_iff_not, Bool.not_eq_true', Bool.not_eq_false', Option.isNone_iff_eq_none, ne_eq, Decidable.not_not, Int.not_lt, Int.not_le] at p10
    refine TL_take rfl rfl h10 ?_
    refine TL_q (Qt_fieldAddr 1 rfl rfl) rfl ?_
    refine TL_take rfl rfl h10 ?_
    refine TL_q (Qt_load1 rfl) rfl ?_
    refine TL_take rfl rfl h10 ?_
    refine TL_q (Qt_fieldAddr 1 rfl rfl) rfl ?_
    refine TL_take rfl rfl h10 ?_
    refine TL_q (Qt_load1 rfl) rfl ?_
    refine TL_take rfl rfl h10 ?_
    refine TL_q (Qt_eql rfl rfl) rfl ?_
    refine TL_q (Qt_pick_t (.bool _) rfl h10 rfl) rfl ?_
    refine TL_q (Qt_move (.bool _) rfl) rfl ?_
    refine TL_split 17 rfl (fun h17 => ?_) (fun h17 => ?_)
    ·
      have p17 := h17
      try simp only [decide_eq_true_eq, decide_eq_false_iff_not, Bool.not_eq_true', Bool.not_eq_false', Option.isNone_iff_eq_none, ne_eq, Decidable.not_not, Int.not_lt, Int.not_le] at p17
      refine TL_take rfl rfl h17 ?_
      refine TL_q (Qt_fieldAddr 2 rfl rfl) rfl ?_
      refine TL_take rfl rfl h17 ?_
      refine TL_q (Qt_load1 rfl) rfl ?_
      refine TL_take rfl rfl h17 ?_
      refine TL_q (Qt_fieldAddr 2 rfl rfl) rfl ?_
      refine TL_take rfl rfl h17 ?_
      refine TL_q (Qt_load1 rfl) rfl ?_
      refine TL_take rfl rfl h17 ?_
      refine TL_q (Qt_eql rfl rfl) rfl ?_
      refine TL_q (Qt_pick_t (.bool _) rfl h17 rfl) rfl ?_
      refine TL_q (Qt_move (.bool _) rfl) rfl ?_
      refine TL_split 24 rfl (fun h24 => ?_) (fun h24 => ?_)
      ·
        have p24 := h24
        try simp only [decide_eq_true_eq, decide_eq_false_iff_not, Bool.not_eq_true', Bool.not_eq_false', Option.isNone_iff_eq_none, ne_eq, Decidable.not_not, Int.not_lt, Int.not_le] at p24
        refine TL_take rfl rfl h24 ?_
        refine TL_q (Qt_fieldAddr 3 rfl rfl) rfl ?_
        refine TL_take rfl rfl h24 ?_
        refine TL_q (Qt_load1 rfl) rfl ?_
        refine TL_take rfl rfl h24 ?_
        refine TL_q (Qt_fieldAddr 3 rfl rfl) rfl ?_
        refine TL_take rfl rfl h24 ?_
        refine TL_q (Qt_load1 rfl) rfl ?_
        refine TL_take rfl rfl h24 ?_
        refine TL_q (Qt_eql rfl rfl) rfl ?_
        refine TL_q (Qt_pick_t (.bool _) rfl h24 rfl) rfl ?_
        refine TL_q (Qt_move (.bool _) rfl) rfl ?_
        refine TL_split 31 rfl (fun h31 => ?_) (fun h31 => ?_)
        ·
          have p31 := h31
          try simp only [decide_eq_true_eq, decide_eq_false_iff_not, Bool.not_eq_true', Bool.not_eq_false', Option.isNone_iff_eq_none, ne_eq, Decidable.not_not, Int.not_lt, Int.not_le] at p31
          refine TL_take rfl rfl h31 ?_
          refine TL_q (Qt_fieldAddr 4 rfl rfl) rfl ?_
          refine TL_take rfl rfl h31 ?_
          refine TL_q (Qt_load1 rfl) rfl ?_
          refine TL_take rfl rfl h31 ?_
          refine TL_q (Qt_fieldAddr 4 rfl rfl) rfl ?_
          refine TL_take rfl rfl h31 ?_
          refine TL_q (Qt_load1 rfl) rfl ?_
          refine TL_take rfl rfl h31 ?_
          refine TL_q (Qt_eql rfl rfl) rfl ?_
          refine TL_q (Qt_pick_t (.bool _) rfl h31 rfl) rfl ?_
          refine TL_q (Qt_move (.bool _) rfl) rfl ?_
          refine TL_split 38 rfl (fun h38 => ?_) (fun h38 => ?_)
          ·
            have p38 := h38
            try simp only [decide_eq_true_eq, decide_eq_false_iff_not, Bool.not_eq_true', Bool.not_eq_false', Option.isNone_iff_eq_none, ne_eq, Decidable.not_not, Int.not_lt, Int.not_le] at p38
            refine TL_take rfl rfl h38 ?_
            refine TL_q (Qt_fieldAddr 5 rfl rfl) rfl ?_
            refine TL_take rfl rfl h38 ?_
            refine TL_q (Qt_loadN rfl rfl) rfl ?_
            refine TL_take rfl rfl h38 ?_
            refine TL_q (Qt_fieldAddr 5 rfl rfl) rfl ?_
            refine TL_take rfl rfl h38 ?_
            refine TL_q (Qt_loadN rfl rfl) rfl ?_
            refine TL_take rfl rfl h38 ?_
            refine TL_q (Qt_agg_eql rfl rfl (by kernel_rfl)) rfl ?_
            refine TL_q (Qt_pick_t (.bool _) rfl h38 rfl) rfl ?_
            refine TL_q (Qt_move (.bool _) rfl) rfl ?_
            refine TL_split 45 rfl (fun h45 => ?_) (fun h45 => ?_)
            ·
              have p45 := h45
              try simp only [decide_eq_true_eq, decide_eq_false_iff_not, Bool.not_eq_true', Bool.not_eq_false', Option.isNone_iff_eq_none, ne_eq, Decidable.not_not, Int.not_lt, Int.not_le] at p45
              refine TL_take rfl rfl h45 ?_
              refine TL_q (Qt_fieldAddr 37 rfl rfl) rfl ?_
              refine TL_take rfl rfl h45 ?_
              refine TL_q (Qt_load1 rfl) rfl ?_
              refine TL_take rfl rfl h45 ?_
              refine TL_q (Qt_fieldAddr 37 rfl rfl) rfl ?_
              refine TL_take rfl rfl h45 ?_
              refine TL_q (Qt_load1 rfl) rfl ?_
              refine TL_take rfl rfl h45 ?_
              refine TL_e rfl (Ef_call (sameL_c hb) rfl (fun x50 => ?_))
              refine TL_q (Qt_pick_t (.bool _) rfl h45 rfl) rfl ?_
              refine TL_q (Qt_move (.bool _) rfl) rfl ?_
              refine TL_split 52 rfl (fun h52 => ?_) (fun h52 => ?_)
              ·
                have p52 := h52
                try simp only [decide_eq_true_eq, decide_eq_false_iff_not, Bool.not_eq_true', Bool.not_eq_false', Option.isNone_iff_eq_none, ne_eq, Decidable.not_not, Int.not_lt, Int.not_le] at p52
                refine TL_take rfl rfl h52 ?_
                refine TL_q (Qt_fieldAddr 38 rfl rfl) rfl ?_
                refine TL_take rfl rfl h52 ?_
                refine TL_q (Qt_load1 rfl) rfl ?_
                refine TL_take rfl rfl h52 ?_
                refine TL_q (Qt_fieldAddr 38 rfl rfl) rfl ?_
                refine TL_take rfl rfl h52 ?_
                refine TL_q (Qt_load1 rfl) rfl ?_
                refine TL_take rfl rfl h52 ?_
                refine TL_e rfl (Ef_call (samePartsL_c hc he1) rfl (fun x57 => ?_))
                refine TL_q (Qt_pick_t (.bool _) rfl h52 rfl) rfl ?_
                refine TL_q (Qt_assign (.bool _) rfl) rfl ?_
                refine TL_nil ?_
                refine X_then ?_
                refine T_ret ?_
                refine X_ret () [.bool (decide (v.abs = u.abs))] Try.results11 ⟨?_, trivial⟩ rfl (Subs.st inferInstance)
                refine congrArg Value.bool ?_
                rw [Bool.eq_iff_iff]
                simp only [decide_eq_true_eq, MsgD.ext_iff']
                simp only [MsgV.abs]
                first | (simp_all; done) | (simp_all; omega)
              ·
                have p52 := h52
                try simp only [decide_eq_true_eq, decide_eq_false_iff_not, Bool.not_eq_true', Bool.not_eq_false', Option.isNone_iff_eq_none, ne_eq, Decidable.not_not, Int.not_lt, Int.not_le] at p52
                refine TL_pass rfl rfl h52 rfl ?_
                refine TL_pass rfl rfl h52 rfl ?_
                refine TL_pass rfl rfl h52 rfl ?_
                refine TL_pass rfl rfl h52 rfl ?_
                refine TL_pass rfl rfl h52 rfl ?_
                refine TL_q (Qt_pick_f (.bool _) rfl h52 rfl) rfl ?_
                refine TL_q (Qt_assign (.bool _) rfl) rfl ?_
                refine TL_nil ?_
                refine X_then ?_
                refine T_ret ?_
                refine X_ret () [.bool (decide (v.abs = u.abs))] Try.results11 ⟨?_, trivial⟩ rfl (Subs.st inferInstance)
                refine congrArg Value.bool ?_
                rw [Bool.eq_iff_iff]
                simp only [decide_eq_true_eq, MsgD.ext_iff']
                simp only [MsgV.abs]
                first | (simp_all; done) | (simp_all; omega)
            ·
              have p45 := h45
              try simp only [decide_eq_true_eq, decide_eq_false_iff_not, Bool.not_eq_true', Bool.not_eq_false', Option.isNone_iff_eq_none, ne_eq, Decidable.not_not, Int.not_lt, Int.not_le] at p45
              refine TL_pass rfl rfl h45 rfl ?_
              refine TL_pass rfl rfl h45 rfl ?_
              refine TL_pass rfl rfl h45 rfl ?_
              refine TL_pass rfl rfl h45 rfl ?_
              refine TL_pass rfl rfl h45 rfl ?_
              refine TL_q (Qt_pick_f (.bool _) rfl h45 rfl) rfl ?_
              refine TL_q (Qt_move (.bool _) rfl) rfl ?_
              refine TL_pass rfl rfl rfl rfl ?_
              refine TL_pass rfl rfl rfl rfl ?_
              refine TL_pass rfl rfl rfl rfl ?_
              refine TL_pass rfl rfl rfl rfl ?_
              refine TL_pass rfl rfl rfl rfl ?_
              refine TL_q (Qt_pick_f (.bool _) rfl rfl rfl) rfl ?_
              refine TL_q (Qt_assign (.bool _) rfl) rfl ?_
              refine TL_nil ?_
              refine X_then ?_
              refine T_ret ?_
              refine X_ret () [.bool (decide (v.abs = u.abs))] Try.results11 ⟨?_, trivial⟩ rfl (Subs.st inferInstance)
              refine congrArg Value.bool ?_
              rw [Bool.eq_iff_iff]
              simp only [decide_eq_true_eq, MsgD.ext_iff']
              simp only [MsgV.abs]
              first | (simp_all; done) | (simp_all; omega)
          ·
            have p38 := h38
            try simp only [decide_eq_true_eq, decide_eq_false_iff_not, Bool.not_eq_true', Bool.not_eq_false', Option.isNone_iff_eq_none, ne_eq, Decidable.not_not, Int.not_lt, Int.not_le] at p38
            refine TL_pass rfl rfl h38 rfl ?_
            refine TL_pass rfl rfl h38 rfl ?_
            refine TL_pass rfl rfl h38 rfl ?_
            refine TL_pass rfl rfl h38 rfl ?_
            refine TL_pass rfl rfl h38 rfl ?_
            refine TL_q (Qt_pick_f (.bool _) rfl h38 rfl) rfl ?_
            refine TL_q (Qt_move (.bool _) rfl) rfl ?_
            refine TL_pass rfl rfl rfl rfl ?_
            refine TL_pass rfl rfl rfl rfl ?_
            refine TL_pass rfl rfl rfl rfl ?_
            refine TL_pass rfl rfl rfl rfl ?_
            refine TL_pass rfl rfl rfl rfl ?_
            refine TL_q (Qt_pick_f (.bool _) rfl rfl rfl) rfl ?_
            refine TL_q (Qt_move (.bool _) rfl) rfl ?_
            refine TL_pass rfl rfl rfl rfl ?_
            refine TL_pass rfl rfl rfl rfl ?_
            refine TL_pass rfl rfl rfl rfl ?_
            refine TL_pass rfl rfl rfl rfl ?_
            refine TL_pass rfl rfl rfl rfl ?_
            refine TL_q (Qt_pick_f (.bool _) rfl rfl rfl) rfl ?_
            refine TL_q (Qt_assign (.bool _) rfl) rfl ?_
            refine TL_nil ?_
            refine X_then ?_
            refine T_ret ?_
            refine X_ret () [.bool (decide (v.abs = u.abs))] Try.results11 ⟨?_, trivial⟩ rfl (Subs.st inferInstance)
            refine congrArg Value.bool ?_
            rw [Bool.eq_iff_iff]
            simp only [decide_eq_true_eq, MsgD.ext_iff']
            simp only [MsgV.abs]
            first | (simp_all; done) | (simp_all; omega)
        ·
          have p31 := h31
          try simp only [decide_eq_true_eq, decide_eq_false_iff_not, Bool.not_eq_true', Bool.not_eq_false', Option.isNone_iff_eq_none, ne_eq, Decidable.not_not, Int.not_lt, Int.not_le] at p31
          refine TL_pass rfl rfl h31 rfl ?_
          refine TL_pass rfl rfl h31 rfl ?_
          refine TL_pass rfl rfl h31 rfl ?_
          refine TL_pass rfl rfl h31 rfl ?_
          refine TL_pass rfl rfl h31 rfl ?_
          refine TL_q (Qt_pick_f (.bool _) rfl h31 rfl) rfl ?_
          refine TL_q (Qt_move (.bool _) rfl) rfl ?_
          refine TL_pass rfl rfl rfl rfl ?_
          refine TL_pass rfl rfl rfl rfl ?_
          refine TL_pass rfl rfl rfl rfl ?_
          refine TL_pass rfl rfl rfl rfl ?_
          refine TL_pass rfl rfl rfl rfl ?_
          refine TL_q (Qt_pick_f (.bool _) rfl rfl rfl) rfl ?_
          refine TL_q (Qt_move (.bool _) rfl) rfl ?_
          refine TL_pass rfl rfl rfl rfl ?_
          refine TL_pass rfl rfl rfl rfl ?_
          refine TL_pass rfl rfl rfl rfl ?_
          refine TL_pass rfl rfl rfl rfl ?_
          refine TL_pass rfl rfl rfl rfl ?_
          refine TL_q (Qt_pick_f (.bool _) rfl rfl rfl) rfl ?_
          refine TL_q (Qt_move (.bool _) rfl) rfl ?_
          refine TL_pass rfl rfl rfl rfl ?_
          refine TL_pass rfl rfl rfl rfl ?_
          refine TL_pass rfl rfl rfl rfl ?_
          refine TL_pass rfl rfl rfl rfl ?_
          refine TL_pass rfl rfl rfl rfl ?_
          refine TL_q (Qt_pick_f (.bool _) rfl rfl rfl) rfl ?_
          refine TL_q (Qt_assign (.bool _) rfl) rfl ?_
          refine TL_nil ?_
          refine X_then ?_
          refine T_ret ?_
          refine X_ret () [.bool (decide (v.abs = u.abs))] Try.results11 ⟨?_, trivial⟩ rfl (Subs.st inferInstance)
          refine congrArg Value.bool ?_
          rw [Bool.eq_iff_iff]
          simp only [decide_eq_true_eq, MsgD.ext_iff']
          simp only [MsgV.abs]
          first | (simp_all; done) | (simp_all; omega)
      ·
        have p24 := h24
        try simp only [decide_eq_true_eq, decide_eq_false_iff_not, Bool.not_eq_true', Bool.not_eq_false', Option.isNone_iff_eq_none, ne_eq, Decidable.not_not, Int.not_lt, Int.not_le] at p24
        refine TL_pass rfl rfl h24 rfl ?_
        refine TL_pass rfl rfl h24 rfl ?_
        refine TL_pass rfl rfl h24 rfl ?_
        refine TL_pass rfl rfl h24 rfl ?_
        refine TL_pass rfl rfl h24 rfl ?_
        refine TL_q (Qt_pick_f (.bool _) rfl h24 rfl) rfl ?_
        refine TL_q (Qt_move (.bool _) rfl) rfl ?_
        refine TL_pass rfl rfl rfl rfl ?_
        refine TL_pass rfl rfl rfl rfl ?_
        refine TL_pass rfl rfl rfl rfl ?_
        refine TL_pass rfl rfl rfl rfl ?_
        refine TL_pass rfl rfl rfl rfl ?_
        refine TL_q (Qt_pick_f (.bool _) rfl rfl rfl) rfl ?_
        refine TL_q (Qt_move (.bool _) rfl) rfl ?_
        refine TL_pass rfl rfl rfl rfl ?_
        refine TL_pass rfl rfl rfl rfl ?_
        refine TL_pass rfl rfl rfl rfl ?_
        refine TL_pass rfl rfl rfl rfl ?_
        refine TL_pass rfl rfl rfl rfl ?_
        refine TL_q (Qt_pick_f (.bool _) rfl rfl rfl) rfl ?_
        refine TL_q (Qt_move (.bool _) rfl) rfl ?_
        refine TL_pass rfl rfl rfl rfl ?_
        refine TL_pass rfl rfl rfl rfl ?_
        refine TL_pass rfl rfl rfl rfl ?_
        refine TL_pass rfl rfl rfl rfl ?_
        refine TL_pass rfl rfl rfl rfl ?_
        refine TL_q (Qt_pick_f (.bool _) rfl rfl rfl) rfl ?_
        refine TL_q (Qt_move (.bool _) rfl) rfl ?_
        refine TL_pass rfl rfl rfl rfl ?_
        refine TL_pass rfl rfl rfl rfl ?_
        refine TL_pass rfl rfl rfl rfl ?_
        refine TL_pass rfl rfl rfl rfl ?_
        refine TL_pass rfl rfl rfl rfl ?_
        refine TL_q (Qt_pick_f (.bool _) rfl rfl rfl) rfl ?_
        refine TL_q (Qt_assign (.bool _) rfl) rfl ?_
        refine TL_nil ?_
        refine X_then ?_
        refine T_ret ?_
        refine X_ret () [.bool (decide (v.abs = u.abs))] Try.results11 ⟨?_, trivial⟩ rfl (Subs.st inferInstance)
        refine congrArg Value.bool ?_
        rw [Bool.eq_iff_iff]
        simp only [decide_eq_true_eq, MsgD.ext_iff']
        simp only [MsgV.abs]
        first | (simp_all; done) | (simp_all; omega)
    ·
      have p17 := h17
      try simp only [decide_eq_true_eq, decide_eq_false_iff_not, Bool.not_eq_true', Bool.not_eq_false', Option.isNone_iff_eq_none, ne_eq, Decidable.not_not, Int.not_lt, Int.not_le] at p17
      refine TL_pass rfl rfl h17 rfl ?_
      refine TL_pass rfl rfl h17 rfl ?_
      refine TL_pass rfl rfl h17 rfl ?_
      refine TL_pass rfl rfl h17 rfl ?_
      refine TL_pass rfl rfl h17 rfl ?_
      refine TL_q (Qt_pick_f (.bool _) rfl h17 rfl) rfl ?_
      refine TL_q (Qt_move (.bool _) rfl) rfl ?_
      refine TL_pass rfl rfl rfl rfl ?_
      refine TL_pass rfl rfl rfl rfl ?_
      refine TL_pass rfl rfl rfl rfl ?_
      refine TL_pass rfl rfl rfl rfl ?_
      refine TL_pass rfl rfl rfl rfl ?_
      refine TL_q (Qt_pick_f (.bool _) rfl rfl rfl) rfl ?_
      refine TL_q (Qt_move (.bool _) rfl) rfl ?_
      refine TL_pass rfl rfl rfl rfl ?_
      refine TL_pass rfl rfl rfl rfl ?_
      refine TL_pass rfl rfl rfl rfl ?_
      refine TL_pass rfl rfl rfl rfl ?_
      refine TL_pass rfl rfl rfl rfl ?_
      refine TL_q (Qt_pick_f (.bool _) rfl rfl rfl) rfl ?_
      refine TL_q (Qt_move (.bool _) rfl) rfl ?_
      refine TL_pass rfl rfl rfl rfl ?_
      refine TL_pass rfl rfl rfl rfl ?_
      refine TL_pass rfl rfl rfl rfl ?_
      refine TL_pass rfl rfl rfl rfl ?_
      refine TL_pass rfl rfl rfl rfl ?_
      refine TL_q (Qt_pick_f (.bool _) rfl rfl rfl) rfl ?_
      refine TL_q (Qt_move (.bool _) rfl) rfl ?_
      refine TL_pass rfl rfl rfl rfl ?_
      refine TL_pass rfl rfl rfl rfl ?_
      refine TL_pass rfl rfl rfl rfl ?_
      refine TL_pass rfl rfl rfl rfl ?_
      refine TL_pass rfl rfl rfl rfl ?_
      refine TL_q (Qt_pick_f (.bool _) rfl rfl rfl) rfl ?_
      refine TL_q (Qt_move (.bool _) rfl) rfl ?_
      refine TL_pass rfl rfl rfl rfl ?_
      refine TL_pass rfl rfl rfl rfl ?_
      refine TL_pass rfl rfl rfl rfl ?_
      refine TL_pass rfl rfl rfl rfl ?_
      refine TL_pass rfl rfl rfl rfl ?_
      refine TL_q (Qt_pick_f (.bool _) rfl rfl rfl) rfl ?_
      refine TL_q (Qt_assign (.bool _) rfl) rfl ?_
      refine TL_nil ?_
      refine X_then ?_
      refine T_ret ?_
      refine X_ret () [.bool (decide (v.abs = u.abs))] Try.results11 ⟨?_, trivial⟩ rfl (Subs.st inferInstance)
      refine congrArg Value.bool ?_
      rw [Bool.eq_iff_iff]
      simp only [decide_eq_true_eq, MsgD.ext_iff']
      simp only [MsgV.abs]
      first | (simp_all; done) | (simp_all; omega)
  ·
    have p10 := h10
    try simp only [decide_eq_true_eq, decide_eq_false_iff_not, Bool.not_eq_true', Bool.not_eq_false', Option.isNone_iff_eq_none, ne_eq, Decidable.not_not, Int.not_lt, Int.not_le] at p10
    refine TL_pass rfl rfl h10 rfl ?_
    refine TL_pass rfl rfl h10 rfl ?_
    refine TL_pass rfl rfl h10 rfl ?_
    refine TL_pass rfl rfl h10 rfl ?_
    refine TL_pass rfl rfl h10 rfl ?_
    refine TL_q (Qt_pick_f (.bool _) rfl h10 rfl) rfl ?_
    refine TL_q (Qt_move (.bool _) rfl) rfl ?_
    refine TL_pass rfl rfl rfl rfl ?_
    refine TL_pass rfl rfl rfl rfl ?_
    refine TL_pass rfl rfl rfl rfl ?_
    refine TL_pass rfl rfl rfl rfl ?_
    refine TL_pass rfl rfl rfl rfl ?_
    refine TL_q (Qt_pick_f (.bool _) rfl rfl rfl) rfl ?_
    refine TL_q (Qt_move (.bool _) rfl) rfl ?_
    refine TL_pass rfl rfl rfl rfl ?_
    refine TL_pass rfl rfl rfl rfl ?_
    refine TL_pass rfl rfl rfl rfl ?_
    refine TL_pass rfl rfl rfl rfl ?_
    refine TL_pass rfl rfl rfl rfl ?_
    refine TL_q (Qt_pick_f (.bool _) rfl rfl rfl) rfl ?_
    refine TL_q (Qt_move (.bool _) rfl) rfl ?_
    refine TL_pass rfl rfl rfl rfl ?_
    refine TL_pass rfl rfl rfl rfl ?_
    refine TL_pass rfl rfl rfl rfl ?_
    refine TL_pass rfl rfl rfl rfl ?_
    refine TL_pass rfl rfl rfl rfl ?_
    refine TL_q (Qt_pick_f (.bool _) rfl rfl rfl) rfl ?_
    refine TL_q (Qt_move (.bool _) rfl) rfl ?_
    refine TL_pass rfl rfl rfl rfl ?_
    refine TL_pass rfl rfl rfl rfl ?_
    refine TL_pass rfl rfl rfl rfl ?_
    refine TL_pass rfl rfl rfl rfl ?_
    refine TL_pass rfl rfl rfl rfl ?_
    refine TL_q (Qt_pick_f (.bool _) rfl rfl rfl) rfl ?_
    refine TL_q (Qt_move (.bool _) rfl) rfl ?_
    refine TL_pass rfl rfl rfl rfl ?_
    refine TL_pass rfl rfl rfl rfl ?_
    refine TL_pass rfl rfl rfl rfl ?_
    refine TL_pass rfl rfl rfl rfl ?_
    refine TL_pass rfl rfl rfl rfl ?_
    refine TL_q (Qt_pick_f (.bool _) rfl rfl rfl) rfl ?_
    refine TL_q (Qt_move (.bool _) rfl) rfl ?_
    refine TL_pass rfl rfl rfl rfl ?_
    refine TL_pass rfl rfl rfl rfl ?_
    refine TL_pass rfl rfl rfl rfl ?_
    refine TL_pass rfl rfl rfl rfl ?_
    refine TL_pass rfl rfl rfl rfl ?_
    refine TL_q (Qt_pick_f (.bool _) rfl rfl rfl) rfl ?_
    refine TL_q (Qt_assign (.bool _) rfl) rfl ?_
    refine TL_nil ?_
    refine X_then ?_
    refine T_ret ?_
    refine X_ret () [.bool (decide (v.abs = u.abs))] Try.results11 ⟨?_, trivial⟩ rfl (Subs.st inferInstance)
    refine congrArg Value.bool ?_
    rw [Bool.eq_iff_iff]
    simp only [decide_eq_true_eq, MsgD.ext_iff']
    simp only [MsgV.abs]
    first | (simp_all; done) | (simp_all; omega)
set_option maxHeartbeats 1000000 in
theorem copiedML_c {w0 : World} {H : List SA} {m : MsgV} [rb : RdB w0 H (.slice m.body.a m.body.l.length m.body.c) m.body.l] [rc : RdC w0 H (.slice m.parts.a m.parts.ls.length m.parts.c) 1 (m.parts.ls.map BS.val)] [re : RdE w0 H m.parts.ls] (hs : SmallL m) :
    CT Try.prog w0 (H) 46 [.agg m.cells] (α := MsgV × List Nat) (fun y => .agg y.1.cells) (fun y => pu (y.1.abs = m.abs) :: dat y.2 (Deep.leads y.1) :: H) := by
  have hp20 : m.parts.ls.length ≤ 20 := hs.parts
  refine CT_intro Try.func46 rfl Try.ntmps46 rfl ?_
  refine T_seq ?_
  refine T_region ?_
  refine TL_e rfl (Ef_boxN rfl (fun b1 => ?_))
  refine TL_e rfl (Ef_allocN (fun b2 => ?_))
  refine TL_nil ?_
  refine X_then ?_
  refine T_seq ?_
  refine T_region ?_
  refine TL_q (Qt_assign (.slice _ _ _) rfl) rfl ?_
  refine TL_nil ?_
  refine X_then ?_
  refine T_seq ?_
  refine T_region ?_
  refine TL_q (Qt_move (.slice _ _ _) rfl) rfl ?_
  refine TL_q (Qt_fieldAddr 37 rfl rfl) rfl ?_
  refine TL_q (Qt_load1 rfl) rfl ?_
  refine TL_e rfl (Ef_appendL (sv := .slice _ _ _) (xv := .slice _ _ _) rfl rfl (by have h1 : m.body.l.length ≤ 100000 := hs.body; simp; omega) rfl (fun a10 c10 => ?_))
  rw [List.nil_append]
  refine TL_q (Qt_assign (.slice _ _ _) rfl) rfl ?_
  refine TL_nil ?_
  refine X_then ?_
  refine T_seq ?_
  refine T_region ?_
  refine TL_q (Qt_assign (.slice _ _ _) rfl) rfl ?_
  refine TL_nil ?_
  refine X_then ?_
  refine T_seq ?_
  refine T_seq ?_
  refine T_region ?_
  refine TL_q (Qt_assign (.int .i64 _) rfl) rfl ?_
  refine TL_nil ?_
  refine X_then ?_
  refine T_block ?_
  refine T_loop [4, 5, 6, 11, 12, 13, 14, 15, 16, 17, 18, 19, 20, 21, 22, 23, 24, 25, 26, 27, 28] [5, 4] (fun us H' => ∃ (k : Nat) (a : Option Addr) (c : Nat) (ls : List BS) (fp : List Nat), us = [.int .i64 (k : Int), .slice a ls.length c] ∧ row (.slice a (ls).length c) 37 1 ((ls).map BS.val) :: eachA fp ls :: row (.slice a10 m.body.l.length c10) 5 1 (bytesV m.body.l) :: blk b1 (.cells m.cells 45 (0, 0)) :: blk b2 (.cells MsgV.zero.cells 45 (0, 0)) :: H = H' ∧ k ≤ m.parts.ls.length ∧ (ls.map BS.l = (m.parts.ls.map BS.l).take k) ∧ (ls.length = k)) (fun us => match us with | .int _ i :: _ => m.parts.ls.length - i.toNat | _ => 0) ⟨0, none, 0, [], [], rfl, rfl, by omega, rfl, rfl⟩ (fun w hw => by
        have h0 : St w0 (row (.slice a10 m.body.l.length c10) 5 1 (bytesV m.body.l) :: blk b1 (.cells m.cells 45 (0, 0)) :: blk b2 (.cells MsgV.zero.cells 45 (0, 0)) :: H) w := Subs.st inferInstance w hw
        exact (h0.eachNil).addNil 37 1) ?_
  rintro τ0 _ _  ⟨k, a, c, ls, fp, rfl, rfl, hk0, hls, hll⟩ _
  refine T_seq ?_
  refine T_seq ?_
  refine T_region ?_
  refine TL_q (Qt_move (.int .i64 _) rfl) rfl ?_
  refine TL_q (Qt_fieldAddr 38 rfl rfl) rfl ?_
  refine TL_q (Qt_load1 rfl) rfl ?_
  refine TL_q (Qt_len_slice rfl Try.underlying38) rfl ?_
  refine TL_q (Qt_lss rfl rfl) rfl ?_
  refine TL_nil ?_
  refine X_then ?_
  refine T_cond rfl (fun h15 => ?_) (fun h15 => ?_)
  ·
    have p15 := h15
    try simp only [decide_eq_true_eq, decide_eq_false_iff_not, Bool.not_eq_true', Bool.not_eq_false', Option.isNone_iff_eq_none, ne_eq, Decidable.not_not, Int.not_lt, Int.not_le] at p15
    have hk : k < m.parts.ls.length := by omega
    refine T_skip ?_
    refine X_then ?_
    refine T_seq ?_
    refine T_block ?_
    refine T_seq ?_
    refine T_region ?_
    refine TL_q (Qt_assign (.slice _ _ _) rfl) rfl ?_
    refine TL_nil ?_
    refine X_then ?_
    refine T_seq ?_
    refine T_region ?_
    refine TL_q (Qt_move (.slice _ _ _) rfl) rfl ?_
    refine TL_q (Qt_fieldAddr 38 rfl rfl) rfl ?_
    refine TL_q (Qt_load1 rfl) rfl ?_
    refine TL_q (Qt_move (.int .i64 _) rfl) rfl ?_
    refine TL_q (Qt_indexR rfl rfl (by omega) (by simp; omega)) rfl ?_
    refine TL_q (Qt_loadR (.slice _ _ _) rfl (vals_get _ _ hk)) rfl ?_
    refine TL_e rfl (Ef_appendL (sv := .slice _ _ _) (xv := .slice _ _ _) rfl rfl (by have := hs.each' hk; simp; omega) rfl (fun a24 c24 => ?_))
    rw [List.nil_append]
    refine TL_q (Qt_assign (.slice _ _ _) rfl) rfl ?_
    refine TL_nil ?_
    refine X_then ?_
    refine T_region ?_
    refine TL_q (Qt_move (.slice _ _ _) rfl) rfl ?_
    refine TL_q (Qt_move (.slice _ _ _) rfl) rfl ?_
    refine TL_e rfl (Ef_slice1 (v := .slice _ _ _) rfl (fun a27 c27 => ?_))
    refine TL_e rfl (Ef_appendP (sv := .slice _ _ _) (xv := .slice _ _ _) ⟨a24, c24, m.parts.ls[k].l⟩ rfl rfl (by omega) rfl (fun a28 c28 => ?_))
    refine TL_q (Qt_assign (.slice _ _ _) rfl) rfl ?_
    refine TL_nil ?_
    refine X_block ?_
    refine X_then ?_
    refine T_region ?_
    refine TL_q (Qt_move (.int .i64 _) rfl) rfl ?_
    first
      | refine TL_q (Qt_add rfl rfl (by omega) (by omega)) rfl ?_
      | refine TL_q (Qt_addw rfl rfl) rfl ?_
    refine TL_q (Qt_assign (.int .i64 _) rfl) rfl ?_
    refine TL_nil ?_
    apply X_loop
    case ha => exact (by repeat (first | with_reducible exact agree_refl | refine agree_upd rfl ?_ | refine agree_mix rfl ?_ | refine agree_setAll rfl ?_))
    case hI => exact ⟨k + 1, a28, c28, ls ++ [⟨a24, c24, m.parts.ls[k].l⟩], rowFp (.slice a24 m.parts.ls[k].l.length c24) ++ fp, rfl, rfl, by omega, by rw [List.map_append, hls, take_get _ _ (by simpa using hk)]; simp, by simp [hll]⟩
    case hm => exact by show m.parts.ls.length - (k + 1 : Int).toNat < m.parts.ls.length - (k : Int).toNat; omega
    case hH => exact fun w hw => eachUnder (Subs.st inferInstance w hw : St w0 (row (.slice a28 (ls ++ [(⟨a24, c24, m.parts.ls[k].l⟩ : BS)]).length c28) 37 1 ((ls ++ [(⟨a24, c24, m.parts.ls[k].l⟩ : BS)]).map BS.val) :: row (BS.val ⟨a24, c24, m.parts.ls[k].l⟩) 5 1 (bytesV (BS.l ⟨a24, c24, m.parts.ls[k].l⟩)) :: eachA fp ls :: row (.slice a10 m.body.l.length c10) 5 1 (bytesV m.body.l) :: blk b1 (.cells m.cells 45 (0, 0)) :: blk b2 (.cells MsgV.zero.cells 45 (0, 0)) :: H) w)
  ·
    have p15 := h15
    try simp only [decide_eq_true_eq, decide_eq_false_iff_not, Bool.not_eq_true', Bool.not_eq_false', Option.isNone_iff_eq_none, ne_eq, Decidable.not_not, Int.not_lt, Int.not_le] at p15
    have hls : ls.map BS.l = m.parts.ls.map BS.l := by rw [hls]; exact List.take_of_length_le (by simp; omega)
    refine T_exit ?_
    refine X_then_exit ?_
    refine X_loop_exit ?_
    refine X_block_exit ?_
    refine X_then ?_
    refine T_seq ?_
    refine T_region ?_
    refine TL_q (Qt_move (.slice _ _ _) rfl) rfl ?_
    refine TL_q (Qt_fieldAddr 37 rfl rfl) rfl ?_
    refine TL_n (Ef_store1 (.slice _ _ _) rfl rfl (?_))
    refine TL_nil ?_
    refine X_then ?_
    refine T_seq ?_
    refine T_region ?_
    refine TL_q (Qt_move (.slice _ _ _) rfl) rfl ?_
    refine TL_q (Qt_fieldAddr 38 rfl rfl) rfl ?_
    refine TL_n (Ef_store1 (.slice _ _ _) rfl rfl (?_))
    refine TL_nil ?_
    refine X_then ?_
    refine T_seq ?_
    refine T_region ?_
    refine TL_q (Qt_loadN rfl rfl) rfl ?_
    refine TL_n (Ef_storeN rfl rfl (?_))
    refine TL_nil ?_
    refine X_then ?_
    refine T_ret ?_
    refine X_conv (fun w hw => St.datMsg (m := ({ m with body := ⟨a10, c10, m.body.l⟩, parts := ⟨a, c, ls⟩ } : MsgV)) (fp := fp) (e := 37) (e2 := 5) (H := blk b2 (.cells (({ m with body := ⟨a10, c10, m.body.l⟩, parts := ⟨a, c, ls⟩ } : MsgV)).cells 45 (0, 0)) :: H) (Subs.st inferInstance w hw)) (fun fp2 => ?_)
    exact X_ret (({ m with body := ⟨a10, c10, m.body.l⟩, parts := ⟨a, c, ls⟩ } : MsgV), fp2) [_] Try.results46 ⟨⟨_, rfl, res_cellN rfl⟩, trivial⟩ rfl (fun w hw => (Subs.st inferInstance w hw : St w0 (dat fp2 (Deep.leads ({ m with body := ⟨a10, c10, m.body.l⟩, parts := ⟨a, c, ls⟩ } : MsgV)) :: H) w).addPure (by simp only [MsgV.abs, hls]))
set_option maxHeartbeats 1000000 in
theorem cloned_c {w0 : World} {H : List SA} {sa : Option Addr} {sc : Nat} {ls : List BS} [rk : RdC w0 H (.slice sa ls.length sc) 1 (ls.map BS.val)] [rke : RdE w0 H ls] (hkl : ∀ x ∈ ls, x.l.length ≤ 140737488351232) (hn : ls.length ≤ 1000) :
    CT Try.prog w0 (H) 45 [.slice sa ls.length sc] (α := PS × List Nat) (fun y => .slice y.1.a y.1.ls.length y.1.c) (fun y => pu (y.1.ls.map BS.l = ls.map BS.l) :: dat y.2 (Deep.leads (PS.mk y.1.a y.1.c y.1.ls)) :: H) := by
  refine CT_intro Try.func45 rfl Try.ntmps45 rfl ?_
  refine T_seq ?_
  refine T_region ?_
  refine TL_q (Qt_assign (.slice _ _ _) rfl) rfl ?_
  refine TL_nil ?_
  refine X_then ?_
  refine T_seq ?_
  refine T_region ?_
  refine TL_q (Qt_assign (.slice _ _ _) rfl) rfl ?_
  refine TL_nil ?_
  refine X_then ?_
  refine T_seq ?_
  refine T_seq ?_
  refine T_region ?_
  refine TL_q (Qt_move (.slice _ _ _) rfl) rfl ?_
  refine TL_q (Qt_len_slice rfl Try.underlying38) rfl ?_
  refine TL_q (Qt_move (.int .i64 _) rfl) rfl ?_
  refine TL_nil ?_
  refine X_then ?_
  refine T_block ?_
  refine T_loop [3, 5, 8, 9, 10, 11, 12, 13, 14, 15, 16, 17] [8, 3] (fun us H' => ∃ (k : Nat) (a : Option Addr) (c : Nat) (os : List BS) (fp : List Nat), us = [.int .i64 (k : Int), .slice a os.length c] ∧ row (.slice a (os).length c) 37 1 ((os).map BS.val) :: eachA fp os :: H = H' ∧ k ≤ ls.length ∧ (os.map BS.l = (ls.map BS.l).take k) ∧ (os.length = k)) (fun us => match us with | .int _ i :: _ => ls.length - i.toNat | _ => 0) ⟨0, none, 0, [], [], rfl, rfl, by omega, rfl, rfl⟩ (fun w hw => by
        have h0 : St w0 H w := Subs.st inferInstance w hw
        exact (h0.eachNil).addNil 37 1) ?_
  rintro τ0 _ _  ⟨k, a, c, os, fp, rfl, rfl, hk0, hos, hol⟩ _
  refine T_seq ?_
  refine T_region ?_
  refine TL_q (Qt_lss rfl rfl) rfl ?_
  refine TL_nil ?_
  refine X_then ?_
  refine T_seq ?_
  refine T_cond rfl (fun h9 => ?_) (fun h9 => ?_)
  ·
    have p9 := h9
    try simp only [decide_eq_true_eq, decide_eq_false_iff_not, Bool.not_eq_true', Bool.not_eq_false', Option.isNone_iff_eq_none, ne_eq, Decidable.not_not, Int.not_lt, Int.not_le] at p9
    have hk : k < ls.length := by omega
    refine T_skip ?_
    refine X_then ?_
    refine T_seq ?_
    refine T_block ?_
    refine T_seq ?_
    refine T_region ?_
    refine TL_q (Qt_indexR rfl rfl (by omega) (by simp; omega)) rfl ?_
    refine TL_q (Qt_loadR (.slice _ _ _) rfl (vals_get _ _ hk)) rfl ?_
    refine TL_q (Qt_assign (.slice _ _ _) rfl) rfl ?_
    refine TL_nil ?_
    refine X_then ?_
    refine T_region ?_
    refine TL_q (Qt_move (.slice _ _ _) rfl) rfl ?_
    refine TL_q (Qt_move (.slice _ _ _) rfl) rfl ?_
    have : RdB w0 H (.slice ls[k].a ls[k].l.length ls[k].c) ls[k].l := rke.get (List.getElem_mem hk)
    refine TL_e rfl (Ef_call (cloneL_c (by have := hkl _ (List.getElem_mem hk); omega)) rfl (fun x14 => ?_))
    refine TL_e rfl (Ef_slice1 (v := .slice _ _ _) rfl (fun a15 c15 => ?_))
    refine TL_e rfl (Ef_appendP (sv := .slice _ _ _) (xv := .slice _ _ _) ⟨x14.a, x14.c, ls[k].l⟩ rfl rfl (by omega) rfl (fun a16 c16 => ?_))
    refine TL_q (Qt_assign (.slice _ _ _) rfl) rfl ?_
    refine TL_nil ?_
    refine X_block ?_
    refine X_then ?_
    refine T_region ?_
    first
      | refine TL_q (Qt_add rfl rfl (by omega) (by omega)) rfl ?_
      | refine TL_q (Qt_addw rfl rfl) rfl ?_
    refine TL_q (Qt_move (.int .i64 _) rfl) rfl ?_
    refine TL_nil ?_
    apply X_loop
    case ha => exact (by repeat (first | with_reducible exact agree_refl | refine agree_upd rfl ?_ | refine agree_mix rfl ?_ | refine agree_setAll rfl ?_))
    case hI => exact ⟨k + 1, a16, c16, os ++ [⟨x14.a, x14.c, ls[k].l⟩], rowFp (.slice x14.a ls[k].l.length x14.c) ++ fp, rfl, rfl, by omega, by rw [List.map_append, hos, take_get _ _ (by simpa using hk)]; simp, by simp [hol]⟩
    case hm => exact by show ls.length - (k + 1 : Int).toNat < ls.length - (k : Int).toNat; omega
    case hH => exact fun w hw => eachUnder (Subs.st inferInstance w hw : St w0 (row (.slice a16 (os ++ [(⟨x14.a, x14.c, ls[k].l⟩ : BS)]).length c16) 37 1 ((os ++ [(⟨x14.a, x14.c, ls[k].l⟩ : BS)]).map BS.val) :: row (BS.val ⟨x14.a, x14.c, ls[k].l⟩) 5 1 (bytesV (BS.l ⟨x14.a, x14.c, ls[k].l⟩)) :: eachA fp os :: H) w)
  ·
    have p9 := h9
    try simp only [decide_eq_true_eq, decide_eq_false_iff_not, Bool.not_eq_true', Bool.not_eq_false', Option.isNone_iff_eq_none, ne_eq, Decidable.not_not, Int.not_lt, Int.not_le] at p9
    have hos : os.map BS.l = ls.map BS.l := by rw [hos]; exact List.take_of_length_le (by simp; omega)
    refine T_exit ?_
    refine X_then_exit ?_
    refine X_loop_exit ?_
    refine X_block_exit ?_
    refine X_then ?_
    refine T_seq ?_
    refine T_region ?_
    refine TL_q (Qt_move (.slice _ _ _) rfl) rfl ?_
    refine TL_q (Qt_assign (.slice _ _ _) rfl) rfl ?_
    refine TL_nil ?_
    refine X_then ?_
    refine T_ret ?_
    refine X_conv (fun w hw => St.datPS (a := a) (c := c) (ls := os) (fp := fp) (e := 37) (H := H) (Subs.st inferInstance w hw)) (fun fp2 => ?_)
    exact X_ret (⟨a, c, os⟩, fp2) [_] Try.results45 ⟨rfl, trivial⟩ rfl (fun w hw => (Subs.st inferInstance w hw : St w0 (dat fp2 (Deep.leads (PS.mk a c os)) :: H) w).addPure hos)
end Go.Proofs.Ytpdpapcmfnhgpaa
