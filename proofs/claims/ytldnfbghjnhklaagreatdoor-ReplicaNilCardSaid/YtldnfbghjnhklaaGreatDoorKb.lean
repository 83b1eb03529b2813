/- Worlds: walks of Put and Digest, of the reference too. -/
import Derived.Test.YtldnfbghjnhklaaGreatDoorKa
import Derived.Test.YtldnfbghjnhklaaGreatDoorSha
import Derived.Test.YtldnfbghjnhklaaGreatDoorKa
namespace Go.Proofs.YtldnfbghjnhklaaGreatDoor
open Go.RowKit Go.Sx
set_option maxRecDepth 100000
set_option linter.unusedSimpArgs false
set_option linter.unusedVariables false
instance three : TyZ Tryz.prog 401 (.agg #[.slice none 0 0, .slice none 0 0, .slice none 0 0]) := ⟨by kernel_rfl⟩
theorem cell_elem {α : Type} {n : Nat} (f : α → List Value) (m : Nat) (hf : ∀ x, (f x).length = m) (v : Vector α n) (i j : Nat) (hi : i < n) (hj : j < m) {u : Value} (hu : (f v[i])[j]? = some u) : CellAt (flatV f v).toArray (i * m + j) u := ⟨by
  have := flat_get f m hf v.toList i j (by simpa using hi) hj
  simpa [flatV, hu] using this⟩
theorem byte_ex (x : Int) : ∃ b : UInt8, fixed (IntKind.u64.wrap x).toNat 1 = [b] ∧ IntKind.u8.wrap x = (b.toNat : Int) := by
  refine ⟨u8Of (IntKind.u8.wrap x), fixed_u8 x, ?_⟩
  have : 0 ≤ IntKind.u8.wrap x ∧ IntKind.u8.wrap x < 256 := by simp [IntKind.wrap, IntKind.bits, IntKind.signed]; omega
  simp only [u8Of]
  rw [UInt8.toNat_ofNat']
  omega
def okI (b : Bool) : Int := if b = true then 1 else 0
def replyB (r : ReplyV) : List UInt8 := fixed (IntKind.u64.wrap r.client).toNat 1 ++ fixed (IntKind.u64.wrap r.seq).toNat 1 ++ fixed (IntKind.u64.wrap r.slot).toNat 1 ++ fixed (IntKind.u64.wrap (okI r.res.oK)).toNat 1 ++ packed (foldN r.res.n)
def repliesB (rs : Vector ReplyV 6) (k : Nat) : List UInt8 := (rs.toList.take k).flatMap fun r => textB (replyB r)
theorem repliesB_succ (rs : Vector ReplyV 6) {k : Nat} (hk : k < 6) : repliesB rs k ++ textB (replyB rs[k]) = repliesB rs (k + 1) := by
  unfold repliesB
  rw [List.take_succ_eq_append_getElem (by simpa using hk), List.flatMap_append, List.flatMap_singleton]; simp
theorem replyB_len {r : ReplyV} (h : -9223372036854775808 ≤ r.res.n ∧ r.res.n ≤ 9223372036854775807) : (replyB r).length ≤ 14 := by
  have := packed_length_le _ (foldN_lt h)
  simp only [replyB, List.length_append, fixed_length]; omega
theorem repliesB_len {rs : Vector ReplyV 6} (h : ∀ (i : Nat) (hi : i < 6), -9223372036854775808 ≤ rs[i].res.n ∧ rs[i].res.n ≤ 9223372036854775807) : ∀ k, k ≤ 6 → (repliesB rs k).length ≤ 24 * k
  | 0, _ => by simp [repliesB]
  | k + 1, hk => by
    have ih := repliesB_len h k (by omega)
    have h1 := replyB_len (h k (by omega))
    have h2 := textB_length (replyB rs[k]) (by omega)
    rw [← repliesB_succ rs (by omega), List.length_append]; omega
def worldB (s f n1 : Int) (m1 : Nat) (n2 : Int) (m2 : Nat) (cs : Vector CellV 16) (rs : Vector ReplyV 6) : List UInt8 :=
  fixed (IntKind.u64.wrap s).toNat 2 ++ fixed (IntKind.u64.wrap f).toNat 2 ++ textB (viewB n1 m1) ++ textB (viewB n2 m2) ++ textB (kvB cs) ++ repliesB rs 6
theorem kvB_len {cs : Vector CellV 16} (hcs : ∀ (i : Nat) (hi : i < 16), -9223372036854775808 ≤ cs[i].n ∧ cs[i].n ≤ 9223372036854775807) : (kvB cs).length ≤ 200 := by
  have h1 := cellsB_len hcs 16 (Nat.le_refl _)
  have h2 := packed_length_le (cellsN cs 16) (by have := cellsN_le cs 16; omega)
  unfold kvB
  rw [List.length_append]; omega
theorem headB_len {s f n1 n2 : Int} {m1 m2 : Nat} {cs : Vector CellV 16} (hcs : ∀ (i : Nat) (hi : i < 16), -9223372036854775808 ≤ cs[i].n ∧ cs[i].n ≤ 9223372036854775807) : (fixed (IntKind.u64.wrap s).toNat 2 ++ fixed (IntKind.u64.wrap f).toNat 2 ++ textB (viewB n1 m1) ++ textB (viewB n2 m2) ++ textB (kvB cs)).length ≤ 300 := by
  have h1 := viewB_len n1 m1
  have h2 := viewB_len n2 m2
  have h3 := kvB_len hcs
  have h4 := textB_length (viewB n1 m1) (by omega)
  have h5 := textB_length (viewB n2 m2) (by omega)
  have h6 := textB_length (kvB cs) (by omega)
  simp only [List.length_append, fixed_length]; omega
theorem worldB_len {s f n1 n2 : Int} {m1 m2 : Nat} {cs : Vector CellV 16} {rs : Vector ReplyV 6} (hcs : ∀ (i : Nat) (hi : i < 16), -9223372036854775808 ≤ cs[i].n ∧ cs[i].n ≤ 9223372036854775807)
    (hrs : ∀ (i : Nat) (hi : i < 6), -9223372036854775808 ≤ rs[i].res.n ∧ rs[i].res.n ≤ 9223372036854775807) : (worldB s f n1 m1 n2 m2 cs rs).length ≤ 1000 := by
  have h1 := headB_len (s := s) (f := f) (n1 := n1) (n2 := n2) (m1 := m1) (m2 := m2) hcs
  have h2 := repliesB_len hrs 6 (Nat.le_refl _)
  unfold worldB
  rw [List.length_append]; omega
theorem WorldV.sub_last (v : WorldV) (k : Nat) (hk : k < 6) : SubAt v.cells (38 + k * 5) 5 v.last[k].cells := ⟨by
  have h1 := flatV_slice ReplyV.list 5 ReplyV.list_len v.last k hk
  have h2 : (v.p0 ++ (v.p1 ++ (v.view.list ++ (v.was.list ++ v.p4)))).length = 38 := by simp only [List.length_append, ViewV.list_len, v.l4, List.length_singleton]
  have h3 : v.list = (v.p0 ++ (v.p1 ++ (v.view.list ++ (v.was.list ++ v.p4)))) ++ v.p5 := by simp only [WorldV.list, List.append_assoc]
  rw [WorldV.cells, List.extract_toArray, List.extract_eq_take_drop, h3, List.drop_append, h2, List.drop_of_length_le (by rw [h2]; omega), List.nil_append, show 38 + k * 5 - 38 = k * 5 by omega, show 38 + k * 5 + 5 - (38 + k * 5) = 5 by omega, h1]
  rfl⟩

set_option maxHeartbeats 1000000 in
theorem putReply_c {w0 : World} {H : List SA} {r : ReplyV} (hn : -9223372036854775808 ≤ r.res.n ∧ r.res.n ≤ 9223372036854775807) :
    CT Tryz.prog w0 (H) 63 [.agg r.cells] (α := AC) (fun y => .slice y.a (replyB r).length y.c) (fun y => row (.slice y.a (replyB r).length y.c) 5 1 (bytesV (replyB r)) :: H) := by
  refine CT_intro Tryz.func63 rfl Tryz.ntmps63 rfl ?_
  refine T_seq ?_
  refine T_region ?_
  refine TL_e rfl (Ef_boxN rfl (fun b1 => ?_))
  refine TL_q (Qt_assign (.slice _ _ _) rfl) rfl ?_
  refine TL_nil ?_
  refine X_then ?_
  refine T_seq ?_
  refine T_region ?_
  refine TL_q (Qt_assign (.int .i64 _) rfl) rfl ?_
  refine TL_nil ?_
  refine X_then ?_
  refine T_seq ?_
  refine T_seq ?_
  refine T_region ?_
  refine TL_q (Qt_fieldAddr 3 rfl rfl) rfl ?_
  refine TL_q (Qt_fieldAddr 3 rfl rfl) rfl ?_
  refine TL_q (Qt_load1 rfl) rfl ?_
  refine TL_nil ?_
  refine X_then ?_
  refine T_cond rfl (fun h9 => ?_) (fun h9 => ?_)
  ·
    have p9 := h9
    try simp only [decide_eq_true_eq, decide_eq_false_iff_not, Bool.not_eq_true', Bool.not_eq_false', Option.isNone_iff_eq_none, ne_eq, Decidable.not_not, Int.not_lt, Int.not_le] at p9
    have hok : r.res.oK = true := h9
    refine T_region ?_
    refine TL_q (Qt_assign (.int .i64 _) rfl) rfl ?_
    refine TL_nil ?_
    refine X_then ?_
    refine T_seq ?_
    refine T_region ?_
    refine TL_q (Qt_assign (.slice _ _ _) rfl) rfl ?_
    refine TL_nil ?_
    refine X_then ?_
    refine T_seq ?_
    refine T_seq ?_
    refine T_region ?_
    refine TL_q (Qt_fieldAddr 0 rfl rfl) rfl ?_
    refine TL_q (Qt_load1 rfl) rfl ?_
    refine TL_q (Qt_fieldAddr 1 rfl rfl) rfl ?_
    refine TL_q (Qt_load1 rfl) rfl ?_
    refine TL_q (Qt_fieldAddr 2 rfl rfl) rfl ?_
    refine TL_q (Qt_load1 rfl) rfl ?_
    refine TL_q (Qt_move (.int .i64 _) rfl) rfl ?_
    refine TL_q (Qt_build_arr #[(.int .i64 _), (.int .i64 _), (.int .i64 _), (.int .i64 _)] Tryz.underlying241 rfl rfl rfl) rfl ?_
    refine TL_q (Qt_move (.int .i64 _) rfl) rfl ?_
    refine TL_nil ?_
    refine X_then ?_
    refine T_block ?_
    refine T_unroll (TU_round ?_)
    refine T_seq ?_
    refine T_region ?_
    refine TL_q (Qt_lss rfl rfl) rfl ?_
    refine TL_nil ?_
    refine X_then ?_
    refine T_seq ?_
    refine T_cond_true rfl (by first | rfl | decide) ?_
    refine T_skip ?_
    refine X_then ?_
    refine T_seq ?_
    refine T_block ?_
    refine T_seq ?_
    refine T_region ?_
    refine TL_q (Qt_index (_) rfl rfl Tryz.underlying241 (by omega) (by omega) (rfl)) rfl ?_
    refine TL_q (Qt_assign (.int .i64 _) rfl) rfl ?_
    refine TL_nil ?_
    refine X_then ?_
    refine T_region ?_
    refine TL_q (Qt_move (.slice _ _ _) rfl) rfl ?_
    refine TL_q (Qt_move (.int .i64 _) rfl) rfl ?_
    refine TL_q (Qt_conv rfl rfl Tryz.underlying230) rfl ?_
    refine TL_e rfl (Ef_call (putFixed_c (a := none) (l := []) (c := 0) (x := IntKind.u64.wrap r.client) (n := 1) (hr := RdB.nil') (by simp [fixed_length]) (u64_nonneg _)) rfl (fun x24 => ?_))
    rw [putFixed_1k, List.nil_append]
    refine TL_q (Qt_assign (.slice _ _ _) rfl) rfl ?_
    refine TL_nil ?_
    refine X_block ?_
    refine X_then ?_
    refine T_region ?_
    first
      | refine TL_q (Qt_add rfl rfl (by omega) (by omega)) rfl ?_
      | refine TL_q (Qt_addw rfl rfl) rfl ?_
    refine TL_q (Qt_move (.int .i64 _) rfl) rfl ?_
    refine TL_nil ?_
    refine X_again (TU_round ?_)
    refine T_seq ?_
    refine T_region ?_
    refine TL_q (Qt_lss rfl rfl) rfl ?_
    refine TL_nil ?_
    refine X_then ?_
    refine T_seq ?_
    refine T_cond_true rfl (by first | rfl | decide) ?_
    refine T_skip ?_
    refine X_then ?_
    refine T_seq ?_
    refine T_block ?_
    refine T_seq ?_
    refine T_region ?_
    refine TL_q (Qt_index (_) rfl rfl Tryz.underlying241 (by omega) (by omega) (rfl)) rfl ?_
    refine TL_q (Qt_assign (.int .i64 _) rfl) rfl ?_
    refine TL_nil ?_
    refine X_then ?_
    refine T_region ?_
    refine TL_q (Qt_move (.slice _ _ _) rfl) rfl ?_
    refine TL_q (Qt_move (.int .i64 _) rfl) rfl ?_
    refine TL_q (Qt_conv rfl rfl Tryz.underlying230) rfl ?_
    refine TL_e rfl (Ef_call (putFixed_c (l := fixed (IntKind.u64.wrap r.client).toNat 1) (x := IntKind.u64.wrap r.seq) (n := 1) (by simp [fixed_length]) (u64_nonneg _)) rfl (fun x24 => ?_))
    rw [putFixed_1k]
    refine TL_q (Qt_assign (.slice _ _ _) rfl) rfl ?_
    refine TL_nil ?_
    refine X_block ?_
    refine X_then ?_
    refine T_region ?_
    first
      | refine TL_q (Qt_add rfl rfl (by omega) (by omega)) rfl ?_
      | refine TL_q (Qt_addw rfl rfl) rfl ?_
    refine TL_q (Qt_move (.int .i64 _) rfl) rfl ?_
    refine TL_nil ?_
    refine X_again (TU_round ?_)
    refine T_seq ?_
    refine T_region ?_
    refine TL_q (Qt_lss rfl rfl) rfl ?_
    refine TL_nil ?_
    refine X_then ?_
    refine T_seq ?_
    refine T_cond_true rfl (by first | rfl | decide) ?_
    refine T_skip ?_
    refine X_then ?_
    refine T_seq ?_
    refine T_block ?_
    refine T_seq ?_
    refine T_region ?_
    refine TL_q (Qt_index (_) rfl rfl Tryz.underlying241 (by omega) (by omega) (rfl)) rfl ?_
    refine TL_q (Qt_assign (.int .i64 _) rfl) rfl ?_
    refine TL_nil ?_
    refine X_then ?_
    refine T_region ?_
    refine TL_q (Qt_move (.slice _ _ _) rfl) rfl ?_
    refine TL_q (Qt_move (.int .i64 _) rfl) rfl ?_
    refine TL_q (Qt_conv rfl rfl Tryz.underlying230) rfl ?_
    refine TL_e rfl (Ef_call (putFixed_c (l := fixed (IntKind.u64.wrap r.client).toNat 1 ++ fixed (IntKind.u64.wrap r.seq).toNat 1) (x := IntKind.u64.wrap r.slot) (n := 1) (by simp [fixed_length]) (u64_nonneg _)) rfl (fun x24 => ?_))
    rw [putFixed_1k]
    refine TL_q (Qt_assign (.slice _ _ _) rfl) rfl ?_
    refine TL_nil ?_
    refine X_block ?_
    refine X_then ?_
    refine T_region ?_
    first
      | refine TL_q (Qt_add rfl rfl (by omega) (by omega)) rfl ?_
      | refine TL_q (Qt_addw rfl rfl) rfl ?_
    refine TL_q (Qt_move (.int .i64 _) rfl) rfl ?_
    refine TL_nil ?_
    refine X_again (TU_round ?_)
    refine T_seq ?_
    refine T_region ?_
    refine TL_q (Qt_lss rfl rfl) rfl ?_
    refine TL_nil ?_
    refine X_then ?_
    refine T_seq ?_
    refine T_cond_true rfl (by first | rfl | decide) ?_
    refine T_skip ?_
    refine X_then ?_
    refine T_seq ?_
    refine T_block ?_
    refine T_seq ?_
    refine T_region ?_
    refine TL_q (Qt_index (_) rfl rfl Tryz.underlying241 (by omega) (by omega) (rfl)) rfl ?_
    refine TL_q (Qt_assign (.int .i64 _) rfl) rfl ?_
    refine TL_nil ?_
    refine X_then ?_
    refine T_region ?_
    refine TL_q (Qt_move (.slice _ _ _) rfl) rfl ?_
    refine TL_q (Qt_move (.int .i64 _) rfl) rfl ?_
    refine TL_q (Qt_conv rfl rfl Tryz.underlying230) rfl ?_
    refine TL_e rfl (Ef_call (putFixed_c (l := fixed (IntKind.u64.wrap r.client).toNat 1 ++ fixed (IntKind.u64.wrap r.seq).toNat 1 ++ fixed (IntKind.u64.wrap r.slot).toNat 1) (x := IntKind.u64.wrap 1) (n := 1) (by simp [fixed_length]) (u64_nonneg _)) rfl (fun x24 => ?_))
    rw [putFixed_1k]
    refine TL_q (Qt_assign (.slice _ _ _) rfl) rfl ?_
    refine TL_nil ?_
    refine X_block ?_
    refine X_then ?_
    refine T_region ?_
    first
      | refine TL_q (Qt_add rfl rfl (by omega) (by omega)) rfl ?_
      | refine TL_q (Qt_addw rfl rfl) rfl ?_
    refine TL_q (Qt_move (.int .i64 _) rfl) rfl ?_
    refine TL_nil ?_
    refine X_again (TU_round ?_)
    refine T_seq ?_
    refine T_region ?_
    refine TL_q (Qt_lss rfl rfl) rfl ?_
    refine TL_nil ?_
    refine X_then ?_
    refine T_seq ?_
    refine T_cond_false rfl (by first | rfl | decide) ?_
    refine T_exit ?_
    refine X_then_exit ?_
    refine X_again_exit ?_
    refine X_block_exit ?_
    refine X_then ?_
    refine T_seq ?_
    refine T_region ?_
    refine TL_q (Qt_move (.slice _ _ _) rfl) rfl ?_
    refine TL_q (Qt_fieldAddr 3 rfl rfl) rfl ?_
    refine TL_q (Qt_fieldAddr 4 rfl rfl) rfl ?_
    refine TL_q (Qt_load1 rfl) rfl ?_
    refine TL_e rfl (Ef_call (putFolded_c (by simp [fixed_length]) hn) rfl (fun x30 => ?_))
    refine TL_q (Qt_assign (.slice _ _ _) rfl) rfl ?_
    refine TL_nil ?_
    refine X_then ?_
    refine T_ret ?_
    have e : replyB r = fixed (IntKind.u64.wrap r.client).toNat 1 ++ fixed (IntKind.u64.wrap r.seq).toNat 1 ++ fixed (IntKind.u64.wrap r.slot).toNat 1 ++ fixed (IntKind.u64.wrap 1).toNat 1 ++ packed (foldN r.res.n) := by unfold replyB okI; rw [if_pos hok]
    simp only [e]
    exact X_ret ⟨x30.a, x30.c⟩ [_] Tryz.results63 ⟨rfl, trivial⟩ rfl (Subs.st inferInstance)
  ·
    have p9 := h9
    try simp only [decide_eq_true_eq, decide_eq_false_iff_not, Bool.not_eq_true', Bool.not_eq_false', Option.isNone_iff_eq_none, ne_eq, Decidable.not_not, Int.not_lt, Int.not_le] at p9
    have hok : r.res.oK = false := h9
    refine T_skip ?_
    refine X_then ?_
    refine T_seq ?_
    refine T_region ?_
    refine TL_q (Qt_assign (.slice _ _ _) rfl) rfl ?_
    refine TL_nil ?_
    refine X_then ?_
    refine T_seq ?_
    refine T_seq ?_
    refine T_region ?_
    refine TL_q (Qt_fieldAddr 0 rfl rfl) rfl ?_
    refine TL_q (Qt_load1 rfl) rfl ?_
    refine TL_q (Qt_fieldAddr 1 rfl rfl) rfl ?_
    refine TL_q (Qt_load1 rfl) rfl ?_
    refine TL_q (Qt_fieldAddr 2 rfl rfl) rfl ?_
    refine TL_q (Qt_load1 rfl) rfl ?_
    refine TL_q (Qt_move (.int .i64 _) rfl) rfl ?_
    refine TL_q (Qt_build_arr #[(.int .i64 _), (.int .i64 _), (.int .i64 _), (.int .i64 _)] Tryz.underlying241 rfl rfl rfl) rfl ?_
    refine TL_q (Qt_move (.int .i64 _) rfl) rfl ?_
    refine TL_nil ?_
    refine X_then ?_
    refine T_block ?_
    refine T_unroll (TU_round ?_)
    refine T_seq ?_
    refine T_region ?_
    refine TL_q (Qt_lss rfl rfl) rfl ?_
    refine TL_nil ?_
    refine X_then ?_
    refine T_seq ?_
    refine T_cond_true rfl (by first | rfl | decide) ?_
    refine T_skip ?_
    refine X_then ?_
    refine T_seq ?_
    refine T_block ?_
    refine T_seq ?_
    refine T_region ?_
    refine TL_q (Qt_index (_) rfl rfl Tryz.underlying241 (by omega) (by omega) (rfl)) rfl ?_
    refine TL_q (Qt_assign (.int .i64 _) rfl) rfl ?_
    refine TL_nil ?_
    refine X_then ?_
    refine T_region ?_
    refine TL_q (Qt_move (.slice _ _ _) rfl) rfl ?_
    refine TL_q (Qt_move (.int .i64 _) rfl) rfl ?_
    refine TL_q (Qt_conv rfl rfl Tryz.underlying230) rfl ?_
    refine TL_e rfl (Ef_call (putFixed_c (a := none) (l := []) (c := 0) (x := IntKind.u64.wrap r.client) (n := 1) (hr := RdB.nil') (by simp [fixed_length]) (u64_nonneg _)) rfl (fun x24 => ?_))
    rw [putFixed_1k, List.nil_append]
    refine TL_q (Qt_assign (.slice _ _ _) rfl) rfl ?_
    refine TL_nil ?_
    refine X_block ?_
    refine X_then ?_
    refine T_region ?_
    first
      | refine TL_q (Qt_add rfl rfl (by omega) (by omega)) rfl ?_
      | refine TL_q (Qt_addw rfl rfl) rfl ?_
    refine TL_q (Qt_move (.int .i64 _) rfl) rfl ?_
    refine TL_nil ?_
    refine X_again (TU_round ?_)
    refine T_seq ?_
    refine T_region ?_
    refine TL_q (Qt_lss rfl rfl) rfl ?_
    refine TL_nil ?_
    refine X_then ?_
    refine T_seq ?_
    refine T_cond_true rfl (by first | rfl | decide) ?_
    refine T_skip ?_
    refine X_then ?_
    refine T_seq ?_
    refine T_block ?_
    refine T_seq ?_
    refine T_region ?_
    refine TL_q (Qt_index (_) rfl rfl Tryz.underlying241 (by omega) (by omega) (rfl)) rfl ?_
    refine TL_q (Qt_assign (.int .i64 _) rfl) rfl ?_
    refine TL_nil ?_
    refine X_then ?_
    refine T_region ?_
    refine TL_q (Qt_move (.slice _ _ _) rfl) rfl ?_
    refine TL_q (Qt_move (.int .i64 _) rfl) rfl ?_
    refine TL_q (Qt_conv rfl rfl Tryz.underlying230) rfl ?_
    refine TL_e rfl (Ef_call (putFixed_c (l := fixed (IntKind.u64.wrap r.client).toNat 1) (x := IntKind.u64.wrap r.seq) (n := 1) (by simp [fixed_length]) (u64_nonneg _)) rfl (fun x24 => ?_))
    rw [putFixed_1k]
    refine TL_q (Qt_assign (.slice _ _ _) rfl) rfl ?_
    refine TL_nil ?_
    refine X_block ?_
    refine X_then ?_
    refine T_region ?_
    first
      | refine TL_q (Qt_add rfl rfl (by omega) (by omega)) rfl ?_
      | refine TL_q (Qt_addw rfl rfl) rfl ?_
    refine TL_q (Qt_move (.int .i64 _) rfl) rfl ?_
    refine TL_nil ?_
    refine X_again (TU_round ?_)
    refine T_seq ?_
    refine T_region ?_
    refine TL_q (Qt_lss rfl rfl) rfl ?_
    refine TL_nil ?_
    refine X_then ?_
    refine T_seq ?_
    refine T_cond_true rfl (by first | rfl | decide) ?_
    refine T_skip ?_
    refine X_then ?_
    refine T_seq ?_
    refine T_block ?_
    refine T_seq ?_
    refine T_region ?_
    refine TL_q (Qt_index (_) rfl rfl Tryz.underlying241 (by omega) (by omega) (rfl)) rfl ?_
    refine TL_q (Qt_assign (.int .i64 _) rfl) rfl ?_
    refine TL_nil ?_
    refine X_then ?_
    refine T_region ?_
    refine TL_q (Qt_move (.slice _ _ _) rfl) rfl ?_
    refine TL_q (Qt_move (.int .i64 _) rfl) rfl ?_
    refine TL_q (Qt_conv rfl rfl Tryz.underlying230) rfl ?_
    refine TL_e rfl (Ef_call (putFixed_c (l := fixed (IntKind.u64.wrap r.client).toNat 1 ++ fixed (IntKind.u64.wrap r.seq).toNat 1) (x := IntKind.u64.wrap r.slot) (n := 1) (by simp [fixed_length]) (u64_nonneg _)) rfl (fun x24 => ?_))
    rw [putFixed_1k]
    refine TL_q (Qt_assign (.slice _ _ _) rfl) rfl ?_
    refine TL_nil ?_
    refine X_block ?_
    refine X_then ?_
    refine T_region ?_
    first
      | refine TL_q (Qt_add rfl rfl (by omega) (by omega)) rfl ?_
      | refine TL_q (Qt_addw rfl rfl) rfl ?_
    refine TL_q (Qt_move (.int .i64 _) rfl) rfl ?_
    refine TL_nil ?_
    refine X_again (TU_round ?_)
    refine T_seq ?_
    refine T_region ?_
    refine TL_q (Qt_lss rfl rfl) rfl ?_
    refine TL_nil ?_
    refine X_then ?_
    refine T_seq ?_
    refine T_cond_true rfl (by first | rfl | decide) ?_
    refine T_skip ?_
    refine X_then ?_
    refine T_seq ?_
    refine T_block ?_
    refine T_seq ?_
    refine T_region ?_
    refine TL_q (Qt_index (_) rfl rfl Tryz.underlying241 (by omega) (by omega) (rfl)) rfl ?_
    refine TL_q (Qt_assign (.int .i64 _) rfl) rfl ?_
    refine TL_nil ?_
    refine X_then ?_
    refine T_region ?_
    refine TL_q (Qt_move (.slice _ _ _) rfl) rfl ?_
    refine TL_q (Qt_move (.int .i64 _) rfl) rfl ?_
    refine TL_q (Qt_conv rfl rfl Tryz.underlying230) rfl ?_
    refine TL_e rfl (Ef_call (putFixed_c (l := fixed (IntKind.u64.wrap r.client).toNat 1 ++ fixed (IntKind.u64.wrap r.seq).toNat 1 ++ fixed (IntKind.u64.wrap r.slot).toNat 1) (x := IntKind.u64.wrap 0) (n := 1) (by simp [fixed_length]) (u64_nonneg _)) rfl (fun x24 => ?_))
    rw [putFixed_1k]
    refine TL_q (Qt_assign (.slice _ _ _) rfl) rfl ?_
    refine TL_nil ?_
    refine X_block ?_
    refine X_then ?_
    refine T_region ?_
    first
      | refine TL_q (Qt_add rfl rfl (by omega) (by omega)) rfl ?_
      | refine TL_q (Qt_addw rfl rfl) rfl ?_
    refine TL_q (Qt_move (.int .i64 _) rfl) rfl ?_
    refine TL_nil ?_
    refine X_again (TU_round ?_)
    refine T_seq ?_
    refine T_region ?_
    refine TL_q (Qt_lss rfl rfl) rfl ?_
    refine TL_nil ?_
    refine X_then ?_
    refine T_seq ?_
    refine T_cond_false rfl (by first | rfl | decide) ?_
    refine T_exit ?_
    refine X_then_exit ?_
    refine X_again_exit ?_
    refine X_block_exit ?_
    refine X_then ?_
    refine T_seq ?_
    refine T_region ?_
    refine TL_q (Qt_move (.slice _ _ _) rfl) rfl ?_
    refine TL_q (Qt_fieldAddr 3 rfl rfl) rfl ?_
    refine TL_q (Qt_fieldAddr 4 rfl rfl) rfl ?_
    refine TL_q (Qt_load1 rfl) rfl ?_
    refine TL_e rfl (Ef_call (putFolded_c (by simp [fixed_length]) hn) rfl (fun x30 => ?_))
    refine TL_q (Qt_assign (.slice _ _ _) rfl) rfl ?_
    refine TL_nil ?_
    refine X_then ?_
    refine T_ret ?_
    have e : replyB r = fixed (IntKind.u64.wrap r.client).toNat 1 ++ fixed (IntKind.u64.wrap r.seq).toNat 1 ++ fixed (IntKind.u64.wrap r.slot).toNat 1 ++ fixed (IntKind.u64.wrap 0).toNat 1 ++ packed (foldN r.res.n) := by unfold replyB okI; rw [if_neg (by simp [hok])]
    simp only [e]
    exact X_ret ⟨x30.a, x30.c⟩ [_] Tryz.results63 ⟨rfl, trivial⟩ rfl (Subs.st inferInstance)
set_option maxHeartbeats 1000000 in
theorem putWorld_c {w0 : World} {H : List SA} {s f n1 n2 : Int} {m1 m2 : Nat} (hm1 : m1 < 65536) (hm2 : m2 < 65536) {cs : Vector CellV 16} (hcs : ∀ (i : Nat) (hi : i < 16), -9223372036854775808 ≤ cs[i].n ∧ cs[i].n ≤ 9223372036854775807) {rs : Vector ReplyV 6} (hrs : ∀ (i : Nat) (hi : i < 6), -9223372036854775808 ≤ rs[i].res.n ∧ rs[i].res.n ≤ 9223372036854775807) :
    CT Tryz.prog w0 (H) 192 [.agg (WorldV.mk s f ⟨n1, (m1 : Int)⟩ ⟨n2, (m2 : Int)⟩ cs rs).cells] (α := AC) (fun y => .slice y.a (worldB s f n1 m1 n2 m2 cs rs).length y.c) (fun y => row (.slice y.a (worldB s f n1 m1 n2 m2 cs rs).length y.c) 5 1 (bytesV (worldB s f n1 m1 n2 m2 cs rs)) :: H) := by
  refine CT_intro Tryz.func192 rfl Tryz.ntmps192 rfl ?_
  refine T_seq ?_
  refine T_region ?_
  refine TL_e rfl (Ef_boxN rfl (fun b1 => ?_))
  refine TL_q (Qt_assign (.slice _ _ _) rfl) rfl ?_
  refine TL_nil ?_
  refine X_then ?_
  refine T_seq ?_
  refine T_draw (blk b1 (.cells (WorldV.mk s f ⟨n1, (m1 : Int)⟩ ⟨n2, (m2 : Int)⟩ cs rs).cells 42 (0, 0)) :: H) [(0, true), (1, true), (2, true), (4, true), (5, true), (6, true), (3, false), (7, false), (8, true)] (by kernel_rfl) (by kernel_rfl) rfl (by kernel_rfl) (Subs.st inferInstance) (fun hns0 => ?_)
  refine DL_q hns0 rfl (Qt_fieldAddr 0 rfl rfl) rfl ?_
  refine DL_q hns0 rfl (Qt_load1 rfl) rfl ?_
  refine DL_q hns0 rfl (Qt_conv rfl rfl Tryz.underlying230) rfl ?_
  refine DL_q hns0 rfl (Qt_fieldAddr 1 rfl rfl) rfl ?_
  refine DL_q hns0 rfl (Qt_load1 rfl) rfl ?_
  refine DL_q hns0 rfl (Qt_conv rfl rfl Tryz.underlying230) rfl ?_
  refine DL_e rfl rfl (Ef_call (putFixed_c (a := none) (l := []) (c := 0) (x := IntKind.u64.wrap s) (n := 2) (hr := RdB.nil') (by simp) (u64_nonneg _)) rfl (fun x11 => ⟨(Subs.st inferInstance), ?_⟩))
  rw [putFixed_2k, List.nil_append]
  refine DL_e rfl rfl (Ef_call (putFixed_c (x := IntKind.u64.wrap f) (n := 2) (by rw [fixed_length]; omega) (u64_nonneg _)) rfl (fun x15 => ⟨(Subs.st inferInstance), ?_⟩))
  rw [putFixed_2k]
  refine DL_q hns0 rfl (Qt_assign (.slice _ _ _) rfl) rfl ?_
  refine DL_nil ?_
  refine X_then ?_
  refine T_seq ?_
  refine T_seq ?_
  refine T_draw (blk b1 (.cells (WorldV.mk s f ⟨n1, (m1 : Int)⟩ ⟨n2, (m2 : Int)⟩ cs rs).cells 42 (0, 0)) :: H) [(0, true), (1, true), (3, true), (4, true), (6, true), (7, true), (10, true), (2, false), (5, false), (8, false), (9, true)] (by kernel_rfl) (by kernel_rfl) rfl (by kernel_rfl) (Subs.st inferInstance) (fun hns1 => ?_)
  refine DL_q hns1 rfl (Qt_fieldAddr 2 rfl rfl) rfl ?_
  refine DL_q hns1 rfl (Qt_loadN rfl rfl) rfl ?_
  refine DL_q hns1 rfl (Qt_fieldAddr 4 rfl rfl) rfl ?_
  refine DL_q hns1 rfl (Qt_loadN rfl rfl) rfl ?_
  refine DL_q hns1 rfl (Qt_fieldAddr 6 rfl rfl) rfl ?_
  refine DL_q hns1 rfl (Qt_loadN rfl rfl) rfl ?_
  refine DL_q hns1 rfl (Qt_move (.int .i64 _) rfl) rfl ?_
  refine DL_e rfl rfl (Ef_call (viewPut_c hm1) rfl (fun x18 => ⟨(Subs.st inferInstance), ?_⟩))
  refine DL_e rfl rfl (Ef_call (viewPut_c hm2) rfl (fun x21 => ⟨(Subs.st inferInstance), ?_⟩))
  refine DL_e rfl rfl (Ef_call (kvPut_c hcs) rfl (fun x24 => ⟨(Subs.st inferInstance), ?_⟩))
  refine DL_q hns1 rfl (Qt_build_arr #[(.slice _ _ _), (.slice _ _ _), (.slice _ _ _)] Tryz.underlying401 rfl rfl rfl) rfl ?_
  refine DL_nil ?_
  refine X_then ?_
  refine T_block ?_
  refine T_unroll (TU_round ?_)
  refine T_seq ?_
  refine T_region ?_
  refine TL_q (Qt_lss rfl rfl) rfl ?_
  refine TL_nil ?_
  refine X_then ?_
  refine T_seq ?_
  refine T_cond_true rfl (by first | rfl | decide) ?_
  refine T_skip ?_
  refine X_then ?_
  refine T_seq ?_
  refine T_block ?_
  refine T_seq ?_
  refine T_region ?_
  refine TL_q (Qt_index (_) rfl rfl Tryz.underlying401 (by omega) (by omega) (rfl)) rfl ?_
  refine TL_q (Qt_assign (.slice _ _ _) rfl) rfl ?_
  refine TL_nil ?_
  refine X_then ?_
  refine T_region ?_
  refine TL_q (Qt_move (.slice _ _ _) rfl) rfl ?_
  refine TL_q (Qt_move (.slice _ _ _) rfl) rfl ?_
  refine TL_e rfl (Ef_call (putText_c (l := fixed (IntKind.u64.wrap s).toNat 2 ++ fixed (IntKind.u64.wrap f).toNat 2) (l2 := viewB n1 m1) (by have hv1 := viewB_len n1 m1; have hv2 := viewB_len n2 m2; have hv3 := kvB_len hcs; have hv4 := textB_length (viewB n1 m1) (by omega); have hv5 := textB_length (viewB n2 m2) (by omega); simp only [List.length_append, fixed_length]; omega) (by have hv1 := viewB_len n1 m1; have hv2 := viewB_len n2 m2; have hv3 := kvB_len hcs; have hv4 := textB_length (viewB n1 m1) (by omega); have hv5 := textB_length (viewB n2 m2) (by omega); omega)) rfl (fun x31 => ?_))
  rw [List.append_assoc (fixed (IntKind.u64.wrap s).toNat 2 ++ fixed (IntKind.u64.wrap f).toNat 2) (packed (viewB n1 m1).length) (viewB n1 m1), show packed (viewB n1 m1).length ++ viewB n1 m1 = textB (viewB n1 m1) from rfl]
  refine TL_q (Qt_assign (.slice _ _ _) rfl) rfl ?_
  refine TL_nil ?_
  refine X_block ?_
  refine X_then ?_
  refine T_region ?_
  first
    | refine TL_q (Qt_add rfl rfl (by omega) (by omega)) rfl ?_
    | refine TL_q (Qt_addw rfl rfl) rfl ?_
  refine TL_q (Qt_move (.int .i64 _) rfl) rfl ?_
  refine TL_nil ?_
  refine X_again (TU_round ?_)
  refine T_seq ?_
  refine T_region ?_
  refine TL_q (Qt_lss rfl rfl) rfl ?_
  refine TL_nil ?_
  refine X_then ?_
  refine T_seq ?_
  refine T_cond_true rfl (by first | rfl | decide) ?_
  refine T_skip ?_
  refine X_then ?_
  refine T_seq ?_
  refine T_block ?_
  refine T_seq ?_
  refine T_region ?_
  refine TL_q (Qt_index (_) rfl rfl Tryz.underlying401 (by omega) (by omega) (rfl)) rfl ?_
  refine TL_q (Qt_assign (.slice _ _ _) rfl) rfl ?_
  refine TL_nil ?_
  refine X_then ?_
  refine T_region ?_
  refine TL_q (Qt_move (.slice _ _ _) rfl) rfl ?_
  refine TL_q (Qt_move (.slice _ _ _) rfl) rfl ?_
  refine TL_e rfl (Ef_call (putText_c (l := fixed (IntKind.u64.wrap s).toNat 2 ++ fixed (IntKind.u64.wrap f).toNat 2 ++ textB (viewB n1 m1)) (l2 := viewB n2 m2) (by have hv1 := viewB_len n1 m1; have hv2 := viewB_len n2 m2; have hv3 := kvB_len hcs; have hv4 := textB_length (viewB n1 m1) (by omega); have hv5 := textB_length (viewB n2 m2) (by omega); simp only [List.length_append, fixed_length]; omega) (by have hv1 := viewB_len n1 m1; have hv2 := viewB_len n2 m2; have hv3 := kvB_len hcs; have hv4 := textB_length (viewB n1 m1) (by omega); have hv5 := textB_length (viewB n2 m2) (by omega); omega)) rfl (fun x31 => ?_))
  rw [List.append_assoc (fixed (IntKind.u64.wrap s).toNat 2 ++ fixed (IntKind.u64.wrap f).toNat 2 ++ textB (viewB n1 m1)) (packed (viewB n2 m2).length) (viewB n2 m2), show packed (viewB n2 m2).length ++ viewB n2 m2 = textB (viewB n2 m2) from rfl]
  refine TL_q (Qt_assign (.slice _ _ _) rfl) rfl ?_
  refine TL_nil ?_
  refine X_block ?_
  refine X_then ?_
  refine T_region ?_
  first
    | refine TL_q (Qt_add rfl rfl (by omega) (by omega)) rfl ?_
    | refine TL_q (Qt_addw rfl rfl) rfl ?_
  refine TL_q (Qt_move (.int .i64 _) rfl) rfl ?_
  refine TL_nil ?_
  refine X_again (TU_round ?_)
  refine T_seq ?_
  refine T_region ?_
  refine TL_q (Qt_lss rfl rfl) rfl ?_
  refine TL_nil ?_
  refine X_then ?_
  refine T_seq ?_
  refine T_cond_true rfl (by first | rfl | decide) ?_
  refine T_skip ?_
  refine X_then ?_
  refine T_seq ?_
  refine T_block ?_
  refine T_seq ?_
  refine T_region ?_
  refine TL_q (Qt_index (_) rfl rfl Tryz.underlying401 (by omega) (by omega) (rfl)) rfl ?_
  refine TL_q (Qt_assign (.slice _ _ _) rfl) rfl ?_
  refine TL_nil ?_
  refine X_then ?_
  refine T_region ?_
  refine TL_q (Qt_move (.slice _ _ _) rfl) rfl ?_
  refine TL_q (Qt_move (.slice _ _ _) rfl) rfl ?_
  refine TL_e rfl (Ef_call (putText_c (l := fixed (IntKind.u64.wrap s).toNat 2 ++ fixed (IntKind.u64.wrap f).toNat 2 ++ textB (viewB n1 m1) ++ textB (viewB n2 m2)) (l2 := kvB cs) (by have hv1 := viewB_len n1 m1; have hv2 := viewB_len n2 m2; have hv3 := kvB_len hcs; have hv4 := textB_length (viewB n1 m1) (by omega); have hv5 := textB_length (viewB n2 m2) (by omega); simp only [List.length_append, fixed_length]; omega) (by have hv1 := viewB_len n1 m1; have hv2 := viewB_len n2 m2; have hv3 := kvB_len hcs; have hv4 := textB_length (viewB n1 m1) (by omega); have hv5 := textB_length (viewB n2 m2) (by omega); omega)) rfl (fun x31 => ?_))
  rw [List.append_assoc (fixed (IntKind.u64.wrap s).toNat 2 ++ fixed (IntKind.u64.wrap f).toNat 2 ++ textB (viewB n1 m1) ++ textB (viewB n2 m2)) (packed (kvB cs).length) (kvB cs), show packed (kvB cs).length ++ kvB cs = textB (kvB cs) from rfl]
  refine TL_q (Qt_assign (.slice _ _ _) rfl) rfl ?_
  refine TL_nil ?_
  refine X_block ?_
  refine X_then ?_
  refine T_region ?_
  first
    | refine TL_q (Qt_add rfl rfl (by omega) (by omega)) rfl ?_
    | refine TL_q (Qt_addw rfl rfl) rfl ?_
  refine TL_q (Qt_move (.int .i64 _) rfl) rfl ?_
  refine TL_nil ?_
  refine X_again (TU_round ?_)
  refine T_seq ?_
  refine T_region ?_
  refine TL_q (Qt_lss rfl rfl) rfl ?_
  refine TL_nil ?_
  refine X_then ?_
  refine T_seq ?_
  refine T_cond_false rfl (by first | rfl | decide) ?_
  refine T_exit ?_
  refine X_then_exit ?_
  refine X_again_exit ?_
  refine X_block_exit ?_
  refine X_then ?_
  refine T_seq ?_
  refine T_seq ?_
  refine T_region ?_
  refine TL_q (Qt_fieldAddr 38 rfl rfl) rfl ?_
  refine TL_q (Qt_loadN rfl rfl) rfl ?_
  refine TL_q (Qt_move (.int .i64 _) rfl) rfl ?_
  refine TL_nil ?_
  refine X_then ?_
  refine T_block ?_
  have hhd := headB_len (s := s) (f := f) (n1 := n1) (n2 := n2) (m1 := m1) (m2 := m2) hcs
  refine T_loop [3, 7, 35, 36, 37, 38, 39, 40, 41, 42] [35, 3] (fun us H' => ∃ (k : Nat) (a : Option Addr) (c : Nat), us = [.int .i64 (k : Int), .slice a (fixed (IntKind.u64.wrap s).toNat 2 ++ fixed (IntKind.u64.wrap f).toNat 2 ++ textB (viewB n1 m1) ++ textB (viewB n2 m2) ++ textB (kvB cs) ++ repliesB rs k).length c] ∧ row (.slice a (fixed (IntKind.u64.wrap s).toNat 2 ++ fixed (IntKind.u64.wrap f).toNat 2 ++ textB (viewB n1 m1) ++ textB (viewB n2 m2) ++ textB (kvB cs) ++ repliesB rs k).length c) 5 1 (bytesV (fixed (IntKind.u64.wrap s).toNat 2 ++ fixed (IntKind.u64.wrap f).toNat 2 ++ textB (viewB n1 m1) ++ textB (viewB n2 m2) ++ textB (kvB cs) ++ repliesB rs k)) :: blk b1 (.cells (WorldV.mk s f ⟨n1, (m1 : Int)⟩ ⟨n2, (m2 : Int)⟩ cs rs).cells 42 (0, 0)) :: H = H' ∧ k ≤ 6) (fun us => match us with | .int _ i :: _ => 6 - i.toNat | _ => 0) ⟨0, x31.a, x31.c, by rw [show repliesB rs 0 = [] from rfl, List.append_nil]; rfl, by rw [show repliesB rs 0 = [] from rfl, List.append_nil], by omega⟩ (Subs.st inferInstance) ?_
  rintro τ1 _ _  ⟨k, a, c, rfl, rfl, hk0⟩ _
  refine T_seq ?_
  refine T_region ?_
  refine TL_q (Qt_lss rfl rfl) rfl ?_
  refine TL_nil ?_
  refine X_then ?_
  refine T_seq ?_
  refine T_cond rfl (fun h36 => ?_) (fun h36 => ?_)
  ·
    have p36 := h36
    try simp only [decide_eq_true_eq, decide_eq_false_iff_not, Bool.not_eq_true', Bool.not_eq_false', Option.isNone_iff_eq_none, ne_eq, Decidable.not_not, Int.not_lt, Int.not_le] at p36
    have hk : k < 6 := by omega
    have hrk := hrs k hk
    have hlk := replyB_len hrk
    have hhk := repliesB_len hrs k (by omega)
    have hsk : SubAt (flatV ReplyV.list rs).toArray (k * 5) 5 rs[k].cells := sub_elem _ 5 ReplyV.list_len rs k hk
    refine T_skip ?_
    refine X_then ?_
    refine T_seq ?_
    refine T_block ?_
    refine T_seq ?_
    refine T_region ?_
    refine TL_q (Qt_indexS rfl rfl Tryz.underlying40 hk) rfl ?_
    refine TL_e rfl (Ef_allocN (fun b7 => ?_))
    refine TL_n (Ef_storeN rfl rfl (?_))
    refine TL_nil ?_
    refine X_then ?_
    refine T_region ?_
    refine TL_q (Qt_move (.slice _ _ _) rfl) rfl ?_
    refine TL_q (Qt_loadN rfl rfl) rfl ?_
    refine TL_e rfl (Ef_call (putReply_c (r := rs[k]) hrk) rfl (fun x40 => ?_))
    refine TL_e rfl (Ef_call (putText_c (l := fixed (IntKind.u64.wrap s).toNat 2 ++ fixed (IntKind.u64.wrap f).toNat 2 ++ textB (viewB n1 m1) ++ textB (viewB n2 m2) ++ textB (kvB cs) ++ repliesB rs k) (l2 := replyB rs[k]) (by rw [List.length_append]; omega) (by omega)) rfl (fun x41 => ?_))
    rw [List.append_assoc (fixed (IntKind.u64.wrap s).toNat 2 ++ fixed (IntKind.u64.wrap f).toNat 2 ++ textB (viewB n1 m1) ++ textB (viewB n2 m2) ++ textB (kvB cs) ++ repliesB rs k) (packed (replyB rs[k]).length) (replyB rs[k]), show packed (replyB rs[k]).length ++ replyB rs[k] = textB (replyB rs[k]) from rfl, List.append_assoc (fixed (IntKind.u64.wrap s).toNat 2 ++ fixed (IntKind.u64.wrap f).toNat 2 ++ textB (viewB n1 m1) ++ textB (viewB n2 m2) ++ textB (kvB cs)) (repliesB rs k) (textB (replyB rs[k])), repliesB_succ rs hk]
    refine TL_q (Qt_assign (.slice _ _ _) rfl) rfl ?_
    refine TL_nil ?_
    refine X_block ?_
    refine X_then ?_
    refine T_region ?_
    first
      | refine TL_q (Qt_add rfl rfl (by omega) (by omega)) rfl ?_
      | refine TL_q (Qt_addw rfl rfl) rfl ?_
    refine TL_q (Qt_move (.int .i64 _) rfl) rfl ?_
    refine TL_nil ?_
    apply X_loop
    case ha => exact (by repeat (first | with_reducible exact agree_refl | refine agree_upd rfl ?_ | refine agree_mix rfl ?_ | refine agree_setAll rfl ?_))
    case hI => exact ⟨k + 1, x41.a, x41.c, rfl, rfl, by omega⟩
    case hm => exact by show 6 - (k + 1 : Int).toNat < 6 - (k : Int).toNat; omega
    case hH => exact (Subs.st inferInstance)
  ·
    have p36 := h36
    try simp only [decide_eq_true_eq, decide_eq_false_iff_not, Bool.not_eq_true', Bool.not_eq_false', Option.isNone_iff_eq_none, ne_eq, Decidable.not_not, Int.not_lt, Int.not_le] at p36
    obtain rfl : k = 6 := by omega
    have e6 : fixed (IntKind.u64.wrap s).toNat 2 ++ fixed (IntKind.u64.wrap f).toNat 2 ++ textB (viewB n1 m1) ++ textB (viewB n2 m2) ++ textB (kvB cs) ++ repliesB rs 6 = worldB s f n1 m1 n2 m2 cs rs := rfl
    rw [e6]
    refine T_exit ?_
    refine X_then_exit ?_
    refine X_loop_exit ?_
    refine X_block_exit ?_
    refine X_then ?_
    refine T_seq ?_
    refine T_region ?_
    refine TL_q (Qt_move (.slice _ _ _) rfl) rfl ?_
    refine TL_q (Qt_assign (.slice _ _ _) rfl) rfl ?_
    refine TL_nil ?_
    refine X_then ?_
    refine T_ret ?_
    exact X_ret ⟨a, c⟩ [_] Tryz.results192 ⟨rfl, trivial⟩ rfl (Subs.st inferInstance)
attribute [local irreducible] sha worldB
set_option maxHeartbeats 1000000 in
theorem digest_c {w0 : World} {H : List SA} {s f n1 n2 : Int} {m1 m2 : Nat} (hm1 : m1 < 65536) (hm2 : m2 < 65536) {cs : Vector CellV 16} (hcs : ∀ (i : Nat) (hi : i < 16), -9223372036854775808 ≤ cs[i].n ∧ cs[i].n ≤ 9223372036854775807) {rs : Vector ReplyV 6} (hrs : ∀ (i : Nat) (hi : i < 6), -9223372036854775808 ≤ rs[i].res.n ∧ rs[i].res.n ≤ 9223372036854775807) :
    CT Tryz.prog w0 (H) 123 [.agg (WorldV.mk s f ⟨n1, (m1 : Int)⟩ ⟨n2, (m2 : Int)⟩ cs rs).cells] (α := Unit) (fun _ => .agg (hlist (sha (worldB s f n1 m1 n2 m2 cs rs))).toArray) (fun _ => H) := by
  refine CT_intro Tryz.func123 rfl Tryz.ntmps123 rfl ?_
  refine T_seq ?_
  refine T_region ?_
  refine TL_e rfl (Ef_boxN rfl (fun b1 => ?_))
  refine TL_e rfl (Ef_allocN (fun b2 => ?_))
  refine TL_nil ?_
  refine X_then ?_
  refine T_seq ?_
  refine T_region ?_
  refine TL_q (Qt_loadN rfl rfl) rfl ?_
  refine TL_e rfl (Ef_call (putWorld_c hm1 hm2 hcs hrs) rfl (fun x4 => ?_))
  refine TL_e rfl (Ef_call (sum_c (l := worldB s f n1 m1 n2 m2 cs rs) (by have := worldB_len (s := s) (f := f) (n1 := n1) (n2 := n2) (m1 := m1) (m2 := m2) hcs hrs; omega)) rfl (fun x5 => ?_))
  refine TL_n (Ef_storeN rfl rfl (?_))
  refine TL_nil ?_
  refine X_then ?_
  refine T_ret ?_
  exact X_ret () [_] Tryz.results123 ⟨⟨_, rfl, res_cellN rfl⟩, trivial⟩ rfl (Subs.st inferInstance)
end Go.Proofs.YtldnfbghjnhklaaGreatDoor
