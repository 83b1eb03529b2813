/- Walks of package logs: Append, Next, Sync, Open of a disk without files. -/
import Derived.Test.YtldnfbghjnhklaaGreatDoorLo
namespace Go.Proofs.YtldnfbghjnhklaaGreatDoor
open Go.RowKit Go.Sx
set_option maxRecDepth 100000
set_option linter.unusedSimpArgs false
set_option linter.unusedVariables false
theorem begin_c {w0 : World} {H : List SA} {lp p : Nat} {pre : ByteArray} {t : LS} {s : DS} {M K : Nat} (hok : s.Ok M K) (hM : M ≤ 1000000) (hK : K ≤ 1000000000) (hK2 : 10000 ≤ K) (hp : pre.size ≤ 1000) (hsl : t.segs.length ≤ 1000) (hlast : lastN t.segs < 99) {ra : Option Addr} {rc : Nat} {rs : List BS} [rk : RdC w0 H (.slice ra rs.length rc) 1 (rs.map BS.val)] [rke : RdE w0 H rs] (hr8 : rs.length ≤ 9) (hrl : ∀ x ∈ rs, x.l.length ≤ 1000) (hnx : t.nx ≤ 1000000) :
    CT Tryz.prog w0 (lblk lp p pre t :: lrow t :: DS.H p s H) 272 [.pointer (some ⟨lp, 0, none⟩), .slice ra rs.length rc] (α := DS × LS × Int) (fun y => .int .i64 y.2.2) (fun y => pu (BeginR pre s t (rs.map BS.l) y.1 y.2.1 y.2.2) :: lblk lp p pre y.2.1 :: lrow y.2.1 :: DS.H p y.1 H) := by
  by_cases hs : t.segs.length = 0
  · exact begin0_c hok hM hK hK2 hp hsl hs hr8 hrl hnx
  · exact begin1_c hok hM hK hK2 hp hsl (by omega) hlast hr8 hrl hnx
theorem RdE_one {w0 : World} {H : List SA} {b : BS} [h : RdB w0 H (.slice b.a b.l.length b.c) b.l] : RdE w0 H [b] := ⟨fun x hx w hw => by
  obtain rfl : x = b := by simpa using hx
  exact h.rd w hw⟩
def AppendR (pre : ByteArray) (s : DS) (t : LS) (l : List UInt8) (s' : DS) (t' : LS) (e : Int) : Prop :=
  ((t.segs.length = 0 ∨ 2048 ≤ t.siz) ∧ BeginR pre s t [l] s' t' e) ∨
  (¬ (t.segs.length = 0 ∨ 2048 ≤ t.siz) ∧ AppR 1 0 s (nmB pre (lastN t.segs)) (toldB t.nx l) s' e ∧ (e ≠ 0 → t' = t) ∧ (e = 0 → t'.segs = t.segs ∧ t'.siz = t.siz + (toldB t.nx l).length ∧ t'.nx = t.nx + 1 ∧ t'.bg = t.bg))
theorem fineB_t {s : ByteArray} (h1 : 1 ≤ s.size) (h2 : s.size ≤ 8) : fineB s = decide (Lib.idxFunc fineF true s < 0) := by
  unfold fineB; rw [decide_eq_true h1, decide_eq_true h2]; simp
theorem fineB_f {s : ByteArray} (h : ¬ (1 ≤ s.size ∧ s.size ≤ 8)) : fineB s = false := by
  unfold fineB
  by_cases h1 : 1 ≤ s.size
  · rw [decide_eq_false (show ¬ s.size ≤ 8 by omega)]; simp
  · rw [decide_eq_false h1]; simp
attribute [local irreducible] toldB recsB nmB lastN
set_option maxHeartbeats 1000000 in
theorem lappend_c {w0 : World} {H : List SA} {lp p : Nat} {pre : ByteArray} {t : LS} {s : DS} {M K : Nat} (hok : s.Ok M K) (hM : M ≤ 1000000) (hK : K ≤ 1000000000) (hK2 : 10000 ≤ K) (hp : pre.size ≤ 1000) (hsl : t.segs.length ≤ 1000) (hlast : lastN t.segs < 99) (hsz : t.siz ≤ 100000) (hnx : t.nx ≤ 1000000) {b : BS} [rb : RdB w0 H (.slice b.a b.l.length b.c) b.l] (hb : b.l.length ≤ 1000) :
    CT Tryz.prog w0 (lblk lp p pre t :: lrow t :: DS.H p s H) 204 [.pointer (some ⟨lp, 0, none⟩), .slice b.a b.l.length b.c] (α := DS × LS × Int) (fun y => .int .i64 y.2.2) (fun y => pu (AppendR pre s t b.l y.1 y.2.1 y.2.2) :: lblk lp p pre y.2.1 :: lrow y.2.1 :: DS.H p y.1 H) := by
  refine CT_intro Tryz.func204 rfl Tryz.ntmps204 rfl ?_
  refine T_seq ?_
  refine T_region ?_
  refine TL_q (Qt_assign (.int .i64 _) rfl) rfl ?_
  refine TL_nil ?_
  refine X_then ?_
  refine T_seq ?_
  refine T_seq ?_
  refine T_region ?_
  refine TL_q (Qt_move (.pointer _) rfl) rfl ?_
  refine TL_q (Qt_ptr_nil rfl rfl Tryz.underlying144) rfl ?_
  refine TL_nil ?_
  refine X_then ?_
  refine T_cond_false rfl (by first | rfl | decide) ?_
  refine T_skip ?_
  refine X_then ?_
  refine T_seq ?_
  refine T_seq ?_
  refine T_region ?_
  refine TL_q (Qt_move (.pointer _) rfl) rfl ?_
  refine TL_q (Qt_nilCheck rfl) rfl ?_
  refine TL_q (Qt_fieldAddr 2 rfl rfl) rfl ?_
  refine TL_q (Qt_load1 rfl) rfl ?_
  refine TL_q (Qt_len_slice rfl Tryz.underlying183) rfl ?_
  refine TL_q (Qt_eql rfl rfl) rfl ?_
  refine TL_nil ?_
  refine X_then ?_
  refine T_cond rfl (fun h14 => ?_) (fun h14 => ?_)
  ·
    have p14 := h14
    try simp only [decide_eq_true_eq, decide_eq_false_iff_not, Bool.not_eq_true', Bool.not_eq_false', Option.isNone_iff_eq_none, ne_eq, Decidable.not_not, Int.not_lt, Int.not_le] at p14
    refine T_seq ?_
    refine T_region ?_
    refine TL_q (Qt_move (.pointer _) rfl) rfl ?_
    refine TL_q (Qt_move (.slice _ _ _) rfl) rfl ?_
    refine TL_e rfl (Ef_slice1 (v := (.slice _ _ _)) rfl (fun a17 c17 => ?_))
    refine TL_conv (fun w hw => (Subs.st inferInstance w hw : St w0 (lblk lp p pre t :: lrow t :: DS.H p s (row (.slice a17 1 c17) 22 1 [.slice b.a b.l.length b.c] :: H)) w)) ?_
    refine TL_e rfl (Ef_call (begin_c (s := s) (t := t) (rs := [b]) (rk := (inferInstanceAs (RdC w0 (row (.slice a17 1 c17) 22 1 [.slice b.a b.l.length b.c] :: H) (.slice a17 1 c17) 1 [.slice b.a b.l.length b.c]))) (rke := RdE_one) hok hM hK hK2 hp hsl hlast (by simp) (fun x hx => by obtain rfl : x = b := (by simpa using hx); omega) hnx) rfl (fun x18 => ?_))
    refine TL_pure (fun hb18 => ?_)
    refine TL_q (Qt_assign (.int .i64 _) rfl) rfl ?_
    refine TL_nil ?_
    refine X_then ?_
    refine T_ret ?_
    refine X_then_ret ?_
    exact X_ret x18 [_] Tryz.results204 ⟨rfl, trivial⟩ rfl (fun w hw => (Subs.st inferInstance w hw : St w0 (lblk lp p pre x18.2.1 :: lrow x18.2.1 :: DS.H p x18.1 H) w).addPure (.inl ⟨.inl (by omega), hb18⟩))
  ·
    have p14 := h14
    try simp only [decide_eq_true_eq, decide_eq_false_iff_not, Bool.not_eq_true', Bool.not_eq_false', Option.isNone_iff_eq_none, ne_eq, Decidable.not_not, Int.not_lt, Int.not_le] at p14
    refine T_skip ?_
    refine X_then ?_
    refine T_seq ?_
    refine T_seq ?_
    refine T_region ?_
    refine TL_q (Qt_move (.pointer _) rfl) rfl ?_
    refine TL_q (Qt_nilCheck rfl) rfl ?_
    refine TL_q (Qt_fieldAddr 3 rfl rfl) rfl ?_
    refine TL_q (Qt_load1 rfl) rfl ?_
    refine TL_q (Qt_geq rfl rfl) rfl ?_
    refine TL_nil ?_
    refine X_then ?_
    refine T_cond rfl (fun h23 => ?_) (fun h23 => ?_)
    ·
      have p23 := h23
      try simp only [decide_eq_true_eq, decide_eq_false_iff_not, Bool.not_eq_true', Bool.not_eq_false', Option.isNone_iff_eq_none, ne_eq, Decidable.not_not, Int.not_lt, Int.not_le] at p23
      refine T_seq ?_
      refine T_region ?_
      refine TL_q (Qt_move (.pointer _) rfl) rfl ?_
      refine TL_q (Qt_move (.slice _ _ _) rfl) rfl ?_
      refine TL_e rfl (Ef_slice1 (v := (.slice _ _ _)) rfl (fun a26 c26 => ?_))
      refine TL_conv (fun w hw => (Subs.st inferInstance w hw : St w0 (lblk lp p pre t :: lrow t :: DS.H p s (row (.slice a26 1 c26) 22 1 [.slice b.a b.l.length b.c] :: H)) w)) ?_
      refine TL_e rfl (Ef_call (begin_c (s := s) (t := t) (rs := [b]) (rk := (inferInstanceAs (RdC w0 (row (.slice a26 1 c26) 22 1 [.slice b.a b.l.length b.c] :: H) (.slice a26 1 c26) 1 [.slice b.a b.l.length b.c]))) (rke := RdE_one) hok hM hK hK2 hp hsl hlast (by simp) (fun x hx => by obtain rfl : x = b := (by simpa using hx); omega) hnx) rfl (fun x27 => ?_))
      refine TL_pure (fun hb27 => ?_)
      refine TL_q (Qt_assign (.int .i64 _) rfl) rfl ?_
      refine TL_nil ?_
      refine X_then ?_
      refine T_ret ?_
      refine X_then_ret ?_
      exact X_ret x27 [_] Tryz.results204 ⟨rfl, trivial⟩ rfl (fun w hw => (Subs.st inferInstance w hw : St w0 (lblk lp p pre x27.2.1 :: lrow x27.2.1 :: DS.H p x27.1 H) w).addPure (.inl ⟨.inr (by omega), hb27⟩))
    ·
      have p23 := h23
      try simp only [decide_eq_true_eq, decide_eq_false_iff_not, Bool.not_eq_true', Bool.not_eq_false', Option.isNone_iff_eq_none, ne_eq, Decidable.not_not, Int.not_lt, Int.not_le] at p23
      refine T_skip ?_
      refine X_then ?_
      refine T_seq ?_
      refine T_region ?_
      refine TL_q (Qt_move (.pointer _) rfl) rfl ?_
      refine TL_q (Qt_nilCheck rfl) rfl ?_
      refine TL_q (Qt_fieldAddr 4 rfl rfl) rfl ?_
      refine TL_q (Qt_load1 rfl) rfl ?_
      refine TL_q (Qt_move (.slice _ _ _) rfl) rfl ?_
      refine TL_e rfl (Ef_call (told_c (n := t.nx) (by omega) (b := b) (by omega)) rfl (fun x33 => ?_))
      have htl := toldB_len t.nx (by omega) b.l (by omega)
      refine TL_q (Qt_assign (.slice _ _ _) rfl) rfl ?_
      refine TL_nil ?_
      refine X_then ?_
      refine T_seq ?_
      refine T_seq ?_
      refine T_draw (row (.slice x33.a (toldB t.nx b.l).length x33.c) 5 1 (bytesV (toldB t.nx b.l)) :: lblk lp p pre t :: lrow t :: H) [(0, true), (1, true), (2, true), (3, true), (4, true), (5, true), (6, true), (7, true), (8, true), (9, true), (10, true), (11, true), (12, true), (13, true), (14, true), (15, true), (16, true), (18, true), (17, false), (19, false), (20, true)] (by kernel_rfl) (by kernel_rfl) rfl (by kernel_rfl) (Subs.st inferInstance) (fun hns0 => ?_)
      refine DL_q hns0 rfl (Qt_move (.pointer _) rfl) rfl ?_
      refine DL_q hns0 rfl (Qt_nilCheck rfl) rfl ?_
      refine DL_q hns0 rfl (Qt_fieldAddr 0 rfl rfl) rfl ?_
      refine DL_q hns0 rfl (Qt_load1 rfl) rfl ?_
      refine DL_q hns0 rfl (Qt_move (.pointer _) rfl) rfl ?_
      refine DL_q hns0 rfl (Qt_move (.pointer _) rfl) rfl ?_
      refine DL_q hns0 rfl (Qt_nilCheck rfl) rfl ?_
      refine DL_q hns0 rfl (Qt_fieldAddr 2 rfl rfl) rfl ?_
      refine DL_q hns0 rfl (Qt_load1 rfl) rfl ?_
      refine DL_q hns0 rfl (Qt_move (.pointer _) rfl) rfl ?_
      refine DL_q hns0 rfl (Qt_nilCheck rfl) rfl ?_
      refine DL_q hns0 rfl (Qt_fieldAddr 2 rfl rfl) rfl ?_
      refine DL_q hns0 rfl (Qt_load1 rfl) rfl ?_
      refine DL_q hns0 rfl (Qt_len_slice rfl Tryz.underlying183) rfl ?_
      first
        | refine DL_q hns0 rfl (Qt_sub rfl rfl (by omega) (by omega)) rfl ?_
        | refine DL_q hns0 rfl (Qt_subw rfl rfl) rfl ?_
      refine DL_q hns0 rfl (Qt_indexR rfl rfl (by omega) (by rw [List.length_map]; omega)) rfl ?_
      refine DL_q hns0 rfl (Qt_loadR (.int .i64 ((lastN t.segs : Nat) : Int)) rfl (last_get (by omega))) rfl ?_
      refine DL_q hns0 rfl (Qt_move (.slice _ _ _) rfl) rfl ?_
      refine DL_frontA (lblk lp p pre t) ?_
      refine DL_e rfl rfl (Ef_call (name_c (t := t) hp (i := lastN t.segs) (by omega)) rfl (fun x51 => ⟨(Subs.st inferInstance), ?_⟩))
      refine DL_conv (fun w hw => (Subs.st inferInstance w hw : St w0 (DS.H p s (row (.slice x33.a (toldB t.nx b.l).length x33.c) 5 1 (bytesV (toldB t.nx b.l)) :: lblk lp p pre t :: lrow t :: H)) w)) ?_
      refine DL_e rfl rfl (Ef_call (append_c (s := s) hok hM (by omega) (b := ⟨x33.a, x33.c, (toldB t.nx b.l)⟩) (by show (toldB t.nx b.l).length ≤ 100000; omega) (by show (toldB t.nx b.l).length ≤ K; omega)) rfl (fun x53 => ⟨(Subs.st inferInstance), ?_⟩))
      refine DL_pure (fun hw53 => ?_)
      refine DL_q hns0 rfl (Qt_assign (.int .i64 _) rfl) rfl ?_
      refine DL_nil ?_
      refine X_then ?_
      refine T_seq ?_
      refine T_region ?_
      refine TL_q (Qt_move (.int .i64 _) rfl) rfl ?_
      refine TL_q (Qt_neq rfl rfl) rfl ?_
      refine TL_nil ?_
      refine X_then ?_
      refine T_cond rfl (fun h55 => ?_) (fun h55 => ?_)
      ·
        have p55 := h55
        try simp only [decide_eq_true_eq, decide_eq_false_iff_not, Bool.not_eq_true', Bool.not_eq_false', Option.isNone_iff_eq_none, ne_eq, Decidable.not_not, Int.not_lt, Int.not_le] at p55
        refine T_seq ?_
        refine T_region ?_
        refine TL_q (Qt_move (.int .i64 _) rfl) rfl ?_
        refine TL_q (Qt_assign (.int .i64 _) rfl) rfl ?_
        refine TL_nil ?_
        refine X_then ?_
        refine T_ret ?_
        refine X_then_ret ?_
        exact X_ret (x53.1, t, x53.2) [_] Tryz.results204 ⟨rfl, trivial⟩ rfl (fun w hw => (Subs.st inferInstance w hw : St w0 (lblk lp p pre t :: lrow t :: DS.H p x53.1 H) w).addPure (.inr ⟨by omega, hw53, fun _ => rfl, fun h => absurd h p55⟩))
      ·
        have p55 := h55
        try simp only [decide_eq_true_eq, decide_eq_false_iff_not, Bool.not_eq_true', Bool.not_eq_false', Option.isNone_iff_eq_none, ne_eq, Decidable.not_not, Int.not_lt, Int.not_le] at p55
        refine T_skip ?_
        refine X_then ?_
        refine T_seq ?_
        refine T_region ?_
        refine TL_q (Qt_move (.pointer _) rfl) rfl ?_
        refine TL_q (Qt_nilCheck rfl) rfl ?_
        refine TL_q (Qt_fieldAddr 3 rfl rfl) rfl ?_
        refine TL_q (Qt_load1 rfl) rfl ?_
        refine TL_q (Qt_move (.slice _ _ _) rfl) rfl ?_
        refine TL_q (Qt_len_slice rfl Tryz.underlying22) rfl ?_
        first
          | refine TL_q (Qt_add rfl rfl (by omega) (by omega)) rfl ?_
          | refine TL_q (Qt_addw rfl rfl) rfl ?_
        rw [show (t.siz : Int) + ((toldB t.nx b.l).length : Int) = ((t.siz + (toldB t.nx b.l).length : Nat) : Int) from rfl]
        refine TL_q (Qt_nilCheck rfl) rfl ?_
        refine TL_q (Qt_fieldAddr 3 rfl rfl) rfl ?_
        refine TL_n (Ef_store1 (.int .i64 _) rfl rfl (?_))
        refine TL_nil ?_
        refine X_then ?_
        refine T_seq ?_
        refine T_region ?_
        refine TL_q (Qt_move (.pointer _) rfl) rfl ?_
        refine TL_q (Qt_nilCheck rfl) rfl ?_
        refine TL_q (Qt_fieldAddr 4 rfl rfl) rfl ?_
        refine TL_q (Qt_load1 rfl) rfl ?_
        refine TL_q (Qt_val (Qt_addw rfl rfl) (congrArg (Value.int .u64) (show IntKind.u64.wrap ((t.nx : Int) + 1) = ((t.nx + 1 : Nat) : Int) from wrap_u64 (by omega) (by omega)))) rfl ?_
        refine TL_q (Qt_nilCheck rfl) rfl ?_
        refine TL_q (Qt_fieldAddr 4 rfl rfl) rfl ?_
        refine TL_n (Ef_store1 (.int .u64 _) rfl rfl (?_))
        refine TL_nil ?_
        refine X_then ?_
        refine T_seq ?_
        refine T_region ?_
        refine TL_q (Qt_assign (.int .i64 _) rfl) rfl ?_
        refine TL_nil ?_
        refine X_then ?_
        refine T_ret ?_
        have h0 : x53.2 = 0 := by omega
        exact X_ret (x53.1, (⟨t.ga, t.gc, t.segs, t.siz + (toldB t.nx b.l).length, t.nx + 1, t.bg⟩ : LS), x53.2) [_] Tryz.results204 ⟨rfl, trivial⟩ (by rw [h0]; rfl) (fun w hw => (Subs.st inferInstance w hw : St w0 (lblk lp p pre (⟨t.ga, t.gc, t.segs, t.siz + (toldB t.nx b.l).length, t.nx + 1, t.bg⟩ : LS) :: lrow (⟨t.ga, t.gc, t.segs, t.siz + (toldB t.nx b.l).length, t.nx + 1, t.bg⟩ : LS) :: DS.H p x53.1 H) w).addPure (.inr ⟨by omega, hw53, fun h => absurd h0 h, fun _ => ⟨rfl, rfl, rfl, rfl⟩⟩))
set_option maxHeartbeats 1000000 in
theorem lappendNil_c {w0 : World} {H : List SA} {a : Option Addr} {n c : Nat} :
    CT Tryz.prog w0 (H) 204 [.pointer none, .slice a n c] (α := Unit) (fun _ => .int .i64 16) (fun _ => H) := by
  refine CT_intro Tryz.func204 rfl Tryz.ntmps204 rfl ?_
  refine T_seq ?_
  refine T_region ?_
  refine TL_q (Qt_assign (.int .i64 _) rfl) rfl ?_
  refine TL_nil ?_
  refine X_then ?_
  refine T_seq ?_
  refine T_seq ?_
  refine T_region ?_
  refine TL_q (Qt_move (.pointer _) rfl) rfl ?_
  refine TL_q (Qt_ptr_nil rfl rfl Tryz.underlying144) rfl ?_
  refine TL_nil ?_
  refine X_then ?_
  refine T_cond_true rfl (by first | rfl | decide) ?_
  refine T_seq ?_
  refine T_region ?_
  refine TL_q (Qt_assign (.int .i64 _) rfl) rfl ?_
  refine TL_nil ?_
  refine X_then ?_
  refine T_ret ?_
  refine X_then_ret ?_
  exact X_ret () [_] Tryz.results204 ⟨rfl, trivial⟩ rfl (Subs.st inferInstance)
set_option maxHeartbeats 1000000 in
theorem lcutNil_c {w0 : World} {H : List SA} {a : Option Addr} {n c : Nat} :
    CT Tryz.prog w0 (H) 268 [.pointer none, .slice a n c] (α := Unit) (fun _ => .int .i64 16) (fun _ => H) := by
  refine CT_intro Tryz.func268 rfl Tryz.ntmps268 rfl ?_
  refine T_seq ?_
  refine T_region ?_
  refine TL_q (Qt_assign (.int .i64 _) rfl) rfl ?_
  refine TL_nil ?_
  refine X_then ?_
  refine T_seq ?_
  refine T_seq ?_
  refine T_region ?_
  refine TL_q (Qt_move (.pointer _) rfl) rfl ?_
  refine TL_q (Qt_ptr_nil rfl rfl Tryz.underlying144) rfl ?_
  refine TL_nil ?_
  refine X_then ?_
  refine T_cond_true rfl (by first | rfl | decide) ?_
  refine T_seq ?_
  refine T_region ?_
  refine TL_q (Qt_assign (.int .i64 _) rfl) rfl ?_
  refine TL_nil ?_
  refine X_then ?_
  refine T_ret ?_
  refine X_then_ret ?_
  exact X_ret () [_] Tryz.results268 ⟨rfl, trivial⟩ rfl (Subs.st inferInstance)
set_option maxHeartbeats 1000000 in
theorem lsyncNil_c {w0 : World} {H : List SA}  :
    CT Tryz.prog w0 (H) 275 [.pointer none] (α := Unit) (fun _ => .tuple #[]) (fun _ => H) := by
  refine CT_intro Tryz.func275 rfl Tryz.ntmps275 rfl ?_
  refine T_seq ?_
  refine T_region ?_
  refine TL_q (Qt_move (.pointer _) rfl) rfl ?_
  refine TL_q (Qt_ptr_not_nil rfl rfl Tryz.underlying144) rfl ?_
  refine TL_nil ?_
  refine X_then ?_
  refine T_cond_false rfl (by first | rfl | decide) ?_
  refine T_skip ?_
  exact X_ret () [] Tryz.results275 trivial rfl (Subs.st inferInstance)
set_option maxHeartbeats 1000000 in
theorem lsync_c {w0 : World} {H : List SA} {lp p : Nat} {pre : ByteArray} {t : LS} {s : DS} {M K : Nat} (hok : s.Ok M K) (hM : M ≤ 1000000) (hK : K ≤ 1000000000) :
    CT Tryz.prog w0 (lblk lp p pre t :: lrow t :: DS.H p s H) 275 [.pointer (some ⟨lp, 0, none⟩)] (α := DS) (fun _ => .tuple #[]) (fun y => pu (SyncR s y) :: lblk lp p pre t :: lrow t :: DS.H p y H) := by
  refine CT_intro Tryz.func275 rfl Tryz.ntmps275 rfl ?_
  refine T_seq ?_
  refine T_region ?_
  refine TL_q (Qt_move (.pointer _) rfl) rfl ?_
  refine TL_q (Qt_ptr_not_nil rfl rfl Tryz.underlying144) rfl ?_
  refine TL_nil ?_
  refine X_then ?_
  refine T_cond_true rfl (by first | rfl | decide) ?_
  refine T_region ?_
  refine TL_q (Qt_move (.pointer _) rfl) rfl ?_
  refine TL_q (Qt_nilCheck rfl) rfl ?_
  refine TL_q (Qt_fieldAddr 0 rfl rfl) rfl ?_
  refine TL_q (Qt_load1 rfl) rfl ?_
  refine TL_conv (fun w hw => (Subs.st inferInstance w hw : St w0 (DS.H p s (lblk lp p pre t :: lrow t :: H)) w)) ?_
  refine TL_e rfl (Ef_call (sync_c (s := s) hok hM (by omega)) rfl (fun x8 => ?_))
  refine TL_pure (fun h8 => ?_)
  refine TL_nil ?_
  exact X_ret x8 [] Tryz.results275 trivial rfl (fun w hw => (Subs.st inferInstance w hw : St w0 (lblk lp p pre t :: lrow t :: DS.H p x8 H) w).addPure h8)
set_option maxHeartbeats 1000000 in
theorem fine_c {w0 : World} {H : List SA} {s : ByteArray} (hs : s.size ≤ maxLen) :
    CT Tryz.prog w0 (H) 157 [.string s] (α := Unit) (fun _ => .bool (fineB s)) (fun _ => H) := by
  refine CT_intro Tryz.func157 rfl Tryz.ntmps157 rfl ?_
  refine T_seq ?_
  refine T_region ?_
  refine TL_q (Qt_assign (.bool _) rfl) rfl ?_
  refine TL_nil ?_
  refine X_then ?_
  refine T_seq ?_
  refine T_region ?_
  refine TL_q (Qt_move (.string _) rfl) rfl ?_
  refine TL_q (Qt_len_string rfl Tryz.underlying9) rfl ?_
  refine TL_q (Qt_geq rfl rfl) rfl ?_
  refine TL_q (Qt_move (.bool _) rfl) rfl ?_
  refine TL_split 6 rfl (fun h6 => ?_) (fun h6 => ?_)
  ·
    have p6 := h6
    try simp only [decide_eq_true_eq, decide_eq_false_iff_not, Bool.not_eq_true', Bool.not_eq_false', Option.isNone_iff_eq_none, ne_eq, Decidable.not_not, Int.not_lt, Int.not_le] at p6
    refine TL_take rfl rfl h6 ?_
    refine TL_q (Qt_move (.string _) rfl) rfl ?_
    refine TL_take rfl rfl h6 ?_
    refine TL_q (Qt_len_string rfl Tryz.underlying9) rfl ?_
    refine TL_take rfl rfl h6 ?_
    refine TL_q (Qt_leq rfl rfl) rfl ?_
    refine TL_q (Qt_pick_t (.bool _) rfl h6 rfl) rfl ?_
    refine TL_q (Qt_move (.bool _) rfl) rfl ?_
    refine TL_split 11 rfl (fun h11 => ?_) (fun h11 => ?_)
    ·
      have p11 := h11
      try simp only [decide_eq_true_eq, decide_eq_false_iff_not, Bool.not_eq_true', Bool.not_eq_false', Option.isNone_iff_eq_none, ne_eq, Decidable.not_not, Int.not_lt, Int.not_le] at p11
      refine TL_take rfl rfl h11 ?_
      refine TL_q (Qt_move (.string _) rfl) rfl ?_
      refine TL_take rfl rfl h11 ?_
      refine TL_e rfl (Ef_call (idx_c (s := s)) rfl (fun x13 => ?_))
      refine TL_take rfl rfl h11 ?_
      refine TL_q (Qt_lss rfl rfl) rfl ?_
      refine TL_q (Qt_pick_t (.bool _) rfl h11 rfl) rfl ?_
      refine TL_q (Qt_assign (.bool _) rfl) rfl ?_
      refine TL_nil ?_
      refine X_then ?_
      refine T_ret ?_
      exact X_ret () [_] Tryz.results157 ⟨rfl, trivial⟩ (congrArg Value.bool (by first | exact (fineB_t (by omega) (by omega)).symm | exact (fineB_f (by omega)).symm)) (Subs.st inferInstance)
    ·
      have p11 := h11
      try simp only [decide_eq_true_eq, decide_eq_false_iff_not, Bool.not_eq_true', Bool.not_eq_false', Option.isNone_iff_eq_none, ne_eq, Decidable.not_not, Int.not_lt, Int.not_le] at p11
      refine TL_pass rfl rfl h11 rfl ?_
      refine TL_pass rfl rfl h11 rfl ?_
      refine TL_pass rfl rfl h11 rfl ?_
      refine TL_q (Qt_pick_f (.bool _) rfl h11 rfl) rfl ?_
      refine TL_q (Qt_assign (.bool _) rfl) rfl ?_
      refine TL_nil ?_
      refine X_then ?_
      refine T_ret ?_
      exact X_ret () [_] Tryz.results157 ⟨rfl, trivial⟩ (congrArg Value.bool (by first | exact (fineB_t (by omega) (by omega)).symm | exact (fineB_f (by omega)).symm)) (Subs.st inferInstance)
  ·
    have p6 := h6
    try simp only [decide_eq_true_eq, decide_eq_false_iff_not, Bool.not_eq_true', Bool.not_eq_false', Option.isNone_iff_eq_none, ne_eq, Decidable.not_not, Int.not_lt, Int.not_le] at p6
    refine TL_pass rfl rfl h6 rfl ?_
    refine TL_pass rfl rfl h6 rfl ?_
    refine TL_pass rfl rfl h6 rfl ?_
    refine TL_q (Qt_pick_f (.bool _) rfl h6 rfl) rfl ?_
    refine TL_q (Qt_move (.bool _) rfl) rfl ?_
    refine TL_pass rfl rfl rfl rfl ?_
    refine TL_pass rfl rfl rfl rfl ?_
    refine TL_pass rfl rfl rfl rfl ?_
    refine TL_q (Qt_pick_f (.bool _) rfl rfl rfl) rfl ?_
    refine TL_q (Qt_assign (.bool _) rfl) rfl ?_
    refine TL_nil ?_
    refine X_then ?_
    refine T_ret ?_
    exact X_ret () [_] Tryz.results157 ⟨rfl, trivial⟩ (congrArg Value.bool (by first | exact (fineB_t (by omega) (by omega)).symm | exact (fineB_f (by omega)).symm)) (Subs.st inferInstance)
set_option maxHeartbeats 1000000 in
theorem openNil_c {w0 : World} {H : List SA} {pre : ByteArray} :
    CT Tryz.prog w0 (H) 84 [.pointer none, .string pre] (α := Unit) (fun _ => .tuple #[.pointer none, .slice none 0 0, .int .i64 16]) (fun _ => H) := by
  refine CT_intro Tryz.func84 rfl Tryz.ntmps84 rfl ?_
  refine T_seq ?_
  refine T_region ?_
  refine TL_q (Qt_assign (.pointer _) rfl) rfl ?_
  refine TL_q (Qt_assign (.slice _ _ _) rfl) rfl ?_
  refine TL_q (Qt_assign (.int .i64 _) rfl) rfl ?_
  refine TL_nil ?_
  refine X_then ?_
  refine T_seq ?_
  refine T_block ?_
  refine T_seq ?_
  refine T_region ?_
  refine TL_q (Qt_move (.pointer _) rfl) rfl ?_
  refine TL_q (Qt_ptr_nil rfl rfl Tryz.underlying63) rfl ?_
  refine TL_q (Qt_assign (.bool _) rfl) rfl ?_
  refine TL_nil ?_
  refine X_then ?_
  refine T_cond_true rfl (by first | rfl | decide) ?_
  refine T_seq ?_
  refine T_region ?_
  refine TL_q (Qt_assign (.pointer _) rfl) rfl ?_
  refine TL_q (Qt_assign (.slice _ _ _) rfl) rfl ?_
  refine TL_q (Qt_assign (.int .i64 _) rfl) rfl ?_
  refine TL_nil ?_
  refine X_then ?_
  refine T_ret ?_
  refine X_block_ret ?_
  refine X_then_ret ?_
  exact X_ret () [_, _, _] Tryz.results84 ⟨rfl, rfl, rfl, trivial⟩ rfl (Subs.st inferInstance)
set_option maxHeartbeats 1000000 in
theorem openBad_c {w0 : World} {H : List SA} {p : Nat} {pre : ByteArray} (hs : pre.size ≤ maxLen) (hf : fineB pre = false) :
    CT Tryz.prog w0 (H) 84 [.pointer (some ⟨p, 0, none⟩), .string pre] (α := Unit) (fun _ => .tuple #[.pointer none, .slice none 0 0, .int .i64 15]) (fun _ => H) := by
  refine CT_intro Tryz.func84 rfl Tryz.ntmps84 rfl ?_
  refine T_seq ?_
  refine T_region ?_
  refine TL_q (Qt_assign (.pointer _) rfl) rfl ?_
  refine TL_q (Qt_assign (.slice _ _ _) rfl) rfl ?_
  refine TL_q (Qt_assign (.int .i64 _) rfl) rfl ?_
  refine TL_nil ?_
  refine X_then ?_
  refine T_seq ?_
  refine T_block ?_
  refine T_seq ?_
  refine T_region ?_
  refine TL_q (Qt_move (.pointer _) rfl) rfl ?_
  refine TL_q (Qt_ptr_nil rfl rfl Tryz.underlying63) rfl ?_
  refine TL_q (Qt_assign (.bool _) rfl) rfl ?_
  refine TL_nil ?_
  refine X_then ?_
  refine T_cond_false rfl (by first | rfl | decide) ?_
  refine T_seq ?_
  refine T_region ?_
  refine TL_q (Qt_move (.string _) rfl) rfl ?_
  refine TL_e rfl (Ef_call (fine_c hs) rfl (fun x24 => ?_))
  rw [hf]
  refine TL_q (Qt_not rfl) rfl ?_
  refine TL_q (Qt_assign (.bool _) rfl) rfl ?_
  refine TL_nil ?_
  refine X_then ?_
  refine T_cond_true rfl (by first | rfl | decide) ?_
  refine T_seq ?_
  refine T_region ?_
  refine TL_q (Qt_assign (.pointer _) rfl) rfl ?_
  refine TL_q (Qt_assign (.slice _ _ _) rfl) rfl ?_
  refine TL_q (Qt_assign (.int .i64 _) rfl) rfl ?_
  refine TL_nil ?_
  refine X_then ?_
  refine T_ret ?_
  refine X_block_ret ?_
  refine X_then_ret ?_
  exact X_ret () [_, _, _] Tryz.results84 ⟨rfl, rfl, rfl, trivial⟩ rfl (Subs.st inferInstance)
theorem ngl_of {es : FM} (h : es = []) : (namesE es).length = 0 := by rw [namesE_len, h]; rfl
set_option maxHeartbeats 1000000 in
theorem openE_c {w0 : World} {H : List SA} {p : Nat} {s : DS} {M K : Nat} (hok : s.Ok M K) (hM : M ≤ 1000000) (he : s.e2 = []) {pre : ByteArray} (hs : pre.size ≤ maxLen) (hf : fineB pre = true) :
    CT Tryz.prog w0 (DS.H p s H) 84 [.pointer (some ⟨p, 0, none⟩), .string pre] (α := Nat) (fun y => .tuple #[.pointer (some ⟨y, 0, none⟩), .slice none 0 0, .int .i64 0]) (fun y => lblk y p pre (⟨none, 0, [], 0, 1, false⟩ : LS) :: lrow (⟨none, 0, [], 0, 1, false⟩ : LS) :: DS.H p s H) := by
  refine CT_intro Tryz.func84 rfl Tryz.ntmps84 rfl ?_
  refine T_seq ?_
  refine T_region ?_
  refine TL_q (Qt_assign (.pointer _) rfl) rfl ?_
  refine TL_q (Qt_assign (.slice _ _ _) rfl) rfl ?_
  refine TL_q (Qt_assign (.int .i64 _) rfl) rfl ?_
  refine TL_nil ?_
  refine X_then ?_
  refine T_seq ?_
  refine T_block ?_
  refine T_seq ?_
  refine T_region ?_
  refine TL_q (Qt_move (.pointer _) rfl) rfl ?_
  refine TL_q (Qt_ptr_nil rfl rfl Tryz.underlying63) rfl ?_
  refine TL_q (Qt_assign (.bool _) rfl) rfl ?_
  refine TL_nil ?_
  refine X_then ?_
  refine T_cond_false rfl (by first | rfl | decide) ?_
  refine T_seq ?_
  refine T_region ?_
  refine TL_q (Qt_move (.string _) rfl) rfl ?_
  refine TL_e rfl (Ef_call (fine_c hs) rfl (fun x24 => ?_))
  rw [hf]
  refine TL_q (Qt_not rfl) rfl ?_
  refine TL_q (Qt_assign (.bool _) rfl) rfl ?_
  refine TL_nil ?_
  refine X_then ?_
  refine T_cond_false rfl (by first | rfl | decide) ?_
  refine T_skip ?_
  refine X_block ?_
  refine X_then ?_
  refine T_seq ?_
  refine T_region ?_
  refine TL_q (Qt_move (.pointer _) rfl) rfl ?_
  refine TL_q (Qt_move (.string _) rfl) rfl ?_
  refine TL_q (Qt_build [(0, (.pointer _)), (1, (.string _)), (4, (.int .u64 _))] rfl (by kernel_rfl)) rfl ?_
  refine TL_e rfl (Ef_boxN rfl (fun b29 => ?_))
  refine TL_q (Qt_assign (.pointer _) rfl) rfl ?_
  refine TL_nil ?_
  refine X_then ?_
  refine T_seq ?_
  refine T_seq ?_
  refine T_region ?_
  refine TL_q (Qt_move (.pointer _) rfl) rfl ?_
  refine TL_conv (fun w hw => (Subs.st inferInstance w hw : St w0 (DS.H p s (lblk b29 p pre (⟨none, 0, [], 0, 1, false⟩ : LS) :: H)) w)) ?_
  refine TL_e rfl (Ef_call (dnames_c (s := s) hok hM (by rw [he]; intro e h; cases h)) rfl (fun x31 => ?_))
  rw [ngl_of he]
  refine TL_q (Qt_len_slice rfl Tryz.underlying269) rfl ?_
  refine TL_q (Qt_move (.int .i64 _) rfl) rfl ?_
  refine TL_nil ?_
  refine X_then ?_
  refine T_block ?_
  refine T_unroll (TU_round ?_)
  refine T_seq ?_
  refine T_region ?_
  refine TL_q (Qt_lss rfl rfl) rfl ?_
  refine TL_nil ?_
  refine X_then ?_
  refine T_seq ?_
  refine T_cond_false rfl (by first | rfl | decide) ?_
  refine T_exit ?_
  refine X_then_exit ?_
  refine X_again_exit ?_
  refine X_block_exit ?_
  refine X_then ?_
  refine T_seq ?_
  refine T_region ?_
  refine TL_q (Qt_move (.pointer _) rfl) rfl ?_
  refine TL_q (Qt_nilCheck rfl) rfl ?_
  refine TL_q (Qt_fieldAddr 2 rfl rfl) rfl ?_
  refine TL_q (Qt_load1 rfl) rfl ?_
  refine TL_e rfl (Ef_call (sort0_c) rfl (fun x57 => ?_))
  refine TL_nil ?_
  refine X_then ?_
  refine T_seq ?_
  refine T_region ?_
  refine TL_q (Qt_assign (.slice _ _ _) rfl) rfl ?_
  refine TL_nil ?_
  refine X_then ?_
  refine T_seq ?_
  refine T_seq ?_
  refine T_region ?_
  refine TL_q (Qt_move (.pointer _) rfl) rfl ?_
  refine TL_q (Qt_nilCheck rfl) rfl ?_
  refine TL_q (Qt_fieldAddr 2 rfl rfl) rfl ?_
  refine TL_q (Qt_load1 rfl) rfl ?_
  refine TL_q (Qt_len_slice rfl Tryz.underlying183) rfl ?_
  refine TL_q (Qt_move (.int .i64 _) rfl) rfl ?_
  refine TL_nil ?_
  refine X_then ?_
  refine T_block ?_
  refine T_unroll (TU_round ?_)
  refine T_seq ?_
  refine T_region ?_
  refine TL_q (Qt_lss rfl rfl) rfl ?_
  refine TL_nil ?_
  refine X_then ?_
  refine T_seq ?_
  refine T_cond_false rfl (by first | rfl | decide) ?_
  refine T_exit ?_
  refine X_then_exit ?_
  refine X_again_exit ?_
  refine X_block_exit ?_
  refine X_then ?_
  refine T_seq ?_
  refine T_region ?_
  refine TL_q (Qt_move (.pointer _) rfl) rfl ?_
  refine TL_q (Qt_move (.slice _ _ _) rfl) rfl ?_
  refine TL_q (Qt_assign (.pointer _) rfl) rfl ?_
  refine TL_q (Qt_assign (.slice _ _ _) rfl) rfl ?_
  refine TL_q (Qt_assign (.int .i64 _) rfl) rfl ?_
  refine TL_nil ?_
  refine X_then ?_
  refine T_ret ?_
  exact X_ret b29 [_, _, _] Tryz.results84 ⟨rfl, rfl, rfl, trivial⟩ rfl (fun w hw => by
    have h1 := St.toO ((Subs.st inferInstance w hw : St w0 (lblk b29 p pre (⟨none, 0, [], 0, 1, false⟩ : LS) :: DS.H p s H) w).addNil 3 1)
    exact (Subs.st (H := rowO (.slice none 0 0) 3 [] :: lblk b29 p pre (⟨none, 0, [], 0, 1, false⟩ : LS) :: DS.H p s H) inferInstance w h1 : St w0 (lblk b29 p pre (⟨none, 0, [], 0, 1, false⟩ : LS) :: rowO (.slice none 0 0) 3 [] :: DS.H p s H) w))
end Go.Proofs.YtldnfbghjnhklaaGreatDoor
