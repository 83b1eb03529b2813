/- Walks of package store: a store opened on an empty disk, with its empty book. -/
import Derived.Test.YtldnfbghjnhklaaGreatDoorPc
import Derived.Test.YtldnfbghjnhklaaGreatDoorPb
namespace Go.Proofs.YtldnfbghjnhklaaGreatDoor
open Go.RowKit Go.Sx
set_option maxRecDepth 100000
set_option linter.unusedSimpArgs false
set_option linter.unusedVariables false
attribute [local irreducible] sha worldB
set_option maxHeartbeats 1000000 in
theorem sopenB_c {w0 : World} {H : List SA} {p : Nat} {s : DS} {M K : Nat} (hok : s.Ok M K) (hM : M ≤ 1000000) (hK : K ≤ 1000000000) (he : s.e2 = []) {num : Int} {mk : Nat} (hmk : mk < 65536) (hr : rightV num mk = true) :
    CT Tryz.prog w0 (DS.H p s H) 31 [.pointer (some ⟨p, 0, none⟩), .agg (ViewV.mk num (mk : Int)).cells] (α := (Nat × Nat) × (Nat × (Nat × Nat) × AC)) (fun y => .tuple #[.pointer (some ⟨y.1.1, 0, none⟩), .int .i64 0]) (fun y => blk y.1.1 (.cells (StoreV.mk (some ⟨y.1.2, 0, none⟩) (some ⟨p, 0, none⟩) (some ⟨y.2.1, 0, none⟩) (some ⟨y.2.2.1.1, 0, none⟩) false).cells 147 (0, 0)) :: blk y.1.2 (.cells (stateF num (mk : Int) y.2.2.2).cells 152 (0, 0)) :: blk y.2.2.1.1 (.cells (bookM y.2.2.1.2).cells 259 (0, 0)) :: blk y.2.2.1.2 (mapO encEr encVt [] 0) :: DS.H p s H) := by
  refine CT_intro Tryz.func31 rfl Tryz.ntmps31 rfl ?_
  refine T_seq ?_
  refine T_region ?_
  refine TL_e rfl (Ef_boxN rfl (fun b3 => ?_))
  refine TL_q (Qt_assign (.pointer _) rfl) rfl ?_
  refine TL_q (Qt_assign (.int .i64 _) rfl) rfl ?_
  refine TL_nil ?_
  refine X_then ?_
  refine T_seq ?_
  refine T_block ?_
  refine T_seq ?_
  refine T_region ?_
  refine TL_q (Qt_move (.pointer _) rfl) rfl ?_
  refine TL_q (Qt_ptr_nil rfl rfl Tryz.underlying63) rfl ?_
  refine TL_q (Qt_assign (.bool _) rfl) rfl ?_
  refine TL_nil ?_
  refine X_then ?_
  refine T_cond_false rfl (by first | rfl | decide) ?_
  refine T_seq ?_
  refine T_region ?_
  refine TL_q (Qt_loadN rfl rfl) rfl ?_
  refine TL_e rfl (Ef_call (right_v hmk) rfl (fun x18 => ?_))
  rw [hr]
  refine TL_q (Qt_not rfl) rfl ?_
  refine TL_q (Qt_assign (.bool _) rfl) rfl ?_
  refine TL_nil ?_
  refine X_then ?_
  refine T_cond_false rfl (by first | rfl | decide) ?_
  refine T_skip ?_
  refine X_block ?_
  refine X_then ?_
  refine T_seq ?_
  refine T_region ?_
  refine TL_q (Qt_move (.pointer _) rfl) rfl ?_
  refine TL_e rfl (Ef_call (vnewS_c) rfl (fun x21 => ?_))
  refine TL_q (Qt_build [(1, (.pointer _)), (3, (.pointer _))] rfl (by kernel_rfl)) rfl ?_
  refine TL_e rfl (Ef_boxN rfl (fun b23 => ?_))
  refine TL_q (Qt_assign (.pointer _) rfl) rfl ?_
  refine TL_nil ?_
  refine X_then ?_
  refine T_seq ?_
  refine T_region ?_
  refine TL_q (Qt_loadN rfl rfl) rfl ?_
  refine TL_e rfl (Ef_call (first_c) rfl (fun x25 => ?_))
  refine TL_q (Qt_build [] rfl (by kernel_rfl)) rfl ?_
  refine TL_e rfl (Ef_call (from_c hmk) rfl (fun x27 => ?_))
  refine TL_e rfl (Ef_allocN (fun b7 => ?_))
  refine TL_n (Ef_storeN rfl rfl (?_))
  refine TL_nil ?_
  refine X_then ?_
  refine T_seq ?_
  refine T_region ?_
  refine TL_q (Qt_move (.pointer _) rfl) rfl ?_
  refine TL_conv (fun w hw => (Subs.st inferInstance w hw : St w0 (DS.H p s (blk b7 (.cells (stateF num (mk : Int) x27).cells 152 (0, 0)) :: blk b23 (.cells (StoreV.mk none (some ⟨p, 0, none⟩) none (some ⟨x21.1, 0, none⟩) false).cells 147 (0, 0)) :: blk x21.1 (.cells (bookM x21.2).cells 259 (0, 0)) :: blk x21.2 (mapO encEr encVt [] 0) :: H)) w)) ?_
  refine TL_e rfl (Ef_call (load0_c (p := p) (s := s) hok hM hK he) rfl (fun x30 => ?_))
  refine TL_q (Qt_move (.tuple _) rfl) rfl ?_
  refine TL_q (Qt_extract rfl) rfl ?_
  refine TL_q (Qt_extract rfl) rfl ?_
  refine TL_q (Qt_assign (.slice _ _ _) rfl) rfl ?_
  refine TL_q (Qt_assign (.int .i64 _) rfl) rfl ?_
  refine TL_nil ?_
  refine X_then ?_
  refine T_seq ?_
  refine T_seq ?_
  refine T_region ?_
  refine TL_q (Qt_move (.int .i64 _) rfl) rfl ?_
  refine TL_q (Qt_eql rfl rfl) rfl ?_
  refine TL_nil ?_
  refine X_then ?_
  refine T_cond_false rfl (by first | rfl | decide) ?_
  refine T_skip ?_
  refine X_then ?_
  refine T_seq ?_
  refine T_seq ?_
  refine T_region ?_
  refine TL_q (Qt_move (.int .i64 _) rfl) rfl ?_
  refine TL_q (Qt_neq rfl rfl) rfl ?_
  refine TL_q (Qt_move (.bool _) rfl) rfl ?_
  refine TL_split 42 rfl (fun h42 => ?_) (fun h42 => ?_)
  ·
    have p42 := h42
    try simp only [decide_eq_true_eq, decide_eq_false_iff_not, Bool.not_eq_true', Bool.not_eq_false', Option.isNone_iff_eq_none, ne_eq, Decidable.not_not, Int.not_lt, Int.not_le] at p42
    refine TL_take rfl rfl h42 ?_
    refine TL_q (Qt_move (.int .i64 _) rfl) rfl ?_
    refine TL_take rfl rfl h42 ?_
    refine TL_q (Qt_neq rfl rfl) rfl ?_
    refine TL_q (Qt_pick_t (.bool _) rfl h42 rfl) rfl ?_
    refine TL_nil ?_
    refine X_then ?_
    refine T_cond_false rfl (by first | rfl | decide) ?_
    refine T_skip ?_
    refine X_then ?_
    refine T_seq ?_
    refine T_region ?_
    refine TL_q (Qt_move (.pointer _) rfl) rfl ?_
    refine TL_q (Qt_nilCheck rfl) rfl ?_
    refine TL_q (Qt_fieldAddr 0 rfl rfl) rfl ?_
    refine TL_n (Ef_store1 (.pointer _) rfl rfl (?_))
    refine TL_nil ?_
    refine X_then ?_
    refine T_seq ?_
    refine T_region ?_
    refine TL_q (Qt_assign (.slice _ _ _) rfl) rfl ?_
    refine TL_nil ?_
    refine X_then ?_
    refine T_seq ?_
    refine T_seq ?_
    refine T_region ?_
    refine TL_q (Qt_move (.pointer _) rfl) rfl ?_
    refine TL_q (Qt_move (.pointer _) rfl) rfl ?_
    refine TL_conv (fun w hw => (Subs.st inferInstance w hw : St w0 (DS.H p s (blk b7 (.cells (stateF num (mk : Int) x27).cells 152 (0, 0)) :: blk b23 (.cells (StoreV.mk (some ⟨b7, 0, none⟩) (some ⟨p, 0, none⟩) none (some ⟨x21.1, 0, none⟩) false).cells 147 (0, 0)) :: blk x21.1 (.cells (bookM x21.2).cells 259 (0, 0)) :: blk x21.2 (mapO encEr encVt [] 0) :: H)) w)) ?_
    refine TL_e rfl (Ef_call (openE_c (p := p) (s := s) hok hM he (pre := lg3) (by show 3 ≤ maxLen; unfold maxLen; omega) fineL3) rfl (fun x53 => ?_))
    refine TL_q (Qt_move (.tuple _) rfl) rfl ?_
    refine TL_q (Qt_extract rfl) rfl ?_
    refine TL_q (Qt_extract rfl) rfl ?_
    refine TL_q (Qt_extract rfl) rfl ?_
    refine TL_q (Qt_nilCheck rfl) rfl ?_
    refine TL_q (Qt_fieldAddr 2 rfl rfl) rfl ?_
    refine TL_n (Ef_store1 (.pointer _) rfl rfl (?_))
    refine TL_q (Qt_assign (.slice _ _ _) rfl) rfl ?_
    refine TL_q (Qt_assign (.int .i64 _) rfl) rfl ?_
    refine TL_nil ?_
    refine X_then ?_
    refine T_seq ?_
    refine T_region ?_
    refine TL_q (Qt_move (.int .i64 _) rfl) rfl ?_
    refine TL_q (Qt_neq rfl rfl) rfl ?_
    refine TL_nil ?_
    refine X_then ?_
    refine T_cond_false rfl (by first | rfl | decide) ?_
    refine T_skip ?_
    refine X_then ?_
    refine T_seq ?_
    refine T_seq ?_
    refine T_region ?_
    refine TL_q (Qt_move (.slice _ _ _) rfl) rfl ?_
    refine TL_q (Qt_len_slice rfl Tryz.underlying46) rfl ?_
    refine TL_q (Qt_move (.int .i64 _) rfl) rfl ?_
    refine TL_nil ?_
    refine X_then ?_
    refine T_block ?_
    refine T_unroll (TU_round ?_)
    refine T_seq ?_
    refine T_region ?_
    refine TL_q (Qt_lss rfl rfl) rfl ?_
    refine TL_nil ?_
    refine X_then ?_
    refine T_seq ?_
    refine T_cond_false rfl (by first | rfl | decide) ?_
    refine T_exit ?_
    refine X_then_exit ?_
    refine X_again_exit ?_
    refine X_block_exit ?_
    refine X_then ?_
    refine T_seq ?_
    refine T_region ?_
    refine TL_q (Qt_move (.pointer _) rfl) rfl ?_
    refine TL_q (Qt_assign (.pointer _) rfl) rfl ?_
    refine TL_q (Qt_assign (.int .i64 _) rfl) rfl ?_
    refine TL_nil ?_
    refine X_then ?_
    refine T_ret ?_
    exact X_ret ((b23, b7), (x53, x21, x27)) [_, _] Tryz.results31 ⟨rfl, rfl, trivial⟩ rfl (Subs.st inferInstance)
  ·
    have p42 := h42
    try simp only [decide_eq_true_eq, decide_eq_false_iff_not, Bool.not_eq_true', Bool.not_eq_false', Option.isNone_iff_eq_none, ne_eq, Decidable.not_not, Int.not_lt, Int.not_le] at p42
    exact absurd h42 (by decide)
set_option maxHeartbeats 1000000 in
theorem bslot0_c {w0 : World} {H : List SA} {p r : Nat} :
    CT Tryz.prog w0 (blk p (.cells (bookM r).cells 259 (0, 0)) :: blk r (mapO encEr encVt [] 0) :: H) 144 [.pointer (some ⟨p, 0, none⟩)] (α := Unit) (fun _ => .int .i64 0) (fun _ => blk p (.cells (bookM r).cells 259 (0, 0)) :: blk r (mapO encEr encVt [] 0) :: H) := by
  refine CT_intro Tryz.func144 rfl Tryz.ntmps144 rfl ?_
  refine T_seq ?_
  refine T_region ?_
  refine TL_q (Qt_assign (.int .i64 _) rfl) rfl ?_
  refine TL_nil ?_
  refine X_then ?_
  refine T_seq ?_
  refine T_seq ?_
  refine T_region ?_
  refine TL_q (Qt_move (.pointer _) rfl) rfl ?_
  refine TL_q (Qt_ptr_nil rfl rfl Tryz.underlying145) rfl ?_
  refine TL_nil ?_
  refine X_then ?_
  refine T_cond_false rfl (by first | rfl | decide) ?_
  refine T_skip ?_
  refine X_then ?_
  refine T_seq ?_
  refine T_region ?_
  refine TL_q (Qt_move (.pointer _) rfl) rfl ?_
  refine TL_q (Qt_nilCheck rfl) rfl ?_
  refine TL_q (Qt_fieldAddr 3 rfl rfl) rfl ?_
  refine TL_q (Qt_load1 rfl) rfl ?_
  refine TL_q (Qt_assign (.int .i64 _) rfl) rfl ?_
  refine TL_nil ?_
  refine X_then ?_
  refine T_ret ?_
  exact X_ret () [_] Tryz.results144 ⟨rfl, trivial⟩ rfl (Subs.st inferInstance)
set_option maxHeartbeats 1000000 in
theorem breg0_c {w0 : World} {H : List SA} {p r : Nat} :
    CT Tryz.prog w0 (blk p (.cells (bookM r).cells 259 (0, 0)) :: blk r (mapO encEr encVt [] 0) :: H) 89 [.pointer (some ⟨p, 0, none⟩)] (α := Unit) (fun _ => .tuple #[.int .i64 0, .int .i64 0]) (fun _ => blk p (.cells (bookM r).cells 259 (0, 0)) :: blk r (mapO encEr encVt [] 0) :: H) := by
  refine CT_intro Tryz.func89 rfl Tryz.ntmps89 rfl ?_
  refine T_seq ?_
  refine T_region ?_
  refine TL_q (Qt_assign (.int .i64 _) rfl) rfl ?_
  refine TL_q (Qt_assign (.int .i64 _) rfl) rfl ?_
  refine TL_nil ?_
  refine X_then ?_
  refine T_seq ?_
  refine T_seq ?_
  refine T_region ?_
  refine TL_q (Qt_move (.pointer _) rfl) rfl ?_
  refine TL_q (Qt_ptr_nil rfl rfl Tryz.underlying145) rfl ?_
  refine TL_nil ?_
  refine X_then ?_
  refine T_cond_false rfl (by first | rfl | decide) ?_
  refine T_skip ?_
  refine X_then ?_
  refine T_seq ?_
  refine T_draw (blk p (.cells (bookM r).cells 259 (0, 0)) :: blk r (mapO encEr encVt [] 0) :: H) [(0, true), (1, true), (2, true), (3, true), (4, true), (5, true), (6, true), (7, true), (8, true), (9, true), (10, true), (11, true)] (by kernel_rfl) (by kernel_rfl) rfl (by kernel_rfl) (Subs.st inferInstance) (fun hns0 => ?_)
  refine DL_q hns0 rfl (Qt_move (.pointer _) rfl) rfl ?_
  refine DL_q hns0 rfl (Qt_nilCheck rfl) rfl ?_
  refine DL_q hns0 rfl (Qt_fieldAddr 0 rfl rfl) rfl ?_
  refine DL_q hns0 rfl (Qt_fieldAddr 0 rfl rfl) rfl ?_
  refine DL_q hns0 rfl (Qt_load1 rfl) rfl ?_
  refine DL_q hns0 rfl (Qt_move (.pointer _) rfl) rfl ?_
  refine DL_q hns0 rfl (Qt_nilCheck rfl) rfl ?_
  refine DL_q hns0 rfl (Qt_fieldAddr 0 rfl rfl) rfl ?_
  refine DL_q hns0 rfl (Qt_fieldAddr 1 rfl rfl) rfl ?_
  refine DL_q hns0 rfl (Qt_load1 rfl) rfl ?_
  refine DL_q hns0 rfl (Qt_assign (.int .i64 _) rfl) rfl ?_
  refine DL_q hns0 rfl (Qt_assign (.int .i64 _) rfl) rfl ?_
  refine DL_nil ?_
  refine X_then ?_
  refine T_ret ?_
  exact X_ret () [_, _] Tryz.results89 ⟨rfl, rfl, trivial⟩ rfl (Subs.st inferInstance)
set_option maxHeartbeats 1000000 in
theorem sreg0_c {w0 : World} {H : List SA} {q p r : Nat} {sb d l : Option Addr} :
    CT Tryz.prog w0 (blk q (.cells (StoreV.mk sb d l (some ⟨p, 0, none⟩) false).cells 147 (0, 0)) :: blk p (.cells (bookM r).cells 259 (0, 0)) :: blk r (mapO encEr encVt [] 0) :: H) 36 [.pointer (some ⟨q, 0, none⟩)] (α := Unit) (fun _ => .tuple #[.int .i64 0, .int .i64 0]) (fun _ => blk q (.cells (StoreV.mk sb d l (some ⟨p, 0, none⟩) false).cells 147 (0, 0)) :: blk p (.cells (bookM r).cells 259 (0, 0)) :: blk r (mapO encEr encVt [] 0) :: H) := by
  refine CT_intro Tryz.func36 rfl Tryz.ntmps36 rfl ?_
  refine T_seq ?_
  refine T_region ?_
  refine TL_q (Qt_assign (.int .i64 _) rfl) rfl ?_
  refine TL_q (Qt_assign (.int .i64 _) rfl) rfl ?_
  refine TL_nil ?_
  refine X_then ?_
  refine T_seq ?_
  refine T_seq ?_
  refine T_region ?_
  refine TL_q (Qt_move (.pointer _) rfl) rfl ?_
  refine TL_q (Qt_ptr_nil rfl rfl Tryz.underlying70) rfl ?_
  refine TL_nil ?_
  refine X_then ?_
  refine T_cond_false rfl (by first | rfl | decide) ?_
  refine T_skip ?_
  refine X_then ?_
  refine T_seq ?_
  refine T_region ?_
  refine TL_q (Qt_move (.pointer _) rfl) rfl ?_
  refine TL_q (Qt_nilCheck rfl) rfl ?_
  refine TL_q (Qt_fieldAddr 3 rfl rfl) rfl ?_
  refine TL_q (Qt_load1 rfl) rfl ?_
  refine TL_conv (fun w hw => (Subs.st inferInstance w hw : St w0 (blk p (.cells (bookM r).cells 259 (0, 0)) :: blk r (mapO encEr encVt [] 0) :: blk q (.cells (StoreV.mk sb d l (some ⟨p, 0, none⟩) false).cells 147 (0, 0)) :: H) w)) ?_
  refine TL_e rfl (Ef_call (breg0_c (p := p) (r := r)) rfl (fun x10 => ?_))
  refine TL_conv (fun w hw => (Subs.st inferInstance w hw : St w0 (blk p (.cells (bookM r).cells 259 (0, 0)) :: blk r (mapO encEr encVt [] 0) :: blk q (.cells (StoreV.mk sb d l (some ⟨p, 0, none⟩) false).cells 147 (0, 0)) :: H) w)) ?_
  refine TL_q (Qt_extract rfl) rfl ?_
  refine TL_q (Qt_extract rfl) rfl ?_
  refine TL_q (Qt_assign (.int .i64 _) rfl) rfl ?_
  refine TL_q (Qt_assign (.int .i64 _) rfl) rfl ?_
  refine TL_nil ?_
  refine X_then ?_
  refine T_ret ?_
  exact X_ret () [_, _] Tryz.results36 ⟨rfl, rfl, trivial⟩ rfl (Subs.st inferInstance)
set_option maxHeartbeats 1000000 in
theorem svotes0_c {w0 : World} {H : List SA} {q p r : Nat} {sb d l : Option Addr} :
    CT Tryz.prog w0 (blk q (.cells (StoreV.mk sb d l (some ⟨p, 0, none⟩) false).cells 147 (0, 0)) :: blk p (.cells (bookM r).cells 259 (0, 0)) :: blk r (mapO encEr encVt [] 0) :: H) 93 [.pointer (some ⟨q, 0, none⟩)] (α := Unit) (fun _ => .slice none 0 0) (fun _ => blk q (.cells (StoreV.mk sb d l (some ⟨p, 0, none⟩) false).cells 147 (0, 0)) :: blk p (.cells (bookM r).cells 259 (0, 0)) :: blk r (mapO encEr encVt [] 0) :: H) := by
  refine CT_intro Tryz.func93 rfl Tryz.ntmps93 rfl ?_
  refine T_seq ?_
  refine T_region ?_
  refine TL_q (Qt_assign (.slice _ _ _) rfl) rfl ?_
  refine TL_nil ?_
  refine X_then ?_
  refine T_seq ?_
  refine T_seq ?_
  refine T_region ?_
  refine TL_q (Qt_move (.pointer _) rfl) rfl ?_
  refine TL_q (Qt_ptr_nil rfl rfl Tryz.underlying70) rfl ?_
  refine TL_nil ?_
  refine X_then ?_
  refine T_cond_false rfl (by first | rfl | decide) ?_
  refine T_skip ?_
  refine X_then ?_
  refine T_seq ?_
  refine T_region ?_
  refine TL_q (Qt_move (.pointer _) rfl) rfl ?_
  refine TL_q (Qt_nilCheck rfl) rfl ?_
  refine TL_q (Qt_fieldAddr 3 rfl rfl) rfl ?_
  refine TL_q (Qt_load1 rfl) rfl ?_
  refine TL_conv (fun w hw => (Subs.st inferInstance w hw : St w0 (blk p (.cells (bookM r).cells 259 (0, 0)) :: blk r (mapO encEr encVt [] 0) :: blk q (.cells (StoreV.mk sb d l (some ⟨p, 0, none⟩) false).cells 147 (0, 0)) :: H) w)) ?_
  refine TL_e rfl (Ef_call (all0_c (p := p) (r := r)) rfl (fun x9 => ?_))
  refine TL_q (Qt_assign (.slice _ _ _) rfl) rfl ?_
  refine TL_nil ?_
  refine X_then ?_
  refine T_ret ?_
  exact X_ret () [_] Tryz.results93 ⟨rfl, trivial⟩ rfl (Subs.st inferInstance)
set_option maxHeartbeats 1000000 in
theorem swrote0_c {w0 : World} {H : List SA} {q p r : Nat} {sb d l : Option Addr} {n v g : Int} (hn : n ≠ 0) :
    CT Tryz.prog w0 (blk q (.cells (StoreV.mk sb d l (some ⟨p, 0, none⟩) false).cells 147 (0, 0)) :: blk p (.cells (bookM r).cells 259 (0, 0)) :: blk r (mapO encEr encVt [] 0) :: H) 68 [.pointer (some ⟨q, 0, none⟩), .int .i64 n, .int .i64 v, .int .i64 g] (α := Unit) (fun _ => .tuple #[.agg VoteV.zero.cells, .bool false]) (fun _ => blk q (.cells (StoreV.mk sb d l (some ⟨p, 0, none⟩) false).cells 147 (0, 0)) :: blk p (.cells (bookM r).cells 259 (0, 0)) :: blk r (mapO encEr encVt [] 0) :: H) := by
  refine CT_intro Tryz.func68 rfl Tryz.ntmps68 rfl ?_
  refine T_seq ?_
  refine T_region ?_
  refine TL_e rfl (Ef_allocN (fun b8 => ?_))
  refine TL_q (Qt_assign (.bool _) rfl) rfl ?_
  refine TL_nil ?_
  refine X_then ?_
  refine T_seq ?_
  refine T_seq ?_
  refine T_region ?_
  refine TL_q (Qt_move (.pointer _) rfl) rfl ?_
  refine TL_q (Qt_ptr_nil rfl rfl Tryz.underlying70) rfl ?_
  refine TL_q (Qt_move (.bool _) rfl) rfl ?_
  refine TL_split 12 rfl (fun h12 => ?_) (fun h12 => ?_)
  ·
    have p12 := h12
    try simp only [decide_eq_true_eq, decide_eq_false_iff_not, Bool.not_eq_true', Bool.not_eq_false', Option.isNone_iff_eq_none, ne_eq, Decidable.not_not, Int.not_lt, Int.not_le] at p12
    cases h12
  ·
    have p12 := h12
    try simp only [decide_eq_true_eq, decide_eq_false_iff_not, Bool.not_eq_true', Bool.not_eq_false', Option.isNone_iff_eq_none, ne_eq, Decidable.not_not, Int.not_lt, Int.not_le] at p12
    refine TL_take rfl rfl h12 ?_
    refine TL_q (Qt_move (.pointer _) rfl) rfl ?_
    refine TL_take rfl rfl h12 ?_
    refine TL_q (Qt_nilCheck rfl) rfl ?_
    refine TL_take rfl rfl h12 ?_
    refine TL_q (Qt_fieldAddr 3 rfl rfl) rfl ?_
    refine TL_take rfl rfl h12 ?_
    refine TL_q (Qt_load1 rfl) rfl ?_
    refine TL_conv (fun w hw => (Subs.st inferInstance w hw : St w0 (blk p (.cells (bookM r).cells 259 (0, 0)) :: blk r (mapO encEr encVt [] 0) :: blk q (.cells (StoreV.mk sb d l (some ⟨p, 0, none⟩) false).cells 147 (0, 0)) :: blk b8 (.cells VoteV.zero.cells 135 (0, 0)) :: H) w)) ?_
    refine TL_take rfl rfl h12 ?_
    refine TL_e rfl (Ef_call (bslot0_c (p := p) (r := r)) rfl (fun x17 => ?_))
    refine TL_take rfl rfl h12 ?_
    refine TL_q (Qt_move (.int .i64 _) rfl) rfl ?_
    refine TL_take rfl rfl h12 ?_
    refine TL_q (Qt_neq rfl rfl) rfl ?_
    refine TL_q (Qt_pick_f (.bool _) rfl h12 rfl) rfl ?_
    refine TL_nil ?_
    refine X_then ?_
    refine T_cond rfl (fun h20 => ?_) (fun h20 => ?_)
    ·
      have p20 := h20
      try simp only [decide_eq_true_eq, decide_eq_false_iff_not, Bool.not_eq_true', Bool.not_eq_false', Option.isNone_iff_eq_none, ne_eq, Decidable.not_not, Int.not_lt, Int.not_le] at p20
      refine T_seq ?_
      refine T_region ?_
      refine TL_q (Qt_build [] rfl (by kernel_rfl)) rfl ?_
      refine TL_n (Ef_storeN rfl rfl (?_))
      refine TL_q (Qt_assign (.bool _) rfl) rfl ?_
      refine TL_nil ?_
      refine X_then ?_
      refine T_ret ?_
      refine X_then_ret ?_
      exact X_ret () [_, _] Tryz.results68 ⟨⟨_, rfl, res_cellN rfl⟩, rfl, trivial⟩ rfl (Subs.st inferInstance)
    ·
      have p20 := h20
      try simp only [decide_eq_true_eq, decide_eq_false_iff_not, Bool.not_eq_true', Bool.not_eq_false', Option.isNone_iff_eq_none, ne_eq, Decidable.not_not, Int.not_lt, Int.not_le] at p20
      exact absurd p20 (by omega)
set_option maxHeartbeats 1000000 in
theorem saccepted0_c {w0 : World} {H : List SA} {q p r : Nat} {sb d l : Option Addr} {n : Int} (hn : n ≠ 0) :
    CT Tryz.prog w0 (blk q (.cells (StoreV.mk sb d l (some ⟨p, 0, none⟩) false).cells 147 (0, 0)) :: blk p (.cells (bookM r).cells 259 (0, 0)) :: blk r (mapO encEr encVt [] 0) :: H) 128 [.pointer (some ⟨q, 0, none⟩), .int .i64 n] (α := Unit) (fun _ => .tuple #[.agg VoteV.zero.cells, .bool false]) (fun _ => blk q (.cells (StoreV.mk sb d l (some ⟨p, 0, none⟩) false).cells 147 (0, 0)) :: blk p (.cells (bookM r).cells 259 (0, 0)) :: blk r (mapO encEr encVt [] 0) :: H) := by
  refine CT_intro Tryz.func128 rfl Tryz.ntmps128 rfl ?_
  refine T_seq ?_
  refine T_region ?_
  refine TL_e rfl (Ef_allocN (fun b4 => ?_))
  refine TL_q (Qt_assign (.bool _) rfl) rfl ?_
  refine TL_nil ?_
  refine X_then ?_
  refine T_seq ?_
  refine T_seq ?_
  refine T_region ?_
  refine TL_q (Qt_move (.pointer _) rfl) rfl ?_
  refine TL_q (Qt_ptr_nil rfl rfl Tryz.underlying70) rfl ?_
  refine TL_q (Qt_move (.bool _) rfl) rfl ?_
  refine TL_split 8 rfl (fun h8 => ?_) (fun h8 => ?_)
  ·
    have p8 := h8
    try simp only [decide_eq_true_eq, decide_eq_false_iff_not, Bool.not_eq_true', Bool.not_eq_false', Option.isNone_iff_eq_none, ne_eq, Decidable.not_not, Int.not_lt, Int.not_le] at p8
    cases h8
  ·
    have p8 := h8
    try simp only [decide_eq_true_eq, decide_eq_false_iff_not, Bool.not_eq_true', Bool.not_eq_false', Option.isNone_iff_eq_none, ne_eq, Decidable.not_not, Int.not_lt, Int.not_le] at p8
    refine TL_take rfl rfl h8 ?_
    refine TL_q (Qt_move (.pointer _) rfl) rfl ?_
    refine TL_take rfl rfl h8 ?_
    refine TL_q (Qt_nilCheck rfl) rfl ?_
    refine TL_take rfl rfl h8 ?_
    refine TL_q (Qt_fieldAddr 3 rfl rfl) rfl ?_
    refine TL_take rfl rfl h8 ?_
    refine TL_q (Qt_load1 rfl) rfl ?_
    refine TL_conv (fun w hw => (Subs.st inferInstance w hw : St w0 (blk p (.cells (bookM r).cells 259 (0, 0)) :: blk r (mapO encEr encVt [] 0) :: blk q (.cells (StoreV.mk sb d l (some ⟨p, 0, none⟩) false).cells 147 (0, 0)) :: blk b4 (.cells VoteV.zero.cells 135 (0, 0)) :: H) w)) ?_
    refine TL_take rfl rfl h8 ?_
    refine TL_e rfl (Ef_call (bslot0_c (p := p) (r := r)) rfl (fun x13 => ?_))
    refine TL_take rfl rfl h8 ?_
    refine TL_q (Qt_move (.int .i64 _) rfl) rfl ?_
    refine TL_take rfl rfl h8 ?_
    refine TL_q (Qt_neq rfl rfl) rfl ?_
    refine TL_q (Qt_pick_f (.bool _) rfl h8 rfl) rfl ?_
    refine TL_nil ?_
    refine X_then ?_
    refine T_cond rfl (fun h16 => ?_) (fun h16 => ?_)
    ·
      have p16 := h16
      try simp only [decide_eq_true_eq, decide_eq_false_iff_not, Bool.not_eq_true', Bool.not_eq_false', Option.isNone_iff_eq_none, ne_eq, Decidable.not_not, Int.not_lt, Int.not_le] at p16
      refine T_seq ?_
      refine T_region ?_
      refine TL_q (Qt_build [] rfl (by kernel_rfl)) rfl ?_
      refine TL_n (Ef_storeN rfl rfl (?_))
      refine TL_q (Qt_assign (.bool _) rfl) rfl ?_
      refine TL_nil ?_
      refine X_then ?_
      refine T_ret ?_
      refine X_then_ret ?_
      exact X_ret () [_, _] Tryz.results128 ⟨⟨_, rfl, res_cellN rfl⟩, rfl, trivial⟩ rfl (Subs.st inferInstance)
    ·
      have p16 := h16
      try simp only [decide_eq_true_eq, decide_eq_false_iff_not, Bool.not_eq_true', Bool.not_eq_false', Option.isNone_iff_eq_none, ne_eq, Decidable.not_not, Int.not_lt, Int.not_le] at p16
      exact absurd p16 (by omega)
end Go.Proofs.YtldnfbghjnhklaaGreatDoor
