/- Walks of package replica: a replica that begins on an empty disk; a replica that is not there; the law ReplicaNil. -/
import Derived.Test.YtldnfbghjnhklaaGreatDoorUk
namespace Go.Proofs.YtldnfbghjnhklaaGreatDoor
open Go.RowKit Go.Sx
set_option maxRecDepth 100000
set_option linter.unusedSimpArgs false
set_option linter.unusedVariables false
attribute [local irreducible] sha worldB
set_option maxHeartbeats 1000000 in
theorem next_c {w0 : World} {H : List SA} {p : Nat} {sa : Option Addr} {sc : Nat} {ls : List BS} {e : EraR} {s vo st qu cl fe : Option Addr} [hm : Mem w0 H p (.cells (ReplicaV.mk e (ConfigV.mk 0 (KeysV.mk ⟨sa, sc, ls⟩ ⟨none, 0, 0⟩) (ViewV.mk 0 15) 2 8 3) s (firstW 0 ((15 : Nat) : Int) 6) 0 vo st qu cl fe 0 ⟨none, 0, 0⟩ false).cells 77 (0, 0))] :
    CT Tryz.prog w0 (H) 69 [.pointer (some ⟨p, 0, none⟩)] (α := Unit) (fun _ => .int .i64 1) (fun _ => H) := by
  refine CT_intro Tryz.func69 rfl Tryz.ntmps69 rfl ?_
  refine T_seq ?_
  refine T_region ?_
  refine TL_q (Qt_assign (.int .i64 _) rfl) rfl ?_
  refine TL_nil ?_
  refine X_then ?_
  refine T_seq ?_
  refine T_region ?_
  refine TL_q (Qt_move (.pointer _) rfl) rfl ?_
  refine TL_q (Qt_nilCheck rfl) rfl ?_
  refine TL_q (Qt_fieldAddr 48 rfl rfl) rfl ?_
  refine TL_q (Qt_fieldAddr 48 rfl rfl) rfl ?_
  refine TL_q (Qt_load1 rfl) rfl ?_
  first
    | refine TL_q (Qt_add rfl rfl (by omega) (by omega)) rfl ?_
    | refine TL_q (Qt_addw rfl rfl) rfl ?_
  refine TL_q (Qt_assign (.int .i64 _) rfl) rfl ?_
  refine TL_nil ?_
  refine X_then ?_
  refine T_ret ?_
  exact X_ret () [_] Tryz.results69 ⟨rfl, trivial⟩ (congrArg (Value.int .i64) (by decide)) (Subs.st inferInstance)
set_option maxHeartbeats 1000000 in
theorem member_c {w0 : World} {H : List SA} {p : Nat} {sa : Option Addr} {sc : Nat} {ls : List BS} {e : EraR} {s vo st qu cl fe : Option Addr} [hm : Mem w0 H p (.cells (ReplicaV.mk e (ConfigV.mk 0 (KeysV.mk ⟨sa, sc, ls⟩ ⟨none, 0, 0⟩) (ViewV.mk 0 15) 2 8 3) s (firstW 0 ((15 : Nat) : Int) 6) 0 vo st qu cl fe 0 ⟨none, 0, 0⟩ false).cells 77 (0, 0))] :
    CT Tryz.prog w0 (H) 67 [.pointer (some ⟨p, 0, none⟩)] (α := Unit) (fun _ => .bool true) (fun _ => H) := by
  refine CT_intro Tryz.func67 rfl Tryz.ntmps67 rfl ?_
  refine T_seq ?_
  refine T_region ?_
  refine TL_q (Qt_assign (.bool _) rfl) rfl ?_
  refine TL_nil ?_
  refine X_then ?_
  refine T_seq ?_
  refine T_draw H [(0, true), (1, true), (2, true), (3, true), (4, true), (5, true), (6, true), (7, true), (8, true), (9, true), (10, false), (11, true)] (by kernel_rfl) (by kernel_rfl) rfl (by kernel_rfl) (Subs.st inferInstance) (fun hns0 => ?_)
  refine DL_q hns0 rfl (Qt_move (.pointer _) rfl) rfl ?_
  refine DL_q hns0 rfl (Qt_nilCheck rfl) rfl ?_
  refine DL_q hns0 rfl (Qt_fieldAddr 48 rfl rfl) rfl ?_
  refine DL_q hns0 rfl (Qt_fieldAddr 50 rfl rfl) rfl ?_
  refine DL_q hns0 rfl (Qt_loadN rfl rfl) rfl ?_
  refine DL_q hns0 rfl (Qt_move (.pointer _) rfl) rfl ?_
  refine DL_q hns0 rfl (Qt_nilCheck rfl) rfl ?_
  refine DL_q hns0 rfl (Qt_fieldAddr 39 rfl rfl) rfl ?_
  refine DL_q hns0 rfl (Qt_fieldAddr 39 rfl rfl) rfl ?_
  refine DL_q hns0 rfl (Qt_load1 rfl) rfl ?_
  refine DL_e rfl rfl (Ef_call (has_v (num := 0) (mk := 15) (i := 0) (by decide)) rfl (fun x13 => ⟨(Subs.st inferInstance), ?_⟩))
  refine DL_q hns0 rfl (Qt_assign (.bool _) rfl) rfl ?_
  refine DL_nil ?_
  refine X_then ?_
  refine T_ret ?_
  exact X_ret () [_] Tryz.results67 ⟨rfl, trivial⟩ (congrArg Value.bool (by decide)) (Subs.st inferInstance)
set_option maxHeartbeats 1000000 in
theorem bslotM_c {w0 : World} {H : List SA} {pb rb : Nat} [hb : Mem w0 H pb (.cells (bookM rb).cells 259 (0, 0))] :
    CT Tryz.prog w0 (H) 144 [.pointer (some ⟨pb, 0, none⟩)] (α := Unit) (fun _ => .int .i64 0) (fun _ => H) := by
  refine CT_intro Tryz.func144 rfl Tryz.ntmps144 rfl ?_
  refine T_seq ?_
  refine T_region ?_
  refine TL_q (Qt_assign (.int .i64 _) rfl) rfl ?_
  refine TL_nil ?_
  refine X_then ?_
  refine T_seq ?_
  refine T_seq ?_
  refine T_region ?_
  refine TL_q (Qt_move (.pointer _) rfl) rfl ?_
  refine TL_q (Qt_ptr_nil rfl rfl Tryz.underlying145) rfl ?_
  refine TL_nil ?_
  refine X_then ?_
  refine T_cond_false rfl (by first | rfl | decide) ?_
  refine T_skip ?_
  refine X_then ?_
  refine T_seq ?_
  refine T_region ?_
  refine TL_q (Qt_move (.pointer _) rfl) rfl ?_
  refine TL_q (Qt_nilCheck rfl) rfl ?_
  refine TL_q (Qt_fieldAddr 3 rfl rfl) rfl ?_
  refine TL_q (Qt_load1 rfl) rfl ?_
  refine TL_q (Qt_assign (.int .i64 _) rfl) rfl ?_
  refine TL_nil ?_
  refine X_then ?_
  refine T_ret ?_
  exact X_ret () [_] Tryz.results144 ⟨rfl, trivial⟩ rfl (Subs.st inferInstance)
set_option maxHeartbeats 1000000 in
theorem swroteM_c {w0 : World} {H : List SA} {pb rb : Nat} [hb : Mem w0 H pb (.cells (bookM rb).cells 259 (0, 0))] {q : Nat} {sb dk lg : Option Addr} [hq : Mem w0 H q (.cells (StoreV.mk sb dk lg (some ⟨pb, 0, none⟩) false).cells 147 (0, 0))] {n v g : Int} (hn : n ≠ 0) :
    CT Tryz.prog w0 (H) 68 [.pointer (some ⟨q, 0, none⟩), .int .i64 n, .int .i64 v, .int .i64 g] (α := Unit) (fun _ => .tuple #[.agg VoteV.zero.cells, .bool false]) (fun _ => H) := by
  refine CT_intro Tryz.func68 rfl Tryz.ntmps68 rfl ?_
  refine T_seq ?_
  refine T_region ?_
  refine TL_e rfl (Ef_allocN (fun b8 => ?_))
  refine TL_q (Qt_assign (.bool _) rfl) rfl ?_
  refine TL_nil ?_
  refine X_then ?_
  refine T_seq ?_
  refine T_seq ?_
  refine T_region ?_
  refine TL_q (Qt_move (.pointer _) rfl) rfl ?_
  refine TL_q (Qt_ptr_nil rfl rfl Tryz.underlying70) rfl ?_
  refine TL_q (Qt_move (.bool _) rfl) rfl ?_
  refine TL_split 12 rfl (fun h12 => ?_) (fun h12 => ?_)
  ·
    have p12 := h12
    try simp only [decide_eq_true_eq, decide_eq_false_iff_not, Bool.not_eq_true', Bool.not_eq_false', Option.isNone_iff_eq_none, ne_eq, Decidable.not_not, Int.not_lt, Int.not_le] at p12
    cases h12
  ·
    have p12 := h12
    try simp only [decide_eq_true_eq, decide_eq_false_iff_not, Bool.not_eq_true', Bool.not_eq_false', Option.isNone_iff_eq_none, ne_eq, Decidable.not_not, Int.not_lt, Int.not_le] at p12
    refine TL_take rfl rfl h12 ?_
    refine TL_q (Qt_move (.pointer _) rfl) rfl ?_
    refine TL_take rfl rfl h12 ?_
    refine TL_q (Qt_nilCheck rfl) rfl ?_
    refine TL_take rfl rfl h12 ?_
    refine TL_q (Qt_fieldAddr 3 rfl rfl) rfl ?_
    refine TL_take rfl rfl h12 ?_
    refine TL_q (Qt_load1 rfl) rfl ?_
    refine TL_take rfl rfl h12 ?_
    refine TL_e rfl (Ef_call (bslotM_c (pb := pb) (rb := rb)) rfl (fun x17 => ?_))
    refine TL_take rfl rfl h12 ?_
    refine TL_q (Qt_move (.int .i64 _) rfl) rfl ?_
    refine TL_take rfl rfl h12 ?_
    refine TL_q (Qt_neq rfl rfl) rfl ?_
    refine TL_q (Qt_pick_f (.bool _) rfl h12 rfl) rfl ?_
    refine TL_nil ?_
    refine X_then ?_
    refine T_cond rfl (fun h20 => ?_) (fun h20 => ?_)
    ·
      have p20 := h20
      try simp only [decide_eq_true_eq, decide_eq_false_iff_not, Bool.not_eq_true', Bool.not_eq_false', Option.isNone_iff_eq_none, ne_eq, Decidable.not_not, Int.not_lt, Int.not_le] at p20
      refine T_seq ?_
      refine T_region ?_
      refine TL_q (Qt_build [] rfl (by kernel_rfl)) rfl ?_
      refine TL_n (Ef_storeN rfl rfl (?_))
      refine TL_q (Qt_assign (.bool _) rfl) rfl ?_
      refine TL_nil ?_
      refine X_then ?_
      refine T_ret ?_
      refine X_then_ret ?_
      exact X_ret () [_, _] Tryz.results68 ⟨⟨_, rfl, res_cellN rfl⟩, rfl, trivial⟩ rfl (Subs.st inferInstance)
    ·
      have p20 := h20
      try simp only [decide_eq_true_eq, decide_eq_false_iff_not, Bool.not_eq_true', Bool.not_eq_false', Option.isNone_iff_eq_none, ne_eq, Decidable.not_not, Int.not_lt, Int.not_le] at p20
      exact absurd p20 (by omega)
set_option maxHeartbeats 1000000 in
theorem sacceptedM_c {w0 : World} {H : List SA} {pb rb : Nat} [hb : Mem w0 H pb (.cells (bookM rb).cells 259 (0, 0))] {q : Nat} {sb dk lg : Option Addr} [hq : Mem w0 H q (.cells (StoreV.mk sb dk lg (some ⟨pb, 0, none⟩) false).cells 147 (0, 0))] {n : Int} (hn : n ≠ 0) :
    CT Tryz.prog w0 (H) 128 [.pointer (some ⟨q, 0, none⟩), .int .i64 n] (α := Unit) (fun _ => .tuple #[.agg VoteV.zero.cells, .bool false]) (fun _ => H) := by
  refine CT_intro Tryz.func128 rfl Tryz.ntmps128 rfl ?_
  refine T_seq ?_
  refine T_region ?_
  refine TL_e rfl (Ef_allocN (fun b4 => ?_))
  refine TL_q (Qt_assign (.bool _) rfl) rfl ?_
  refine TL_nil ?_
  refine X_then ?_
  refine T_seq ?_
  refine T_seq ?_
  refine T_region ?_
  refine TL_q (Qt_move (.pointer _) rfl) rfl ?_
  refine TL_q (Qt_ptr_nil rfl rfl Tryz.underlying70) rfl ?_
  refine TL_q (Qt_move (.bool _) rfl) rfl ?_
  refine TL_split 8 rfl (fun h8 => ?_) (fun h8 => ?_)
  ·
    have p8 := h8
    try simp only [decide_eq_true_eq, decide_eq_false_iff_not, Bool.not_eq_true', Bool.not_eq_false', Option.isNone_iff_eq_none, ne_eq, Decidable.not_not, Int.not_lt, Int.not_le] at p8
    cases h8
  ·
    have p8 := h8
    try simp only [decide_eq_true_eq, decide_eq_false_iff_not, Bool.not_eq_true', Bool.not_eq_false', Option.isNone_iff_eq_none, ne_eq, Decidable.not_not, Int.not_lt, Int.not_le] at p8
    refine TL_take rfl rfl h8 ?_
    refine TL_q (Qt_move (.pointer _) rfl) rfl ?_
    refine TL_take rfl rfl h8 ?_
    refine TL_q (Qt_nilCheck rfl) rfl ?_
    refine TL_take rfl rfl h8 ?_
    refine TL_q (Qt_fieldAddr 3 rfl rfl) rfl ?_
    refine TL_take rfl rfl h8 ?_
    refine TL_q (Qt_load1 rfl) rfl ?_
    refine TL_take rfl rfl h8 ?_
    refine TL_e rfl (Ef_call (bslotM_c (pb := pb) (rb := rb)) rfl (fun x13 => ?_))
    refine TL_take rfl rfl h8 ?_
    refine TL_q (Qt_move (.int .i64 _) rfl) rfl ?_
    refine TL_take rfl rfl h8 ?_
    refine TL_q (Qt_neq rfl rfl) rfl ?_
    refine TL_q (Qt_pick_f (.bool _) rfl h8 rfl) rfl ?_
    refine TL_nil ?_
    refine X_then ?_
    refine T_cond rfl (fun h16 => ?_) (fun h16 => ?_)
    ·
      have p16 := h16
      try simp only [decide_eq_true_eq, decide_eq_false_iff_not, Bool.not_eq_true', Bool.not_eq_false', Option.isNone_iff_eq_none, ne_eq, Decidable.not_not, Int.not_lt, Int.not_le] at p16
      refine T_seq ?_
      refine T_region ?_
      refine TL_q (Qt_build [] rfl (by kernel_rfl)) rfl ?_
      refine TL_n (Ef_storeN rfl rfl (?_))
      refine TL_q (Qt_assign (.bool _) rfl) rfl ?_
      refine TL_nil ?_
      refine X_then ?_
      refine T_ret ?_
      refine X_then_ret ?_
      exact X_ret () [_, _] Tryz.results128 ⟨⟨_, rfl, res_cellN rfl⟩, rfl, trivial⟩ rfl (Subs.st inferInstance)
    ·
      have p16 := h16
      try simp only [decide_eq_true_eq, decide_eq_false_iff_not, Bool.not_eq_true', Bool.not_eq_false', Option.isNone_iff_eq_none, ne_eq, Decidable.not_not, Int.not_lt, Int.not_le] at p16
      exact absurd p16 (by omega)
set_option maxHeartbeats 1000000 in
theorem stworldM_c {w0 : World} {H : List SA} {sb : Nat} {t : StateV} [ht : Mem w0 H sb (.cells t.cells 152 (0, 0))] :
    CT Tryz.prog w0 (H) 87 [.pointer (some ⟨sb, 0, none⟩)] (α := Unit) (fun _ => .agg t.world.cells) (fun _ => H) := by
  refine CT_intro Tryz.func87 rfl Tryz.ntmps87 rfl ?_
  refine T_seq ?_
  refine T_region ?_
  refine TL_e rfl (Ef_allocN (fun b2 => ?_))
  refine TL_nil ?_
  refine X_then ?_
  refine T_seq ?_
  refine T_seq ?_
  refine T_region ?_
  refine TL_q (Qt_move (.pointer _) rfl) rfl ?_
  refine TL_q (Qt_ptr_nil rfl rfl Tryz.underlying143) rfl ?_
  refine TL_nil ?_
  refine X_then ?_
  refine T_cond_false rfl (by first | rfl | decide) ?_
  refine T_skip ?_
  refine X_then ?_
  refine T_seq ?_
  refine T_region ?_
  refine TL_q (Qt_move (.pointer _) rfl) rfl ?_
  refine TL_q (Qt_nilCheck rfl) rfl ?_
  refine TL_q (Qt_fieldAddr 0 rfl rfl) rfl ?_
  refine TL_q (Qt_loadN rfl rfl) rfl ?_
  refine TL_n (Ef_storeN rfl rfl (?_))
  refine TL_nil ?_
  refine X_then ?_
  refine T_ret ?_
  exact X_ret () [_] Tryz.results87 ⟨⟨_, rfl, res_cellN rfl⟩, trivial⟩ rfl (Subs.st inferInstance)
set_option maxHeartbeats 1000000 in
theorem sworldM_c {w0 : World} {H : List SA} {sb : Nat} {t : StateV} [ht : Mem w0 H sb (.cells t.cells 152 (0, 0))] {q : Nat} {d l b : Option Addr} {fu : Bool} [hq : Mem w0 H q (.cells (StoreV.mk (some ⟨sb, 0, none⟩) d l b fu).cells 147 (0, 0))] :
    CT Tryz.prog w0 (H) 33 [.pointer (some ⟨q, 0, none⟩)] (α := Unit) (fun _ => .agg t.world.cells) (fun _ => H) := by
  refine CT_intro Tryz.func33 rfl Tryz.ntmps33 rfl ?_
  refine T_seq ?_
  refine T_region ?_
  refine TL_e rfl (Ef_allocN (fun b2 => ?_))
  refine TL_nil ?_
  refine X_then ?_
  refine T_seq ?_
  refine T_seq ?_
  refine T_region ?_
  refine TL_q (Qt_move (.pointer _) rfl) rfl ?_
  refine TL_q (Qt_ptr_nil rfl rfl Tryz.underlying70) rfl ?_
  refine TL_nil ?_
  refine X_then ?_
  refine T_cond_false rfl (by first | rfl | decide) ?_
  refine T_skip ?_
  refine X_then ?_
  refine T_seq ?_
  refine T_region ?_
  refine TL_q (Qt_move (.pointer _) rfl) rfl ?_
  refine TL_q (Qt_nilCheck rfl) rfl ?_
  refine TL_q (Qt_fieldAddr 0 rfl rfl) rfl ?_
  refine TL_q (Qt_load1 rfl) rfl ?_
  refine TL_e rfl (Ef_call (stworldM_c (sb := sb) (t := t)) rfl (fun x10 => ?_))
  refine TL_n (Ef_storeN rfl rfl (?_))
  refine TL_nil ?_
  refine X_then ?_
  refine T_ret ?_
  exact X_ret () [_] Tryz.results33 ⟨⟨_, rfl, res_cellN rfl⟩, trivial⟩ rfl (Subs.st inferInstance)
set_option maxHeartbeats 1000000 in
theorem anew_c {w0 : World} {H : List SA} {p : Nat} {sa : Option Addr} {sc : Nat} {ls : List BS} {e : EraR} {s vo st qu cl fe : Option Addr} [rk : RdC w0 H (.slice sa ls.length sc) 1 (ls.map BS.val)] [rke : RdE w0 H ls] (hkl : ∀ x ∈ ls, x.l.length ≤ 4294967000) (hn : ls.length ≤ 1000) :
    CT Tryz.prog w0 (blk p (.cells (ReplicaV.mk e (ConfigV.mk 0 (KeysV.mk ⟨sa, sc, ls⟩ ⟨none, 0, 0⟩) (ViewV.mk 0 15) 2 8 3) s (firstW 0 ((15 : Nat) : Int) 6) 0 vo st qu cl fe 0 ⟨none, 0, 0⟩ false).cells 77 (0, 0)) :: H) 37 [.pointer (some ⟨p, 0, none⟩)] (α := Nat × Nat) (fun _ => .tuple #[]) (fun y => blk p (.cells (ReplicaV.mk (EraR.mk true 0 false (zeroV 32) ⟨none, 0, []⟩ 0 (some y.1) ⟨none, 0, []⟩) (ConfigV.mk 0 (KeysV.mk ⟨sa, sc, ls⟩ ⟨none, 0, 0⟩) (ViewV.mk 0 15) 2 8 3) s (firstW 0 ((15 : Nat) : Int) 6) 0 vo (some ⟨y.2, 0, none⟩) qu cl fe 0 ⟨none, 0, 0⟩ false).cells 77 (0, 0)) :: H) := by
  refine CT_intro Tryz.func37 rfl Tryz.ntmps37 rfl ?_
  refine T_seq ?_
  refine T_draw (exB p 77 (fun e : EraR => (ReplicaV.mk e (ConfigV.mk 0 (KeysV.mk ⟨sa, sc, ls⟩ ⟨none, 0, 0⟩) (ViewV.mk 0 15) 2 8 3) s (firstW 0 ((15 : Nat) : Int) 6) 0 vo st qu cl fe 0 ⟨none, 0, 0⟩ false).cells) :: H) [(0, true), (1, true), (2, true), (3, true), (4, true), (5, true), (6, true), (7, true), (8, true), (9, true), (10, false), (11, true), (12, true), (13, true), (14, false)] (by kernel_rfl) (by kernel_rfl) rfl (by kernel_rfl) (fun w hw => St.toEx (f := (fun e : EraR => (ReplicaV.mk e (ConfigV.mk 0 (KeysV.mk ⟨sa, sc, ls⟩ ⟨none, 0, 0⟩) (ViewV.mk 0 15) 2 8 3) s (firstW 0 ((15 : Nat) : Int) 6) 0 vo st qu cl fe 0 ⟨none, 0, 0⟩ false).cells)) e (Subs.st inferInstance w hw)) (fun hns0 => ?_)
  refine DL_q hns0 rfl (Qt_move (.pointer _) rfl) rfl ?_
  refine DL_q hns0 rfl (Qt_move (.pointer _) rfl) rfl ?_
  refine DL_q hns0 rfl (Qt_nilCheck rfl) rfl ?_
  refine DL_q hns0 rfl (Qt_fieldAddr 116 rfl rfl) rfl ?_
  refine DL_q hns0 rfl (Qt_loadX1 (f := (fun e : EraR => (ReplicaV.mk e (ConfigV.mk 0 (KeysV.mk ⟨sa, sc, ls⟩ ⟨none, 0, 0⟩) (ViewV.mk 0 15) 2 8 3) s (firstW 0 ((15 : Nat) : Int) 6) 0 vo st qu cl fe 0 ⟨none, 0, 0⟩ false).cells)) (.int .i64 0) (List.mem_cons_self ..) rfl (fun _ => inferInstance)) rfl ?_
  refine DL_q hns0 rfl (Qt_eql rfl rfl) rfl ?_
  rw [show decide ((0 : Int) = 0) = true from rfl]
  refine DL_q hns0 rfl (Qt_move (.pointer _) rfl) rfl ?_
  refine DL_q hns0 rfl (Qt_nilCheck rfl) rfl ?_
  refine DL_q hns0 rfl (Qt_fieldAddr 116 rfl rfl) rfl ?_
  refine DL_q hns0 rfl (Qt_loadX1 (f := (fun e : EraR => (ReplicaV.mk e (ConfigV.mk 0 (KeysV.mk ⟨sa, sc, ls⟩ ⟨none, 0, 0⟩) (ViewV.mk 0 15) 2 8 3) s (firstW 0 ((15 : Nat) : Int) 6) 0 vo st qu cl fe 0 ⟨none, 0, 0⟩ false).cells)) (.int .i64 0) (List.mem_cons_self ..) rfl (fun _ => inferInstance)) rfl ?_
  refine DL_e rfl rfl (Ef_makeMap encI encI (fun r12 => ⟨(fun w hw => St.toEx (f := (fun e : EraR => (ReplicaV.mk e (ConfigV.mk 0 (KeysV.mk ⟨sa, sc, ls⟩ ⟨none, 0, 0⟩) (ViewV.mk 0 15) 2 8 3) s (firstW 0 ((15 : Nat) : Int) 6) 0 vo st qu cl fe 0 ⟨none, 0, 0⟩ false).cells)) e (Subs.st inferInstance w hw)), ?_⟩))
  refine DL_q hns0 rfl (Qt_build [(0, (.bool _)), (2, (.int .i64 _)), (3, (.map _))] rfl (by kernel_rfl)) rfl ?_
  refine DL_q hns0 rfl (Qt_nilCheck rfl) rfl ?_
  refine DL_q hns0 rfl (Qt_fieldAddr 0 rfl rfl) rfl ?_
  refine DL_n rfl (Ef_storeN rfl rfl (⟨(fun w hw => St.toEx (f := (fun e : EraR => (ReplicaV.mk e (ConfigV.mk 0 (KeysV.mk ⟨sa, sc, ls⟩ ⟨none, 0, 0⟩) (ViewV.mk 0 15) 2 8 3) s (firstW 0 ((15 : Nat) : Int) 6) 0 vo st qu cl fe 0 ⟨none, 0, 0⟩ false).cells)) (EraR.mk true 0 false (zeroV 32) ⟨none, 0, []⟩ 0 (some r12) ⟨none, 0, []⟩) (Subs.st inferInstance w hw)), ?_⟩))
  refine DL_nil ?_
  refine X_then ?_
  refine T_draw (exB p 77 (fun st : Option Addr => (ReplicaV.mk (EraR.mk true 0 false (zeroV 32) ⟨none, 0, []⟩ 0 (some r12) ⟨none, 0, []⟩) (ConfigV.mk 0 (KeysV.mk ⟨sa, sc, ls⟩ ⟨none, 0, 0⟩) (ViewV.mk 0 15) 2 8 3) s (firstW 0 ((15 : Nat) : Int) 6) 0 vo st qu cl fe 0 ⟨none, 0, 0⟩ false).cells) :: H) [(0, true), (1, true), (2, true), (3, true), (4, true), (5, true), (6, true), (7, true), (8, true), (9, true), (10, true), (11, false), (12, true), (13, true), (14, false)] (by kernel_rfl) (by kernel_rfl) rfl (by kernel_rfl) (fun w hw => St.toEx (f := (fun st : Option Addr => (ReplicaV.mk (EraR.mk true 0 false (zeroV 32) ⟨none, 0, []⟩ 0 (some r12) ⟨none, 0, []⟩) (ConfigV.mk 0 (KeysV.mk ⟨sa, sc, ls⟩ ⟨none, 0, 0⟩) (ViewV.mk 0 15) 2 8 3) s (firstW 0 ((15 : Nat) : Int) 6) 0 vo st qu cl fe 0 ⟨none, 0, 0⟩ false).cells)) st (Subs.st inferInstance w hw)) (fun hns1 => ?_)
  refine DL_q hns1 rfl (Qt_move (.pointer _) rfl) rfl ?_
  refine DL_q hns1 rfl (Qt_move (.pointer _) rfl) rfl ?_
  refine DL_q hns1 rfl (Qt_nilCheck rfl) rfl ?_
  refine DL_q hns1 rfl (Qt_fieldAddr 39 rfl rfl) rfl ?_
  refine DL_q hns1 rfl (Qt_fieldAddr 40 rfl rfl) rfl ?_
  refine DL_q hns1 rfl (Qt_loadXN (f := (fun st : Option Addr => (ReplicaV.mk (EraR.mk true 0 false (zeroV 32) ⟨none, 0, []⟩ 0 (some r12) ⟨none, 0, []⟩) (ConfigV.mk 0 (KeysV.mk ⟨sa, sc, ls⟩ ⟨none, 0, 0⟩) (ViewV.mk 0 15) 2 8 3) s (firstW 0 ((15 : Nat) : Int) 6) 0 vo st qu cl fe 0 ⟨none, 0, 0⟩ false).cells)) (m := 125) ((KeysV.mk ⟨sa, sc, ls⟩ ⟨none, 0, 0⟩)).cells (List.mem_cons_self ..) rfl (fun _ => ReplicaV.size _) (fun _ => inferInstance) (by decide)) rfl ?_
  refine DL_q hns1 rfl (Qt_move (.pointer _) rfl) rfl ?_
  refine DL_q hns1 rfl (Qt_nilCheck rfl) rfl ?_
  refine DL_q hns1 rfl (Qt_fieldAddr 48 rfl rfl) rfl ?_
  refine DL_q hns1 rfl (Qt_fieldAddr 50 rfl rfl) rfl ?_
  refine DL_q hns1 rfl (Qt_loadXN (f := (fun st : Option Addr => (ReplicaV.mk (EraR.mk true 0 false (zeroV 32) ⟨none, 0, []⟩ 0 (some r12) ⟨none, 0, []⟩) (ConfigV.mk 0 (KeysV.mk ⟨sa, sc, ls⟩ ⟨none, 0, 0⟩) (ViewV.mk 0 15) 2 8 3) s (firstW 0 ((15 : Nat) : Int) 6) 0 vo st qu cl fe 0 ⟨none, 0, 0⟩ false).cells)) (m := 125) ((ViewV.mk 0 ((15 : Nat) : Int))).cells (List.mem_cons_self ..) rfl (fun _ => ReplicaV.size _) (fun _ => inferInstance) (by decide)) rfl ?_
  refine DL_e rfl rfl (Ef_call (stopsNew_c (num := 0) (mk := 15) (ls := ls) hkl hn) rfl (fun x27 => ⟨(fun w hw => St.toEx (f := (fun st : Option Addr => (ReplicaV.mk (EraR.mk true 0 false (zeroV 32) ⟨none, 0, []⟩ 0 (some r12) ⟨none, 0, []⟩) (ConfigV.mk 0 (KeysV.mk ⟨sa, sc, ls⟩ ⟨none, 0, 0⟩) (ViewV.mk 0 15) 2 8 3) s (firstW 0 ((15 : Nat) : Int) 6) 0 vo st qu cl fe 0 ⟨none, 0, 0⟩ false).cells)) st (Subs.st inferInstance w hw)), ?_⟩))
  refine DL_q hns1 rfl (Qt_nilCheck rfl) rfl ?_
  refine DL_q hns1 rfl (Qt_fieldAddr 118 rfl rfl) rfl ?_
  refine DL_n rfl (Ef_store1 (.pointer _) rfl rfl (⟨(fun w hw => St.toEx (f := (fun st : Option Addr => (ReplicaV.mk (EraR.mk true 0 false (zeroV 32) ⟨none, 0, []⟩ 0 (some r12) ⟨none, 0, []⟩) (ConfigV.mk 0 (KeysV.mk ⟨sa, sc, ls⟩ ⟨none, 0, 0⟩) (ViewV.mk 0 15) 2 8 3) s (firstW 0 ((15 : Nat) : Int) 6) 0 vo st qu cl fe 0 ⟨none, 0, 0⟩ false).cells)) (some ⟨x27, 0, none⟩) (Subs.st inferInstance w hw)), ?_⟩))
  refine DL_nil ?_
  exact X_ret (r12, x27) [] Tryz.results37 trivial rfl (Subs.st inferInstance)
set_option maxHeartbeats 1000000 in
theorem again_c {w0 : World} {H : List SA} {p : Nat} {sa : Option Addr} {sc : Nat} {ls : List BS} {e : EraR} {vo st qu cl fe : Option Addr} {pb rb : Nat} [hb : Mem w0 H pb (.cells (bookM rb).cells 259 (0, 0))] {q : Nat} {sb dk lg : Option Addr} [hq : Mem w0 H q (.cells (StoreV.mk sb dk lg (some ⟨pb, 0, none⟩) false).cells 147 (0, 0))] [hm : Mem w0 H p (.cells (ReplicaV.mk e (ConfigV.mk 0 (KeysV.mk ⟨sa, sc, ls⟩ ⟨none, 0, 0⟩) (ViewV.mk 0 15) 2 8 3) (some ⟨q, 0, none⟩) (firstW 0 ((15 : Nat) : Int) 6) 0 vo st qu cl fe 0 ⟨none, 0, 0⟩ false).cells 77 (0, 0))] :
    CT Tryz.prog w0 (H) 75 [.pointer (some ⟨p, 0, none⟩)] (α := Unit) (fun _ => .tuple #[]) (fun _ => H) := by
  refine CT_intro Tryz.func75 rfl Tryz.ntmps75 rfl ?_
  refine T_seq ?_
  refine T_seq ?_
  refine T_region ?_
  refine TL_q (Qt_move (.pointer _) rfl) rfl ?_
  refine TL_e rfl (Ef_call (member_c (p := p) (sa := sa) (sc := sc) (ls := ls) (e := e) (s := (some ⟨q, 0, none⟩)) (vo := vo) (st := st) (qu := qu) (cl := cl) (fe := fe)) rfl (fun x7 => ?_))
  refine TL_q (Qt_not rfl) rfl ?_
  refine TL_nil ?_
  refine X_then ?_
  refine T_cond_false rfl (by first | rfl | decide) ?_
  refine T_skip ?_
  refine X_then ?_
  refine T_seq ?_
  refine T_seq ?_
  refine T_drawF H (by kernel_rfl) (Subs.st inferInstance) ?_
  refine DLF_q (i := 0) (by kernel_rfl) rfl (by kernel_rfl) (by kernel_rfl) (Qt_move (.pointer _) rfl) rfl ?_
  refine DLF_q (i := 1) (by kernel_rfl) rfl (by kernel_rfl) (by kernel_rfl) (Qt_nilCheck rfl) rfl ?_
  refine DLF_q (i := 2) (by kernel_rfl) rfl (by kernel_rfl) (by kernel_rfl) (Qt_fieldAddr 47 rfl rfl) rfl ?_
  refine DLF_q (i := 3) (by kernel_rfl) rfl (by kernel_rfl) (by kernel_rfl) (Qt_load1 rfl) rfl ?_
  refine DLF_q (i := 4) (by kernel_rfl) rfl (by kernel_rfl) (by kernel_rfl) (Qt_move (.pointer _) rfl) rfl ?_
  refine DLF_q (i := 6) (by kernel_rfl) rfl (by kernel_rfl) (by kernel_rfl) (Qt_move (.pointer _) rfl) rfl ?_
  refine DLF_q (i := 7) (by kernel_rfl) rfl (by kernel_rfl) (by kernel_rfl) (Qt_nilCheck rfl) rfl ?_
  refine DLF_q (i := 8) (by kernel_rfl) rfl (by kernel_rfl) (by kernel_rfl) (Qt_fieldAddr 48 rfl rfl) rfl ?_
  refine DLF_q (i := 9) (by kernel_rfl) rfl (by kernel_rfl) (by kernel_rfl) (Qt_fieldAddr 50 rfl rfl) rfl ?_
  refine DLF_q (i := 10) (by kernel_rfl) rfl (by kernel_rfl) (by kernel_rfl) (Qt_fieldAddr 50 rfl rfl) rfl ?_
  refine DLF_q (i := 11) (by kernel_rfl) rfl (by kernel_rfl) (by kernel_rfl) (Qt_load1 rfl) rfl ?_
  refine DLF_q (i := 12) (by kernel_rfl) rfl (by kernel_rfl) (by kernel_rfl) (Qt_move (.pointer _) rfl) rfl ?_
  refine DLF_q (i := 13) (by kernel_rfl) rfl (by kernel_rfl) (by kernel_rfl) (Qt_nilCheck rfl) rfl ?_
  refine DLF_q (i := 14) (by kernel_rfl) rfl (by kernel_rfl) (by kernel_rfl) (Qt_fieldAddr 116 rfl rfl) rfl ?_
  refine DLF_q (i := 15) (by kernel_rfl) rfl (by kernel_rfl) (by kernel_rfl) (Qt_load1 rfl) rfl ?_
  refine DLF_2 (i := 5) (j := 20) (by kernel_rfl) ?_ ?_
  ·
    refine DLS_e rfl rfl (Ef_call (next_c (p := p) (sa := sa) (sc := sc) (ls := ls) (e := e) (s := (some ⟨q, 0, none⟩)) (vo := vo) (st := st) (qu := qu) (cl := cl) (fe := fe)) rfl (fun x15 => ⟨(Subs.st inferInstance), ?_⟩))
    refine DLF_2 (i := 16) (j := 20) (by kernel_rfl) ?_ ?_
    ·
      refine DLS_e rfl rfl (Ef_call (swroteM_c (q := q) (pb := pb) (rb := rb) (sb := sb) (dk := dk) (lg := lg) (n := 1) (by decide)) rfl (fun x26 => ⟨(Subs.st inferInstance), ?_⟩))
      refine DLF_q (i := 17) (by kernel_rfl) rfl (by kernel_rfl) (by kernel_rfl) (Qt_move (.tuple _) rfl) rfl ?_
      refine DLF_q (i := 18) (by kernel_rfl) rfl (by kernel_rfl) (by kernel_rfl) (Qt_extract rfl) rfl ?_
      refine DLF_q (i := 19) (by kernel_rfl) rfl (by kernel_rfl) (by kernel_rfl) (Qt_extract rfl) rfl ?_
      refine DLF_1 (i := 20) (by kernel_rfl) ?_
      refine DLS_e rfl rfl (Ef_allocN (fun b2 => ⟨(Subs.st inferInstance), ?_⟩))
      refine DLF_1 (i := 21) (by kernel_rfl) ?_
      refine DLS_n rfl (Ef_storeN rfl rfl (⟨(Subs.st inferInstance), ?_⟩))
      refine DLF_q (i := 22) (by kernel_rfl) rfl (by kernel_rfl) (by kernel_rfl) (Qt_assign (.bool _) rfl) rfl ?_
      refine DLF_nil (by kernel_rfl) ?_
      refine X_then ?_
      refine T_seq ?_
      refine T_region ?_
      refine TL_q (Qt_move (.bool _) rfl) rfl ?_
      refine TL_nil ?_
      refine X_then ?_
      refine T_cond_false rfl (by first | rfl | decide) ?_
      refine T_skip ?_
      refine X_then ?_
      refine T_seq ?_
      refine T_drawF H (by kernel_rfl) (Subs.st inferInstance) ?_
      refine DLF_q (i := 0) (by kernel_rfl) rfl (by kernel_rfl) (by kernel_rfl) (Qt_move (.pointer _) rfl) rfl ?_
      refine DLF_q (i := 1) (by kernel_rfl) rfl (by kernel_rfl) (by kernel_rfl) (Qt_nilCheck rfl) rfl ?_
      refine DLF_q (i := 2) (by kernel_rfl) rfl (by kernel_rfl) (by kernel_rfl) (Qt_fieldAddr 47 rfl rfl) rfl ?_
      refine DLF_q (i := 3) (by kernel_rfl) rfl (by kernel_rfl) (by kernel_rfl) (Qt_load1 rfl) rfl ?_
      refine DLF_q (i := 4) (by kernel_rfl) rfl (by kernel_rfl) (by kernel_rfl) (Qt_move (.pointer _) rfl) rfl ?_
      refine DLF_2 (i := 5) (j := 10) (by kernel_rfl) ?_ ?_
      ·
        refine DLS_e rfl rfl (Ef_call (next_c (p := p) (sa := sa) (sc := sc) (ls := ls) (e := e) (s := (some ⟨q, 0, none⟩)) (vo := vo) (st := st) (qu := qu) (cl := cl) (fe := fe)) rfl (fun x68 => ⟨(Subs.st inferInstance), ?_⟩))
        refine DLF_2 (i := 6) (j := 10) (by kernel_rfl) ?_ ?_
        ·
          refine DLS_e rfl rfl (Ef_call (sacceptedM_c (q := q) (pb := pb) (rb := rb) (sb := sb) (dk := dk) (lg := lg) (n := 1) (by decide)) rfl (fun x69 => ⟨(Subs.st inferInstance), ?_⟩))
          refine DLF_q (i := 7) (by kernel_rfl) rfl (by kernel_rfl) (by kernel_rfl) (Qt_move (.tuple _) rfl) rfl ?_
          refine DLF_q (i := 8) (by kernel_rfl) rfl (by kernel_rfl) (by kernel_rfl) (Qt_extract rfl) rfl ?_
          refine DLF_q (i := 9) (by kernel_rfl) rfl (by kernel_rfl) (by kernel_rfl) (Qt_extract rfl) rfl ?_
          refine DLF_1 (i := 10) (by kernel_rfl) ?_
          refine DLS_e rfl rfl (Ef_allocN (fun b4 => ⟨(Subs.st inferInstance), ?_⟩))
          refine DLF_1 (i := 11) (by kernel_rfl) ?_
          refine DLS_n rfl (Ef_storeN rfl rfl (⟨(Subs.st inferInstance), ?_⟩))
          refine DLF_q (i := 12) (by kernel_rfl) rfl (by kernel_rfl) (by kernel_rfl) (Qt_assign (.bool _) rfl) rfl ?_
          refine DLF_nil (by kernel_rfl) ?_
          refine X_then ?_
          refine T_seq ?_
          refine T_draw H [(0, true), (1, true), (2, true), (3, true), (4, true), (5, true), (6, true), (7, true), (8, true), (9, true), (10, true), (11, true)] (by kernel_rfl) (by kernel_rfl) rfl (by kernel_rfl) (Subs.st inferInstance) (fun hns0 => ?_)
          refine DL_q hns0 rfl (Qt_move (.bool _) rfl) rfl ?_
          refine DL_q hns0 rfl (Qt_move (.bool _) rfl) rfl ?_
          refine DL_split 73 rfl (fun h73 => ?_) (fun h73 => ?_)
          ·
            have p73 := h73
            try simp only [decide_eq_true_eq, decide_eq_false_iff_not, Bool.not_eq_true', Bool.not_eq_false', Option.isNone_iff_eq_none, ne_eq, Decidable.not_not, Int.not_lt, Int.not_le] at p73
            cases h73
          ·
            have p73 := h73
            try simp only [decide_eq_true_eq, decide_eq_false_iff_not, Bool.not_eq_true', Bool.not_eq_false', Option.isNone_iff_eq_none, ne_eq, Decidable.not_not, Int.not_lt, Int.not_le] at p73
            refine DL_pass hns0 rfl rfl rfl h73 rfl ?_
            refine DL_pass hns0 rfl rfl rfl h73 rfl ?_
            refine DL_pass hns0 rfl rfl rfl h73 rfl ?_
            refine DL_pass hns0 rfl rfl rfl h73 rfl ?_
            refine DL_pass hns0 rfl rfl rfl h73 rfl ?_
            refine DL_pass hns0 rfl rfl rfl h73 rfl ?_
            refine DL_pass hns0 rfl rfl rfl h73 rfl ?_
            refine DL_pass hns0 rfl rfl rfl h73 rfl ?_
            refine DL_pass hns0 rfl rfl rfl h73 rfl ?_
            refine DL_q hns0 rfl (Qt_pick_f (.bool _) rfl h73 rfl) rfl ?_
            refine DL_nil ?_
            refine X_then ?_
            refine T_cond_false rfl (by first | rfl | decide) ?_
            refine T_skip ?_
            exact X_ret () [] Tryz.results75 trivial rfl (Subs.st inferInstance)
        ·
          refine DLS_e rfl rfl (Ef_allocN (fun b4 => ⟨(Subs.st inferInstance), ?_⟩))
          refine DLF_1 (i := 6) (by kernel_rfl) ?_
          refine DLS_e rfl rfl (Ef_call (sacceptedM_c (q := q) (pb := pb) (rb := rb) (sb := sb) (dk := dk) (lg := lg) (n := 1) (by decide)) rfl (fun x69 => ⟨(Subs.st inferInstance), ?_⟩))
          refine DLF_q (i := 7) (by kernel_rfl) rfl (by kernel_rfl) (by kernel_rfl) (Qt_move (.tuple _) rfl) rfl ?_
          refine DLF_q (i := 8) (by kernel_rfl) rfl (by kernel_rfl) (by kernel_rfl) (Qt_extract rfl) rfl ?_
          refine DLF_q (i := 9) (by kernel_rfl) rfl (by kernel_rfl) (by kernel_rfl) (Qt_extract rfl) rfl ?_
          refine DLF_1 (i := 11) (by kernel_rfl) ?_
          refine DLS_n rfl (Ef_storeN rfl rfl (⟨(Subs.st inferInstance), ?_⟩))
          refine DLF_q (i := 12) (by kernel_rfl) rfl (by kernel_rfl) (by kernel_rfl) (Qt_assign (.bool _) rfl) rfl ?_
          refine DLF_nil (by kernel_rfl) ?_
          refine X_then ?_
          refine T_seq ?_
          refine T_draw H [(0, true), (1, true), (2, true), (3, true), (4, true), (5, true), (6, true), (7, true), (8, true), (9, true), (10, true), (11, true)] (by kernel_rfl) (by kernel_rfl) rfl (by kernel_rfl) (Subs.st inferInstance) (fun hns1 => ?_)
          refine DL_q hns1 rfl (Qt_move (.bool _) rfl) rfl ?_
          refine DL_q hns1 rfl (Qt_move (.bool _) rfl) rfl ?_
          refine DL_split 73 rfl (fun h73 => ?_) (fun h73 => ?_)
          ·
            have p73 := h73
            try simp only [decide_eq_true_eq, decide_eq_false_iff_not, Bool.not_eq_true', Bool.not_eq_false', Option.isNone_iff_eq_none, ne_eq, Decidable.not_not, Int.not_lt, Int.not_le] at p73
            cases h73
          ·
            have p73 := h73
            try simp only [decide_eq_true_eq, decide_eq_false_iff_not, Bool.not_eq_true', Bool.not_eq_false', Option.isNone_iff_eq_none, ne_eq, Decidable.not_not, Int.not_lt, Int.not_le] at p73
            refine DL_pass hns1 rfl rfl rfl h73 rfl ?_
            refine DL_pass hns1 rfl rfl rfl h73 rfl ?_
            refine DL_pass hns1 rfl rfl rfl h73 rfl ?_
            refine DL_pass hns1 rfl rfl rfl h73 rfl ?_
            refine DL_pass hns1 rfl rfl rfl h73 rfl ?_
            refine DL_pass hns1 rfl rfl rfl h73 rfl ?_
            refine DL_pass hns1 rfl rfl rfl h73 rfl ?_
            refine DL_pass hns1 rfl rfl rfl h73 rfl ?_
            refine DL_pass hns1 rfl rfl rfl h73 rfl ?_
            refine DL_q hns1 rfl (Qt_pick_f (.bool _) rfl h73 rfl) rfl ?_
            refine DL_nil ?_
            refine X_then ?_
            refine T_cond_false rfl (by first | rfl | decide) ?_
            refine T_skip ?_
            exact X_ret () [] Tryz.results75 trivial rfl (Subs.st inferInstance)
      ·
        refine DLS_e rfl rfl (Ef_allocN (fun b4 => ⟨(Subs.st inferInstance), ?_⟩))
        refine DLF_1 (i := 5) (by kernel_rfl) ?_
        refine DLS_e rfl rfl (Ef_call (next_c (p := p) (sa := sa) (sc := sc) (ls := ls) (e := e) (s := (some ⟨q, 0, none⟩)) (vo := vo) (st := st) (qu := qu) (cl := cl) (fe := fe)) rfl (fun x68 => ⟨(Subs.st inferInstance), ?_⟩))
        refine DLF_1 (i := 6) (by kernel_rfl) ?_
        refine DLS_e rfl rfl (Ef_call (sacceptedM_c (q := q) (pb := pb) (rb := rb) (sb := sb) (dk := dk) (lg := lg) (n := 1) (by decide)) rfl (fun x69 => ⟨(Subs.st inferInstance), ?_⟩))
        refine DLF_q (i := 7) (by kernel_rfl) rfl (by kernel_rfl) (by kernel_rfl) (Qt_move (.tuple _) rfl) rfl ?_
        refine DLF_q (i := 8) (by kernel_rfl) rfl (by kernel_rfl) (by kernel_rfl) (Qt_extract rfl) rfl ?_
        refine DLF_q (i := 9) (by kernel_rfl) rfl (by kernel_rfl) (by kernel_rfl) (Qt_extract rfl) rfl ?_
        refine DLF_1 (i := 11) (by kernel_rfl) ?_
        refine DLS_n rfl (Ef_storeN rfl rfl (⟨(Subs.st inferInstance), ?_⟩))
        refine DLF_q (i := 12) (by kernel_rfl) rfl (by kernel_rfl) (by kernel_rfl) (Qt_assign (.bool _) rfl) rfl ?_
        refine DLF_nil (by kernel_rfl) ?_
        refine X_then ?_
        refine T_seq ?_
        refine T_draw H [(0, true), (1, true), (2, true), (3, true), (4, true), (5, true), (6, true), (7, true), (8, true), (9, true), (10, true), (11, true)] (by kernel_rfl) (by kernel_rfl) rfl (by kernel_rfl) (Subs.st inferInstance) (fun hns2 => ?_)
        refine DL_q hns2 rfl (Qt_move (.bool _) rfl) rfl ?_
        refine DL_q hns2 rfl (Qt_move (.bool _) rfl) rfl ?_
        refine DL_split 73 rfl (fun h73 => ?_) (fun h73 => ?_)
        ·
          have p73 := h73
          try simp only [decide_eq_true_eq, decide_eq_false_iff_not, Bool.not_eq_true', Bool.not_eq_false', Option.isNone_iff_eq_none, ne_eq, Decidable.not_not, Int.not_lt, Int.not_le] at p73
          cases h73
        ·
          have p73 := h73
          try simp only [decide_eq_true_eq, decide_eq_false_iff_not, Bool.not_eq_true', Bool.not_eq_false', Option.isNone_iff_eq_none, ne_eq, Decidable.not_not, Int.not_lt, Int.not_le] at p73
          refine DL_pass hns2 rfl rfl rfl h73 rfl ?_
          refine DL_pass hns2 rfl rfl rfl h73 rfl ?_
          refine DL_pass hns2 rfl rfl rfl h73 rfl ?_
          refine DL_pass hns2 rfl rfl rfl h73 rfl ?_
          refine DL_pass hns2 rfl rfl rfl h73 rfl ?_
          refine DL_pass hns2 rfl rfl rfl h73 rfl ?_
          refine DL_pass hns2 rfl rfl rfl h73 rfl ?_
          refine DL_pass hns2 rfl rfl rfl h73 rfl ?_
          refine DL_pass hns2 rfl rfl rfl h73 rfl ?_
          refine DL_q hns2 rfl (Qt_pick_f (.bool _) rfl h73 rfl) rfl ?_
          refine DL_nil ?_
          refine X_then ?_
          refine T_cond_false rfl (by first | rfl | decide) ?_
          refine T_skip ?_
          exact X_ret () [] Tryz.results75 trivial rfl (Subs.st inferInstance)
    ·
      refine DLS_e rfl rfl (Ef_allocN (fun b2 => ⟨(Subs.st inferInstance), ?_⟩))
      refine DLF_1 (i := 16) (by kernel_rfl) ?_
      refine DLS_e rfl rfl (Ef_call (swroteM_c (q := q) (pb := pb) (rb := rb) (sb := sb) (dk := dk) (lg := lg) (n := 1) (by decide)) rfl (fun x26 => ⟨(Subs.st inferInstance), ?_⟩))
      refine DLF_q (i := 17) (by kernel_rfl) rfl (by kernel_rfl) (by kernel_rfl) (Qt_move (.tuple _) rfl) rfl ?_
      refine DLF_q (i := 18) (by kernel_rfl) rfl (by kernel_rfl) (by kernel_rfl) (Qt_extract rfl) rfl ?_
      refine DLF_q (i := 19) (by kernel_rfl) rfl (by kernel_rfl) (by kernel_rfl) (Qt_extract rfl) rfl ?_
      refine DLF_1 (i := 21) (by kernel_rfl) ?_
      refine DLS_n rfl (Ef_storeN rfl rfl (⟨(Subs.st inferInstance), ?_⟩))
      refine DLF_q (i := 22) (by kernel_rfl) rfl (by kernel_rfl) (by kernel_rfl) (Qt_assign (.bool _) rfl) rfl ?_
      refine DLF_nil (by kernel_rfl) ?_
      refine X_then ?_
      refine T_seq ?_
      refine T_region ?_
      refine TL_q (Qt_move (.bool _) rfl) rfl ?_
      refine TL_nil ?_
      refine X_then ?_
      refine T_cond_false rfl (by first | rfl | decide) ?_
      refine T_skip ?_
      refine X_then ?_
      refine T_seq ?_
      refine T_drawF H (by kernel_rfl) (Subs.st inferInstance) ?_
      refine DLF_q (i := 0) (by kernel_rfl) rfl (by kernel_rfl) (by kernel_rfl) (Qt_move (.pointer _) rfl) rfl ?_
      refine DLF_q (i := 1) (by kernel_rfl) rfl (by kernel_rfl) (by kernel_rfl) (Qt_nilCheck rfl) rfl ?_
      refine DLF_q (i := 2) (by kernel_rfl) rfl (by kernel_rfl) (by kernel_rfl) (Qt_fieldAddr 47 rfl rfl) rfl ?_
      refine DLF_q (i := 3) (by kernel_rfl) rfl (by kernel_rfl) (by kernel_rfl) (Qt_load1 rfl) rfl ?_
      refine DLF_q (i := 4) (by kernel_rfl) rfl (by kernel_rfl) (by kernel_rfl) (Qt_move (.pointer _) rfl) rfl ?_
      refine DLF_2 (i := 5) (j := 10) (by kernel_rfl) ?_ ?_
      ·
        refine DLS_e rfl rfl (Ef_call (next_c (p := p) (sa := sa) (sc := sc) (ls := ls) (e := e) (s := (some ⟨q, 0, none⟩)) (vo := vo) (st := st) (qu := qu) (cl := cl) (fe := fe)) rfl (fun x68 => ⟨(Subs.st inferInstance), ?_⟩))
        refine DLF_2 (i := 6) (j := 10) (by kernel_rfl) ?_ ?_
        ·
          refine DLS_e rfl rfl (Ef_call (sacceptedM_c (q := q) (pb := pb) (rb := rb) (sb := sb) (dk := dk) (lg := lg) (n := 1) (by decide)) rfl (fun x69 => ⟨(Subs.st inferInstance), ?_⟩))
          refine DLF_q (i := 7) (by kernel_rfl) rfl (by kernel_rfl) (by kernel_rfl) (Qt_move (.tuple _) rfl) rfl ?_
          refine DLF_q (i := 8) (by kernel_rfl) rfl (by kernel_rfl) (by kernel_rfl) (Qt_extract rfl) rfl ?_
          refine DLF_q (i := 9) (by kernel_rfl) rfl (by kernel_rfl) (by kernel_rfl) (Qt_extract rfl) rfl ?_
          refine DLF_1 (i := 10) (by kernel_rfl) ?_
          refine DLS_e rfl rfl (Ef_allocN (fun b4 => ⟨(Subs.st inferInstance), ?_⟩))
          refine DLF_1 (i := 11) (by kernel_rfl) ?_
          refine DLS_n rfl (Ef_storeN rfl rfl (⟨(Subs.st inferInstance), ?_⟩))
          refine DLF_q (i := 12) (by kernel_rfl) rfl (by kernel_rfl) (by kernel_rfl) (Qt_assign (.bool _) rfl) rfl ?_
          refine DLF_nil (by kernel_rfl) ?_
          refine X_then ?_
          refine T_seq ?_
          refine T_draw H [(0, true), (1, true), (2, true), (3, true), (4, true), (5, true), (6, true), (7, true), (8, true), (9, true), (10, true), (11, true)] (by kernel_rfl) (by kernel_rfl) rfl (by kernel_rfl) (Subs.st inferInstance) (fun hns3 => ?_)
          refine DL_q hns3 rfl (Qt_move (.bool _) rfl) rfl ?_
          refine DL_q hns3 rfl (Qt_move (.bool _) rfl) rfl ?_
          refine DL_split 73 rfl (fun h73 => ?_) (fun h73 => ?_)
          ·
            have p73 := h73
            try simp only [decide_eq_true_eq, decide_eq_false_iff_not, Bool.not_eq_true', Bool.not_eq_false', Option.isNone_iff_eq_none, ne_eq, Decidable.not_not, Int.not_lt, Int.not_le] at p73
            cases h73
          ·
            have p73 := h73
            try simp only [decide_eq_true_eq, decide_eq_false_iff_not, Bool.not_eq_true', Bool.not_eq_false', Option.isNone_iff_eq_none, ne_eq, Decidable.not_not, Int.not_lt, Int.not_le] at p73
            refine DL_pass hns3 rfl rfl rfl h73 rfl ?_
            refine DL_pass hns3 rfl rfl rfl h73 rfl ?_
            refine DL_pass hns3 rfl rfl rfl h73 rfl ?_
            refine DL_pass hns3 rfl rfl rfl h73 rfl ?_
            refine DL_pass hns3 rfl rfl rfl h73 rfl ?_
            refine DL_pass hns3 rfl rfl rfl h73 rfl ?_
            refine DL_pass hns3 rfl rfl rfl h73 rfl ?_
            refine DL_pass hns3 rfl rfl rfl h73 rfl ?_
            refine DL_pass hns3 rfl rfl rfl h73 rfl ?_
            refine DL_q hns3 rfl (Qt_pick_f (.bool _) rfl h73 rfl) rfl ?_
            refine DL_nil ?_
            refine X_then ?_
            refine T_cond_false rfl (by first | rfl | decide) ?_
            refine T_skip ?_
            exact X_ret () [] Tryz.results75 trivial rfl (Subs.st inferInstance)
        ·
          refine DLS_e rfl rfl (Ef_allocN (fun b4 => ⟨(Subs.st inferInstance), ?_⟩))
          refine DLF_1 (i := 6) (by kernel_rfl) ?_
          refine DLS_e rfl rfl (Ef_call (sacceptedM_c (q := q) (pb := pb) (rb := rb) (sb := sb) (dk := dk) (lg := lg) (n := 1) (by decide)) rfl (fun x69 => ⟨(Subs.st inferInstance), ?_⟩))
          refine DLF_q (i := 7) (by kernel_rfl) rfl (by kernel_rfl) (by kernel_rfl) (Qt_move (.tuple _) rfl) rfl ?_
          refine DLF_q (i := 8) (by kernel_rfl) rfl (by kernel_rfl) (by kernel_rfl) (Qt_extract rfl) rfl ?_
          refine DLF_q (i := 9) (by kernel_rfl) rfl (by kernel_rfl) (by kernel_rfl) (Qt_extract rfl) rfl ?_
          refine DLF_1 (i := 11) (by kernel_rfl) ?_
          refine DLS_n rfl (Ef_storeN rfl rfl (⟨(Subs.st inferInstance), ?_⟩))
          refine DLF_q (i := 12) (by kernel_rfl) rfl (by kernel_rfl) (by kernel_rfl) (Qt_assign (.bool _) rfl) rfl ?_
          refine DLF_nil (by kernel_rfl) ?_
          refine X_then ?_
          refine T_seq ?_
          refine T_draw H [(0, true), (1, true), (2, true), (3, true), (4, true), (5, true), (6, true), (7, true), (8, true), (9, true), (10, true), (11, true)] (by kernel_rfl) (by kernel_rfl) rfl (by kernel_rfl) (Subs.st inferInstance) (fun hns4 => ?_)
          refine DL_q hns4 rfl (Qt_move (.bool _) rfl) rfl ?_
          refine DL_q hns4 rfl (Qt_move (.bool _) rfl) rfl ?_
          refine DL_split 73 rfl (fun h73 => ?_) (fun h73 => ?_)
          ·
            have p73 := h73
            try simp only [decide_eq_true_eq, decide_eq_false_iff_not, Bool.not_eq_true', Bool.not_eq_false', Option.isNone_iff_eq_none, ne_eq, Decidable.not_not, Int.not_lt, Int.not_le] at p73
            cases h73
          ·
            have p73 := h73
            try simp only [decide_eq_true_eq, decide_eq_false_iff_not, Bool.not_eq_true', Bool.not_eq_false', Option.isNone_iff_eq_none, ne_eq, Decidable.not_not, Int.not_lt, Int.not_le] at p73
            refine DL_pass hns4 rfl rfl rfl h73 rfl ?_
            refine DL_pass hns4 rfl rfl rfl h73 rfl ?_
            refine DL_pass hns4 rfl rfl rfl h73 rfl ?_
            refine DL_pass hns4 rfl rfl rfl h73 rfl ?_
            refine DL_pass hns4 rfl rfl rfl h73 rfl ?_
            refine DL_pass hns4 rfl rfl rfl h73 rfl ?_
            refine DL_pass hns4 rfl rfl rfl h73 rfl ?_
            refine DL_pass hns4 rfl rfl rfl h73 rfl ?_
            refine DL_pass hns4 rfl rfl rfl h73 rfl ?_
            refine DL_q hns4 rfl (Qt_pick_f (.bool _) rfl h73 rfl) rfl ?_
            refine DL_nil ?_
            refine X_then ?_
            refine T_cond_false rfl (by first | rfl | decide) ?_
            refine T_skip ?_
            exact X_ret () [] Tryz.results75 trivial rfl (Subs.st inferInstance)
      ·
        refine DLS_e rfl rfl (Ef_allocN (fun b4 => ⟨(Subs.st inferInstance), ?_⟩))
        refine DLF_1 (i := 5) (by kernel_rfl) ?_
        refine DLS_e rfl rfl (Ef_call (next_c (p := p) (sa := sa) (sc := sc) (ls := ls) (e := e) (s := (some ⟨q, 0, none⟩)) (vo := vo) (st := st) (qu := qu) (cl := cl) (fe := fe)) rfl (fun x68 => ⟨(Subs.st inferInstance), ?_⟩))
        refine DLF_1 (i := 6) (by kernel_rfl) ?_
        refine DLS_e rfl rfl (Ef_call (sacceptedM_c (q := q) (pb := pb) (rb := rb) (sb := sb) (dk := dk) (lg := lg) (n := 1) (by decide)) rfl (fun x69 => ⟨(Subs.st inferInstance), ?_⟩))
        refine DLF_q (i := 7) (by kernel_rfl) rfl (by kernel_rfl) (by kernel_rfl) (Qt_move (.tuple _) rfl) rfl ?_
        refine DLF_q (i := 8) (by kernel_rfl) rfl (by kernel_rfl) (by kernel_rfl) (Qt_extract rfl) rfl ?_
        refine DLF_q (i := 9) (by kernel_rfl) rfl (by kernel_rfl) (by kernel_rfl) (Qt_extract rfl) rfl ?_
        refine DLF_1 (i := 11) (by kernel_rfl) ?_
        refine DLS_n rfl (Ef_storeN rfl rfl (⟨(Subs.st inferInstance), ?_⟩))
        refine DLF_q (i := 12) (by kernel_rfl) rfl (by kernel_rfl) (by kernel_rfl) (Qt_assign (.bool _) rfl) rfl ?_
        refine DLF_nil (by kernel_rfl) ?_
        refine X_then ?_
        refine T_seq ?_
        refine T_draw H [(0, true), (1, true), (2, true), (3, true), (4, true), (5, true), (6, true), (7, true), (8, true), (9, true), (10, true), (11, true)] (by kernel_rfl) (by kernel_rfl) rfl (by kernel_rfl) (Subs.st inferInstance) (fun hns5 => ?_)
        refine DL_q hns5 rfl (Qt_move (.bool _) rfl) rfl ?_
        refine DL_q hns5 rfl (Qt_move (.bool _) rfl) rfl ?_
        refine DL_split 73 rfl (fun h73 => ?_) (fun h73 => ?_)
        ·
          have p73 := h73
          try simp only [decide_eq_true_eq, decide_eq_false_iff_not, Bool.not_eq_true', Bool.not_eq_false', Option.isNone_iff_eq_none, ne_eq, Decidable.not_not, Int.not_lt, Int.not_le] at p73
          cases h73
        ·
          have p73 := h73
          try simp only [decide_eq_true_eq, decide_eq_false_iff_not, Bool.not_eq_true', Bool.not_eq_false', Option.isNone_iff_eq_none, ne_eq, Decidable.not_not, Int.not_lt, Int.not_le] at p73
          refine DL_pass hns5 rfl rfl rfl h73 rfl ?_
          refine DL_pass hns5 rfl rfl rfl h73 rfl ?_
          refine DL_pass hns5 rfl rfl rfl h73 rfl ?_
          refine DL_pass hns5 rfl rfl rfl h73 rfl ?_
          refine DL_pass hns5 rfl rfl rfl h73 rfl ?_
          refine DL_pass hns5 rfl rfl rfl h73 rfl ?_
          refine DL_pass hns5 rfl rfl rfl h73 rfl ?_
          refine DL_pass hns5 rfl rfl rfl h73 rfl ?_
          refine DL_pass hns5 rfl rfl rfl h73 rfl ?_
          refine DL_q hns5 rfl (Qt_pick_f (.bool _) rfl h73 rfl) rfl ?_
          refine DL_nil ?_
          refine X_then ?_
          refine T_cond_false rfl (by first | rfl | decide) ?_
          refine T_skip ?_
          exact X_ret () [] Tryz.results75 trivial rfl (Subs.st inferInstance)
  ·
    refine DLS_e rfl rfl (Ef_allocN (fun b2 => ⟨(Subs.st inferInstance), ?_⟩))
    refine DLF_1 (i := 5) (by kernel_rfl) ?_
    refine DLS_e rfl rfl (Ef_call (next_c (p := p) (sa := sa) (sc := sc) (ls := ls) (e := e) (s := (some ⟨q, 0, none⟩)) (vo := vo) (st := st) (qu := qu) (cl := cl) (fe := fe)) rfl (fun x15 => ⟨(Subs.st inferInstance), ?_⟩))
    refine DLF_1 (i := 16) (by kernel_rfl) ?_
    refine DLS_e rfl rfl (Ef_call (swroteM_c (q := q) (pb := pb) (rb := rb) (sb := sb) (dk := dk) (lg := lg) (n := 1) (by decide)) rfl (fun x26 => ⟨(Subs.st inferInstance), ?_⟩))
    refine DLF_q (i := 17) (by kernel_rfl) rfl (by kernel_rfl) (by kernel_rfl) (Qt_move (.tuple _) rfl) rfl ?_
    refine DLF_q (i := 18) (by kernel_rfl) rfl (by kernel_rfl) (by kernel_rfl) (Qt_extract rfl) rfl ?_
    refine DLF_q (i := 19) (by kernel_rfl) rfl (by kernel_rfl) (by kernel_rfl) (Qt_extract rfl) rfl ?_
    refine DLF_1 (i := 21) (by kernel_rfl) ?_
    refine DLS_n rfl (Ef_storeN rfl rfl (⟨(Subs.st inferInstance), ?_⟩))
    refine DLF_q (i := 22) (by kernel_rfl) rfl (by kernel_rfl) (by kernel_rfl) (Qt_assign (.bool _) rfl) rfl ?_
    refine DLF_nil (by kernel_rfl) ?_
    refine X_then ?_
    refine T_seq ?_
    refine T_region ?_
    refine TL_q (Qt_move (.bool _) rfl) rfl ?_
    refine TL_nil ?_
    refine X_then ?_
    refine T_cond_false rfl (by first | rfl | decide) ?_
    refine T_skip ?_
    refine X_then ?_
    refine T_seq ?_
    refine T_drawF H (by kernel_rfl) (Subs.st inferInstance) ?_
    refine DLF_q (i := 0) (by kernel_rfl) rfl (by kernel_rfl) (by kernel_rfl) (Qt_move (.pointer _) rfl) rfl ?_
    refine DLF_q (i := 1) (by kernel_rfl) rfl (by kernel_rfl) (by kernel_rfl) (Qt_nilCheck rfl) rfl ?_
    refine DLF_q (i := 2) (by kernel_rfl) rfl (by kernel_rfl) (by kernel_rfl) (Qt_fieldAddr 47 rfl rfl) rfl ?_
    refine DLF_q (i := 3) (by kernel_rfl) rfl (by kernel_rfl) (by kernel_rfl) (Qt_load1 rfl) rfl ?_
    refine DLF_q (i := 4) (by kernel_rfl) rfl (by kernel_rfl) (by kernel_rfl) (Qt_move (.pointer _) rfl) rfl ?_
    refine DLF_2 (i := 5) (j := 10) (by kernel_rfl) ?_ ?_
    ·
      refine DLS_e rfl rfl (Ef_call (next_c (p := p) (sa := sa) (sc := sc) (ls := ls) (e := e) (s := (some ⟨q, 0, none⟩)) (vo := vo) (st := st) (qu := qu) (cl := cl) (fe := fe)) rfl (fun x68 => ⟨(Subs.st inferInstance), ?_⟩))
      refine DLF_2 (i := 6) (j := 10) (by kernel_rfl) ?_ ?_
      ·
        refine DLS_e rfl rfl (Ef_call (sacceptedM_c (q := q) (pb := pb) (rb := rb) (sb := sb) (dk := dk) (lg := lg) (n := 1) (by decide)) rfl (fun x69 => ⟨(Subs.st inferInstance), ?_⟩))
        refine DLF_q (i := 7) (by kernel_rfl) rfl (by kernel_rfl) (by kernel_rfl) (Qt_move (.tuple _) rfl) rfl ?_
        refine DLF_q (i := 8) (by kernel_rfl) rfl (by kernel_rfl) (by kernel_rfl) (Qt_extract rfl) rfl ?_
        refine DLF_q (i := 9) (by kernel_rfl) rfl (by kernel_rfl) (by kernel_rfl) (Qt_extract rfl) rfl ?_
        refine DLF_1 (i := 10) (by kernel_rfl) ?_
        refine DLS_e rfl rfl (Ef_allocN (fun b4 => ⟨(Subs.st inferInstance), ?_⟩))
        refine DLF_1 (i := 11) (by kernel_rfl) ?_
        refine DLS_n rfl (Ef_storeN rfl rfl (⟨(Subs.st inferInstance), ?_⟩))
        refine DLF_q (i := 12) (by kernel_rfl) rfl (by kernel_rfl) (by kernel_rfl) (Qt_assign (.bool _) rfl) rfl ?_
        refine DLF_nil (by kernel_rfl) ?_
        refine X_then ?_
        refine T_seq ?_
        refine T_draw H [(0, true), (1, true), (2, true), (3, true), (4, true), (5, true), (6, true), (7, true), (8, true), (9, true), (10, true), (11, true)] (by kernel_rfl) (by kernel_rfl) rfl (by kernel_rfl) (Subs.st inferInstance) (fun hns6 => ?_)
        refine DL_q hns6 rfl (Qt_move (.bool _) rfl) rfl ?_
        refine DL_q hns6 rfl (Qt_move (.bool _) rfl) rfl ?_
        refine DL_split 73 rfl (fun h73 => ?_) (fun h73 => ?_)
        ·
          have p73 := h73
          try simp only [decide_eq_true_eq, decide_eq_false_iff_not, Bool.not_eq_true', Bool.not_eq_false', Option.isNone_iff_eq_none, ne_eq, Decidable.not_not, Int.not_lt, Int.not_le] at p73
          cases h73
        ·
          have p73 := h73
          try simp only [decide_eq_true_eq, decide_eq_false_iff_not, Bool.not_eq_true', Bool.not_eq_false', Option.isNone_iff_eq_none, ne_eq, Decidable.not_not, Int.not_lt, Int.not_le] at p73
          refine DL_pass hns6 rfl rfl rfl h73 rfl ?_
          refine DL_pass hns6 rfl rfl rfl h73 rfl ?_
          refine DL_pass hns6 rfl rfl rfl h73 rfl ?_
          refine DL_pass hns6 rfl rfl rfl h73 rfl ?_
          refine DL_pass hns6 rfl rfl rfl h73 rfl ?_
          refine DL_pass hns6 rfl rfl rfl h73 rfl ?_
          refine DL_pass hns6 rfl rfl rfl h73 rfl ?_
          refine DL_pass hns6 rfl rfl rfl h73 rfl ?_
          refine DL_pass hns6 rfl rfl rfl h73 rfl ?_
          refine DL_q hns6 rfl (Qt_pick_f (.bool _) rfl h73 rfl) rfl ?_
          refine DL_nil ?_
          refine X_then ?_
          refine T_cond_false rfl (by first | rfl | decide) ?_
          refine T_skip ?_
          exact X_ret () [] Tryz.results75 trivial rfl (Subs.st inferInstance)
      ·
        refine DLS_e rfl rfl (Ef_allocN (fun b4 => ⟨(Subs.st inferInstance), ?_⟩))
        refine DLF_1 (i := 6) (by kernel_rfl) ?_
        refine DLS_e rfl rfl (Ef_call (sacceptedM_c (q := q) (pb := pb) (rb := rb) (sb := sb) (dk := dk) (lg := lg) (n := 1) (by decide)) rfl (fun x69 => ⟨(Subs.st inferInstance), ?_⟩))
        refine DLF_q (i := 7) (by kernel_rfl) rfl (by kernel_rfl) (by kernel_rfl) (Qt_move (.tuple _) rfl) rfl ?_
        refine DLF_q (i := 8) (by kernel_rfl) rfl (by kernel_rfl) (by kernel_rfl) (Qt_extract rfl) rfl ?_
        refine DLF_q (i := 9) (by kernel_rfl) rfl (by kernel_rfl) (by kernel_rfl) (Qt_extract rfl) rfl ?_
        refine DLF_1 (i := 11) (by kernel_rfl) ?_
        refine DLS_n rfl (Ef_storeN rfl rfl (⟨(Subs.st inferInstance), ?_⟩))
        refine DLF_q (i := 12) (by kernel_rfl) rfl (by kernel_rfl) (by kernel_rfl) (Qt_assign (.bool _) rfl) rfl ?_
        refine DLF_nil (by kernel_rfl) ?_
        refine X_then ?_
        refine T_seq ?_
        refine T_draw H [(0, true), (1, true), (2, true), (3, true), (4, true), (5, true), (6, true), (7, true), (8, true), (9, true), (10, true), (11, true)] (by kernel_rfl) (by kernel_rfl) rfl (by kernel_rfl) (Subs.st inferInstance) (fun hns7 => ?_)
        refine DL_q hns7 rfl (Qt_move (.bool _) rfl) rfl ?_
        refine DL_q hns7 rfl (Qt_move (.bool _) rfl) rfl ?_
        refine DL_split 73 rfl (fun h73 => ?_) (fun h73 => ?_)
        ·
          have p73 := h73
          try simp only [decide_eq_true_eq, decide_eq_false_iff_not, Bool.not_eq_true', Bool.not_eq_false', Option.isNone_iff_eq_none, ne_eq, Decidable.not_not, Int.not_lt, Int.not_le] at p73
          cases h73
        ·
          have p73 := h73
          try simp only [decide_eq_true_eq, decide_eq_false_iff_not, Bool.not_eq_true', Bool.not_eq_false', Option.isNone_iff_eq_none, ne_eq, Decidable.not_not, Int.not_lt, Int.not_le] at p73
          refine DL_pass hns7 rfl rfl rfl h73 rfl ?_
          refine DL_pass hns7 rfl rfl rfl h73 rfl ?_
          refine DL_pass hns7 rfl rfl rfl h73 rfl ?_
          refine DL_pass hns7 rfl rfl rfl h73 rfl ?_
          refine DL_pass hns7 rfl rfl rfl h73 rfl ?_
          refine DL_pass hns7 rfl rfl rfl h73 rfl ?_
          refine DL_pass hns7 rfl rfl rfl h73 rfl ?_
          refine DL_pass hns7 rfl rfl rfl h73 rfl ?_
          refine DL_pass hns7 rfl rfl rfl h73 rfl ?_
          refine DL_q hns7 rfl (Qt_pick_f (.bool _) rfl h73 rfl) rfl ?_
          refine DL_nil ?_
          refine X_then ?_
          refine T_cond_false rfl (by first | rfl | decide) ?_
          refine T_skip ?_
          exact X_ret () [] Tryz.results75 trivial rfl (Subs.st inferInstance)
    ·
      refine DLS_e rfl rfl (Ef_allocN (fun b4 => ⟨(Subs.st inferInstance), ?_⟩))
      refine DLF_1 (i := 5) (by kernel_rfl) ?_
      refine DLS_e rfl rfl (Ef_call (next_c (p := p) (sa := sa) (sc := sc) (ls := ls) (e := e) (s := (some ⟨q, 0, none⟩)) (vo := vo) (st := st) (qu := qu) (cl := cl) (fe := fe)) rfl (fun x68 => ⟨(Subs.st inferInstance), ?_⟩))
      refine DLF_1 (i := 6) (by kernel_rfl) ?_
      refine DLS_e rfl rfl (Ef_call (sacceptedM_c (q := q) (pb := pb) (rb := rb) (sb := sb) (dk := dk) (lg := lg) (n := 1) (by decide)) rfl (fun x69 => ⟨(Subs.st inferInstance), ?_⟩))
      refine DLF_q (i := 7) (by kernel_rfl) rfl (by kernel_rfl) (by kernel_rfl) (Qt_move (.tuple _) rfl) rfl ?_
      refine DLF_q (i := 8) (by kernel_rfl) rfl (by kernel_rfl) (by kernel_rfl) (Qt_extract rfl) rfl ?_
      refine DLF_q (i := 9) (by kernel_rfl) rfl (by kernel_rfl) (by kernel_rfl) (Qt_extract rfl) rfl ?_
      refine DLF_1 (i := 11) (by kernel_rfl) ?_
      refine DLS_n rfl (Ef_storeN rfl rfl (⟨(Subs.st inferInstance), ?_⟩))
      refine DLF_q (i := 12) (by kernel_rfl) rfl (by kernel_rfl) (by kernel_rfl) (Qt_assign (.bool _) rfl) rfl ?_
      refine DLF_nil (by kernel_rfl) ?_
      refine X_then ?_
      refine T_seq ?_
      refine T_draw H [(0, true), (1, true), (2, true), (3, true), (4, true), (5, true), (6, true), (7, true), (8, true), (9, true), (10, true), (11, true)] (by kernel_rfl) (by kernel_rfl) rfl (by kernel_rfl) (Subs.st inferInstance) (fun hns8 => ?_)
      refine DL_q hns8 rfl (Qt_move (.bool _) rfl) rfl ?_
      refine DL_q hns8 rfl (Qt_move (.bool _) rfl) rfl ?_
      refine DL_split 73 rfl (fun h73 => ?_) (fun h73 => ?_)
      ·
        have p73 := h73
        try simp only [decide_eq_true_eq, decide_eq_false_iff_not, Bool.not_eq_true', Bool.not_eq_false', Option.isNone_iff_eq_none, ne_eq, Decidable.not_not, Int.not_lt, Int.not_le] at p73
        cases h73
      ·
        have p73 := h73
        try simp only [decide_eq_true_eq, decide_eq_false_iff_not, Bool.not_eq_true', Bool.not_eq_false', Option.isNone_iff_eq_none, ne_eq, Decidable.not_not, Int.not_lt, Int.not_le] at p73
        refine DL_pass hns8 rfl rfl rfl h73 rfl ?_
        refine DL_pass hns8 rfl rfl rfl h73 rfl ?_
        refine DL_pass hns8 rfl rfl rfl h73 rfl ?_
        refine DL_pass hns8 rfl rfl rfl h73 rfl ?_
        refine DL_pass hns8 rfl rfl rfl h73 rfl ?_
        refine DL_pass hns8 rfl rfl rfl h73 rfl ?_
        refine DL_pass hns8 rfl rfl rfl h73 rfl ?_
        refine DL_pass hns8 rfl rfl rfl h73 rfl ?_
        refine DL_pass hns8 rfl rfl rfl h73 rfl ?_
        refine DL_q hns8 rfl (Qt_pick_f (.bool _) rfl h73 rfl) rfl ?_
        refine DL_nil ?_
        refine X_then ?_
        refine T_cond_false rfl (by first | rfl | decide) ?_
        refine T_skip ?_
        exact X_ret () [] Tryz.results75 trivial rfl (Subs.st inferInstance)
set_option maxHeartbeats 1000000 in
theorem slot_c {w0 : World} {H : List SA} {p : Nat} {sa : Option Addr} {sc : Nat} {ls : List BS} {vo st qu cl fe : Option Addr} {q pb rb : Nat} {sb dk lg : Option Addr} {g3 : Vector UInt8 32} {g4 : BS} {g5 : Int} {g6 : Option Nat} {g7 : BS} [rk : RdC w0 H (.slice sa ls.length sc) 1 (ls.map BS.val)] [rke : RdE w0 H ls] (hkl : ∀ x ∈ ls, x.l.length ≤ 4294967000) (hn : ls.length ≤ 1000) :
    CT Tryz.prog w0 (blk p (.cells (ReplicaV.mk (EraR.mk true 0 false g3 g4 g5 g6 g7) (ConfigV.mk 0 (KeysV.mk ⟨sa, sc, ls⟩ ⟨none, 0, 0⟩) (ViewV.mk 0 15) 2 8 3) (some ⟨q, 0, none⟩) (firstW 0 ((15 : Nat) : Int) 6) 0 vo st qu cl fe 0 ⟨none, 0, 0⟩ false).cells 77 (0, 0)) :: blk q (.cells (StoreV.mk sb dk lg (some ⟨pb, 0, none⟩) false).cells 147 (0, 0)) :: blk pb (.cells (bookM rb).cells 259 (0, 0)) :: blk rb (mapO encEr encVt [] 0) :: H) 38 [.pointer (some ⟨p, 0, none⟩)] (α := Nat × Nat) (fun _ => .tuple #[]) (fun y => blk p (.cells (ReplicaV.mk (EraR.mk true 0 false g3 g4 g5 g6 g7) (ConfigV.mk 0 (KeysV.mk ⟨sa, sc, ls⟩ ⟨none, 0, 0⟩) (ViewV.mk 0 15) 2 8 3) (some ⟨q, 0, none⟩) (firstW 0 ((15 : Nat) : Int) 6) 0 (some ⟨y.1, 0, none⟩) st qu cl (some ⟨y.2, 0, none⟩) 0 ⟨none, 0, 0⟩ false).cells 77 (0, 0)) :: blk q (.cells (StoreV.mk sb dk lg (some ⟨pb, 0, none⟩) false).cells 147 (0, 0)) :: blk pb (.cells (bookM rb).cells 259 (0, 0)) :: blk rb (mapO encEr encVt [] 0) :: H) := by
  refine CT_intro Tryz.func38 rfl Tryz.ntmps38 rfl ?_
  refine T_seq ?_
  refine T_draw (exB p 77 (fun vo : Option Addr => (ReplicaV.mk (EraR.mk true 0 false g3 g4 g5 g6 g7) (ConfigV.mk 0 (KeysV.mk ⟨sa, sc, ls⟩ ⟨none, 0, 0⟩) (ViewV.mk 0 15) 2 8 3) (some ⟨q, 0, none⟩) (firstW 0 ((15 : Nat) : Int) 6) 0 vo st qu cl fe 0 ⟨none, 0, 0⟩ false).cells) :: H) [(0, true), (1, true), (2, true), (3, true), (4, true), (5, true), (6, true), (7, true), (8, true), (9, true), (10, true), (11, true), (12, false), (13, false), (14, true), (15, true), (16, false)] (by kernel_rfl) (by kernel_rfl) rfl (by kernel_rfl) (fun w hw => St.toEx (f := (fun vo : Option Addr => (ReplicaV.mk (EraR.mk true 0 false g3 g4 g5 g6 g7) (ConfigV.mk 0 (KeysV.mk ⟨sa, sc, ls⟩ ⟨none, 0, 0⟩) (ViewV.mk 0 15) 2 8 3) (some ⟨q, 0, none⟩) (firstW 0 ((15 : Nat) : Int) 6) 0 vo st qu cl fe 0 ⟨none, 0, 0⟩ false).cells)) vo (Subs.st inferInstance w hw)) (fun hns0 => ?_)
  refine DL_q hns0 rfl (Qt_move (.pointer _) rfl) rfl ?_
  refine DL_q hns0 rfl (Qt_move (.pointer _) rfl) rfl ?_
  refine DL_q hns0 rfl (Qt_nilCheck rfl) rfl ?_
  refine DL_q hns0 rfl (Qt_fieldAddr 39 rfl rfl) rfl ?_
  refine DL_q hns0 rfl (Qt_fieldAddr 40 rfl rfl) rfl ?_
  refine DL_q hns0 rfl (Qt_loadXN (f := (fun vo : Option Addr => (ReplicaV.mk (EraR.mk true 0 false g3 g4 g5 g6 g7) (ConfigV.mk 0 (KeysV.mk ⟨sa, sc, ls⟩ ⟨none, 0, 0⟩) (ViewV.mk 0 15) 2 8 3) (some ⟨q, 0, none⟩) (firstW 0 ((15 : Nat) : Int) 6) 0 vo st qu cl fe 0 ⟨none, 0, 0⟩ false).cells)) (m := 125) ((KeysV.mk ⟨sa, sc, ls⟩ ⟨none, 0, 0⟩)).cells (List.mem_cons_self ..) rfl (fun _ => ReplicaV.size _) (fun _ => inferInstance) (by decide)) rfl ?_
  refine DL_q hns0 rfl (Qt_move (.pointer _) rfl) rfl ?_
  refine DL_q hns0 rfl (Qt_nilCheck rfl) rfl ?_
  refine DL_q hns0 rfl (Qt_fieldAddr 48 rfl rfl) rfl ?_
  refine DL_q hns0 rfl (Qt_fieldAddr 50 rfl rfl) rfl ?_
  refine DL_q hns0 rfl (Qt_loadXN (f := (fun vo : Option Addr => (ReplicaV.mk (EraR.mk true 0 false g3 g4 g5 g6 g7) (ConfigV.mk 0 (KeysV.mk ⟨sa, sc, ls⟩ ⟨none, 0, 0⟩) (ViewV.mk 0 15) 2 8 3) (some ⟨q, 0, none⟩) (firstW 0 ((15 : Nat) : Int) 6) 0 vo st qu cl fe 0 ⟨none, 0, 0⟩ false).cells)) (m := 125) ((ViewV.mk 0 ((15 : Nat) : Int))).cells (List.mem_cons_self ..) rfl (fun _ => ReplicaV.size _) (fun _ => inferInstance) (by decide)) rfl ?_
  refine DL_q hns0 rfl (Qt_move (.pointer _) rfl) rfl ?_
  refine DL_e rfl rfl (Ef_call (next_c (p := p) (sa := sa) (sc := sc) (ls := ls) (e := (EraR.mk true 0 false g3 g4 g5 g6 g7)) (s := (some ⟨q, 0, none⟩)) (vo := vo) (st := st) (qu := qu) (cl := cl) (fe := fe)) rfl (fun x16 => ⟨(fun w hw => St.toEx (f := (fun vo : Option Addr => (ReplicaV.mk (EraR.mk true 0 false g3 g4 g5 g6 g7) (ConfigV.mk 0 (KeysV.mk ⟨sa, sc, ls⟩ ⟨none, 0, 0⟩) (ViewV.mk 0 15) 2 8 3) (some ⟨q, 0, none⟩) (firstW 0 ((15 : Nat) : Int) 6) 0 vo st qu cl fe 0 ⟨none, 0, 0⟩ false).cells)) vo (Subs.st inferInstance w hw)), ?_⟩))
  refine DL_e rfl rfl (Ef_call (instNew_c (num := 0) (mk := 15) (slot := 1) (ls := ls) hkl hn) rfl (fun x17 => ⟨(fun w hw => St.toEx (f := (fun vo : Option Addr => (ReplicaV.mk (EraR.mk true 0 false g3 g4 g5 g6 g7) (ConfigV.mk 0 (KeysV.mk ⟨sa, sc, ls⟩ ⟨none, 0, 0⟩) (ViewV.mk 0 15) 2 8 3) (some ⟨q, 0, none⟩) (firstW 0 ((15 : Nat) : Int) 6) 0 vo st qu cl fe 0 ⟨none, 0, 0⟩ false).cells)) vo (Subs.st inferInstance w hw)), ?_⟩))
  refine DL_q hns0 rfl (Qt_nilCheck rfl) rfl ?_
  refine DL_q hns0 rfl (Qt_fieldAddr 117 rfl rfl) rfl ?_
  refine DL_n rfl (Ef_store1 (.pointer _) rfl rfl (⟨(fun w hw => St.toEx (f := (fun vo : Option Addr => (ReplicaV.mk (EraR.mk true 0 false g3 g4 g5 g6 g7) (ConfigV.mk 0 (KeysV.mk ⟨sa, sc, ls⟩ ⟨none, 0, 0⟩) (ViewV.mk 0 15) 2 8 3) (some ⟨q, 0, none⟩) (firstW 0 ((15 : Nat) : Int) 6) 0 vo st qu cl fe 0 ⟨none, 0, 0⟩ false).cells)) (some ⟨x17, 0, none⟩) (Subs.st inferInstance w hw)), ?_⟩))
  refine DL_nil ?_
  refine X_then ?_
  refine T_seq ?_
  refine T_draw (exB p 77 (fun fe : Option Addr => (ReplicaV.mk (EraR.mk true 0 false g3 g4 g5 g6 g7) (ConfigV.mk 0 (KeysV.mk ⟨sa, sc, ls⟩ ⟨none, 0, 0⟩) (ViewV.mk 0 15) 2 8 3) (some ⟨q, 0, none⟩) (firstW 0 ((15 : Nat) : Int) 6) 0 (some ⟨x17, 0, none⟩) st qu cl fe 0 ⟨none, 0, 0⟩ false).cells) :: H) [(0, true), (1, true), (2, true), (3, true), (4, true), (5, true), (6, true), (7, true), (8, true), (9, true), (10, true), (11, true), (12, true), (13, true), (14, true), (15, true), (16, false), (17, true), (18, true), (19, false)] (by kernel_rfl) (by kernel_rfl) rfl (by kernel_rfl) (fun w hw => St.toEx (f := (fun fe : Option Addr => (ReplicaV.mk (EraR.mk true 0 false g3 g4 g5 g6 g7) (ConfigV.mk 0 (KeysV.mk ⟨sa, sc, ls⟩ ⟨none, 0, 0⟩) (ViewV.mk 0 15) 2 8 3) (some ⟨q, 0, none⟩) (firstW 0 ((15 : Nat) : Int) 6) 0 (some ⟨x17, 0, none⟩) st qu cl fe 0 ⟨none, 0, 0⟩ false).cells)) fe (Subs.st inferInstance w hw)) (fun hns1 => ?_)
  refine DL_q hns1 rfl (Qt_move (.pointer _) rfl) rfl ?_
  refine DL_q hns1 rfl (Qt_move (.pointer _) rfl) rfl ?_
  refine DL_q hns1 rfl (Qt_nilCheck rfl) rfl ?_
  refine DL_q hns1 rfl (Qt_fieldAddr 39 rfl rfl) rfl ?_
  refine DL_q hns1 rfl (Qt_fieldAddr 40 rfl rfl) rfl ?_
  refine DL_q hns1 rfl (Qt_loadXN (f := (fun fe : Option Addr => (ReplicaV.mk (EraR.mk true 0 false g3 g4 g5 g6 g7) (ConfigV.mk 0 (KeysV.mk ⟨sa, sc, ls⟩ ⟨none, 0, 0⟩) (ViewV.mk 0 15) 2 8 3) (some ⟨q, 0, none⟩) (firstW 0 ((15 : Nat) : Int) 6) 0 (some ⟨x17, 0, none⟩) st qu cl fe 0 ⟨none, 0, 0⟩ false).cells)) (m := 125) ((KeysV.mk ⟨sa, sc, ls⟩ ⟨none, 0, 0⟩)).cells (List.mem_cons_self ..) rfl (fun _ => ReplicaV.size _) (fun _ => inferInstance) (by decide)) rfl ?_
  refine DL_q hns1 rfl (Qt_move (.pointer _) rfl) rfl ?_
  refine DL_q hns1 rfl (Qt_nilCheck rfl) rfl ?_
  refine DL_q hns1 rfl (Qt_fieldAddr 48 rfl rfl) rfl ?_
  refine DL_q hns1 rfl (Qt_fieldAddr 50 rfl rfl) rfl ?_
  refine DL_q hns1 rfl (Qt_loadXN (f := (fun fe : Option Addr => (ReplicaV.mk (EraR.mk true 0 false g3 g4 g5 g6 g7) (ConfigV.mk 0 (KeysV.mk ⟨sa, sc, ls⟩ ⟨none, 0, 0⟩) (ViewV.mk 0 15) 2 8 3) (some ⟨q, 0, none⟩) (firstW 0 ((15 : Nat) : Int) 6) 0 (some ⟨x17, 0, none⟩) st qu cl fe 0 ⟨none, 0, 0⟩ false).cells)) (m := 125) ((ViewV.mk 0 ((15 : Nat) : Int))).cells (List.mem_cons_self ..) rfl (fun _ => ReplicaV.size _) (fun _ => inferInstance) (by decide)) rfl ?_
  refine DL_q hns1 rfl (Qt_move (.pointer _) rfl) rfl ?_
  refine DL_q hns1 rfl (Qt_nilCheck rfl) rfl ?_
  refine DL_q hns1 rfl (Qt_fieldAddr 48 rfl rfl) rfl ?_
  refine DL_q hns1 rfl (Qt_fieldAddr 48 rfl rfl) rfl ?_
  refine DL_q hns1 rfl (Qt_loadX1 (f := (fun fe : Option Addr => (ReplicaV.mk (EraR.mk true 0 false g3 g4 g5 g6 g7) (ConfigV.mk 0 (KeysV.mk ⟨sa, sc, ls⟩ ⟨none, 0, 0⟩) (ViewV.mk 0 15) 2 8 3) (some ⟨q, 0, none⟩) (firstW 0 ((15 : Nat) : Int) 6) 0 (some ⟨x17, 0, none⟩) st qu cl fe 0 ⟨none, 0, 0⟩ false).cells)) (.int .i64 0) (List.mem_cons_self ..) rfl (fun _ => inferInstance)) rfl ?_
  refine DL_e rfl rfl (Ef_call (xferNew_c (num := 0) (mk := 15) (had := 0) (ls := ls) hkl hn) rfl (fun x36 => ⟨(fun w hw => St.toEx (f := (fun fe : Option Addr => (ReplicaV.mk (EraR.mk true 0 false g3 g4 g5 g6 g7) (ConfigV.mk 0 (KeysV.mk ⟨sa, sc, ls⟩ ⟨none, 0, 0⟩) (ViewV.mk 0 15) 2 8 3) (some ⟨q, 0, none⟩) (firstW 0 ((15 : Nat) : Int) 6) 0 (some ⟨x17, 0, none⟩) st qu cl fe 0 ⟨none, 0, 0⟩ false).cells)) fe (Subs.st inferInstance w hw)), ?_⟩))
  refine DL_q hns1 rfl (Qt_nilCheck rfl) rfl ?_
  refine DL_q hns1 rfl (Qt_fieldAddr 121 rfl rfl) rfl ?_
  refine DL_n rfl (Ef_store1 (.pointer _) rfl rfl (⟨(fun w hw => St.toEx (f := (fun fe : Option Addr => (ReplicaV.mk (EraR.mk true 0 false g3 g4 g5 g6 g7) (ConfigV.mk 0 (KeysV.mk ⟨sa, sc, ls⟩ ⟨none, 0, 0⟩) (ViewV.mk 0 15) 2 8 3) (some ⟨q, 0, none⟩) (firstW 0 ((15 : Nat) : Int) 6) 0 (some ⟨x17, 0, none⟩) st qu cl fe 0 ⟨none, 0, 0⟩ false).cells)) (some ⟨x36, 0, none⟩) (Subs.st inferInstance w hw)), ?_⟩))
  refine DL_nil ?_
  refine X_then ?_
  refine T_seq ?_
  refine T_seq ?_
  refine T_region ?_
  refine TL_q (Qt_move (.pointer _) rfl) rfl ?_
  refine TL_q (Qt_nilCheck rfl) rfl ?_
  refine TL_q (Qt_fieldAddr 47 rfl rfl) rfl ?_
  refine TL_q (Qt_load1 rfl) rfl ?_
  refine TL_conv (fun w hw => (Subs.st inferInstance w hw : St w0 (blk q (.cells (StoreV.mk sb dk lg (some ⟨pb, 0, none⟩) false).cells 147 (0, 0)) :: blk pb (.cells (bookM rb).cells 259 (0, 0)) :: blk rb (mapO encEr encVt [] 0) :: blk p (.cells (ReplicaV.mk (EraR.mk true 0 false g3 g4 g5 g6 g7) (ConfigV.mk 0 (KeysV.mk ⟨sa, sc, ls⟩ ⟨none, 0, 0⟩) (ViewV.mk 0 15) 2 8 3) (some ⟨q, 0, none⟩) (firstW 0 ((15 : Nat) : Int) 6) 0 (some ⟨x17, 0, none⟩) st qu cl (some ⟨x36, 0, none⟩) 0 ⟨none, 0, 0⟩ false).cells 77 (0, 0)) :: H) w)) ?_
  refine TL_e rfl (Ef_call (svotes0_c (q := q) (p := pb) (r := rb)) rfl (fun x43 => ?_))
  refine TL_q (Qt_len_slice rfl Tryz.underlying164) rfl ?_
  refine TL_q (Qt_move (.int .i64 _) rfl) rfl ?_
  refine TL_nil ?_
  refine X_then ?_
  refine T_block ?_
  refine T_unroll (TU_round ?_)
  refine T_seq ?_
  refine T_region ?_
  refine TL_q (Qt_lss rfl rfl) rfl ?_
  refine TL_nil ?_
  refine X_then ?_
  refine T_seq ?_
  refine T_cond_false rfl (by first | rfl | decide) ?_
  refine T_exit ?_
  refine X_then_exit ?_
  refine X_again_exit ?_
  refine X_block_exit ?_
  refine X_then ?_
  refine T_seq ?_
  refine T_seq ?_
  refine T_draw (blk p (.cells (ReplicaV.mk (EraR.mk true 0 false g3 g4 g5 g6 g7) (ConfigV.mk 0 (KeysV.mk ⟨sa, sc, ls⟩ ⟨none, 0, 0⟩) (ViewV.mk 0 15) 2 8 3) (some ⟨q, 0, none⟩) (firstW 0 ((15 : Nat) : Int) 6) 0 (some ⟨x17, 0, none⟩) st qu cl (some ⟨x36, 0, none⟩) 0 ⟨none, 0, 0⟩ false).cells 77 (0, 0)) :: H) [(0, true), (1, true), (2, true), (3, true), (4, true), (5, true), (6, true), (7, true), (8, true), (9, true), (10, true), (11, true), (12, true), (13, true), (14, true), (15, true), (16, true), (17, true), (18, true), (19, true)] (by kernel_rfl) (by kernel_rfl) rfl (by kernel_rfl) (Subs.st inferInstance) (fun hns2 => ?_)
  refine DL_q hns2 rfl (Qt_move (.pointer _) rfl) rfl ?_
  refine DL_q hns2 rfl (Qt_nilCheck rfl) rfl ?_
  refine DL_q hns2 rfl (Qt_fieldAddr 0 rfl rfl) rfl ?_
  refine DL_q hns2 rfl (Qt_fieldAddr 1 rfl rfl) rfl ?_
  refine DL_q hns2 rfl (Qt_fieldAddr 2 rfl rfl) rfl ?_
  refine DL_q hns2 rfl (Qt_load1 rfl) rfl ?_
  refine DL_q hns2 rfl (Qt_move (.bool _) rfl) rfl ?_
  refine DL_split 73 rfl (fun h73 => ?_) (fun h73 => ?_)
  ·
    have p73 := h73
    try simp only [decide_eq_true_eq, decide_eq_false_iff_not, Bool.not_eq_true', Bool.not_eq_false', Option.isNone_iff_eq_none, ne_eq, Decidable.not_not, Int.not_lt, Int.not_le] at p73
    cases h73
  ·
    have p73 := h73
    try simp only [decide_eq_true_eq, decide_eq_false_iff_not, Bool.not_eq_true', Bool.not_eq_false', Option.isNone_iff_eq_none, ne_eq, Decidable.not_not, Int.not_lt, Int.not_le] at p73
    refine DL_pass hns2 rfl rfl rfl h73 rfl ?_
    refine DL_pass hns2 rfl rfl rfl h73 rfl ?_
    refine DL_pass hns2 rfl rfl rfl h73 rfl ?_
    refine DL_pass hns2 rfl rfl rfl h73 rfl ?_
    refine DL_pass hns2 rfl rfl rfl h73 rfl ?_
    refine DL_pass hns2 rfl rfl rfl h73 rfl ?_
    refine DL_pass hns2 rfl rfl rfl h73 rfl ?_
    refine DL_pass hns2 rfl rfl rfl h73 rfl ?_
    refine DL_pass hns2 rfl rfl rfl h73 rfl ?_
    refine DL_pass hns2 rfl rfl rfl h73 rfl ?_
    refine DL_pass hns2 rfl rfl rfl h73 rfl ?_
    refine DL_pass hns2 rfl rfl rfl h73 rfl ?_
    refine DL_q hns2 rfl (Qt_pick_f (.bool _) rfl h73 rfl) rfl ?_
    refine DL_nil ?_
    refine X_then ?_
    refine T_cond_false rfl (by first | rfl | decide) ?_
    refine T_skip ?_
    refine X_then ?_
    refine T_region ?_
    refine TL_q (Qt_move (.pointer _) rfl) rfl ?_
    refine TL_conv (fun w hw => (Subs.st inferInstance w hw : St w0 (blk p (.cells (ReplicaV.mk (EraR.mk true 0 false g3 g4 g5 g6 g7) (ConfigV.mk 0 (KeysV.mk ⟨sa, sc, ls⟩ ⟨none, 0, 0⟩) (ViewV.mk 0 15) 2 8 3) (some ⟨q, 0, none⟩) (firstW 0 ((15 : Nat) : Int) 6) 0 (some ⟨x17, 0, none⟩) st qu cl (some ⟨x36, 0, none⟩) 0 ⟨none, 0, 0⟩ false).cells 77 (0, 0)) :: blk q (.cells (StoreV.mk sb dk lg (some ⟨pb, 0, none⟩) false).cells 147 (0, 0)) :: blk pb (.cells (bookM rb).cells 259 (0, 0)) :: blk rb (mapO encEr encVt [] 0) :: H) w)) ?_
    refine TL_e rfl (Ef_call (again_c (p := p) (sa := sa) (sc := sc) (ls := ls) (e := (EraR.mk true 0 false g3 g4 g5 g6 g7)) (vo := (some ⟨x17, 0, none⟩)) (st := st) (qu := qu) (cl := cl) (fe := (some ⟨x36, 0, none⟩)) (q := q) (pb := pb) (rb := rb) (sb := sb) (dk := dk) (lg := lg)) rfl (fun x99 => ?_))
    refine TL_nil ?_
    exact X_ret (x17, x36) [] Tryz.results38 trivial rfl (Subs.st inferInstance)
set_option maxHeartbeats 1000000 in
theorem newR_c {w0 : World} {H : List SA} {dp : Nat} {sd : DS} {M K : Nat} (hok : sd.Ok M K) (hM : M ≤ 1000000) (hK : K ≤ 1000000000) (he : sd.e2 = []) {sa : Option Addr} {sc : Nat} {ls : List BS} [rk : RdC w0 H (.slice sa ls.length sc) 1 (ls.map BS.val)] [rke : RdE w0 H ls] (hk : ls.map BS.l = keyT 16) :
    CT Tryz.prog w0 (DS.H dp sd H) 13 [.agg (ConfigV.mk 0 (KeysV.mk ⟨sa, sc, ls⟩ ⟨none, 0, 0⟩) (ViewV.mk 0 15) 2 8 3).cells, .pointer (some ⟨dp, 0, none⟩)] (α := Nat × ReplicaV) (fun y => .tuple #[.pointer (some ⟨y.1, 0, none⟩), .int .i64 0]) (fun y => pu (y.2.reg = 0 ∧ y.2.era.ready = true ∧ y.2.w.slot = 0 ∧ y.2.w.first = 1 ∧ y.2.down = false) :: blk y.1 (.cells y.2.cells 77 (0, 0)) :: H) := by
  obtain ⟨hn, hkl⟩ := keyT_small (by decide) hk
  have hl16 : ls.length = 16 := by have := congrArg List.length hk; simpa [keyT] using this
  refine CT_intro Tryz.func13 rfl Tryz.ntmps13 rfl ?_
  refine T_seq ?_
  refine T_region ?_
  refine TL_e rfl (Ef_boxN rfl (fun b2 => ?_))
  refine TL_q (Qt_assign (.pointer _) rfl) rfl ?_
  refine TL_q (Qt_assign (.int .i64 _) rfl) rfl ?_
  refine TL_nil ?_
  refine X_then ?_
  refine T_seq ?_
  refine T_seq ?_
  refine T_region ?_
  refine TL_q (Qt_fieldAddr 0 rfl rfl) rfl ?_
  refine TL_q (Qt_load1 rfl) rfl ?_
  refine TL_q (Qt_lss rfl rfl) rfl ?_
  refine TL_q (Qt_move (.bool _) rfl) rfl ?_
  refine TL_split 14 rfl (fun h14 => ?_) (fun h14 => ?_)
  ·
    have p14 := h14
    try simp only [decide_eq_true_eq, decide_eq_false_iff_not, Bool.not_eq_true', Bool.not_eq_false', Option.isNone_iff_eq_none, ne_eq, Decidable.not_not, Int.not_lt, Int.not_le] at p14
    exact absurd h14 (by simp; try omega)
  ·
    have p14 := h14
    try simp only [decide_eq_true_eq, decide_eq_false_iff_not, Bool.not_eq_true', Bool.not_eq_false', Option.isNone_iff_eq_none, ne_eq, Decidable.not_not, Int.not_lt, Int.not_le] at p14
    refine TL_take rfl rfl h14 ?_
    refine TL_q (Qt_fieldAddr 0 rfl rfl) rfl ?_
    refine TL_take rfl rfl h14 ?_
    refine TL_q (Qt_load1 rfl) rfl ?_
    refine TL_take rfl rfl h14 ?_
    refine TL_q (Qt_geq rfl rfl) rfl ?_
    refine TL_q (Qt_pick_f (.bool _) rfl h14 rfl) rfl ?_
    refine TL_q (Qt_move (.bool _) rfl) rfl ?_
    refine TL_split 19 rfl (fun h19 => ?_) (fun h19 => ?_)
    ·
      have p19 := h19
      try simp only [decide_eq_true_eq, decide_eq_false_iff_not, Bool.not_eq_true', Bool.not_eq_false', Option.isNone_iff_eq_none, ne_eq, Decidable.not_not, Int.not_lt, Int.not_le] at p19
      exact absurd h19 (by simp; try omega)
    ·
      have p19 := h19
      try simp only [decide_eq_true_eq, decide_eq_false_iff_not, Bool.not_eq_true', Bool.not_eq_false', Option.isNone_iff_eq_none, ne_eq, Decidable.not_not, Int.not_lt, Int.not_le] at p19
      refine TL_take rfl rfl h19 ?_
      refine TL_q (Qt_fieldAddr 0 rfl rfl) rfl ?_
      refine TL_take rfl rfl h19 ?_
      refine TL_q (Qt_load1 rfl) rfl ?_
      refine TL_take rfl rfl h19 ?_
      refine TL_q (Qt_fieldAddr 1 rfl rfl) rfl ?_
      refine TL_take rfl rfl h19 ?_
      refine TL_q (Qt_fieldAddr 1 rfl rfl) rfl ?_
      refine TL_take rfl rfl h19 ?_
      refine TL_q (Qt_load1 rfl) rfl ?_
      refine TL_take rfl rfl h19 ?_
      refine TL_q (Qt_len_slice rfl Tryz.underlying46) rfl ?_
      refine TL_take rfl rfl h19 ?_
      refine TL_q (Qt_geq rfl rfl) rfl ?_
      refine TL_q (Qt_pick_f (.bool _) rfl h19 rfl) rfl ?_
      refine TL_q (Qt_move (.bool _) rfl) rfl ?_
      refine TL_split 28 rfl (fun h28 => ?_) (fun h28 => ?_)
      ·
        have p28 := h28
        try simp only [decide_eq_true_eq, decide_eq_false_iff_not, Bool.not_eq_true', Bool.not_eq_false', Option.isNone_iff_eq_none, ne_eq, Decidable.not_not, Int.not_lt, Int.not_le] at p28
        exact absurd h28 (by simp; try omega)
      ·
        have p28 := h28
        try simp only [decide_eq_true_eq, decide_eq_false_iff_not, Bool.not_eq_true', Bool.not_eq_false', Option.isNone_iff_eq_none, ne_eq, Decidable.not_not, Int.not_lt, Int.not_le] at p28
        refine TL_take rfl rfl h28 ?_
        refine TL_q (Qt_fieldAddr 7 rfl rfl) rfl ?_
        refine TL_take rfl rfl h28 ?_
        refine TL_q (Qt_load1 rfl) rfl ?_
        refine TL_take rfl rfl h28 ?_
        refine TL_q (Qt_lss rfl rfl) rfl ?_
        refine TL_q (Qt_pick_f (.bool _) rfl h28 rfl) rfl ?_
        refine TL_q (Qt_move (.bool _) rfl) rfl ?_
        refine TL_split 33 rfl (fun h33 => ?_) (fun h33 => ?_)
        ·
          have p33 := h33
          try simp only [decide_eq_true_eq, decide_eq_false_iff_not, Bool.not_eq_true', Bool.not_eq_false', Option.isNone_iff_eq_none, ne_eq, Decidable.not_not, Int.not_lt, Int.not_le] at p33
          exact absurd h33 (by simp; try omega)
        ·
          have p33 := h33
          try simp only [decide_eq_true_eq, decide_eq_false_iff_not, Bool.not_eq_true', Bool.not_eq_false', Option.isNone_iff_eq_none, ne_eq, Decidable.not_not, Int.not_lt, Int.not_le] at p33
          refine TL_take rfl rfl h33 ?_
          refine TL_q (Qt_fieldAddr 7 rfl rfl) rfl ?_
          refine TL_take rfl rfl h33 ?_
          refine TL_q (Qt_load1 rfl) rfl ?_
          refine TL_take rfl rfl h33 ?_
          refine TL_q (Qt_gtr rfl rfl) rfl ?_
          refine TL_q (Qt_pick_f (.bool _) rfl h33 rfl) rfl ?_
          refine TL_nil ?_
          refine X_then ?_
          refine T_cond_false rfl (by first | rfl | decide) ?_
          refine T_skip ?_
          refine X_then ?_
          refine T_seq ?_
          refine T_region ?_
          refine TL_q (Qt_move (.pointer _) rfl) rfl ?_
          refine TL_q (Qt_fieldAddr 3 rfl rfl) rfl ?_
          refine TL_q (Qt_loadN rfl rfl) rfl ?_
          refine TL_conv (fun w hw => (Subs.st inferInstance w hw : St w0 (DS.H dp sd (blk b2 (.cells (ConfigV.mk 0 (KeysV.mk ⟨sa, sc, ls⟩ ⟨none, 0, 0⟩) (ViewV.mk 0 15) 2 8 3).cells 61 (0, 0)) :: H)) w)) ?_
          refine TL_e rfl (Ef_call (sopenB_c (p := dp) (s := sd) hok hM hK he (num := 0) (mk := 15) (by decide) right_four) rfl (fun x42 => ?_))
          refine TL_q (Qt_move (.tuple _) rfl) rfl ?_
          refine TL_q (Qt_extract rfl) rfl ?_
          refine TL_q (Qt_extract rfl) rfl ?_
          refine TL_q (Qt_assign (.pointer _) rfl) rfl ?_
          refine TL_q (Qt_assign (.int .i64 _) rfl) rfl ?_
          refine TL_nil ?_
          refine X_then ?_
          refine T_seq ?_
          refine T_seq ?_
          refine T_region ?_
          refine TL_q (Qt_move (.int .i64 _) rfl) rfl ?_
          refine TL_q (Qt_neq rfl rfl) rfl ?_
          refine TL_nil ?_
          refine X_then ?_
          refine T_cond_false rfl (by first | rfl | decide) ?_
          refine T_skip ?_
          refine X_then ?_
          refine T_seq ?_
          refine T_region ?_
          refine TL_q (Qt_fieldAddr 1 rfl rfl) rfl ?_
          refine TL_q (Qt_loadN rfl rfl) rfl ?_
          refine TL_e rfl (Ef_call (own_c (ls := ls) hkl hn) rfl (fun x50 => ?_))
          refine TL_pure (fun h50 => ?_)
          obtain ⟨hn2, hkl2⟩ := keyT_small (by decide) (h50.trans hk)
          refine TL_q (Qt_fieldAddr 1 rfl rfl) rfl ?_
          refine TL_n (Ef_storeN rfl rfl (?_))
          refine TL_nil ?_
          refine X_then ?_
          refine T_seq ?_
          refine T_draw (blk b2 (.cells (ConfigV.mk 0 (KeysV.mk ⟨x50.1.a, x50.1.c, x50.1.ls⟩ ⟨none, 0, 0⟩) (ViewV.mk 0 15) 2 8 3).cells 61 (0, 0)) :: H) [(0, true), (1, true), (2, true), (5, true), (6, true), (7, true), (8, true), (3, false), (4, false), (9, false), (10, true), (11, false), (12, true)] (by kernel_rfl) (by kernel_rfl) rfl (by kernel_rfl) (Subs.st inferInstance) (fun hns0 => ?_)
          refine DL_q hns0 rfl (Qt_loadN rfl rfl) rfl ?_
          refine DL_q hns0 rfl (Qt_move (.pointer _) rfl) rfl ?_
          refine DL_q hns0 rfl (Qt_move (.pointer _) rfl) rfl ?_
          refine DL_q hns0 rfl (Qt_fieldAddr 5 rfl rfl) rfl ?_
          refine DL_q hns0 rfl (Qt_load1 rfl) rfl ?_
          refine DL_q hns0 rfl (Qt_fieldAddr 6 rfl rfl) rfl ?_
          refine DL_q hns0 rfl (Qt_load1 rfl) rfl ?_
          refine DL_e rfl rfl (Ef_call (sworldM_c (sb := x42.1.2) (t := stateF 0 ((15 : Nat) : Int) x42.2.2.2)) rfl (fun x55 => ⟨(Subs.st inferInstance), ?_⟩))
          refine DL_e rfl rfl (Ef_call (queueNew_c) rfl (fun x56 => ⟨(Subs.st inferInstance), ?_⟩))
          refine DL_e rfl rfl (Ef_call (clockNew_c) rfl (fun x61 => ⟨(Subs.st inferInstance), ?_⟩))
          refine DL_q hns0 rfl (Qt_build [(1, (.agg _)), (2, (.pointer _)), (3, (.agg _)), (7, (.pointer _)), (8, (.pointer _))] rfl (by kernel_rfl)) rfl ?_
          refine DL_e rfl rfl (Ef_boxN rfl (fun b63 => ⟨(Subs.st inferInstance), ?_⟩))
          refine DL_q hns0 rfl (Qt_assign (.pointer _) rfl) rfl ?_
          refine DL_nil ?_
          refine X_then ?_
          refine T_seq ?_
          refine T_seq ?_
          refine T_region ?_
          refine TL_q (Qt_move (.pointer _) rfl) rfl ?_
          refine TL_conv (fun w hw => (Subs.st inferInstance w hw : St w0 (blk x42.1.1 (.cells (StoreV.mk (some ⟨x42.1.2, 0, none⟩) (some ⟨dp, 0, none⟩) (some ⟨x42.2.1, 0, none⟩) (some ⟨x42.2.2.1.1, 0, none⟩) false).cells 147 (0, 0)) :: blk x42.2.2.1.1 (.cells (bookM x42.2.2.1.2).cells 259 (0, 0)) :: blk x42.2.2.1.2 (mapO encEr encVt [] 0) :: blk b63 (.cells (ReplicaV.mk EraR.zero (ConfigV.mk 0 (KeysV.mk ⟨x50.1.a, x50.1.c, x50.1.ls⟩ ⟨none, 0, 0⟩) (ViewV.mk 0 15) 2 8 3) (some ⟨x42.1.1, 0, none⟩) (firstW 0 ((15 : Nat) : Int) 6) 0 none none (some ⟨x56, 0, none⟩) (some ⟨x61, 0, none⟩) none 0 ⟨none, 0, 0⟩ false).cells 77 (0, 0)) :: dat x50.2 (Deep.leads (PS.mk x50.1.a x50.1.c x50.1.ls)) :: H) w)) ?_
          refine TL_e rfl (Ef_call (sreg0_c (q := x42.1.1) (p := x42.2.2.1.1) (r := x42.2.2.1.2)) rfl (fun x66 => ?_))
          refine TL_q (Qt_move (.tuple _) rfl) rfl ?_
          refine TL_q (Qt_extract rfl) rfl ?_
          refine TL_q (Qt_extract rfl) rfl ?_
          refine TL_q (Qt_assign (.int .i64 _) rfl) rfl ?_
          refine TL_q (Qt_assign (.int .i64 _) rfl) rfl ?_
          refine TL_nil ?_
          refine X_then ?_
          refine T_seq ?_
          refine T_region ?_
          refine TL_q (Qt_move (.int .i64 _) rfl) rfl ?_
          refine TL_q (Qt_move (.pointer _) rfl) rfl ?_
          refine TL_q (Qt_nilCheck rfl) rfl ?_
          refine TL_q (Qt_fieldAddr 48 rfl rfl) rfl ?_
          refine TL_q (Qt_fieldAddr 50 rfl rfl) rfl ?_
          refine TL_q (Qt_fieldAddr 50 rfl rfl) rfl ?_
          refine TL_q (Qt_load1 rfl) rfl ?_
          refine TL_q (Qt_eql rfl rfl) rfl ?_
          refine TL_nil ?_
          refine X_then ?_
          refine T_cond_true rfl (by first | rfl | decide) ?_
          refine T_region ?_
          refine TL_q (Qt_move (.pointer _) rfl) rfl ?_
          refine TL_q (Qt_move (.int .i64 _) rfl) rfl ?_
          refine TL_q (Qt_nilCheck rfl) rfl ?_
          refine TL_q (Qt_fieldAddr 116 rfl rfl) rfl ?_
          refine TL_n (Ef_store1 (.int .i64 _) rfl rfl (?_))
          refine TL_nil ?_
          refine X_then ?_
          refine T_seq ?_
          refine T_region ?_
          refine TL_q (Qt_move (.pointer _) rfl) rfl ?_
          refine TL_conv (fun w hw => (Subs.st inferInstance w hw : St w0 (blk b63 (.cells (ReplicaV.mk EraR.zero (ConfigV.mk 0 (KeysV.mk ⟨x50.1.a, x50.1.c, x50.1.ls⟩ ⟨none, 0, 0⟩) (ViewV.mk 0 15) 2 8 3) (some ⟨x42.1.1, 0, none⟩) (firstW 0 ((15 : Nat) : Int) 6) 0 none none (some ⟨x56, 0, none⟩) (some ⟨x61, 0, none⟩) none 0 ⟨none, 0, 0⟩ false).cells 77 (0, 0)) :: dat x50.2 (Deep.leads (PS.mk x50.1.a x50.1.c x50.1.ls)) :: blk x42.1.1 (.cells (StoreV.mk (some ⟨x42.1.2, 0, none⟩) (some ⟨dp, 0, none⟩) (some ⟨x42.2.1, 0, none⟩) (some ⟨x42.2.2.1.1, 0, none⟩) false).cells 147 (0, 0)) :: blk x42.2.2.1.1 (.cells (bookM x42.2.2.1.2).cells 259 (0, 0)) :: blk x42.2.2.1.2 (mapO encEr encVt [] 0) :: H) w)) ?_
          refine TL_e rfl (Ef_call (anew_c (ls := x50.1.ls) hkl2 hn2) rfl (fun x82 => ?_))
          refine TL_nil ?_
          refine X_then ?_
          refine T_seq ?_
          refine T_region ?_
          refine TL_q (Qt_move (.pointer _) rfl) rfl ?_
          refine TL_conv (fun w hw => (Subs.st inferInstance w hw : St w0 (blk b63 (.cells (ReplicaV.mk (EraR.mk true 0 false (zeroV 32) ⟨none, 0, []⟩ 0 (some x82.1) ⟨none, 0, []⟩) (ConfigV.mk 0 (KeysV.mk ⟨x50.1.a, x50.1.c, x50.1.ls⟩ ⟨none, 0, 0⟩) (ViewV.mk 0 15) 2 8 3) (some ⟨x42.1.1, 0, none⟩) (firstW 0 ((15 : Nat) : Int) 6) 0 none (some ⟨x82.2, 0, none⟩) (some ⟨x56, 0, none⟩) (some ⟨x61, 0, none⟩) none 0 ⟨none, 0, 0⟩ false).cells 77 (0, 0)) :: blk x42.1.1 (.cells (StoreV.mk (some ⟨x42.1.2, 0, none⟩) (some ⟨dp, 0, none⟩) (some ⟨x42.2.1, 0, none⟩) (some ⟨x42.2.2.1.1, 0, none⟩) false).cells 147 (0, 0)) :: blk x42.2.2.1.1 (.cells (bookM x42.2.2.1.2).cells 259 (0, 0)) :: blk x42.2.2.1.2 (mapO encEr encVt [] 0) :: dat x50.2 (Deep.leads (PS.mk x50.1.a x50.1.c x50.1.ls)) :: H) w)) ?_
          refine TL_e rfl (Ef_call (slot_c (q := x42.1.1) (pb := x42.2.2.1.1) (rb := x42.2.2.1.2) (ls := x50.1.ls) hkl2 hn2) rfl (fun x84 => ?_))
          refine TL_nil ?_
          refine X_then ?_
          refine T_seq ?_
          refine T_region ?_
          refine TL_q (Qt_move (.pointer _) rfl) rfl ?_
          refine TL_q (Qt_nilCheck rfl) rfl ?_
          refine TL_q (Qt_fieldAddr 123 rfl rfl) rfl ?_
          refine TL_n (Ef_store1 (.slice _ _ _) rfl rfl (?_))
          refine TL_nil ?_
          refine X_then ?_
          refine T_seq ?_
          refine T_region ?_
          refine TL_q (Qt_move (.pointer _) rfl) rfl ?_
          refine TL_q (Qt_assign (.pointer _) rfl) rfl ?_
          refine TL_q (Qt_assign (.int .i64 _) rfl) rfl ?_
          refine TL_nil ?_
          refine X_then ?_
          refine T_ret ?_
          exact X_ret (b63, (ReplicaV.mk (EraR.mk true 0 false (zeroV 32) ⟨none, 0, []⟩ 0 (some x82.1) ⟨none, 0, []⟩) (ConfigV.mk 0 (KeysV.mk ⟨x50.1.a, x50.1.c, x50.1.ls⟩ ⟨none, 0, 0⟩) (ViewV.mk 0 15) 2 8 3) (some ⟨x42.1.1, 0, none⟩) (firstW 0 ((15 : Nat) : Int) 6) 0 (some ⟨x84.1, 0, none⟩) (some ⟨x82.2, 0, none⟩) (some ⟨x56, 0, none⟩) (some ⟨x61, 0, none⟩) (some ⟨x84.2, 0, none⟩) 0 ⟨none, 0, 0⟩ false)) [_, _] Tryz.results13 ⟨rfl, rfl, trivial⟩ rfl (fun w hw => (Subs.st inferInstance w hw : St w0 (blk b63 (.cells (ReplicaV.mk (EraR.mk true 0 false (zeroV 32) ⟨none, 0, []⟩ 0 (some x82.1) ⟨none, 0, []⟩) (ConfigV.mk 0 (KeysV.mk ⟨x50.1.a, x50.1.c, x50.1.ls⟩ ⟨none, 0, 0⟩) (ViewV.mk 0 15) 2 8 3) (some ⟨x42.1.1, 0, none⟩) (firstW 0 ((15 : Nat) : Int) 6) 0 (some ⟨x84.1, 0, none⟩) (some ⟨x82.2, 0, none⟩) (some ⟨x56, 0, none⟩) (some ⟨x61, 0, none⟩) (some ⟨x84.2, 0, none⟩) 0 ⟨none, 0, 0⟩ false).cells 77 (0, 0)) :: H) w).addPure ⟨rfl, rfl, rfl, rfl, rfl⟩)
set_option maxHeartbeats 1000000 in
theorem rreg_c {w0 : World} {H : List SA} {p : Nat} {v : ReplicaV} :
    CT Tryz.prog w0 (blk p (.cells v.cells 77 (0, 0)) :: H) 5 [.pointer (some ⟨p, 0, none⟩)] (α := Unit) (fun _ => .tuple #[.int .i64 v.reg, .bool v.era.ready]) (fun _ => blk p (.cells v.cells 77 (0, 0)) :: H) := by
  obtain ⟨⟨g0, g1, g2, g3, g4, g5, g6, g7⟩, cc, s, w, reg, vo, st, qu, cl, fe, hd, out, dn⟩ := v
  refine CT_intro Tryz.func5 rfl Tryz.ntmps5 rfl ?_
  refine T_seq ?_
  refine T_region ?_
  refine TL_q (Qt_assign (.int .i64 _) rfl) rfl ?_
  refine TL_q (Qt_assign (.bool _) rfl) rfl ?_
  refine TL_nil ?_
  refine X_then ?_
  refine T_seq ?_
  refine T_seq ?_
  refine T_region ?_
  refine TL_q (Qt_move (.pointer _) rfl) rfl ?_
  refine TL_q (Qt_ptr_nil rfl rfl Tryz.underlying23) rfl ?_
  refine TL_nil ?_
  refine X_then ?_
  refine T_cond_false rfl (by first | rfl | decide) ?_
  refine T_skip ?_
  refine X_then ?_
  refine T_seq ?_
  refine T_draw (blk p (.cells (ReplicaV.mk (EraR.mk g0 g1 g2 g3 g4 g5 g6 g7) cc s w reg vo st qu cl fe hd out dn).cells 77 (0, 0)) :: H) [(0, true), (1, true), (2, true), (3, true), (4, true), (5, true), (6, true), (7, true), (8, true), (9, true), (10, true)] (by kernel_rfl) (by kernel_rfl) rfl (by kernel_rfl) (Subs.st inferInstance) (fun hns0 => ?_)
  refine DL_q hns0 rfl (Qt_move (.pointer _) rfl) rfl ?_
  refine DL_q hns0 rfl (Qt_nilCheck rfl) rfl ?_
  refine DL_q hns0 rfl (Qt_fieldAddr 116 rfl rfl) rfl ?_
  refine DL_q hns0 rfl (Qt_load1 rfl) rfl ?_
  refine DL_q hns0 rfl (Qt_move (.pointer _) rfl) rfl ?_
  refine DL_q hns0 rfl (Qt_nilCheck rfl) rfl ?_
  refine DL_q hns0 rfl (Qt_fieldAddr 0 rfl rfl) rfl ?_
  refine DL_q hns0 rfl (Qt_fieldAddr 0 rfl rfl) rfl ?_
  refine DL_q hns0 rfl (Qt_load1 rfl) rfl ?_
  refine DL_q hns0 rfl (Qt_assign (.int .i64 _) rfl) rfl ?_
  refine DL_q hns0 rfl (Qt_assign (.bool _) rfl) rfl ?_
  refine DL_nil ?_
  refine X_then ?_
  refine T_ret ?_
  exact X_ret () [_, _] Tryz.results5 ⟨rfl, rfl, trivial⟩ rfl (Subs.st inferInstance)
set_option maxHeartbeats 1000000 in
theorem rworld_c {w0 : World} {H : List SA} {p : Nat} {v : ReplicaV} :
    CT Tryz.prog w0 (blk p (.cells v.cells 77 (0, 0)) :: H) 9 [.pointer (some ⟨p, 0, none⟩)] (α := Unit) (fun _ => .agg v.w.cells) (fun _ => blk p (.cells v.cells 77 (0, 0)) :: H) := by
  obtain ⟨⟨g0, g1, g2, g3, g4, g5, g6, g7⟩, cc, s, w, reg, vo, st, qu, cl, fe, hd, out, dn⟩ := v
  refine CT_intro Tryz.func9 rfl Tryz.ntmps9 rfl ?_
  refine T_seq ?_
  refine T_region ?_
  refine TL_e rfl (Ef_allocN (fun b2 => ?_))
  refine TL_nil ?_
  refine X_then ?_
  refine T_seq ?_
  refine T_seq ?_
  refine T_region ?_
  refine TL_q (Qt_move (.pointer _) rfl) rfl ?_
  refine TL_q (Qt_ptr_nil rfl rfl Tryz.underlying23) rfl ?_
  refine TL_nil ?_
  refine X_then ?_
  refine T_cond_false rfl (by first | rfl | decide) ?_
  refine T_skip ?_
  refine X_then ?_
  refine T_seq ?_
  refine T_region ?_
  refine TL_q (Qt_move (.pointer _) rfl) rfl ?_
  refine TL_q (Qt_nilCheck rfl) rfl ?_
  refine TL_q (Qt_fieldAddr 48 rfl rfl) rfl ?_
  refine TL_q (Qt_loadN rfl rfl) rfl ?_
  refine TL_n (Ef_storeN rfl rfl (?_))
  refine TL_nil ?_
  refine X_then ?_
  refine T_ret ?_
  exact X_ret () [_] Tryz.results9 ⟨⟨_, rfl, res_cellN rfl⟩, trivial⟩ rfl (Subs.st inferInstance)
set_option maxHeartbeats 1000000 in
theorem rdown_c {w0 : World} {H : List SA} {p : Nat} {v : ReplicaV} :
    CT Tryz.prog w0 (blk p (.cells v.cells 77 (0, 0)) :: H) 12 [.pointer (some ⟨p, 0, none⟩)] (α := Unit) (fun _ => .bool v.down) (fun _ => blk p (.cells v.cells 77 (0, 0)) :: H) := by
  obtain ⟨⟨g0, g1, g2, g3, g4, g5, g6, g7⟩, cc, s, w, reg, vo, st, qu, cl, fe, hd, out, dn⟩ := v
  refine CT_intro Tryz.func12 rfl Tryz.ntmps12 rfl ?_
  refine T_seq ?_
  refine T_region ?_
  refine TL_q (Qt_assign (.bool _) rfl) rfl ?_
  refine TL_nil ?_
  refine X_then ?_
  refine T_seq ?_
  refine T_region ?_
  refine TL_q (Qt_move (.pointer _) rfl) rfl ?_
  refine TL_q (Qt_ptr_nil rfl rfl Tryz.underlying23) rfl ?_
  refine TL_q (Qt_move (.bool _) rfl) rfl ?_
  refine TL_split 5 rfl (fun h5 => ?_) (fun h5 => ?_)
  ·
    have p5 := h5
    try simp only [decide_eq_true_eq, decide_eq_false_iff_not, Bool.not_eq_true', Bool.not_eq_false', Option.isNone_iff_eq_none, ne_eq, Decidable.not_not, Int.not_lt, Int.not_le] at p5
    cases h5
  ·
    have p5 := h5
    try simp only [decide_eq_true_eq, decide_eq_false_iff_not, Bool.not_eq_true', Bool.not_eq_false', Option.isNone_iff_eq_none, ne_eq, Decidable.not_not, Int.not_lt, Int.not_le] at p5
    refine TL_take rfl rfl h5 ?_
    refine TL_q (Qt_move (.pointer _) rfl) rfl ?_
    refine TL_take rfl rfl h5 ?_
    refine TL_q (Qt_nilCheck rfl) rfl ?_
    refine TL_take rfl rfl h5 ?_
    refine TL_q (Qt_fieldAddr 124 rfl rfl) rfl ?_
    refine TL_take rfl rfl h5 ?_
    refine TL_q (Qt_load1 rfl) rfl ?_
    refine TL_q (Qt_pick_f (.bool _) rfl h5 rfl) rfl ?_
    refine TL_q (Qt_assign (.bool _) rfl) rfl ?_
    refine TL_nil ?_
    refine X_then ?_
    refine T_ret ?_
    exact X_ret () [_] Tryz.results12 ⟨rfl, trivial⟩ rfl (Subs.st inferInstance)
set_option maxHeartbeats 1000000 in
theorem wakes23_c {w0 : World} {H : List SA}  :
    CT Tryz.prog w0 (H) 4 [] (α := Unit) (fun _ => .bool true) (fun _ => H) := by
  refine CT_intro Tryz.func4 rfl Tryz.ntmps4 rfl ?_
  refine T_seq ?_
  refine T_region ?_
  refine TL_q (Qt_assign (.bool _) rfl) rfl ?_
  refine TL_nil ?_
  refine X_then ?_
  refine T_seq ?_
  refine T_region ?_
  refine TL_q (Qt_build [(1, (.int .u16 _))] rfl (by kernel_rfl)) rfl ?_
  refine TL_q (Qt_build [(1, (.agg _))] rfl (by kernel_rfl)) rfl ?_
  refine TL_e rfl (Ef_allocN (fun b1 => ?_))
  refine TL_n (Ef_storeN rfl rfl (?_))
  refine TL_nil ?_
  refine X_then ?_
  refine T_seq ?_
  refine T_region ?_
  refine TL_q (Qt_loadN rfl rfl) rfl ?_
  refine TL_e rfl (Ef_call (config_c) rfl (fun x10 => ?_))
  refine TL_pure (fun h10 => ?_)
  refine TL_e rfl (Ef_call (dnew_c (n := 65536)) rfl (fun x11 => ?_))
  have hok0 : (newS x11.2.1 x11.2.2 65536).Ok 0 10000 := (newS_ok _ _ _).mono (by decide) (by decide)
  refine TL_e rfl (Ef_call (newR_c (dp := x11.1) (sd := (newS x11.2.1 x11.2.2 65536)) hok0 (by decide) (by decide) rfl (ls := x10.1.ls) h10) rfl (fun x12 => ?_))
  refine TL_pure (fun h12 => ?_)
  refine TL_q (Qt_move (.tuple _) rfl) rfl ?_
  refine TL_q (Qt_extract rfl) rfl ?_
  refine TL_q (Qt_extract rfl) rfl ?_
  refine TL_q (Qt_assign (.pointer _) rfl) rfl ?_
  refine TL_q (Qt_assign (.int .i64 _) rfl) rfl ?_
  refine TL_nil ?_
  refine X_then ?_
  refine T_seq ?_
  refine T_region ?_
  refine TL_q (Qt_move (.pointer _) rfl) rfl ?_
  refine TL_e rfl (Ef_call (rreg_c (v := x12.2)) rfl (fun x17 => ?_))
  refine TL_q (Qt_move (.tuple _) rfl) rfl ?_
  refine TL_q (Qt_extract rfl) rfl ?_
  refine TL_q (Qt_extract rfl) rfl ?_
  refine TL_q (Qt_assign (.int .i64 _) rfl) rfl ?_
  refine TL_q (Qt_assign (.bool _) rfl) rfl ?_
  refine TL_nil ?_
  refine X_then ?_
  refine T_seq ?_
  refine T_region ?_
  refine TL_q (Qt_move (.int .i64 _) rfl) rfl ?_
  refine TL_q (Qt_eql rfl rfl) rfl ?_
  refine TL_q (Qt_move (.bool _) rfl) rfl ?_
  refine TL_split 22 rfl (fun h22 => ?_) (fun h22 => ?_)
  ·
    have p22 := h22
    try simp only [decide_eq_true_eq, decide_eq_false_iff_not, Bool.not_eq_true', Bool.not_eq_false', Option.isNone_iff_eq_none, ne_eq, Decidable.not_not, Int.not_lt, Int.not_le] at p22
    refine TL_take rfl rfl h22 ?_
    refine TL_q (Qt_move (.pointer _) rfl) rfl ?_
    refine TL_take rfl rfl h22 ?_
    refine TL_e rfl (Ef_call (rworld_c (v := x12.2)) rfl (fun x24 => ?_))
    refine TL_take rfl rfl h22 ?_
    refine TL_q (Qt_field1 (ft := 3) rfl rfl) rfl ?_
    refine TL_take rfl rfl h22 ?_
    refine TL_q (Qt_eql rfl rfl) rfl ?_
    refine TL_q (Qt_pick_t (.bool _) rfl h22 rfl) rfl ?_
    refine TL_q (Qt_move (.bool _) rfl) rfl ?_
    refine TL_split 28 rfl (fun h28 => ?_) (fun h28 => ?_)
    ·
      have p28 := h28
      try simp only [decide_eq_true_eq, decide_eq_false_iff_not, Bool.not_eq_true', Bool.not_eq_false', Option.isNone_iff_eq_none, ne_eq, Decidable.not_not, Int.not_lt, Int.not_le] at p28
      refine TL_take rfl rfl h28 ?_
      refine TL_q (Qt_move (.pointer _) rfl) rfl ?_
      refine TL_take rfl rfl h28 ?_
      refine TL_e rfl (Ef_call (rworld_c (v := x12.2)) rfl (fun x30 => ?_))
      refine TL_take rfl rfl h28 ?_
      refine TL_q (Qt_field1 (ft := 3) rfl rfl) rfl ?_
      refine TL_take rfl rfl h28 ?_
      refine TL_q (Qt_eql rfl rfl) rfl ?_
      refine TL_q (Qt_pick_t (.bool _) rfl h28 rfl) rfl ?_
      refine TL_q (Qt_move (.bool _) rfl) rfl ?_
      refine TL_split 34 rfl (fun h34 => ?_) (fun h34 => ?_)
      ·
        have p34 := h34
        try simp only [decide_eq_true_eq, decide_eq_false_iff_not, Bool.not_eq_true', Bool.not_eq_false', Option.isNone_iff_eq_none, ne_eq, Decidable.not_not, Int.not_lt, Int.not_le] at p34
        refine TL_take rfl rfl h34 ?_
        refine TL_q (Qt_move (.int .i64 _) rfl) rfl ?_
        refine TL_take rfl rfl h34 ?_
        refine TL_q (Qt_eql rfl rfl) rfl ?_
        refine TL_q (Qt_pick_t (.bool _) rfl h34 rfl) rfl ?_
        refine TL_q (Qt_move (.bool _) rfl) rfl ?_
        refine TL_split 38 rfl (fun h38 => ?_) (fun h38 => ?_)
        ·
          have p38 := h38
          try simp only [decide_eq_true_eq, decide_eq_false_iff_not, Bool.not_eq_true', Bool.not_eq_false', Option.isNone_iff_eq_none, ne_eq, Decidable.not_not, Int.not_lt, Int.not_le] at p38
          refine TL_take rfl rfl h38 ?_
          refine TL_q (Qt_move (.bool _) rfl) rfl ?_
          refine TL_q (Qt_pick_t (.bool _) rfl h38 rfl) rfl ?_
          refine TL_q (Qt_move (.bool _) rfl) rfl ?_
          refine TL_split 41 rfl (fun h41 => ?_) (fun h41 => ?_)
          ·
            have p41 := h41
            try simp only [decide_eq_true_eq, decide_eq_false_iff_not, Bool.not_eq_true', Bool.not_eq_false', Option.isNone_iff_eq_none, ne_eq, Decidable.not_not, Int.not_lt, Int.not_le] at p41
            refine TL_take rfl rfl h41 ?_
            refine TL_q (Qt_move (.pointer _) rfl) rfl ?_
            refine TL_take rfl rfl h41 ?_
            refine TL_e rfl (Ef_call (rdown_c (v := x12.2)) rfl (fun x43 => ?_))
            refine TL_take rfl rfl h41 ?_
            refine TL_q (Qt_not rfl) rfl ?_
            refine TL_q (Qt_pick_t (.bool _) rfl h41 rfl) rfl ?_
            refine TL_q (Qt_assign (.bool _) rfl) rfl ?_
            refine TL_nil ?_
            refine X_then ?_
            refine T_ret ?_
            exact X_ret () [_] Tryz.results4 ⟨rfl, trivial⟩ (congrArg Value.bool (by simp [h12])) (Subs.st inferInstance)
          ·
            have p41 := h41
            try simp only [decide_eq_true_eq, decide_eq_false_iff_not, Bool.not_eq_true', Bool.not_eq_false', Option.isNone_iff_eq_none, ne_eq, Decidable.not_not, Int.not_lt, Int.not_le] at p41
            exact absurd h41 (by simp [h12])
        ·
          have p38 := h38
          try simp only [decide_eq_true_eq, decide_eq_false_iff_not, Bool.not_eq_true', Bool.not_eq_false', Option.isNone_iff_eq_none, ne_eq, Decidable.not_not, Int.not_lt, Int.not_le] at p38
          exact absurd h38 (by simp [h12])
      ·
        have p34 := h34
        try simp only [decide_eq_true_eq, decide_eq_false_iff_not, Bool.not_eq_true', Bool.not_eq_false', Option.isNone_iff_eq_none, ne_eq, Decidable.not_not, Int.not_lt, Int.not_le] at p34
        exact absurd h34 (by simp [h12])
    ·
      have p28 := h28
      try simp only [decide_eq_true_eq, decide_eq_false_iff_not, Bool.not_eq_true', Bool.not_eq_false', Option.isNone_iff_eq_none, ne_eq, Decidable.not_not, Int.not_lt, Int.not_le] at p28
      exact absurd h28 (by simp [h12])
  ·
    have p22 := h22
    try simp only [decide_eq_true_eq, decide_eq_false_iff_not, Bool.not_eq_true', Bool.not_eq_false', Option.isNone_iff_eq_none, ne_eq, Decidable.not_not, Int.not_lt, Int.not_le] at p22
    exact absurd h22 (by simp [])
set_option maxHeartbeats 1000000 in
theorem rhandleNil_c {w0 : World} {H : List SA} {a : Option Addr} {n c : Nat} :
    CT Tryz.prog w0 (H) 6 [.pointer none, .slice a n c] (α := Unit) (fun _ => .slice none 0 0) (fun _ => H) := by
  refine CT_intro Tryz.func6 rfl Tryz.ntmps6 rfl ?_
  refine T_seq ?_
  refine T_region ?_
  refine TL_q (Qt_assign (.slice _ _ _) rfl) rfl ?_
  refine TL_nil ?_
  refine X_then ?_
  refine T_seq ?_
  refine T_seq ?_
  refine T_region ?_
  refine TL_q (Qt_move (.pointer _) rfl) rfl ?_
  refine TL_q (Qt_ptr_nil rfl rfl Tryz.underlying23) rfl ?_
  refine TL_q (Qt_move (.bool _) rfl) rfl ?_
  refine TL_split 9 rfl (fun h9 => ?_) (fun h9 => ?_)
  ·
    have p9 := h9
    try simp only [decide_eq_true_eq, decide_eq_false_iff_not, Bool.not_eq_true', Bool.not_eq_false', Option.isNone_iff_eq_none, ne_eq, Decidable.not_not, Int.not_lt, Int.not_le] at p9
    refine TL_pass rfl rfl h9 rfl ?_
    refine TL_pass rfl rfl h9 rfl ?_
    refine TL_pass rfl rfl h9 rfl ?_
    refine TL_pass rfl rfl h9 rfl ?_
    refine TL_q (Qt_pick_t (.bool _) rfl h9 rfl) rfl ?_
    refine TL_nil ?_
    refine X_then ?_
    refine T_cond_true rfl (by first | rfl | decide) ?_
    refine T_seq ?_
    refine T_region ?_
    refine TL_q (Qt_assign (.slice _ _ _) rfl) rfl ?_
    refine TL_nil ?_
    refine X_then ?_
    refine T_ret ?_
    refine X_then_ret ?_
    exact X_ret () [_] Tryz.results6 ⟨rfl, trivial⟩ rfl (Subs.st inferInstance)
  ·
    have p9 := h9
    try simp only [decide_eq_true_eq, decide_eq_false_iff_not, Bool.not_eq_true', Bool.not_eq_false', Option.isNone_iff_eq_none, ne_eq, Decidable.not_not, Int.not_lt, Int.not_le] at p9
    exact absurd h9 (by decide)
set_option maxHeartbeats 1000000 in
theorem rrequestNil_c {w0 : World} {H : List SA} {a : Option Addr} {n c : Nat} :
    CT Tryz.prog w0 (H) 7 [.pointer none, .slice a n c] (α := Unit) (fun _ => .slice none 0 0) (fun _ => H) := by
  refine CT_intro Tryz.func7 rfl Tryz.ntmps7 rfl ?_
  refine T_seq ?_
  refine T_region ?_
  refine TL_q (Qt_assign (.slice _ _ _) rfl) rfl ?_
  refine TL_nil ?_
  refine X_then ?_
  refine T_seq ?_
  refine T_seq ?_
  refine T_region ?_
  refine TL_q (Qt_move (.pointer _) rfl) rfl ?_
  refine TL_q (Qt_ptr_nil rfl rfl Tryz.underlying23) rfl ?_
  refine TL_q (Qt_move (.bool _) rfl) rfl ?_
  refine TL_split 10 rfl (fun h10 => ?_) (fun h10 => ?_)
  ·
    have p10 := h10
    try simp only [decide_eq_true_eq, decide_eq_false_iff_not, Bool.not_eq_true', Bool.not_eq_false', Option.isNone_iff_eq_none, ne_eq, Decidable.not_not, Int.not_lt, Int.not_le] at p10
    refine TL_pass rfl rfl h10 rfl ?_
    refine TL_pass rfl rfl h10 rfl ?_
    refine TL_pass rfl rfl h10 rfl ?_
    refine TL_pass rfl rfl h10 rfl ?_
    refine TL_q (Qt_pick_t (.bool _) rfl h10 rfl) rfl ?_
    refine TL_nil ?_
    refine X_then ?_
    refine T_cond_true rfl (by first | rfl | decide) ?_
    refine T_seq ?_
    refine T_region ?_
    refine TL_q (Qt_assign (.slice _ _ _) rfl) rfl ?_
    refine TL_nil ?_
    refine X_then ?_
    refine T_ret ?_
    refine X_then_ret ?_
    exact X_ret () [_] Tryz.results7 ⟨rfl, trivial⟩ rfl (Subs.st inferInstance)
  ·
    have p10 := h10
    try simp only [decide_eq_true_eq, decide_eq_false_iff_not, Bool.not_eq_true', Bool.not_eq_false', Option.isNone_iff_eq_none, ne_eq, Decidable.not_not, Int.not_lt, Int.not_le] at p10
    exact absurd h10 (by decide)
set_option maxHeartbeats 1000000 in
theorem rtickNil_c {w0 : World} {H : List SA}  :
    CT Tryz.prog w0 (H) 8 [.pointer none] (α := Unit) (fun _ => .slice none 0 0) (fun _ => H) := by
  refine CT_intro Tryz.func8 rfl Tryz.ntmps8 rfl ?_
  refine T_seq ?_
  refine T_region ?_
  refine TL_q (Qt_assign (.slice _ _ _) rfl) rfl ?_
  refine TL_nil ?_
  refine X_then ?_
  refine T_seq ?_
  refine T_seq ?_
  refine T_region ?_
  refine TL_q (Qt_move (.pointer _) rfl) rfl ?_
  refine TL_q (Qt_ptr_nil rfl rfl Tryz.underlying23) rfl ?_
  refine TL_q (Qt_move (.bool _) rfl) rfl ?_
  refine TL_split 5 rfl (fun h5 => ?_) (fun h5 => ?_)
  ·
    have p5 := h5
    try simp only [decide_eq_true_eq, decide_eq_false_iff_not, Bool.not_eq_true', Bool.not_eq_false', Option.isNone_iff_eq_none, ne_eq, Decidable.not_not, Int.not_lt, Int.not_le] at p5
    refine TL_pass rfl rfl h5 rfl ?_
    refine TL_pass rfl rfl h5 rfl ?_
    refine TL_pass rfl rfl h5 rfl ?_
    refine TL_pass rfl rfl h5 rfl ?_
    refine TL_q (Qt_pick_t (.bool _) rfl h5 rfl) rfl ?_
    refine TL_nil ?_
    refine X_then ?_
    refine T_cond_true rfl (by first | rfl | decide) ?_
    refine T_seq ?_
    refine T_region ?_
    refine TL_q (Qt_assign (.slice _ _ _) rfl) rfl ?_
    refine TL_nil ?_
    refine X_then ?_
    refine T_ret ?_
    refine X_then_ret ?_
    exact X_ret () [_] Tryz.results8 ⟨rfl, trivial⟩ rfl (Subs.st inferInstance)
  ·
    have p5 := h5
    try simp only [decide_eq_true_eq, decide_eq_false_iff_not, Bool.not_eq_true', Bool.not_eq_false', Option.isNone_iff_eq_none, ne_eq, Decidable.not_not, Int.not_lt, Int.not_le] at p5
    exact absurd h5 (by decide)
set_option maxHeartbeats 1000000 in
theorem rworldNil_c {w0 : World} {H : List SA}  :
    CT Tryz.prog w0 (H) 9 [.pointer none] (α := Unit) (fun _ => .agg WorldV.zero.cells) (fun _ => H) := by
  refine CT_intro Tryz.func9 rfl Tryz.ntmps9 rfl ?_
  refine T_seq ?_
  refine T_region ?_
  refine TL_e rfl (Ef_allocN (fun b2 => ?_))
  refine TL_nil ?_
  refine X_then ?_
  refine T_seq ?_
  refine T_seq ?_
  refine T_region ?_
  refine TL_q (Qt_move (.pointer _) rfl) rfl ?_
  refine TL_q (Qt_ptr_nil rfl rfl Tryz.underlying23) rfl ?_
  refine TL_nil ?_
  refine X_then ?_
  refine T_cond_true rfl (by first | rfl | decide) ?_
  refine T_seq ?_
  refine T_region ?_
  refine TL_q (Qt_build [] rfl (by kernel_rfl)) rfl ?_
  refine TL_n (Ef_storeN rfl rfl (?_))
  refine TL_nil ?_
  refine X_then ?_
  refine T_ret ?_
  refine X_then_ret ?_
  exact X_ret () [_] Tryz.results9 ⟨⟨_, rfl, res_cellN rfl⟩, trivial⟩ rfl (Subs.st inferInstance)
set_option maxHeartbeats 1000000 in
theorem rlastNil_c {w0 : World} {H : List SA}  :
    CT Tryz.prog w0 (H) 10 [.pointer none] (α := Unit) (fun _ => .agg SlotV.zero.cells) (fun _ => H) := by
  refine CT_intro Tryz.func10 rfl Tryz.ntmps10 rfl ?_
  refine T_seq ?_
  refine T_region ?_
  refine TL_e rfl (Ef_allocN (fun b2 => ?_))
  refine TL_nil ?_
  refine X_then ?_
  refine T_seq ?_
  refine T_seq ?_
  refine T_region ?_
  refine TL_q (Qt_move (.pointer _) rfl) rfl ?_
  refine TL_q (Qt_ptr_nil rfl rfl Tryz.underlying23) rfl ?_
  refine TL_nil ?_
  refine X_then ?_
  refine T_cond_true rfl (by first | rfl | decide) ?_
  refine T_seq ?_
  refine T_region ?_
  refine TL_q (Qt_build [] rfl (by kernel_rfl)) rfl ?_
  refine TL_n (Ef_storeN rfl rfl (?_))
  refine TL_nil ?_
  refine X_then ?_
  refine T_ret ?_
  refine X_then_ret ?_
  exact X_ret () [_] Tryz.results10 ⟨⟨_, rfl, res_cellN rfl⟩, trivial⟩ rfl (Subs.st inferInstance)
set_option maxHeartbeats 1000000 in
theorem rregNil_c {w0 : World} {H : List SA}  :
    CT Tryz.prog w0 (H) 5 [.pointer none] (α := Unit) (fun _ => .tuple #[.int .i64 0, .bool false]) (fun _ => H) := by
  refine CT_intro Tryz.func5 rfl Tryz.ntmps5 rfl ?_
  refine T_seq ?_
  refine T_region ?_
  refine TL_q (Qt_assign (.int .i64 _) rfl) rfl ?_
  refine TL_q (Qt_assign (.bool _) rfl) rfl ?_
  refine TL_nil ?_
  refine X_then ?_
  refine T_seq ?_
  refine T_seq ?_
  refine T_region ?_
  refine TL_q (Qt_move (.pointer _) rfl) rfl ?_
  refine TL_q (Qt_ptr_nil rfl rfl Tryz.underlying23) rfl ?_
  refine TL_nil ?_
  refine X_then ?_
  refine T_cond_true rfl (by first | rfl | decide) ?_
  refine T_seq ?_
  refine T_region ?_
  refine TL_q (Qt_assign (.int .i64 _) rfl) rfl ?_
  refine TL_q (Qt_assign (.bool _) rfl) rfl ?_
  refine TL_nil ?_
  refine X_then ?_
  refine T_ret ?_
  refine X_then_ret ?_
  exact X_ret () [_, _] Tryz.results5 ⟨rfl, rfl, trivial⟩ rfl (Subs.st inferInstance)
set_option maxHeartbeats 1000000 in
theorem rwaitsNil_c {w0 : World} {H : List SA}  :
    CT Tryz.prog w0 (H) 11 [.pointer none] (α := Unit) (fun _ => .int .i64 0) (fun _ => H) := by
  refine CT_intro Tryz.func11 rfl Tryz.ntmps11 rfl ?_
  refine T_seq ?_
  refine T_region ?_
  refine TL_q (Qt_assign (.int .i64 _) rfl) rfl ?_
  refine TL_nil ?_
  refine X_then ?_
  refine T_seq ?_
  refine T_seq ?_
  refine T_region ?_
  refine TL_q (Qt_move (.pointer _) rfl) rfl ?_
  refine TL_q (Qt_ptr_nil rfl rfl Tryz.underlying23) rfl ?_
  refine TL_nil ?_
  refine X_then ?_
  refine T_cond_true rfl (by first | rfl | decide) ?_
  refine T_seq ?_
  refine T_region ?_
  refine TL_q (Qt_assign (.int .i64 _) rfl) rfl ?_
  refine TL_nil ?_
  refine X_then ?_
  refine T_ret ?_
  refine X_then_ret ?_
  exact X_ret () [_] Tryz.results11 ⟨rfl, trivial⟩ rfl (Subs.st inferInstance)
set_option maxHeartbeats 1000000 in
theorem rdownNil_c {w0 : World} {H : List SA}  :
    CT Tryz.prog w0 (H) 12 [.pointer none] (α := Unit) (fun _ => .bool true) (fun _ => H) := by
  refine CT_intro Tryz.func12 rfl Tryz.ntmps12 rfl ?_
  refine T_seq ?_
  refine T_region ?_
  refine TL_q (Qt_assign (.bool _) rfl) rfl ?_
  refine TL_nil ?_
  refine X_then ?_
  refine T_seq ?_
  refine T_region ?_
  refine TL_q (Qt_move (.pointer _) rfl) rfl ?_
  refine TL_q (Qt_ptr_nil rfl rfl Tryz.underlying23) rfl ?_
  refine TL_q (Qt_move (.bool _) rfl) rfl ?_
  refine TL_split 5 rfl (fun h5 => ?_) (fun h5 => ?_)
  ·
    have p5 := h5
    try simp only [decide_eq_true_eq, decide_eq_false_iff_not, Bool.not_eq_true', Bool.not_eq_false', Option.isNone_iff_eq_none, ne_eq, Decidable.not_not, Int.not_lt, Int.not_le] at p5
    refine TL_pass rfl rfl h5 rfl ?_
    refine TL_pass rfl rfl h5 rfl ?_
    refine TL_pass rfl rfl h5 rfl ?_
    refine TL_pass rfl rfl h5 rfl ?_
    refine TL_q (Qt_pick_t (.bool _) rfl h5 rfl) rfl ?_
    refine TL_q (Qt_assign (.bool _) rfl) rfl ?_
    refine TL_nil ?_
    refine X_then ?_
    refine T_ret ?_
    exact X_ret () [_] Tryz.results12 ⟨rfl, trivial⟩ (congrArg Value.bool (by first | rfl | decide | simp)) (Subs.st inferInstance)
  ·
    have p5 := h5
    try simp only [decide_eq_true_eq, decide_eq_false_iff_not, Bool.not_eq_true', Bool.not_eq_false', Option.isNone_iff_eq_none, ne_eq, Decidable.not_not, Int.not_lt, Int.not_le] at p5
    exact absurd h5 (by decide)
theorem world_eq (w : World) : (Op.equal 42 (.agg WorldV.zero.cells) (.agg WorldV.zero.cells)).run Tryz.prog w = .ok true w := by kernel_rfl
set_option maxHeartbeats 1000000 in
theorem replicaNil_c {w0 : World} {H : List SA} {a : Option Addr} {n c : Nat} :
    CT Tryz.prog w0 (H) 3 [.slice a n c] (α := Unit) (fun _ => .bool true) (fun _ => H) := by
  refine CT_intro Tryz.func3 rfl Tryz.ntmps3 rfl ?_
  refine T_seq ?_
  refine T_region ?_
  refine TL_q (Qt_assign (.bool _) rfl) rfl ?_
  refine TL_nil ?_
  refine X_then ?_
  refine T_seq ?_
  refine T_region ?_
  refine TL_q (Qt_assign (.pointer _) rfl) rfl ?_
  refine TL_nil ?_
  refine X_then ?_
  refine T_seq ?_
  refine T_seq ?_
  refine T_region ?_
  refine TL_e rfl (Ef_call (wakes23_c) rfl (fun x6 => ?_))
  refine TL_q (Qt_not rfl) rfl ?_
  refine TL_nil ?_
  refine X_then ?_
  refine T_cond_false rfl (by first | rfl | decide) ?_
  refine T_skip ?_
  refine X_then ?_
  refine T_seq ?_
  refine T_region ?_
  refine TL_q (Qt_move (.pointer _) rfl) rfl ?_
  refine TL_e rfl (Ef_call (rregNil_c) rfl (fun x10 => ?_))
  refine TL_q (Qt_move (.tuple _) rfl) rfl ?_
  refine TL_q (Qt_extract rfl) rfl ?_
  refine TL_q (Qt_extract rfl) rfl ?_
  refine TL_q (Qt_assign (.int .i64 _) rfl) rfl ?_
  refine TL_q (Qt_assign (.bool _) rfl) rfl ?_
  refine TL_nil ?_
  refine X_then ?_
  refine T_seq ?_
  refine T_region ?_
  refine TL_q (Qt_move (.pointer _) rfl) rfl ?_
  refine TL_q (Qt_move (.slice _ _ _) rfl) rfl ?_
  refine TL_e rfl (Ef_call (rhandleNil_c) rfl (fun x15 => ?_))
  refine TL_q (Qt_len_slice rfl Tryz.underlying27) rfl ?_
  refine TL_q (Qt_move (.pointer _) rfl) rfl ?_
  refine TL_q (Qt_move (.slice _ _ _) rfl) rfl ?_
  refine TL_e rfl (Ef_call (rrequestNil_c) rfl (fun x19 => ?_))
  refine TL_q (Qt_len_slice rfl Tryz.underlying27) rfl ?_
  first
    | refine TL_q (Qt_add rfl rfl (by omega) (by omega)) rfl ?_
    | refine TL_q (Qt_addw rfl rfl) rfl ?_
  refine TL_q (Qt_move (.pointer _) rfl) rfl ?_
  refine TL_e rfl (Ef_call (rtickNil_c) rfl (fun x23 => ?_))
  refine TL_q (Qt_len_slice rfl Tryz.underlying27) rfl ?_
  first
    | refine TL_q (Qt_add rfl rfl (by omega) (by omega)) rfl ?_
    | refine TL_q (Qt_addw rfl rfl) rfl ?_
  refine TL_q (Qt_eql rfl rfl) rfl ?_
  refine TL_q (Qt_move (.bool _) rfl) rfl ?_
  refine TL_split 27 rfl (fun h27 => ?_) (fun h27 => ?_)
  ·
    have p27 := h27
    try simp only [decide_eq_true_eq, decide_eq_false_iff_not, Bool.not_eq_true', Bool.not_eq_false', Option.isNone_iff_eq_none, ne_eq, Decidable.not_not, Int.not_lt, Int.not_le] at p27
    refine TL_take rfl rfl h27 ?_
    refine TL_q (Qt_move (.pointer _) rfl) rfl ?_
    refine TL_take rfl rfl h27 ?_
    refine TL_e rfl (Ef_call (rworldNil_c) rfl (fun x29 => ?_))
    refine TL_take rfl rfl h27 ?_
    refine TL_q (Qt_build [] rfl (by kernel_rfl)) rfl ?_
    refine TL_take rfl rfl h27 ?_
    refine TL_q (Qt_agg_eqlH rfl rfl world_eq (by kernel_rfl)) rfl ?_
    refine TL_q (Qt_pick_t (.bool _) rfl h27 rfl) rfl ?_
    refine TL_q (Qt_move (.bool _) rfl) rfl ?_
    refine TL_split 33 rfl (fun h33 => ?_) (fun h33 => ?_)
    ·
      have p33 := h33
      try simp only [decide_eq_true_eq, decide_eq_false_iff_not, Bool.not_eq_true', Bool.not_eq_false', Option.isNone_iff_eq_none, ne_eq, Decidable.not_not, Int.not_lt, Int.not_le] at p33
      refine TL_take rfl rfl h33 ?_
      refine TL_q (Qt_move (.pointer _) rfl) rfl ?_
      refine TL_take rfl rfl h33 ?_
      refine TL_e rfl (Ef_call (rlastNil_c) rfl (fun x35 => ?_))
      refine TL_take rfl rfl h33 ?_
      refine TL_q (Qt_field1 (ft := 3) rfl rfl) rfl ?_
      refine TL_take rfl rfl h33 ?_
      refine TL_q (Qt_eql rfl rfl) rfl ?_
      refine TL_q (Qt_pick_t (.bool _) rfl h33 rfl) rfl ?_
      refine TL_q (Qt_move (.bool _) rfl) rfl ?_
      refine TL_split 39 rfl (fun h39 => ?_) (fun h39 => ?_)
      ·
        have p39 := h39
        try simp only [decide_eq_true_eq, decide_eq_false_iff_not, Bool.not_eq_true', Bool.not_eq_false', Option.isNone_iff_eq_none, ne_eq, Decidable.not_not, Int.not_lt, Int.not_le] at p39
        refine TL_take rfl rfl h39 ?_
        refine TL_q (Qt_move (.int .i64 _) rfl) rfl ?_
        refine TL_take rfl rfl h39 ?_
        refine TL_q (Qt_eql rfl rfl) rfl ?_
        refine TL_q (Qt_pick_t (.bool _) rfl h39 rfl) rfl ?_
        refine TL_q (Qt_move (.bool _) rfl) rfl ?_
        refine TL_split 43 rfl (fun h43 => ?_) (fun h43 => ?_)
        ·
          have p43 := h43
          try simp only [decide_eq_true_eq, decide_eq_false_iff_not, Bool.not_eq_true', Bool.not_eq_false', Option.isNone_iff_eq_none, ne_eq, Decidable.not_not, Int.not_lt, Int.not_le] at p43
          refine TL_take rfl rfl h43 ?_
          refine TL_q (Qt_move (.bool _) rfl) rfl ?_
          refine TL_take rfl rfl h43 ?_
          refine TL_q (Qt_not rfl) rfl ?_
          refine TL_q (Qt_pick_t (.bool _) rfl h43 rfl) rfl ?_
          refine TL_q (Qt_move (.bool _) rfl) rfl ?_
          refine TL_split 47 rfl (fun h47 => ?_) (fun h47 => ?_)
          ·
            have p47 := h47
            try simp only [decide_eq_true_eq, decide_eq_false_iff_not, Bool.not_eq_true', Bool.not_eq_false', Option.isNone_iff_eq_none, ne_eq, Decidable.not_not, Int.not_lt, Int.not_le] at p47
            refine TL_take rfl rfl h47 ?_
            refine TL_q (Qt_move (.pointer _) rfl) rfl ?_
            refine TL_take rfl rfl h47 ?_
            refine TL_e rfl (Ef_call (rwaitsNil_c) rfl (fun x49 => ?_))
            refine TL_take rfl rfl h47 ?_
            refine TL_q (Qt_eql rfl rfl) rfl ?_
            refine TL_q (Qt_pick_t (.bool _) rfl h47 rfl) rfl ?_
            refine TL_q (Qt_move (.bool _) rfl) rfl ?_
            refine TL_split 52 rfl (fun h52 => ?_) (fun h52 => ?_)
            ·
              have p52 := h52
              try simp only [decide_eq_true_eq, decide_eq_false_iff_not, Bool.not_eq_true', Bool.not_eq_false', Option.isNone_iff_eq_none, ne_eq, Decidable.not_not, Int.not_lt, Int.not_le] at p52
              refine TL_take rfl rfl h52 ?_
              refine TL_q (Qt_move (.pointer _) rfl) rfl ?_
              refine TL_take rfl rfl h52 ?_
              refine TL_e rfl (Ef_call (rdownNil_c) rfl (fun x54 => ?_))
              refine TL_q (Qt_pick_t (.bool _) rfl h52 rfl) rfl ?_
              refine TL_q (Qt_assign (.bool _) rfl) rfl ?_
              refine TL_nil ?_
              refine X_then ?_
              refine T_ret ?_
              exact X_ret () [.bool true] Tryz.results3 ⟨congrArg Value.bool (by first | rfl | decide | simp), trivial⟩ rfl (Subs.st inferInstance)
            ·
              have p52 := h52
              try simp only [decide_eq_true_eq, decide_eq_false_iff_not, Bool.not_eq_true', Bool.not_eq_false', Option.isNone_iff_eq_none, ne_eq, Decidable.not_not, Int.not_lt, Int.not_le] at p52
              exact absurd h52 (by first | decide | simp)
          ·
            have p47 := h47
            try simp only [decide_eq_true_eq, decide_eq_false_iff_not, Bool.not_eq_true', Bool.not_eq_false', Option.isNone_iff_eq_none, ne_eq, Decidable.not_not, Int.not_lt, Int.not_le] at p47
            exact absurd h47 (by first | decide | simp)
        ·
          have p43 := h43
          try simp only [decide_eq_true_eq, decide_eq_false_iff_not, Bool.not_eq_true', Bool.not_eq_false', Option.isNone_iff_eq_none, ne_eq, Decidable.not_not, Int.not_lt, Int.not_le] at p43
          exact absurd h43 (by first | decide | simp)
      ·
        have p39 := h39
        try simp only [decide_eq_true_eq, decide_eq_false_iff_not, Bool.not_eq_true', Bool.not_eq_false', Option.isNone_iff_eq_none, ne_eq, Decidable.not_not, Int.not_lt, Int.not_le] at p39
        exact absurd h39 (by first | decide | simp)
    ·
      have p33 := h33
      try simp only [decide_eq_true_eq, decide_eq_false_iff_not, Bool.not_eq_true', Bool.not_eq_false', Option.isNone_iff_eq_none, ne_eq, Decidable.not_not, Int.not_lt, Int.not_le] at p33
      exact absurd h33 (by first | decide | simp)
  ·
    have p27 := h27
    try simp only [decide_eq_true_eq, decide_eq_false_iff_not, Bool.not_eq_true', Bool.not_eq_false', Option.isNone_iff_eq_none, ne_eq, Decidable.not_not, Int.not_lt, Int.not_le] at p27
    exact absurd h27 (by first | decide | simp)
end Go.Proofs.YtldnfbghjnhklaaGreatDoor
