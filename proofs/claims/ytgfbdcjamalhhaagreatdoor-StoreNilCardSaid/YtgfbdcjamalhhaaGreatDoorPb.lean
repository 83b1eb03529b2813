/- Walks of package store: a store that is not there; the law StoreNil. -/
import Derived.Test.YtgfbdcjamalhhaaGreatDoorPa
namespace Go.Proofs.YtgfbdcjamalhhaaGreatDoor
open Go.RowKit Go.Sx
set_option maxRecDepth 100000
set_option linter.unusedSimpArgs false
set_option linter.unusedVariables false
attribute [local irreducible] sha worldB
set_option maxHeartbeats 1000000 in
theorem sdecideNil_c {w0 : World} {H : List SA} {a : Option Addr} {n c : Nat} :
    CT Tryz.prog w0 (H) 18 [.pointer none, .slice a n c] (α := Unit) (fun _ => .tuple #[.slice none 0 0, .int .i64 16]) (fun _ => H) := by
  refine CT_intro Tryz.func18 rfl Tryz.ntmps18 rfl ?_
  refine T_seq ?_
  refine T_region ?_
  refine TL_q (Qt_assign (.slice _ _ _) rfl) rfl ?_
  refine TL_q (Qt_assign (.int .i64 _) rfl) rfl ?_
  refine TL_nil ?_
  refine X_then ?_
  refine T_seq ?_
  refine T_block ?_
  refine T_seq ?_
  refine T_region ?_
  refine TL_q (Qt_move (.pointer _) rfl) rfl ?_
  refine TL_q (Qt_ptr_nil rfl rfl Tryz.underlying67) rfl ?_
  refine TL_q (Qt_assign (.bool _) rfl) rfl ?_
  refine TL_nil ?_
  refine X_then ?_
  refine T_cond_true rfl (by first | rfl | decide) ?_
  refine T_seq ?_
  refine T_region ?_
  refine TL_q (Qt_assign (.slice _ _ _) rfl) rfl ?_
  refine TL_q (Qt_assign (.int .i64 _) rfl) rfl ?_
  refine TL_nil ?_
  refine X_then ?_
  refine T_ret ?_
  refine X_block_ret ?_
  refine X_then_ret ?_
  exact X_ret () [_, _] Tryz.results18 ⟨rfl, rfl, trivial⟩ rfl (Subs.st inferInstance)
set_option maxHeartbeats 1000000 in
theorem svoteNil_c {w0 : World} {H : List SA} {v : VoteV} :
    CT Tryz.prog w0 (H) 25 [.pointer none, .agg v.cells] (α := Unit) (fun _ => .int .i64 16) (fun _ => H) := by
  refine CT_intro Tryz.func25 rfl Tryz.ntmps25 rfl ?_
  refine T_seq ?_
  refine T_region ?_
  refine TL_e rfl (Ef_boxN rfl (fun b3 => ?_))
  refine TL_q (Qt_assign (.int .i64 _) rfl) rfl ?_
  refine TL_nil ?_
  refine X_then ?_
  refine T_seq ?_
  refine T_block ?_
  refine T_seq ?_
  refine T_region ?_
  refine TL_q (Qt_move (.pointer _) rfl) rfl ?_
  refine TL_q (Qt_ptr_nil rfl rfl Tryz.underlying67) rfl ?_
  refine TL_q (Qt_assign (.bool _) rfl) rfl ?_
  refine TL_nil ?_
  refine X_then ?_
  refine T_cond_true rfl (by first | rfl | decide) ?_
  refine T_seq ?_
  refine T_region ?_
  refine TL_q (Qt_assign (.int .i64 _) rfl) rfl ?_
  refine TL_nil ?_
  refine X_then ?_
  refine T_ret ?_
  refine X_block_ret ?_
  refine X_then_ret ?_
  exact X_ret () [_] Tryz.results25 ⟨rfl, trivial⟩ rfl (Subs.st inferInstance)
set_option maxHeartbeats 1000000 in
theorem ssaveNil_c {w0 : World} {H : List SA}  :
    CT Tryz.prog w0 (H) 26 [.pointer none] (α := Unit) (fun _ => .int .i64 16) (fun _ => H) := by
  refine CT_intro Tryz.func26 rfl Tryz.ntmps26 rfl ?_
  refine T_seq ?_
  refine T_region ?_
  refine TL_q (Qt_assign (.int .i64 _) rfl) rfl ?_
  refine TL_nil ?_
  refine X_then ?_
  refine T_seq ?_
  refine T_block ?_
  refine T_seq ?_
  refine T_region ?_
  refine TL_q (Qt_move (.pointer _) rfl) rfl ?_
  refine TL_q (Qt_ptr_nil rfl rfl Tryz.underlying67) rfl ?_
  refine TL_q (Qt_assign (.bool _) rfl) rfl ?_
  refine TL_nil ?_
  refine X_then ?_
  refine T_cond_true rfl (by first | rfl | decide) ?_
  refine T_seq ?_
  refine T_region ?_
  refine TL_q (Qt_assign (.int .i64 _) rfl) rfl ?_
  refine TL_nil ?_
  refine X_then ?_
  refine T_ret ?_
  refine X_block_ret ?_
  refine X_then_ret ?_
  exact X_ret () [_] Tryz.results26 ⟨rfl, trivial⟩ rfl (Subs.st inferInstance)
set_option maxHeartbeats 1000000 in
theorem sinstallNil_c {w0 : World} {H : List SA} {v : WorldV} {x : SlotV} :
    CT Tryz.prog w0 (H) 27 [.pointer none, .agg v.cells, .agg x.cells] (α := Unit) (fun _ => .int .i64 16) (fun _ => H) := by
  refine CT_intro Tryz.func27 rfl Tryz.ntmps27 rfl ?_
  refine T_seq ?_
  refine T_region ?_
  refine TL_e rfl (Ef_boxN rfl (fun b4 => ?_))
  refine TL_e rfl (Ef_boxN rfl (fun b5 => ?_))
  refine TL_q (Qt_assign (.int .i64 _) rfl) rfl ?_
  refine TL_nil ?_
  refine X_then ?_
  refine T_seq ?_
  refine T_block ?_
  refine T_seq ?_
  refine T_region ?_
  refine TL_q (Qt_move (.pointer _) rfl) rfl ?_
  refine TL_q (Qt_ptr_nil rfl rfl Tryz.underlying67) rfl ?_
  refine TL_q (Qt_assign (.bool _) rfl) rfl ?_
  refine TL_nil ?_
  refine X_then ?_
  refine T_cond_true rfl (by first | rfl | decide) ?_
  refine T_seq ?_
  refine T_region ?_
  refine TL_q (Qt_assign (.int .i64 _) rfl) rfl ?_
  refine TL_nil ?_
  refine X_then ?_
  refine T_ret ?_
  refine X_block_ret ?_
  refine X_then_ret ?_
  exact X_ret () [_] Tryz.results27 ⟨rfl, trivial⟩ rfl (Subs.st inferInstance)
set_option maxHeartbeats 1000000 in
theorem sworldNil_c {w0 : World} {H : List SA}  :
    CT Tryz.prog w0 (H) 28 [.pointer none] (α := Unit) (fun _ => .agg WorldV.zero.cells) (fun _ => H) := by
  refine CT_intro Tryz.func28 rfl Tryz.ntmps28 rfl ?_
  refine T_seq ?_
  refine T_region ?_
  refine TL_e rfl (Ef_allocN (fun b2 => ?_))
  refine TL_nil ?_
  refine X_then ?_
  refine T_seq ?_
  refine T_seq ?_
  refine T_region ?_
  refine TL_q (Qt_move (.pointer _) rfl) rfl ?_
  refine TL_q (Qt_ptr_nil rfl rfl Tryz.underlying67) rfl ?_
  refine TL_nil ?_
  refine X_then ?_
  refine T_cond_true rfl (by first | rfl | decide) ?_
  refine T_seq ?_
  refine T_region ?_
  refine TL_q (Qt_build [] rfl (by kernel_rfl)) rfl ?_
  refine TL_n (Ef_storeN rfl rfl (?_))
  refine TL_nil ?_
  refine X_then ?_
  refine T_ret ?_
  refine X_then_ret ?_
  exact X_ret () [_] Tryz.results28 ⟨⟨_, rfl, res_cellN rfl⟩, trivial⟩ rfl (Subs.st inferInstance)
set_option maxHeartbeats 1000000 in
theorem slastNil_c {w0 : World} {H : List SA}  :
    CT Tryz.prog w0 (H) 20 [.pointer none] (α := Unit) (fun _ => .agg SlotV.zero.cells) (fun _ => H) := by
  refine CT_intro Tryz.func20 rfl Tryz.ntmps20 rfl ?_
  refine T_seq ?_
  refine T_region ?_
  refine TL_e rfl (Ef_allocN (fun b2 => ?_))
  refine TL_nil ?_
  refine X_then ?_
  refine T_seq ?_
  refine T_seq ?_
  refine T_region ?_
  refine TL_q (Qt_move (.pointer _) rfl) rfl ?_
  refine TL_q (Qt_ptr_nil rfl rfl Tryz.underlying67) rfl ?_
  refine TL_nil ?_
  refine X_then ?_
  refine T_cond_true rfl (by first | rfl | decide) ?_
  refine T_seq ?_
  refine T_region ?_
  refine TL_q (Qt_build [] rfl (by kernel_rfl)) rfl ?_
  refine TL_n (Ef_storeN rfl rfl (?_))
  refine TL_nil ?_
  refine X_then ?_
  refine T_ret ?_
  refine X_then_ret ?_
  exact X_ret () [_] Tryz.results20 ⟨⟨_, rfl, res_cellN rfl⟩, trivial⟩ rfl (Subs.st inferInstance)
set_option maxHeartbeats 1000000 in
theorem sslotsNil_c {w0 : World} {H : List SA}  :
    CT Tryz.prog w0 (H) 30 [.pointer none] (α := Unit) (fun _ => .slice none 0 0) (fun _ => H) := by
  refine CT_intro Tryz.func30 rfl Tryz.ntmps30 rfl ?_
  refine T_seq ?_
  refine T_region ?_
  refine TL_q (Qt_assign (.slice _ _ _) rfl) rfl ?_
  refine TL_nil ?_
  refine X_then ?_
  refine T_seq ?_
  refine T_seq ?_
  refine T_region ?_
  refine TL_q (Qt_move (.pointer _) rfl) rfl ?_
  refine TL_q (Qt_ptr_nil rfl rfl Tryz.underlying67) rfl ?_
  refine TL_nil ?_
  refine X_then ?_
  refine T_cond_true rfl (by first | rfl | decide) ?_
  refine T_seq ?_
  refine T_region ?_
  refine TL_q (Qt_assign (.slice _ _ _) rfl) rfl ?_
  refine TL_nil ?_
  refine X_then ?_
  refine T_ret ?_
  refine X_then_ret ?_
  exact X_ret () [_] Tryz.results30 ⟨rfl, trivial⟩ rfl (Subs.st inferInstance)
set_option maxHeartbeats 1000000 in
theorem svotesNil_c {w0 : World} {H : List SA}  :
    CT Tryz.prog w0 (H) 31 [.pointer none] (α := Unit) (fun _ => .slice none 0 0) (fun _ => H) := by
  refine CT_intro Tryz.func31 rfl Tryz.ntmps31 rfl ?_
  refine T_seq ?_
  refine T_region ?_
  refine TL_q (Qt_assign (.slice _ _ _) rfl) rfl ?_
  refine TL_nil ?_
  refine X_then ?_
  refine T_seq ?_
  refine T_seq ?_
  refine T_region ?_
  refine TL_q (Qt_move (.pointer _) rfl) rfl ?_
  refine TL_q (Qt_ptr_nil rfl rfl Tryz.underlying67) rfl ?_
  refine TL_nil ?_
  refine X_then ?_
  refine T_cond_true rfl (by first | rfl | decide) ?_
  refine T_seq ?_
  refine T_region ?_
  refine TL_q (Qt_assign (.slice _ _ _) rfl) rfl ?_
  refine TL_nil ?_
  refine X_then ?_
  refine T_ret ?_
  refine X_then_ret ?_
  exact X_ret () [_] Tryz.results31 ⟨rfl, trivial⟩ rfl (Subs.st inferInstance)
set_option maxHeartbeats 1000000 in
theorem ssavedNil_c {w0 : World} {H : List SA}  :
    CT Tryz.prog w0 (H) 32 [.pointer none] (α := Unit) (fun _ => .int .i64 0) (fun _ => H) := by
  refine CT_intro Tryz.func32 rfl Tryz.ntmps32 rfl ?_
  refine T_seq ?_
  refine T_region ?_
  refine TL_q (Qt_assign (.int .i64 _) rfl) rfl ?_
  refine TL_nil ?_
  refine X_then ?_
  refine T_seq ?_
  refine T_seq ?_
  refine T_region ?_
  refine TL_q (Qt_move (.pointer _) rfl) rfl ?_
  refine TL_q (Qt_ptr_nil rfl rfl Tryz.underlying67) rfl ?_
  refine TL_nil ?_
  refine X_then ?_
  refine T_cond_true rfl (by first | rfl | decide) ?_
  refine T_seq ?_
  refine T_region ?_
  refine TL_q (Qt_assign (.int .i64 _) rfl) rfl ?_
  refine TL_nil ?_
  refine X_then ?_
  refine T_ret ?_
  refine X_then_ret ?_
  exact X_ret () [_] Tryz.results32 ⟨rfl, trivial⟩ rfl (Subs.st inferInstance)
set_option maxHeartbeats 1000000 in
theorem sregNil_c {w0 : World} {H : List SA}  :
    CT Tryz.prog w0 (H) 24 [.pointer none] (α := Unit) (fun _ => .tuple #[.int .i64 0, .int .i64 0]) (fun _ => H) := by
  refine CT_intro Tryz.func24 rfl Tryz.ntmps24 rfl ?_
  refine T_seq ?_
  refine T_region ?_
  refine TL_q (Qt_assign (.int .i64 _) rfl) rfl ?_
  refine TL_q (Qt_assign (.int .i64 _) rfl) rfl ?_
  refine TL_nil ?_
  refine X_then ?_
  refine T_seq ?_
  refine T_seq ?_
  refine T_region ?_
  refine TL_q (Qt_move (.pointer _) rfl) rfl ?_
  refine TL_q (Qt_ptr_nil rfl rfl Tryz.underlying67) rfl ?_
  refine TL_nil ?_
  refine X_then ?_
  refine T_cond_true rfl (by first | rfl | decide) ?_
  refine T_seq ?_
  refine T_region ?_
  refine TL_q (Qt_assign (.int .i64 _) rfl) rfl ?_
  refine TL_q (Qt_assign (.int .i64 _) rfl) rfl ?_
  refine TL_nil ?_
  refine X_then ?_
  refine T_ret ?_
  refine X_then_ret ?_
  exact X_ret () [_, _] Tryz.results24 ⟨rfl, rfl, trivial⟩ rfl (Subs.st inferInstance)
set_option maxHeartbeats 1000000 in
theorem sdigestNil_c {w0 : World} {H : List SA} {n : Int} :
    CT Tryz.prog w0 (H) 21 [.pointer none, .int .i64 n] (α := Unit) (fun _ => .tuple #[.agg (hlist (zeroV 32)).toArray, .bool false]) (fun _ => H) := by
  refine CT_intro Tryz.func21 rfl Tryz.ntmps21 rfl ?_
  refine T_seq ?_
  refine T_region ?_
  refine TL_e rfl (Ef_allocN (fun b4 => ?_))
  refine TL_q (Qt_assign (.bool _) rfl) rfl ?_
  refine TL_nil ?_
  refine X_then ?_
  refine T_seq ?_
  refine T_seq ?_
  refine T_region ?_
  refine TL_q (Qt_move (.pointer _) rfl) rfl ?_
  refine TL_q (Qt_ptr_nil rfl rfl Tryz.underlying67) rfl ?_
  refine TL_nil ?_
  refine X_then ?_
  refine T_cond_true rfl (by first | rfl | decide) ?_
  refine T_seq ?_
  refine T_region ?_
  refine TL_q (Qt_build_arr (hlist (zeroV 32)).toArray Tryz.underlying47 rfl rfl rfl) rfl ?_
  refine TL_n (Ef_storeN rfl rfl (?_))
  refine TL_q (Qt_assign (.bool _) rfl) rfl ?_
  refine TL_nil ?_
  refine X_then ?_
  refine T_ret ?_
  refine X_then_ret ?_
  exact X_ret () [_, _] Tryz.results21 ⟨⟨_, rfl, res_cellN rfl⟩, rfl, trivial⟩ rfl (Subs.st inferInstance)
set_option maxHeartbeats 1000000 in
theorem swroteNil_c {w0 : World} {H : List SA} {n v r : Int} :
    CT Tryz.prog w0 (H) 22 [.pointer none, .int .i64 n, .int .i64 v, .int .i64 r] (α := Unit) (fun _ => .tuple #[.agg VoteV.zero.cells, .bool false]) (fun _ => H) := by
  refine CT_intro Tryz.func22 rfl Tryz.ntmps22 rfl ?_
  refine T_seq ?_
  refine T_region ?_
  refine TL_e rfl (Ef_allocN (fun b8 => ?_))
  refine TL_q (Qt_assign (.bool _) rfl) rfl ?_
  refine TL_nil ?_
  refine X_then ?_
  refine T_seq ?_
  refine T_seq ?_
  refine T_region ?_
  refine TL_q (Qt_move (.pointer _) rfl) rfl ?_
  refine TL_q (Qt_ptr_nil rfl rfl Tryz.underlying67) rfl ?_
  refine TL_q (Qt_move (.bool _) rfl) rfl ?_
  refine TL_split 12 rfl (fun h12 => ?_) (fun h12 => ?_)
  ·
    have p12 := h12
    try simp only [decide_eq_true_eq, decide_eq_false_iff_not, Bool.not_eq_true', Bool.not_eq_false', Option.isNone_iff_eq_none, ne_eq, Decidable.not_not, Int.not_lt, Int.not_le] at p12
    refine TL_pass rfl rfl h12 rfl ?_
    refine TL_pass rfl rfl h12 rfl ?_
    refine TL_pass rfl rfl h12 rfl ?_
    refine TL_pass rfl rfl h12 rfl ?_
    refine TL_pass rfl rfl h12 rfl ?_
    refine TL_pass rfl rfl h12 rfl ?_
    refine TL_pass rfl rfl h12 rfl ?_
    refine TL_q (Qt_pick_t (.bool _) rfl h12 rfl) rfl ?_
    refine TL_nil ?_
    refine X_then ?_
    refine T_cond_true rfl (by first | rfl | decide) ?_
    refine T_seq ?_
    refine T_region ?_
    refine TL_q (Qt_build [] rfl (by kernel_rfl)) rfl ?_
    refine TL_n (Ef_storeN rfl rfl (?_))
    refine TL_q (Qt_assign (.bool _) rfl) rfl ?_
    refine TL_nil ?_
    refine X_then ?_
    refine T_ret ?_
    refine X_then_ret ?_
    exact X_ret () [_, _] Tryz.results22 ⟨⟨_, rfl, res_cellN rfl⟩, rfl, trivial⟩ rfl (Subs.st inferInstance)
  ·
    have p12 := h12
    try simp only [decide_eq_true_eq, decide_eq_false_iff_not, Bool.not_eq_true', Bool.not_eq_false', Option.isNone_iff_eq_none, ne_eq, Decidable.not_not, Int.not_lt, Int.not_le] at p12
    exact absurd h12 (by decide)
set_option maxHeartbeats 1000000 in
theorem sacceptedNil_c {w0 : World} {H : List SA} {n : Int} :
    CT Tryz.prog w0 (H) 23 [.pointer none, .int .i64 n] (α := Unit) (fun _ => .tuple #[.agg VoteV.zero.cells, .bool false]) (fun _ => H) := by
  refine CT_intro Tryz.func23 rfl Tryz.ntmps23 rfl ?_
  refine T_seq ?_
  refine T_region ?_
  refine TL_e rfl (Ef_allocN (fun b4 => ?_))
  refine TL_q (Qt_assign (.bool _) rfl) rfl ?_
  refine TL_nil ?_
  refine X_then ?_
  refine T_seq ?_
  refine T_seq ?_
  refine T_region ?_
  refine TL_q (Qt_move (.pointer _) rfl) rfl ?_
  refine TL_q (Qt_ptr_nil rfl rfl Tryz.underlying67) rfl ?_
  refine TL_q (Qt_move (.bool _) rfl) rfl ?_
  refine TL_split 8 rfl (fun h8 => ?_) (fun h8 => ?_)
  ·
    have p8 := h8
    try simp only [decide_eq_true_eq, decide_eq_false_iff_not, Bool.not_eq_true', Bool.not_eq_false', Option.isNone_iff_eq_none, ne_eq, Decidable.not_not, Int.not_lt, Int.not_le] at p8
    refine TL_pass rfl rfl h8 rfl ?_
    refine TL_pass rfl rfl h8 rfl ?_
    refine TL_pass rfl rfl h8 rfl ?_
    refine TL_pass rfl rfl h8 rfl ?_
    refine TL_pass rfl rfl h8 rfl ?_
    refine TL_pass rfl rfl h8 rfl ?_
    refine TL_pass rfl rfl h8 rfl ?_
    refine TL_q (Qt_pick_t (.bool _) rfl h8 rfl) rfl ?_
    refine TL_nil ?_
    refine X_then ?_
    refine T_cond_true rfl (by first | rfl | decide) ?_
    refine T_seq ?_
    refine T_region ?_
    refine TL_q (Qt_build [] rfl (by kernel_rfl)) rfl ?_
    refine TL_n (Ef_storeN rfl rfl (?_))
    refine TL_q (Qt_assign (.bool _) rfl) rfl ?_
    refine TL_nil ?_
    refine X_then ?_
    refine T_ret ?_
    refine X_then_ret ?_
    exact X_ret () [_, _] Tryz.results23 ⟨⟨_, rfl, res_cellN rfl⟩, rfl, trivial⟩ rfl (Subs.st inferInstance)
  ·
    have p8 := h8
    try simp only [decide_eq_true_eq, decide_eq_false_iff_not, Bool.not_eq_true', Bool.not_eq_false', Option.isNone_iff_eq_none, ne_eq, Decidable.not_not, Int.not_lt, Int.not_le] at p8
    exact absurd h8 (by decide)
set_option maxHeartbeats 1000000 in
theorem stworld_c {w0 : World} {H : List SA} {sb : Nat} {t : StateV} :
    CT Tryz.prog w0 (blk sb (.cells t.cells 123 (0, 0)) :: H) 73 [.pointer (some ⟨sb, 0, none⟩)] (α := Unit) (fun _ => .agg t.world.cells) (fun _ => blk sb (.cells t.cells 123 (0, 0)) :: H) := by
  refine CT_intro Tryz.func73 rfl Tryz.ntmps73 rfl ?_
  refine T_seq ?_
  refine T_region ?_
  refine TL_e rfl (Ef_allocN (fun b2 => ?_))
  refine TL_nil ?_
  refine X_then ?_
  refine T_seq ?_
  refine T_seq ?_
  refine T_region ?_
  refine TL_q (Qt_move (.pointer _) rfl) rfl ?_
  refine TL_q (Qt_ptr_nil rfl rfl Tryz.underlying116) rfl ?_
  refine TL_nil ?_
  refine X_then ?_
  refine T_cond_false rfl (by first | rfl | decide) ?_
  refine T_skip ?_
  refine X_then ?_
  refine T_seq ?_
  refine T_region ?_
  refine TL_q (Qt_move (.pointer _) rfl) rfl ?_
  refine TL_q (Qt_nilCheck rfl) rfl ?_
  refine TL_q (Qt_fieldAddr 0 rfl rfl) rfl ?_
  refine TL_q (Qt_loadN rfl rfl) rfl ?_
  refine TL_n (Ef_storeN rfl rfl (?_))
  refine TL_nil ?_
  refine X_then ?_
  refine T_ret ?_
  exact X_ret () [_] Tryz.results73 ⟨⟨_, rfl, res_cellN rfl⟩, trivial⟩ rfl (Subs.st inferInstance)
set_option maxHeartbeats 1000000 in
theorem stsaved_c {w0 : World} {H : List SA} {sb : Nat} {t : StateV} :
    CT Tryz.prog w0 (blk sb (.cells t.cells 123 (0, 0)) :: H) 77 [.pointer (some ⟨sb, 0, none⟩)] (α := Unit) (fun _ => .int .i64 t.saved) (fun _ => blk sb (.cells t.cells 123 (0, 0)) :: H) := by
  refine CT_intro Tryz.func77 rfl Tryz.ntmps77 rfl ?_
  refine T_seq ?_
  refine T_region ?_
  refine TL_q (Qt_assign (.int .i64 _) rfl) rfl ?_
  refine TL_nil ?_
  refine X_then ?_
  refine T_seq ?_
  refine T_seq ?_
  refine T_region ?_
  refine TL_q (Qt_move (.pointer _) rfl) rfl ?_
  refine TL_q (Qt_ptr_nil rfl rfl Tryz.underlying116) rfl ?_
  refine TL_nil ?_
  refine X_then ?_
  refine T_cond_false rfl (by first | rfl | decide) ?_
  refine T_skip ?_
  refine X_then ?_
  refine T_seq ?_
  refine T_region ?_
  refine TL_q (Qt_move (.pointer _) rfl) rfl ?_
  refine TL_q (Qt_nilCheck rfl) rfl ?_
  refine TL_q (Qt_fieldAddr 105 rfl rfl) rfl ?_
  refine TL_q (Qt_load1 rfl) rfl ?_
  refine TL_q (Qt_assign (.int .i64 _) rfl) rfl ?_
  refine TL_nil ?_
  refine X_then ?_
  refine T_ret ?_
  exact X_ret () [_] Tryz.results77 ⟨rfl, trivial⟩ rfl (Subs.st inferInstance)
set_option maxHeartbeats 1000000 in
theorem sworld_c {w0 : World} {H : List SA} {q sb : Nat} {d l b : Option Addr} {fu : Bool} {t : StateV} :
    CT Tryz.prog w0 (blk q (.cells (StoreV.mk (some ⟨sb, 0, none⟩) d l b fu).cells 119 (0, 0)) :: blk sb (.cells t.cells 123 (0, 0)) :: H) 28 [.pointer (some ⟨q, 0, none⟩)] (α := Unit) (fun _ => .agg t.world.cells) (fun _ => blk q (.cells (StoreV.mk (some ⟨sb, 0, none⟩) d l b fu).cells 119 (0, 0)) :: blk sb (.cells t.cells 123 (0, 0)) :: H) := by
  refine CT_intro Tryz.func28 rfl Tryz.ntmps28 rfl ?_
  refine T_seq ?_
  refine T_region ?_
  refine TL_e rfl (Ef_allocN (fun b2 => ?_))
  refine TL_nil ?_
  refine X_then ?_
  refine T_seq ?_
  refine T_seq ?_
  refine T_region ?_
  refine TL_q (Qt_move (.pointer _) rfl) rfl ?_
  refine TL_q (Qt_ptr_nil rfl rfl Tryz.underlying67) rfl ?_
  refine TL_nil ?_
  refine X_then ?_
  refine T_cond_false rfl (by first | rfl | decide) ?_
  refine T_skip ?_
  refine X_then ?_
  refine T_seq ?_
  refine T_region ?_
  refine TL_q (Qt_move (.pointer _) rfl) rfl ?_
  refine TL_q (Qt_nilCheck rfl) rfl ?_
  refine TL_q (Qt_fieldAddr 0 rfl rfl) rfl ?_
  refine TL_q (Qt_load1 rfl) rfl ?_
  refine TL_frontA (blk sb (.cells t.cells 123 (0, 0))) ?_
  refine TL_e rfl (Ef_call (stworld_c (sb := sb) (t := t)) rfl (fun x10 => ?_))
  refine TL_n (Ef_storeN rfl rfl (?_))
  refine TL_nil ?_
  refine X_then ?_
  refine T_ret ?_
  exact X_ret () [_] Tryz.results28 ⟨⟨_, rfl, res_cellN rfl⟩, trivial⟩ rfl (Subs.st inferInstance)
set_option maxHeartbeats 1000000 in
theorem ssaved_c {w0 : World} {H : List SA} {q sb : Nat} {d l b : Option Addr} {fu : Bool} {t : StateV} :
    CT Tryz.prog w0 (blk q (.cells (StoreV.mk (some ⟨sb, 0, none⟩) d l b fu).cells 119 (0, 0)) :: blk sb (.cells t.cells 123 (0, 0)) :: H) 32 [.pointer (some ⟨q, 0, none⟩)] (α := Unit) (fun _ => .int .i64 t.saved) (fun _ => blk q (.cells (StoreV.mk (some ⟨sb, 0, none⟩) d l b fu).cells 119 (0, 0)) :: blk sb (.cells t.cells 123 (0, 0)) :: H) := by
  refine CT_intro Tryz.func32 rfl Tryz.ntmps32 rfl ?_
  refine T_seq ?_
  refine T_region ?_
  refine TL_q (Qt_assign (.int .i64 _) rfl) rfl ?_
  refine TL_nil ?_
  refine X_then ?_
  refine T_seq ?_
  refine T_seq ?_
  refine T_region ?_
  refine TL_q (Qt_move (.pointer _) rfl) rfl ?_
  refine TL_q (Qt_ptr_nil rfl rfl Tryz.underlying67) rfl ?_
  refine TL_nil ?_
  refine X_then ?_
  refine T_cond_false rfl (by first | rfl | decide) ?_
  refine T_skip ?_
  refine X_then ?_
  refine T_seq ?_
  refine T_region ?_
  refine TL_q (Qt_move (.pointer _) rfl) rfl ?_
  refine TL_q (Qt_nilCheck rfl) rfl ?_
  refine TL_q (Qt_fieldAddr 0 rfl rfl) rfl ?_
  refine TL_q (Qt_load1 rfl) rfl ?_
  refine TL_frontA (blk sb (.cells t.cells 123 (0, 0))) ?_
  refine TL_e rfl (Ef_call (stsaved_c (sb := sb) (t := t)) rfl (fun x9 => ?_))
  refine TL_q (Qt_assign (.int .i64 _) rfl) rfl ?_
  refine TL_nil ?_
  refine X_then ?_
  refine T_ret ?_
  exact X_ret () [_] Tryz.results32 ⟨rfl, trivial⟩ rfl (Subs.st inferInstance)
theorem right_four : rightV 0 15 = true := by decide +kernel
theorem sopenW_c {w0 : World} {H : List SA} {p : Nat} {s : DS} {M K : Nat} (hok : s.Ok M K) (hM : M ≤ 1000000) (hK : K ≤ 1000000000) (he : s.e2 = []) {num : Int} {mk : Nat} (hmk : mk < 65536) :
    CT Tryz.prog w0 (DS.H p s H) 19 [.pointer (some ⟨p, 0, none⟩), .agg (ViewV.mk num (mk : Int)).cells] (α := Option Nat) (fun y => .tuple #[.pointer (y.map fun b => ⟨b, 0, none⟩), .int .i64 (if y.isSome then 0 else 15)]) (fun _ => DS.H p s H) := fun w hw => by
  cases hr : rightV num mk with
  | true =>
    refine (sopen_c hok hM hK he hmk hr w hw).mono ?_
    rintro e w' ⟨x, rfl, hw'⟩
    exact ⟨some x.1.1, rfl, Subs.st inferInstance w' hw'⟩
  | false =>
    refine (sopenBad_c (p := p) hmk hr w hw).mono ?_
    rintro e w' ⟨x, rfl, hw'⟩
    exact ⟨none, rfl, hw'⟩
set_option maxHeartbeats 1000000 in
theorem wakes21_c {w0 : World} {H : List SA}  :
    CT Tryz.prog w0 (H) 17 [] (α := Unit) (fun _ => .bool true) (fun _ => H) := by
  refine CT_intro Tryz.func17 rfl Tryz.ntmps17 rfl ?_
  refine T_seq ?_
  refine T_region ?_
  refine TL_q (Qt_assign (.bool _) rfl) rfl ?_
  refine TL_nil ?_
  refine X_then ?_
  refine T_seq ?_
  refine T_region ?_
  refine TL_e rfl (Ef_call (dnew_c (n := 1000)) rfl (fun x4 => ?_))
  refine TL_e rfl (Ef_call (four_c) rfl (fun x5 => ?_))
  have hok0 : (newS x4.2.1 x4.2.2 1000).Ok 0 10000 := (newS_ok _ _ _).mono (by decide) (by decide)
  refine TL_e rfl (Ef_call (sopen_c (p := x4.1) (s := (newS x4.2.1 x4.2.2 1000)) hok0 (by decide) (by decide) rfl (num := 0) (mk := 15) (by decide) right_four) rfl (fun x6 => ?_))
  refine TL_q (Qt_move (.tuple _) rfl) rfl ?_
  refine TL_q (Qt_extract rfl) rfl ?_
  refine TL_q (Qt_extract rfl) rfl ?_
  refine TL_q (Qt_assign (.pointer _) rfl) rfl ?_
  refine TL_q (Qt_assign (.int .i64 _) rfl) rfl ?_
  refine TL_nil ?_
  refine X_then ?_
  refine T_seq ?_
  refine T_region ?_
  refine TL_q (Qt_move (.int .i64 _) rfl) rfl ?_
  refine TL_q (Qt_eql rfl rfl) rfl ?_
  refine TL_q (Qt_move (.bool _) rfl) rfl ?_
  refine TL_split 11 rfl (fun h11 => ?_) (fun h11 => ?_)
  ·
    have p11 := h11
    try simp only [decide_eq_true_eq, decide_eq_false_iff_not, Bool.not_eq_true', Bool.not_eq_false', Option.isNone_iff_eq_none, ne_eq, Decidable.not_not, Int.not_lt, Int.not_le] at p11
    refine TL_take rfl rfl h11 ?_
    refine TL_q (Qt_move (.pointer _) rfl) rfl ?_
    refine TL_take rfl rfl h11 ?_
    refine TL_e rfl (Ef_call (sworld_c) rfl (fun x13 => ?_))
    refine TL_take rfl rfl h11 ?_
    refine TL_q (Qt_field1 (ft := 3) rfl rfl) rfl ?_
    refine TL_take rfl rfl h11 ?_
    refine TL_q (Qt_eql rfl rfl) rfl ?_
    refine TL_q (Qt_pick_t (.bool _) rfl h11 rfl) rfl ?_
    refine TL_q (Qt_move (.bool _) rfl) rfl ?_
    refine TL_split 17 rfl (fun h17 => ?_) (fun h17 => ?_)
    ·
      have p17 := h17
      try simp only [decide_eq_true_eq, decide_eq_false_iff_not, Bool.not_eq_true', Bool.not_eq_false', Option.isNone_iff_eq_none, ne_eq, Decidable.not_not, Int.not_lt, Int.not_le] at p17
      refine TL_take rfl rfl h17 ?_
      refine TL_q (Qt_move (.pointer _) rfl) rfl ?_
      refine TL_take rfl rfl h17 ?_
      refine TL_e rfl (Ef_call (sworld_c) rfl (fun x19 => ?_))
      refine TL_take rfl rfl h17 ?_
      refine TL_q (Qt_field1 (ft := 3) rfl rfl) rfl ?_
      refine TL_take rfl rfl h17 ?_
      refine TL_q (Qt_eql rfl rfl) rfl ?_
      refine TL_q (Qt_pick_t (.bool _) rfl h17 rfl) rfl ?_
      refine TL_q (Qt_move (.bool _) rfl) rfl ?_
      refine TL_split 23 rfl (fun h23 => ?_) (fun h23 => ?_)
      ·
        have p23 := h23
        try simp only [decide_eq_true_eq, decide_eq_false_iff_not, Bool.not_eq_true', Bool.not_eq_false', Option.isNone_iff_eq_none, ne_eq, Decidable.not_not, Int.not_lt, Int.not_le] at p23
        refine TL_take rfl rfl h23 ?_
        refine TL_q (Qt_move (.pointer _) rfl) rfl ?_
        refine TL_take rfl rfl h23 ?_
        refine TL_e rfl (Ef_call (ssaved_c) rfl (fun x25 => ?_))
        refine TL_take rfl rfl h23 ?_
        refine TL_q (Qt_eql rfl rfl) rfl ?_
        refine TL_q (Qt_pick_t (.bool _) rfl h23 rfl) rfl ?_
        refine TL_q (Qt_assign (.bool _) rfl) rfl ?_
        refine TL_nil ?_
        refine X_then ?_
        refine T_ret ?_
        exact X_ret () [.bool true] Tryz.results17 ⟨congrArg Value.bool (decide_eq_true rfl), trivial⟩ rfl (Subs.st inferInstance)
      ·
        have p23 := h23
        try simp only [decide_eq_true_eq, decide_eq_false_iff_not, Bool.not_eq_true', Bool.not_eq_false', Option.isNone_iff_eq_none, ne_eq, Decidable.not_not, Int.not_lt, Int.not_le] at p23
        exact absurd (h23.symm.trans (decide_eq_true rfl)) (by decide)
    ·
      have p17 := h17
      try simp only [decide_eq_true_eq, decide_eq_false_iff_not, Bool.not_eq_true', Bool.not_eq_false', Option.isNone_iff_eq_none, ne_eq, Decidable.not_not, Int.not_lt, Int.not_le] at p17
      exact absurd (h17.symm.trans (decide_eq_true rfl)) (by decide)
  ·
    have p11 := h11
    try simp only [decide_eq_true_eq, decide_eq_false_iff_not, Bool.not_eq_true', Bool.not_eq_false', Option.isNone_iff_eq_none, ne_eq, Decidable.not_not, Int.not_lt, Int.not_le] at p11
    exact absurd (h11.symm.trans (decide_eq_true rfl)) (by decide)
theorem RdC.nil1 {w0 : World} {H : List SA} : RdC w0 H (.slice none ([] : List BS).length 0) 1 (([] : List BS).map BS.val) := ⟨fun w hw => ⟨none, 0, 0, rfl, rfl, Nat.le_refl _, by decide, fun h => absurd h (by simp)⟩⟩
set_option maxHeartbeats 1000000 in
theorem sameSlot0_c {w0 : World} {H : List SA}  :
    CT Tryz.prog w0 (H) 29 [.agg SlotV.zero.cells, .agg SlotV.zero.cells] (α := Unit) (fun _ => .bool true) (fun _ => H) := by
  refine CT_intro Tryz.func29 rfl Tryz.ntmps29 rfl ?_
  refine T_seq ?_
  refine T_region ?_
  refine TL_e rfl (Ef_boxN rfl (fun b2 => ?_))
  refine TL_e rfl (Ef_boxN rfl (fun b3 => ?_))
  refine TL_q (Qt_assign (.bool _) rfl) rfl ?_
  refine TL_nil ?_
  refine X_then ?_
  refine T_seq ?_
  refine T_region ?_
  refine TL_q (Qt_fieldAddr 0 rfl rfl) rfl ?_
  refine TL_q (Qt_load1 rfl) rfl ?_
  refine TL_q (Qt_fieldAddr 0 rfl rfl) rfl ?_
  refine TL_q (Qt_load1 rfl) rfl ?_
  refine TL_q (Qt_eql rfl rfl) rfl ?_
  refine TL_q (Qt_move (.bool _) rfl) rfl ?_
  refine TL_split 10 rfl (fun h10 => ?_) (fun h10 => ?_)
  ·
    have p10 := h10
    try simp only [decide_eq_true_eq, decide_eq_false_iff_not, Bool.not_eq_true', Bool.not_eq_false', Option.isNone_iff_eq_none, ne_eq, Decidable.not_not, Int.not_lt, Int.not_le] at p10
    refine TL_take rfl rfl h10 ?_
    refine TL_q (Qt_fieldAddr 1 rfl rfl) rfl ?_
    refine TL_take rfl rfl h10 ?_
    refine TL_q (Qt_loadN rfl rfl) rfl ?_
    refine TL_take rfl rfl h10 ?_
    refine TL_q (Qt_fieldAddr 1 rfl rfl) rfl ?_
    refine TL_take rfl rfl h10 ?_
    refine TL_q (Qt_loadN rfl rfl) rfl ?_
    refine TL_take rfl rfl h10 ?_
    refine TL_q (Qt_agg_eql rfl rfl (by kernel_rfl)) rfl ?_
    refine TL_q (Qt_pick_t (.bool _) rfl h10 rfl) rfl ?_
    refine TL_q (Qt_move (.bool _) rfl) rfl ?_
    refine TL_split 17 rfl (fun h17 => ?_) (fun h17 => ?_)
    ·
      have p17 := h17
      try simp only [decide_eq_true_eq, decide_eq_false_iff_not, Bool.not_eq_true', Bool.not_eq_false', Option.isNone_iff_eq_none, ne_eq, Decidable.not_not, Int.not_lt, Int.not_le] at p17
      refine TL_take rfl rfl h17 ?_
      refine TL_q (Qt_fieldAddr 33 rfl rfl) rfl ?_
      refine TL_take rfl rfl h17 ?_
      refine TL_q (Qt_load1 rfl) rfl ?_
      refine TL_take rfl rfl h17 ?_
      refine TL_q (Qt_fieldAddr 33 rfl rfl) rfl ?_
      refine TL_take rfl rfl h17 ?_
      refine TL_q (Qt_load1 rfl) rfl ?_
      refine TL_take rfl rfl h17 ?_
      refine TL_e rfl (Ef_call (same_c (a := none) (a2 := none) (c := 0) (c2 := 0) (l := []) (l2 := []) (hr := RdB.nil') (hr2 := RdB.nil') (by decide)) rfl (fun x22 => ?_))
      refine TL_q (Qt_pick_t (.bool _) rfl h17 rfl) rfl ?_
      refine TL_q (Qt_move (.bool _) rfl) rfl ?_
      refine TL_split 24 rfl (fun h24 => ?_) (fun h24 => ?_)
      ·
        have p24 := h24
        try simp only [decide_eq_true_eq, decide_eq_false_iff_not, Bool.not_eq_true', Bool.not_eq_false', Option.isNone_iff_eq_none, ne_eq, Decidable.not_not, Int.not_lt, Int.not_le] at p24
        refine TL_take rfl rfl h24 ?_
        refine TL_q (Qt_fieldAddr 34 rfl rfl) rfl ?_
        refine TL_take rfl rfl h24 ?_
        refine TL_q (Qt_load1 rfl) rfl ?_
        refine TL_take rfl rfl h24 ?_
        refine TL_q (Qt_fieldAddr 34 rfl rfl) rfl ?_
        refine TL_take rfl rfl h24 ?_
        refine TL_q (Qt_load1 rfl) rfl ?_
        refine TL_take rfl rfl h24 ?_
        refine TL_e rfl (Ef_call (sameParts_c (a := none) (a2 := none) (c := 0) (c2 := 0) (l := []) (l2 := []) (hr := RdC.nil1) (hr2 := RdC.nil1) (by decide) (fun _ h => by cases h)) rfl (fun x29 => ?_))
        refine TL_q (Qt_pick_t (.bool _) rfl h24 rfl) rfl ?_
        refine TL_q (Qt_assign (.bool _) rfl) rfl ?_
        refine TL_nil ?_
        refine X_then ?_
        refine T_ret ?_
        exact X_ret () [.bool true] Tryz.results29 ⟨congrArg Value.bool (by first | rfl | decide | simp), trivial⟩ rfl (Subs.st inferInstance)
      ·
        have p24 := h24
        try simp only [decide_eq_true_eq, decide_eq_false_iff_not, Bool.not_eq_true', Bool.not_eq_false', Option.isNone_iff_eq_none, ne_eq, Decidable.not_not, Int.not_lt, Int.not_le] at p24
        exact absurd h24 (by first | decide | simp)
    ·
      have p17 := h17
      try simp only [decide_eq_true_eq, decide_eq_false_iff_not, Bool.not_eq_true', Bool.not_eq_false', Option.isNone_iff_eq_none, ne_eq, Decidable.not_not, Int.not_lt, Int.not_le] at p17
      exact absurd h17 (by first | decide | simp)
  ·
    have p10 := h10
    try simp only [decide_eq_true_eq, decide_eq_false_iff_not, Bool.not_eq_true', Bool.not_eq_false', Option.isNone_iff_eq_none, ne_eq, Decidable.not_not, Int.not_lt, Int.not_le] at p10
    exact absurd h10 (by first | decide | simp)
theorem world_eq (w : World) : (Op.equal 62 (.agg WorldV.zero.cells) (.agg WorldV.zero.cells)).run Tryz.prog w = .ok true w := by kernel_rfl
set_option maxHeartbeats 1000000 in
theorem storeNil_c {w0 : World} {H : List SA} {a : SActV} {num : Int} {mk : Nat} (hmk : mk < 65536) :
    CT Tryz.prog w0 (H) 6 [.agg a.cells, .agg (ViewV.mk num (mk : Int)).cells] (α := Unit) (fun _ => .bool true) (fun _ => H) := by
  refine CT_intro Tryz.func6 rfl Tryz.ntmps6 rfl ?_
  refine T_seq ?_
  refine T_region ?_
  refine TL_e rfl (Ef_boxN rfl (fun b2 => ?_))
  refine TL_e rfl (Ef_boxN rfl (fun b3 => ?_))
  refine TL_q (Qt_assign (.bool _) rfl) rfl ?_
  refine TL_nil ?_
  refine X_then ?_
  refine T_seq ?_
  refine T_region ?_
  refine TL_q (Qt_assign (.pointer _) rfl) rfl ?_
  refine TL_nil ?_
  refine X_then ?_
  refine T_seq ?_
  refine T_seq ?_
  refine T_region ?_
  refine TL_e rfl (Ef_call (wakes21_c) rfl (fun x21 => ?_))
  refine TL_q (Qt_not rfl) rfl ?_
  refine TL_nil ?_
  refine X_then ?_
  refine T_cond_false rfl (by first | rfl | decide) ?_
  refine T_skip ?_
  refine X_then ?_
  refine T_seq ?_
  refine T_region ?_
  refine TL_q (Qt_move (.pointer _) rfl) rfl ?_
  refine TL_q (Qt_fieldAddr 1 rfl rfl) rfl ?_
  refine TL_q (Qt_load1 rfl) rfl ?_
  refine TL_e rfl (Ef_call (sdecideNil_c) rfl (fun x27 => ?_))
  refine TL_q (Qt_move (.tuple _) rfl) rfl ?_
  refine TL_q (Qt_extract rfl) rfl ?_
  refine TL_q (Qt_extract rfl) rfl ?_
  refine TL_q (Qt_assign (.slice _ _ _) rfl) rfl ?_
  refine TL_q (Qt_assign (.int .i64 _) rfl) rfl ?_
  refine TL_nil ?_
  refine X_then ?_
  refine T_seq ?_
  refine T_region ?_
  refine TL_q (Qt_loadN rfl rfl) rfl ?_
  refine TL_e rfl (Ef_call (sopenNil_c) rfl (fun x32 => ?_))
  refine TL_q (Qt_move (.tuple _) rfl) rfl ?_
  refine TL_q (Qt_extract rfl) rfl ?_
  refine TL_q (Qt_extract rfl) rfl ?_
  refine TL_q (Qt_assign (.pointer _) rfl) rfl ?_
  refine TL_q (Qt_assign (.int .i64 _) rfl) rfl ?_
  refine TL_nil ?_
  refine X_then ?_
  refine T_seq ?_
  refine T_draw (blk b3 (.cells (ViewV.mk num (mk : Int)).cells 52 (0, 0)) :: H) [(1, true), (0, false), (2, false), (3, true), (4, true), (5, true), (6, true), (7, true)] (by kernel_rfl) (by kernel_rfl) rfl (by kernel_rfl) (Subs.st inferInstance) (fun hns0 => ?_)
  refine DL_q hns0 rfl (Qt_loadN rfl rfl) rfl ?_
  refine DL_e rfl rfl (Ef_call (dnew_c (n := 9)) rfl (fun x36 => ⟨(Subs.st inferInstance), ?_⟩))
  have hok0 : (newS x36.2.1 x36.2.2 9).Ok 0 10000 := (newS_ok _ _ _).mono (by decide) (by decide)
  refine DL_e rfl rfl (Ef_call (sopenW_c (p := x36.1) (s := (newS x36.2.1 x36.2.2 9)) hok0 (by decide) (by decide) rfl hmk) rfl (fun x38 => ⟨(Subs.st inferInstance), ?_⟩))
  refine DL_q hns0 rfl (Qt_move (.tuple _) rfl) rfl ?_
  refine DL_q hns0 rfl (Qt_extract rfl) rfl ?_
  refine DL_q hns0 rfl (Qt_extract rfl) rfl ?_
  refine DL_q hns0 rfl (Qt_assign (.pointer _) rfl) rfl ?_
  refine DL_q hns0 rfl (Qt_assign (.int .i64 _) rfl) rfl ?_
  refine DL_nil ?_
  refine X_then ?_
  refine T_seq ?_
  refine T_region ?_
  refine TL_q (Qt_move (.pointer _) rfl) rfl ?_
  refine TL_e rfl (Ef_call (slastNil_c) rfl (fun x42 => ?_))
  refine TL_e rfl (Ef_allocN (fun b12 => ?_))
  refine TL_n (Ef_storeN rfl rfl (?_))
  refine TL_nil ?_
  refine X_then ?_
  refine T_seq ?_
  refine T_region ?_
  refine TL_q (Qt_move (.pointer _) rfl) rfl ?_
  refine TL_q (Qt_fieldAddr 143 rfl rfl) rfl ?_
  refine TL_q (Qt_load1 rfl) rfl ?_
  refine TL_e rfl (Ef_call (sdigestNil_c) rfl (fun x47 => ?_))
  refine TL_q (Qt_move (.tuple _) rfl) rfl ?_
  refine TL_q (Qt_extract rfl) rfl ?_
  refine TL_q (Qt_extract rfl) rfl ?_
  refine TL_e rfl (Ef_allocN (fun b13 => ?_))
  refine TL_n (Ef_storeN rfl rfl (?_))
  refine TL_q (Qt_assign (.bool _) rfl) rfl ?_
  refine TL_nil ?_
  refine X_then ?_
  refine T_seq ?_
  refine T_region ?_
  refine TL_q (Qt_move (.pointer _) rfl) rfl ?_
  refine TL_q (Qt_fieldAddr 143 rfl rfl) rfl ?_
  refine TL_q (Qt_load1 rfl) rfl ?_
  refine TL_e rfl (Ef_call (swroteNil_c) rfl (fun x54 => ?_))
  refine TL_q (Qt_move (.tuple _) rfl) rfl ?_
  refine TL_q (Qt_extract rfl) rfl ?_
  refine TL_q (Qt_extract rfl) rfl ?_
  refine TL_e rfl (Ef_allocN (fun b15 => ?_))
  refine TL_n (Ef_storeN rfl rfl (?_))
  refine TL_q (Qt_assign (.bool _) rfl) rfl ?_
  refine TL_nil ?_
  refine X_then ?_
  refine T_seq ?_
  refine T_region ?_
  refine TL_q (Qt_move (.pointer _) rfl) rfl ?_
  refine TL_q (Qt_fieldAddr 143 rfl rfl) rfl ?_
  refine TL_q (Qt_load1 rfl) rfl ?_
  refine TL_e rfl (Ef_call (sacceptedNil_c) rfl (fun x61 => ?_))
  refine TL_q (Qt_move (.tuple _) rfl) rfl ?_
  refine TL_q (Qt_extract rfl) rfl ?_
  refine TL_q (Qt_extract rfl) rfl ?_
  refine TL_e rfl (Ef_allocN (fun b17 => ?_))
  refine TL_n (Ef_storeN rfl rfl (?_))
  refine TL_q (Qt_assign (.bool _) rfl) rfl ?_
  refine TL_nil ?_
  refine X_then ?_
  refine T_seq ?_
  refine T_region ?_
  refine TL_q (Qt_move (.pointer _) rfl) rfl ?_
  refine TL_e rfl (Ef_call (sregNil_c) rfl (fun x66 => ?_))
  refine TL_q (Qt_move (.tuple _) rfl) rfl ?_
  refine TL_q (Qt_extract rfl) rfl ?_
  refine TL_q (Qt_extract rfl) rfl ?_
  refine TL_q (Qt_assign (.int .i64 _) rfl) rfl ?_
  refine TL_q (Qt_assign (.int .i64 _) rfl) rfl ?_
  refine TL_nil ?_
  refine X_then ?_
  refine T_seq ?_
  refine T_seq ?_
  refine T_region ?_
  refine TL_q (Qt_move (.int .i64 _) rfl) rfl ?_
  refine TL_q (Qt_neq rfl rfl) rfl ?_
  refine TL_q (Qt_move (.bool _) rfl) rfl ?_
  refine TL_split 71 rfl (fun h71 => ?_) (fun h71 => ?_)
  ·
    have p71 := h71
    try simp only [decide_eq_true_eq, decide_eq_false_iff_not, Bool.not_eq_true', Bool.not_eq_false', Option.isNone_iff_eq_none, ne_eq, Decidable.not_not, Int.not_lt, Int.not_le] at p71
    exact absurd h71 (by first | decide | simp)
  ·
    have p71 := h71
    try simp only [decide_eq_true_eq, decide_eq_false_iff_not, Bool.not_eq_true', Bool.not_eq_false', Option.isNone_iff_eq_none, ne_eq, Decidable.not_not, Int.not_lt, Int.not_le] at p71
    refine TL_take rfl rfl h71 ?_
    refine TL_q (Qt_move (.pointer _) rfl) rfl ?_
    refine TL_take rfl rfl h71 ?_
    refine TL_q (Qt_fieldAddr 2 rfl rfl) rfl ?_
    refine TL_take rfl rfl h71 ?_
    refine TL_q (Qt_loadN rfl rfl) rfl ?_
    refine TL_take rfl rfl h71 ?_
    refine TL_e rfl (Ef_call (svoteNil_c) rfl (fun x75 => ?_))
    refine TL_take rfl rfl h71 ?_
    refine TL_q (Qt_neq rfl rfl) rfl ?_
    refine TL_q (Qt_pick_f (.bool _) rfl h71 rfl) rfl ?_
    refine TL_q (Qt_move (.bool _) rfl) rfl ?_
    refine TL_split 78 rfl (fun h78 => ?_) (fun h78 => ?_)
    ·
      have p78 := h78
      try simp only [decide_eq_true_eq, decide_eq_false_iff_not, Bool.not_eq_true', Bool.not_eq_false', Option.isNone_iff_eq_none, ne_eq, Decidable.not_not, Int.not_lt, Int.not_le] at p78
      exact absurd h78 (by first | decide | simp)
    ·
      have p78 := h78
      try simp only [decide_eq_true_eq, decide_eq_false_iff_not, Bool.not_eq_true', Bool.not_eq_false', Option.isNone_iff_eq_none, ne_eq, Decidable.not_not, Int.not_lt, Int.not_le] at p78
      refine TL_take rfl rfl h78 ?_
      refine TL_q (Qt_move (.pointer _) rfl) rfl ?_
      refine TL_take rfl rfl h78 ?_
      refine TL_e rfl (Ef_call (ssaveNil_c) rfl (fun x80 => ?_))
      refine TL_take rfl rfl h78 ?_
      refine TL_q (Qt_neq rfl rfl) rfl ?_
      refine TL_q (Qt_pick_f (.bool _) rfl h78 rfl) rfl ?_
      refine TL_q (Qt_move (.bool _) rfl) rfl ?_
      refine TL_split 83 rfl (fun h83 => ?_) (fun h83 => ?_)
      ·
        have p83 := h83
        try simp only [decide_eq_true_eq, decide_eq_false_iff_not, Bool.not_eq_true', Bool.not_eq_false', Option.isNone_iff_eq_none, ne_eq, Decidable.not_not, Int.not_lt, Int.not_le] at p83
        exact absurd h83 (by first | decide | simp)
      ·
        have p83 := h83
        try simp only [decide_eq_true_eq, decide_eq_false_iff_not, Bool.not_eq_true', Bool.not_eq_false', Option.isNone_iff_eq_none, ne_eq, Decidable.not_not, Int.not_lt, Int.not_le] at p83
        refine TL_take rfl rfl h83 ?_
        refine TL_q (Qt_move (.pointer _) rfl) rfl ?_
        refine TL_take rfl rfl h83 ?_
        refine TL_q (Qt_fieldAddr 40 rfl rfl) rfl ?_
        refine TL_take rfl rfl h83 ?_
        refine TL_q (Qt_loadN rfl rfl) rfl ?_
        refine TL_take rfl rfl h83 ?_
        refine TL_q (Qt_fieldAddr 108 rfl rfl) rfl ?_
        refine TL_take rfl rfl h83 ?_
        refine TL_q (Qt_loadN rfl rfl) rfl ?_
        refine TL_take rfl rfl h83 ?_
        refine TL_e rfl (Ef_call (sinstallNil_c) rfl (fun x89 => ?_))
        refine TL_take rfl rfl h83 ?_
        refine TL_q (Qt_neq rfl rfl) rfl ?_
        refine TL_q (Qt_pick_f (.bool _) rfl h83 rfl) rfl ?_
        refine TL_q (Qt_move (.bool _) rfl) rfl ?_
        refine TL_split 92 rfl (fun h92 => ?_) (fun h92 => ?_)
        ·
          have p92 := h92
          try simp only [decide_eq_true_eq, decide_eq_false_iff_not, Bool.not_eq_true', Bool.not_eq_false', Option.isNone_iff_eq_none, ne_eq, Decidable.not_not, Int.not_lt, Int.not_le] at p92
          exact absurd h92 (by first | decide | simp)
        ·
          have p92 := h92
          try simp only [decide_eq_true_eq, decide_eq_false_iff_not, Bool.not_eq_true', Bool.not_eq_false', Option.isNone_iff_eq_none, ne_eq, Decidable.not_not, Int.not_lt, Int.not_le] at p92
          refine TL_take rfl rfl h92 ?_
          refine TL_q (Qt_move (.int .i64 _) rfl) rfl ?_
          refine TL_take rfl rfl h92 ?_
          refine TL_q (Qt_neq rfl rfl) rfl ?_
          refine TL_q (Qt_pick_f (.bool _) rfl h92 rfl) rfl ?_
          refine TL_nil ?_
          refine X_then ?_
          refine T_cond_false rfl (by first | rfl | decide) ?_
          refine T_skip ?_
          refine X_then ?_
          refine T_seq ?_
          refine T_region ?_
          refine TL_q (Qt_move (.pointer _) rfl) rfl ?_
          refine TL_e rfl (Ef_call (sworldNil_c) rfl (fun x97 => ?_))
          refine TL_q (Qt_build [] rfl (by kernel_rfl)) rfl ?_
          refine TL_q (Qt_agg_eqlH rfl rfl world_eq (by kernel_rfl)) rfl ?_
          refine TL_q (Qt_move (.bool _) rfl) rfl ?_
          refine TL_split 100 rfl (fun h100 => ?_) (fun h100 => ?_)
          ·
            have p100 := h100
            try simp only [decide_eq_true_eq, decide_eq_false_iff_not, Bool.not_eq_true', Bool.not_eq_false', Option.isNone_iff_eq_none, ne_eq, Decidable.not_not, Int.not_lt, Int.not_le] at p100
            refine TL_take rfl rfl h100 ?_
            refine TL_q (Qt_loadN rfl rfl) rfl ?_
            refine TL_take rfl rfl h100 ?_
            refine TL_q (Qt_build [] rfl (by kernel_rfl)) rfl ?_
            refine TL_take rfl rfl h100 ?_
            refine TL_e rfl (Ef_call (sameSlot0_c) rfl (fun x103 => ?_))
            refine TL_q (Qt_pick_t (.bool _) rfl h100 rfl) rfl ?_
            refine TL_q (Qt_move (.bool _) rfl) rfl ?_
            refine TL_split 105 rfl (fun h105 => ?_) (fun h105 => ?_)
            ·
              have p105 := h105
              try simp only [decide_eq_true_eq, decide_eq_false_iff_not, Bool.not_eq_true', Bool.not_eq_false', Option.isNone_iff_eq_none, ne_eq, Decidable.not_not, Int.not_lt, Int.not_le] at p105
              refine TL_take rfl rfl h105 ?_
              refine TL_q (Qt_move (.pointer _) rfl) rfl ?_
              refine TL_take rfl rfl h105 ?_
              refine TL_e rfl (Ef_call (sslotsNil_c) rfl (fun x107 => ?_))
              refine TL_take rfl rfl h105 ?_
              refine TL_q (Qt_len_slice rfl Tryz.underlying45) rfl ?_
              refine TL_take rfl rfl h105 ?_
              refine TL_q (Qt_move (.pointer _) rfl) rfl ?_
              refine TL_take rfl rfl h105 ?_
              refine TL_e rfl (Ef_call (svotesNil_c) rfl (fun x110 => ?_))
              refine TL_take rfl rfl h105 ?_
              refine TL_q (Qt_len_slice rfl Tryz.underlying87) rfl ?_
              refine TL_take rfl rfl h105 ?_
              first
                | refine TL_q (Qt_add rfl rfl (by omega) (by omega)) rfl ?_
                | refine TL_q (Qt_addw rfl rfl) rfl ?_
              refine TL_take rfl rfl h105 ?_
              refine TL_q (Qt_move (.pointer _) rfl) rfl ?_
              refine TL_take rfl rfl h105 ?_
              refine TL_e rfl (Ef_call (ssavedNil_c) rfl (fun x114 => ?_))
              refine TL_take rfl rfl h105 ?_
              first
                | refine TL_q (Qt_add rfl rfl (by omega) (by omega)) rfl ?_
                | refine TL_q (Qt_addw rfl rfl) rfl ?_
              refine TL_take rfl rfl h105 ?_
              refine TL_q (Qt_move (.int .i64 _) rfl) rfl ?_
              refine TL_take rfl rfl h105 ?_
              first
                | refine TL_q (Qt_add rfl rfl (by omega) (by omega)) rfl ?_
                | refine TL_q (Qt_addw rfl rfl) rfl ?_
              refine TL_take rfl rfl h105 ?_
              refine TL_q (Qt_move (.int .i64 _) rfl) rfl ?_
              refine TL_take rfl rfl h105 ?_
              first
                | refine TL_q (Qt_add rfl rfl (by omega) (by omega)) rfl ?_
                | refine TL_q (Qt_addw rfl rfl) rfl ?_
              refine TL_take rfl rfl h105 ?_
              refine TL_q (Qt_eql rfl rfl) rfl ?_
              refine TL_q (Qt_pick_t (.bool _) rfl h105 rfl) rfl ?_
              refine TL_q (Qt_move (.bool _) rfl) rfl ?_
              refine TL_split 122 rfl (fun h122 => ?_) (fun h122 => ?_)
              ·
                have p122 := h122
                try simp only [decide_eq_true_eq, decide_eq_false_iff_not, Bool.not_eq_true', Bool.not_eq_false', Option.isNone_iff_eq_none, ne_eq, Decidable.not_not, Int.not_lt, Int.not_le] at p122
                refine TL_take rfl rfl h122 ?_
                refine TL_q (Qt_move (.bool _) rfl) rfl ?_
                refine TL_take rfl rfl h122 ?_
                refine TL_q (Qt_not rfl) rfl ?_
                refine TL_q (Qt_pick_t (.bool _) rfl h122 rfl) rfl ?_
                refine TL_q (Qt_move (.bool _) rfl) rfl ?_
                refine TL_split 126 rfl (fun h126 => ?_) (fun h126 => ?_)
                ·
                  have p126 := h126
                  try simp only [decide_eq_true_eq, decide_eq_false_iff_not, Bool.not_eq_true', Bool.not_eq_false', Option.isNone_iff_eq_none, ne_eq, Decidable.not_not, Int.not_lt, Int.not_le] at p126
                  refine TL_take rfl rfl h126 ?_
                  refine TL_q (Qt_move (.bool _) rfl) rfl ?_
                  refine TL_take rfl rfl h126 ?_
                  refine TL_q (Qt_not rfl) rfl ?_
                  refine TL_q (Qt_pick_t (.bool _) rfl h126 rfl) rfl ?_
                  refine TL_q (Qt_move (.bool _) rfl) rfl ?_
                  refine TL_split 130 rfl (fun h130 => ?_) (fun h130 => ?_)
                  ·
                    have p130 := h130
                    try simp only [decide_eq_true_eq, decide_eq_false_iff_not, Bool.not_eq_true', Bool.not_eq_false', Option.isNone_iff_eq_none, ne_eq, Decidable.not_not, Int.not_lt, Int.not_le] at p130
                    refine TL_take rfl rfl h130 ?_
                    refine TL_q (Qt_move (.bool _) rfl) rfl ?_
                    refine TL_take rfl rfl h130 ?_
                    refine TL_q (Qt_not rfl) rfl ?_
                    refine TL_q (Qt_pick_t (.bool _) rfl h130 rfl) rfl ?_
                    refine TL_q (Qt_move (.bool _) rfl) rfl ?_
                    refine TL_split 134 rfl (fun h134 => ?_) (fun h134 => ?_)
                    ·
                      have p134 := h134
                      try simp only [decide_eq_true_eq, decide_eq_false_iff_not, Bool.not_eq_true', Bool.not_eq_false', Option.isNone_iff_eq_none, ne_eq, Decidable.not_not, Int.not_lt, Int.not_le] at p134
                      refine TL_take rfl rfl h134 ?_
                      refine TL_q (Qt_move (.int .i64 _) rfl) rfl ?_
                      rcases x38 with _ | b38
                      ·
                        refine TL_take rfl rfl h134 ?_
                        refine TL_q (Qt_eql rfl rfl) rfl ?_
                        refine TL_take rfl rfl h134 ?_
                        refine TL_q (Qt_move (.pointer _) rfl) rfl ?_
                        refine TL_take rfl rfl h134 ?_
                        refine TL_q (Qt_ptr_not_nil rfl rfl Tryz.underlying67) rfl ?_
                        refine TL_take rfl rfl h134 ?_
                        refine TL_q (Qt_bool_eql rfl rfl Tryz.underlying4) rfl ?_
                        refine TL_q (Qt_pick_t (.bool _) rfl h134 rfl) rfl ?_
                        refine TL_q (Qt_assign (.bool _) rfl) rfl ?_
                        refine TL_nil ?_
                        refine X_then ?_
                        refine T_ret ?_
                        exact X_ret () [.bool true] Tryz.results6 ⟨congrArg Value.bool (by first | rfl | decide | simp), trivial⟩ rfl (Subs.st inferInstance)
                      ·
                        refine TL_take rfl rfl h134 ?_
                        refine TL_q (Qt_eql rfl rfl) rfl ?_
                        refine TL_take rfl rfl h134 ?_
                        refine TL_q (Qt_move (.pointer _) rfl) rfl ?_
                        refine TL_take rfl rfl h134 ?_
                        refine TL_q (Qt_ptr_not_nil rfl rfl Tryz.underlying67) rfl ?_
                        refine TL_take rfl rfl h134 ?_
                        refine TL_q (Qt_bool_eql rfl rfl Tryz.underlying4) rfl ?_
                        refine TL_q (Qt_pick_t (.bool _) rfl h134 rfl) rfl ?_
                        refine TL_q (Qt_assign (.bool _) rfl) rfl ?_
                        refine TL_nil ?_
                        refine X_then ?_
                        refine T_ret ?_
                        exact X_ret () [.bool true] Tryz.results6 ⟨congrArg Value.bool (by first | rfl | decide | simp), trivial⟩ rfl (Subs.st inferInstance)
                    ·
                      have p134 := h134
                      try simp only [decide_eq_true_eq, decide_eq_false_iff_not, Bool.not_eq_true', Bool.not_eq_false', Option.isNone_iff_eq_none, ne_eq, Decidable.not_not, Int.not_lt, Int.not_le] at p134
                      exact absurd h134 (by first | decide | simp)
                  ·
                    have p130 := h130
                    try simp only [decide_eq_true_eq, decide_eq_false_iff_not, Bool.not_eq_true', Bool.not_eq_false', Option.isNone_iff_eq_none, ne_eq, Decidable.not_not, Int.not_lt, Int.not_le] at p130
                    exact absurd h130 (by first | decide | simp)
                ·
                  have p126 := h126
                  try simp only [decide_eq_true_eq, decide_eq_false_iff_not, Bool.not_eq_true', Bool.not_eq_false', Option.isNone_iff_eq_none, ne_eq, Decidable.not_not, Int.not_lt, Int.not_le] at p126
                  exact absurd h126 (by first | decide | simp)
              ·
                have p122 := h122
                try simp only [decide_eq_true_eq, decide_eq_false_iff_not, Bool.not_eq_true', Bool.not_eq_false', Option.isNone_iff_eq_none, ne_eq, Decidable.not_not, Int.not_lt, Int.not_le] at p122
                exact absurd h122 (by first | decide | simp)
            ·
              have p105 := h105
              try simp only [decide_eq_true_eq, decide_eq_false_iff_not, Bool.not_eq_true', Bool.not_eq_false', Option.isNone_iff_eq_none, ne_eq, Decidable.not_not, Int.not_lt, Int.not_le] at p105
              exact absurd h105 (by first | decide | simp)
          ·
            have p100 := h100
            try simp only [decide_eq_true_eq, decide_eq_false_iff_not, Bool.not_eq_true', Bool.not_eq_false', Option.isNone_iff_eq_none, ne_eq, Decidable.not_not, Int.not_lt, Int.not_le] at p100
            exact absurd h100 (by first | decide | simp)
end Go.Proofs.YtgfbdcjamalhhaaGreatDoor
