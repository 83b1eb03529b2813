/- Walks of package store: a first world, a state that begins, a store opened on an empty disk. -/
import Derived.Test.YtgeknnclmhfjlaaGreatDoorKaP
import Derived.Test.YtgeknnclmhfjlaaGreatDoorTnP
import Derived.Test.YtgeknnclmhfjlaaGreatDoorLoP
import Derived.Test.YtgeknnclmhfjlaaGreatDoorSgP
namespace Go.Proofs.YtgeknnclmhfjlaaGreatDoor
section
open Go.RowKit Go.Sx
set_option maxRecDepth 100000
set_option linter.unusedSimpArgs false
set_option linter.unusedVariables false
open Go.Maps Go.Sort Go.Shelf
instance pdp1 {v : WorldV} {u : Int} : Put v.cells 1 (.int .i64 u) { v with first := u }.cells := by have := Put.mid v.p0 v.p1 (v.view.list ++ (v.was.list ++ (v.p4 ++ v.p5))) (cs := v.cells) (o := 1) (n := 1) (v := .int .i64 u) rfl rfl rfl rfl; simpa [WorldV.cells, WorldV.list, Value.cells] using this
instance pdp2 {v : WorldV} {u : ViewV} : Put v.cells 2 (.agg u.cells) { v with view := u }.cells := by have := Put.mid (v.p0 ++ v.p1) v.view.list (v.was.list ++ (v.p4 ++ v.p5)) (cs := v.cells) (o := 2) (n := 2) (v := .agg u.cells) (by simp [WorldV.cells, WorldV.list]) rfl v.view.list_len (by simp [Value.cells, ViewV.size]); simpa [WorldV.cells, WorldV.list, Value.cells, ViewV.cells] using this
instance pdp4 {v : WorldV} {u : ViewV} : Put v.cells 4 (.agg u.cells) { v with was := u }.cells := by have := Put.mid (v.p0 ++ v.p1 ++ v.view.list) v.was.list (v.p4 ++ v.p5) (cs := v.cells) (o := 4) (n := 2) (v := .agg u.cells) (by simp [WorldV.cells, WorldV.list]) (by simp [ViewV.list_len]) v.was.list_len (by simp [Value.cells, ViewV.size]); simpa [WorldV.cells, WorldV.list, Value.cells, ViewV.cells] using this
def rk (k i : Nat) : ReplyV := ⟨if i < k then (i : Int) else 0, 0, 0, ResV.zero⟩
def lastK (k : Nat) : Vector ReplyV 6 := ⟨#[rk k 0, rk k 1, rk k 2, rk k 3, rk k 4, rk k 5], rfl⟩
@[reducible] def firstW (n m : Int) (k : Nat) : WorldV := ⟨0, 1, ⟨n, m⟩, ⟨n, m⟩, Vector.replicate 16 CellV.zero, lastK k⟩
theorem lastK_zero : Vector.replicate 6 ReplyV.zero = lastK 0 := by kernel_rfl
theorem firstW_zero {n m : Int} : firstW n m 0 = ⟨0, 1, ⟨n, m⟩, ⟨n, m⟩, Vector.replicate 16 CellV.zero, Vector.replicate 6 ReplyV.zero⟩ := by rw [lastK_zero]
theorem firstPut {n m : Int} (k : Nat) (hk : k < 6) : Put (firstW n m k).cells (38 + k * 5) (.int .i64 (k : Int)) (firstW n m (k + 1)).cells := ⟨by
  rcases k with _ | _ | _ | _ | _ | _ | k
  all_goals first | omega | kernel_rfl, by rw [WorldV.size]; show 38 + k * 5 + 1 ≤ 68; omega⟩
theorem lastK_res (k i : Nat) (hi : i < 6) : (lastK k)[i].res.n = 0 := by
  rcases i with _ | _ | _ | _ | _ | _ | i
  all_goals first | rfl | omega
@[reducible] def stateF (n m : Int) (y : AC) : StateV := ⟨firstW n m 6, SlotV.zero, ⟨none, 0, 0⟩, ⟨y.a, 1, y.c⟩, 0⟩
def encEr (e : EraV) : Value := .agg e.cells
def encVt (v : VoteV) : Value := .agg v.cells
def stB : ByteArray := ⟨#[115, 116, 97, 116, 101]⟩
theorem snapP (w : World) : PredAt Tryz.prog 138 #[] Go.Proofs.encR fineF w := fun W r _ => by
  unfold FnGives fineF
  by_cases h1 : r < 97 <;> by_cases h2 : 122 < r
  all_goals
    have z1 : (r : Int) < 97 ↔ r < 97 := by omega
    have z2 : (122 : Int) < (r : Int) ↔ 122 < r := by omega
    go_enter Tryz.func138, Tryz.ntmps138
    go_wp2
    all_goals first | (exfalso; omega) | (go_ret; exact ⟨by simp [h1, h2], 0, rfl⟩)
theorem idxS_c {w0 : World} {H : List SA} {s : ByteArray} : CT Tryz.prog w0 H 99 [.string s, .func (.func 138) #[] #[]] (α := Unit) (fun _ => .int .i64 (Lib.idxFunc fineF true s)) (fun _ => H) := fun w hw => by
  refine (Any.strings_IndexFunc nmIdx 138 #[] (enters_of Tryz.func138 (by kernel_rfl) rfl) fineF s w (snapP w)).mono ?_
  rintro e w' ⟨rfl, hb⟩
  exact ⟨(), rfl, St.later hw hb⟩
def lg3 : ByteArray := ⟨#[108, 111, 103]⟩
theorem fineL3 : fineB lg3 = true := by decide +kernel
theorem idx_stB : Lib.idxFunc fineF true stB = -1 := by decide +kernel
attribute [local irreducible] sha worldB
set_option maxHeartbeats 1000000 in
theorem four_c {w0 : World} {H : List SA}  :
    CT Tryz.prog w0 (H) 8 [] (α := Unit) (fun _ => .agg (ViewV.mk 0 ((15 : Nat) : Int)).cells) (fun _ => H) := by
  refine CT_intro Tryz.func8 rfl Tryz.ntmps8 rfl ?_
  refine T_seq ?_
  refine T_region ?_
  refine TL_e rfl (Ef_allocN (fun b0 => ?_))
  refine TL_nil ?_
  refine X_then ?_
  refine T_seq ?_
  refine T_region ?_
  refine TL_q (Qt_build [(1, (.int .u16 _))] rfl (by kernel_rfl)) rfl ?_
  refine TL_n (Ef_storeN rfl rfl (?_))
  refine TL_nil ?_
  refine X_then ?_
  refine T_ret ?_
  exact X_ret () [_] Tryz.results8 ⟨⟨_, rfl, res_cellN rfl⟩, trivial⟩ rfl (Subs.st inferInstance)
set_option maxHeartbeats 1000000 in
theorem vnew_c {w0 : World} {H : List SA}  :
    CT Tryz.prog w0 (H) 23 [] (α := Nat) (fun y => .pointer (some ⟨y, 0, none⟩)) (fun _ => H) := by
  refine CT_intro Tryz.func23 rfl Tryz.ntmps23 rfl ?_
  refine T_seq ?_
  refine T_region ?_
  refine TL_q (Qt_assign (.pointer _) rfl) rfl ?_
  refine TL_nil ?_
  refine X_then ?_
  refine T_seq ?_
  refine T_region ?_
  refine TL_e rfl (Ef_makeMap encEr encVt (fun r1 => ?_))
  refine TL_q (Qt_build [(3, (.map _))] rfl (by kernel_rfl)) rfl ?_
  refine TL_e rfl (Ef_boxN rfl (fun b3 => ?_))
  refine TL_q (Qt_assign (.pointer _) rfl) rfl ?_
  refine TL_nil ?_
  refine X_then ?_
  refine T_ret ?_
  exact X_ret b3 [_] Tryz.results23 ⟨rfl, trivial⟩ rfl (Subs.st inferInstance)
set_option maxHeartbeats 1000000 in
theorem first_c {w0 : World} {H : List SA} {n m : Int} :
    CT Tryz.prog w0 (H) 25 [.agg (ViewV.mk n m).cells] (α := Unit) (fun _ => .agg (firstW n m 6).cells) (fun _ => H) := by
  refine CT_intro Tryz.func25 rfl Tryz.ntmps25 rfl ?_
  refine T_seq ?_
  refine T_region ?_
  refine TL_e rfl (Ef_boxN rfl (fun b1 => ?_))
  refine TL_e rfl (Ef_allocN (fun b2 => ?_))
  refine TL_nil ?_
  refine X_then ?_
  refine T_seq ?_
  refine T_region ?_
  refine TL_q (Qt_loadN rfl rfl) rfl ?_
  refine TL_q (Qt_loadN rfl rfl) rfl ?_
  refine TL_q (Qt_build [(1, (.int .i64 _)), (2, (.agg _)), (3, (.agg _))] rfl (by kernel_rfl)) rfl ?_
  refine TL_e rfl (Ef_allocN (fun b3 => ?_))
  refine TL_n (Ef_storeN rfl rfl (?_))
  refine TL_nil ?_
  refine X_then ?_
  refine T_seq ?_
  refine T_seq ?_
  refine T_region ?_
  refine TL_q (Qt_move (.int .i64 _) rfl) rfl ?_
  refine TL_nil ?_
  refine X_then ?_
  refine T_block ?_
  refine T_loop [4, 8, 9, 10, 11, 12, 13, 14, 15, 16] [8] (fun us H' => ∃ (k : Nat), us = [.int .i64 (k : Int)] ∧ blk b3 (.cells (firstW n m k).cells 66 (0, 0)) :: blk b2 (.cells WorldV.zero.cells 66 (0, 0)) :: H = H' ∧ k ≤ 6) (fun us => match us with | .int _ i :: _ => 6 - i.toNat | _ => 0) ⟨0, rfl, rfl, by omega⟩ (fun w hw => by rw [firstW_zero]; exact Subs.st inferInstance w hw) ?_
  rintro τ0 _ _  ⟨k, rfl, rfl, hk0⟩ _
  refine T_seq ?_
  refine T_region ?_
  refine TL_q (Qt_lss rfl rfl) rfl ?_
  refine TL_nil ?_
  refine X_then ?_
  refine T_seq ?_
  refine T_cond rfl (fun h9 => ?_) (fun h9 => ?_)
  ·
    have p9 := h9
    try simp only [decide_eq_true_eq, decide_eq_false_iff_not, Bool.not_eq_true', Bool.not_eq_false', Option.isNone_iff_eq_none, ne_eq, Decidable.not_not, Int.not_lt, Int.not_le] at p9
    have hk : k < 6 := by omega
    have hpk := firstPut (n := n) (m := m) k hk
    refine T_skip ?_
    refine X_then ?_
    refine T_seq ?_
    refine T_block ?_
    refine T_seq ?_
    refine T_region ?_
    refine TL_q (Qt_move (.int .i64 _) rfl) rfl ?_
    refine TL_q (Qt_assign (.int .i64 _) rfl) rfl ?_
    refine TL_nil ?_
    refine X_then ?_
    refine T_region ?_
    refine TL_q (Qt_move (.int .i64 _) rfl) rfl ?_
    refine TL_q (Qt_move (.int .i64 _) rfl) rfl ?_
    refine TL_q (Qt_fieldAddr 38 rfl rfl) rfl ?_
    refine TL_q (Qt_indexAddr_arrC (sz := 5) (38 + k * 5) k rfl rfl Tryz.underlying64 rfl rfl (by rw [Nat.blt_eq]; exact hk) (by omega)) rfl ?_
    refine TL_q (Qt_fieldAddr (38 + k * 5) rfl rfl) rfl ?_
    refine TL_n (Ef_store1 (.int .i64 _) rfl rfl (?_))
    refine TL_nil ?_
    refine X_block ?_
    refine X_then ?_
    refine T_region ?_
    first
      | refine TL_q (Qt_add rfl rfl (by omega) (by omega)) rfl ?_
      | refine TL_q (Qt_addw rfl rfl) rfl ?_
    refine TL_q (Qt_move (.int .i64 _) rfl) rfl ?_
    refine TL_nil ?_
    apply X_loop
    case ha => exact (by repeat (first | with_reducible exact agree_refl | refine agree_upd rfl ?_ | refine agree_mix rfl ?_ | refine agree_setAll rfl ?_))
    case hI => exact ⟨k + 1, rfl, rfl, by omega⟩
    case hm => exact by show 6 - (k + 1 : Int).toNat < 6 - (k : Int).toNat; omega
    case hH => exact (Subs.st inferInstance)
  ·
    have p9 := h9
    try simp only [decide_eq_true_eq, decide_eq_false_iff_not, Bool.not_eq_true', Bool.not_eq_false', Option.isNone_iff_eq_none, ne_eq, Decidable.not_not, Int.not_lt, Int.not_le] at p9
    obtain rfl : k = 6 := by omega
    refine T_exit ?_
    refine X_then_exit ?_
    refine X_loop_exit ?_
    refine X_block_exit ?_
    refine X_then ?_
    refine T_seq ?_
    refine T_region ?_
    refine TL_q (Qt_loadN rfl rfl) rfl ?_
    refine TL_n (Ef_storeN rfl rfl (?_))
    refine TL_nil ?_
    refine X_then ?_
    refine T_ret ?_
    exact X_ret () [_] Tryz.results25 ⟨⟨_, rfl, res_cellN rfl⟩, trivial⟩ rfl (Subs.st inferInstance)
set_option maxHeartbeats 1000000 in
theorem cloneNil_c {w0 : World} {H : List SA}  :
    CT Tryz.prog w0 (H) 81 [.slice none 0 0] (α := Unit) (fun _ => .slice none 0 0) (fun _ => H) := by
  refine CT_intro Tryz.func81 rfl Tryz.ntmps81 rfl ?_
  refine T_seq ?_
  refine T_region ?_
  refine TL_q (Qt_assign (.slice _ _ _) rfl) rfl ?_
  refine TL_nil ?_
  refine X_then ?_
  refine T_seq ?_
  refine T_seq ?_
  refine T_region ?_
  refine TL_q (Qt_move (.slice _ _ _) rfl) rfl ?_
  refine TL_q (Qt_slice_nil rfl rfl Tryz.underlying41) rfl ?_
  refine TL_nil ?_
  refine X_then ?_
  refine T_cond_true rfl (by first | rfl | decide) ?_
  refine T_seq ?_
  refine T_region ?_
  refine TL_q (Qt_assign (.slice _ _ _) rfl) rfl ?_
  refine TL_nil ?_
  refine X_then ?_
  refine T_ret ?_
  refine X_then_ret ?_
  exact X_ret () [_] Tryz.results81 ⟨rfl, trivial⟩ rfl (Subs.st inferInstance)
set_option maxHeartbeats 1000000 in
theorem each0_c {w0 : World} {H : List SA} {f : Value} :
    CT Tryz.prog w0 (H) 128 [.slice none 0 0, f] (α := Unit) (fun _ => .slice none 0 0) (fun _ => H) := by
  refine CT_intro Tryz.func128 rfl Tryz.ntmps128 rfl ?_
  refine T_seq ?_
  refine T_region ?_
  refine TL_q (Qt_assign (.slice _ _ _) rfl) rfl ?_
  refine TL_nil ?_
  refine X_then ?_
  refine T_seq ?_
  refine T_region ?_
  refine TL_q (Qt_assign (.slice _ _ _) rfl) rfl ?_
  refine TL_nil ?_
  refine X_then ?_
  refine T_seq ?_
  refine T_seq ?_
  refine T_region ?_
  refine TL_q (Qt_move (.slice _ _ _) rfl) rfl ?_
  refine TL_q (Qt_len_slice rfl Tryz.underlying42) rfl ?_
  refine TL_q (Qt_move (.int .i64 _) rfl) rfl ?_
  refine TL_nil ?_
  refine X_then ?_
  refine T_block ?_
  refine T_unroll (TU_round ?_)
  refine T_seq ?_
  refine T_region ?_
  refine TL_q (Qt_lss rfl rfl) rfl ?_
  refine TL_nil ?_
  refine X_then ?_
  refine T_seq ?_
  refine T_cond_false rfl (by first | rfl | decide) ?_
  refine T_exit ?_
  refine X_then_exit ?_
  refine X_again_exit ?_
  refine X_block_exit ?_
  refine X_then ?_
  refine T_seq ?_
  refine T_region ?_
  refine TL_q (Qt_move (.slice _ _ _) rfl) rfl ?_
  refine TL_q (Qt_assign (.slice _ _ _) rfl) rfl ?_
  refine TL_nil ?_
  refine X_then ?_
  refine T_ret ?_
  exact X_ret () [_] Tryz.results128 ⟨rfl, trivial⟩ rfl (Subs.st inferInstance)
set_option maxHeartbeats 1000000 in
theorem cloned0_c {w0 : World} {H : List SA}  :
    CT Tryz.prog w0 (H) 88 [.slice none 0 0] (α := Unit) (fun _ => .slice none 0 0) (fun _ => H) := by
  refine CT_intro Tryz.func88 rfl Tryz.ntmps88 rfl ?_
  refine T_seq ?_
  refine T_region ?_
  refine TL_q (Qt_assign (.slice _ _ _) rfl) rfl ?_
  refine TL_nil ?_
  refine X_then ?_
  refine T_seq ?_
  refine T_region ?_
  refine TL_q (Qt_move (.slice _ _ _) rfl) rfl ?_
  refine TL_e rfl (Ef_call (each0_c) rfl (fun x4 => ?_))
  refine TL_q (Qt_assign (.slice _ _ _) rfl) rfl ?_
  refine TL_nil ?_
  refine X_then ?_
  refine T_ret ?_
  exact X_ret () [_] Tryz.results88 ⟨rfl, trivial⟩ rfl (Subs.st inferInstance)
set_option maxHeartbeats 1000000 in
theorem own0_c {w0 : World} {H : List SA}  :
    CT Tryz.prog w0 (H) 48 [.agg SlotV.zero.cells] (α := Unit) (fun _ => .agg SlotV.zero.cells) (fun _ => H) := by
  refine CT_intro Tryz.func48 rfl Tryz.ntmps48 rfl ?_
  refine T_seq ?_
  refine T_region ?_
  refine TL_e rfl (Ef_boxN rfl (fun b1 => ?_))
  refine TL_e rfl (Ef_allocN (fun b2 => ?_))
  refine TL_nil ?_
  refine X_then ?_
  refine T_seq ?_
  refine T_draw (blk b1 (.cells SlotV.zero.cells 82 (0, 0)) :: blk b2 (.cells SlotV.zero.cells 82 (0, 0)) :: H) [(0, true), (1, true), (3, true), (4, true), (2, false), (6, true), (5, false), (7, false), (8, true), (9, false)] (by kernel_rfl) (by kernel_rfl) rfl (by kernel_rfl) (Subs.st inferInstance) (fun hns0 => ?_)
  refine DL_q hns0 rfl (Qt_fieldAddr 33 rfl rfl) rfl ?_
  refine DL_q hns0 rfl (Qt_load1 rfl) rfl ?_
  refine DL_q hns0 rfl (Qt_fieldAddr 34 rfl rfl) rfl ?_
  refine DL_q hns0 rfl (Qt_load1 rfl) rfl ?_
  refine DL_e rfl rfl (Ef_call (cloneNil_c) rfl (fun x5 => ⟨(Subs.st inferInstance), ?_⟩))
  refine DL_q hns0 rfl (Qt_fieldAddr 33 rfl rfl) rfl ?_
  refine DL_e rfl rfl (Ef_call (cloned0_c) rfl (fun x8 => ⟨(Subs.st inferInstance), ?_⟩))
  refine DL_n rfl (Ef_store1 (.slice _ _ _) rfl rfl (⟨(Subs.st inferInstance), ?_⟩))
  refine DL_q hns0 rfl (Qt_fieldAddr 34 rfl rfl) rfl ?_
  refine DL_n rfl (Ef_store1 (.slice _ _ _) rfl rfl (⟨(Subs.st inferInstance), ?_⟩))
  refine DL_nil ?_
  refine X_then ?_
  refine T_seq ?_
  refine T_region ?_
  refine TL_q (Qt_loadN rfl rfl) rfl ?_
  refine TL_n (Ef_storeN rfl rfl (?_))
  refine TL_nil ?_
  refine X_then ?_
  refine T_ret ?_
  exact X_ret () [_] Tryz.results48 ⟨⟨_, rfl, res_cellN rfl⟩, trivial⟩ rfl (Subs.st inferInstance)
set_option maxHeartbeats 1000000 in
theorem from_c {w0 : World} {H : List SA} {num : Int} {mk : Nat} (hmk : mk < 65536) :
    CT Tryz.prog w0 (H) 24 [.agg (firstW num (mk : Int) 6).cells, .agg SlotV.zero.cells] (α := AC) (fun y => .agg (stateF num (mk : Int) y).cells) (fun _ => H) := by
  refine CT_intro Tryz.func24 rfl Tryz.ntmps24 rfl ?_
  refine T_seq ?_
  refine T_region ?_
  refine TL_e rfl (Ef_boxN rfl (fun b2 => ?_))
  refine TL_e rfl (Ef_boxN rfl (fun b3 => ?_))
  refine TL_e rfl (Ef_allocN (fun b4 => ?_))
  refine TL_nil ?_
  refine X_then ?_
  refine T_seq ?_
  refine T_draw (blk b2 (.cells (firstW num (mk : Int) 6).cells 66 (0, 0)) :: blk b3 (.cells SlotV.zero.cells 82 (0, 0)) :: H) [(0, true), (1, true), (3, true), (6, true), (7, true), (2, false), (4, false), (5, false), (8, true), (9, false)] (by kernel_rfl) (by kernel_rfl) rfl (by kernel_rfl) (Subs.st inferInstance) (fun hns0 => ?_)
  refine DL_q hns0 rfl (Qt_loadN rfl rfl) rfl ?_
  refine DL_q hns0 rfl (Qt_loadN rfl rfl) rfl ?_
  refine DL_q hns0 rfl (Qt_loadN rfl rfl) rfl ?_
  refine DL_q hns0 rfl (Qt_fieldAddr 0 rfl rfl) rfl ?_
  refine DL_q hns0 rfl (Qt_load1 rfl) rfl ?_
  refine DL_e rfl rfl (Ef_call (own0_c) rfl (fun x7 => ⟨(Subs.st inferInstance), ?_⟩))
  refine DL_e rfl rfl (Ef_call (digest_c (s := 0) (f := 1) (n1 := num) (n2 := num) (m1 := mk) (m2 := mk) (cs := Vector.replicate 16 CellV.zero) (rs := lastK 6) hmk hmk (fun i hi => by simp [CellV.zero]) (fun i hi => by rw [lastK_res 6 i hi]; decide)) rfl (fun x9 => ⟨(Subs.st inferInstance), ?_⟩))
  obtain ⟨hv, hhv⟩ : ∃ hv, hv = sha (worldB 0 1 num mk num mk (Vector.replicate 16 CellV.zero) (lastK 6)) := ⟨_, rfl⟩
  rw [← hhv]
  refine DL_e rfl rfl (Ef_sliceN (m := 1) [.agg (hlist hv).toArray] (hlist hv) rfl rfl rfl (by simp [Value.cells]) (by simp [Value.cells]) rfl rfl (fun a10 c10 => ⟨(Subs.st inferInstance), ?_⟩))
  refine DL_q hns0 rfl (Qt_build [(0, (.agg _)), (1, (.agg _)), (3, .slice _ _ _), (4, (.int .i64 _))] rfl (by kernel_rfl)) rfl ?_
  refine DL_n rfl (Ef_storeN rfl rfl (⟨(Subs.st inferInstance), ?_⟩))
  refine DL_nil ?_
  refine X_then ?_
  refine T_ret ?_
  exact X_ret ⟨a10, c10⟩ [_] Tryz.results24 ⟨⟨_, rfl, res_cellN rfl⟩, trivial⟩ rfl (Subs.st inferInstance)
set_option maxHeartbeats 1000000 in
theorem snamed_c {w0 : World} {H : List SA}  :
    CT Tryz.prog w0 (H) 91 [.string stB] (α := Unit) (fun _ => .bool true) (fun _ => H) := by
  refine CT_intro Tryz.func91 rfl Tryz.ntmps91 rfl ?_
  refine T_seq ?_
  refine T_region ?_
  refine TL_q (Qt_assign (.bool _) rfl) rfl ?_
  refine TL_nil ?_
  refine X_then ?_
  refine T_seq ?_
  refine T_region ?_
  refine TL_q (Qt_move (.string _) rfl) rfl ?_
  refine TL_q (Qt_len_string rfl Tryz.underlying9) rfl ?_
  refine TL_q (Qt_geq rfl rfl) rfl ?_
  refine TL_q (Qt_move (.bool _) rfl) rfl ?_
  refine TL_split 6 rfl (fun h6 => ?_) (fun h6 => ?_)
  ·
    have p6 := h6
    try simp only [decide_eq_true_eq, decide_eq_false_iff_not, Bool.not_eq_true', Bool.not_eq_false', Option.isNone_iff_eq_none, ne_eq, Decidable.not_not, Int.not_lt, Int.not_le] at p6
    refine TL_take rfl rfl h6 ?_
    refine TL_q (Qt_move (.string _) rfl) rfl ?_
    refine TL_take rfl rfl h6 ?_
    refine TL_q (Qt_len_string rfl Tryz.underlying9) rfl ?_
    refine TL_take rfl rfl h6 ?_
    refine TL_q (Qt_leq rfl rfl) rfl ?_
    refine TL_q (Qt_pick_t (.bool _) rfl h6 rfl) rfl ?_
    refine TL_q (Qt_move (.bool _) rfl) rfl ?_
    refine TL_split 11 rfl (fun h11 => ?_) (fun h11 => ?_)
    ·
      have p11 := h11
      try simp only [decide_eq_true_eq, decide_eq_false_iff_not, Bool.not_eq_true', Bool.not_eq_false', Option.isNone_iff_eq_none, ne_eq, Decidable.not_not, Int.not_lt, Int.not_le] at p11
      refine TL_take rfl rfl h11 ?_
      refine TL_q (Qt_move (.string _) rfl) rfl ?_
      refine TL_take rfl rfl h11 ?_
      refine TL_e rfl (Ef_call (idxS_c (s := stB)) rfl (fun x13 => ?_))
      rw [idx_stB]
      refine TL_take rfl rfl h11 ?_
      refine TL_q (Qt_lss rfl rfl) rfl ?_
      refine TL_q (Qt_pick_t (.bool _) rfl h11 rfl) rfl ?_
      refine TL_q (Qt_assign (.bool _) rfl) rfl ?_
      refine TL_nil ?_
      refine X_then ?_
      refine T_ret ?_
      exact X_ret () [.bool true] Tryz.results91 ⟨congrArg Value.bool (by decide), trivial⟩ rfl (Subs.st inferInstance)
    ·
      have p11 := h11
      try simp only [decide_eq_true_eq, decide_eq_false_iff_not, Bool.not_eq_true', Bool.not_eq_false', Option.isNone_iff_eq_none, ne_eq, Decidable.not_not, Int.not_lt, Int.not_le] at p11
      exact absurd h11 (by decide)
  ·
    have p6 := h6
    try simp only [decide_eq_true_eq, decide_eq_false_iff_not, Bool.not_eq_true', Bool.not_eq_false', Option.isNone_iff_eq_none, ne_eq, Decidable.not_not, Int.not_lt, Int.not_le] at p6
    exact absurd h6 (by decide)
set_option maxHeartbeats 1000000 in
theorem asked_c {w0 : World} {H : List SA} {p : Nat} :
    CT Tryz.prog w0 (H) 50 [.pointer (some ⟨p, 0, none⟩), .string stB] (α := Unit) (fun _ => .int .i64 0) (fun _ => H) := by
  refine CT_intro Tryz.func50 rfl Tryz.ntmps50 rfl ?_
  refine T_seq ?_
  refine T_region ?_
  refine TL_q (Qt_assign (.int .i64 _) rfl) rfl ?_
  refine TL_nil ?_
  refine X_then ?_
  refine T_seq ?_
  refine T_region ?_
  refine TL_q (Qt_assign (.int .i64 _) rfl) rfl ?_
  refine TL_nil ?_
  refine X_then ?_
  refine T_seq ?_
  refine T_block ?_
  refine T_seq ?_
  refine T_region ?_
  refine TL_q (Qt_move (.pointer _) rfl) rfl ?_
  refine TL_q (Qt_ptr_nil rfl rfl Tryz.underlying28) rfl ?_
  refine TL_q (Qt_assign (.bool _) rfl) rfl ?_
  refine TL_nil ?_
  refine X_then ?_
  refine T_cond_false rfl (by first | rfl | decide) ?_
  refine T_seq ?_
  refine T_region ?_
  refine TL_q (Qt_move (.string _) rfl) rfl ?_
  refine TL_e rfl (Ef_call (snamed_c) rfl (fun x11 => ?_))
  refine TL_q (Qt_not rfl) rfl ?_
  refine TL_q (Qt_assign (.bool _) rfl) rfl ?_
  refine TL_nil ?_
  refine X_then ?_
  refine T_cond_false rfl (by first | rfl | decide) ?_
  refine T_skip ?_
  refine X_block ?_
  refine X_then ?_
  refine T_seq ?_
  refine T_region ?_
  refine TL_q (Qt_move (.int .i64 _) rfl) rfl ?_
  refine TL_q (Qt_assign (.int .i64 _) rfl) rfl ?_
  refine TL_nil ?_
  refine X_then ?_
  refine T_ret ?_
  exact X_ret () [_] Tryz.results50 ⟨rfl, trivial⟩ rfl (Subs.st inferInstance)
set_option maxHeartbeats 1000000 in
theorem load0_c {w0 : World} {H : List SA} {p : Nat} {s : DS} {M K : Nat} (hok : s.Ok M K) (hM : M ≤ 1000000) (hK : K ≤ 1000000000) (he : s.e2 = []) :
    CT Tryz.prog w0 (DS.H p s H) 26 [.pointer (some ⟨p, 0, none⟩), .string stB] (α := Unit) (fun _ => .tuple #[.slice none 0 0, .int .i64 13]) (fun _ => DS.H p s H) := by
  refine CT_intro Tryz.func26 rfl Tryz.ntmps26 rfl ?_
  refine T_seq ?_
  refine T_region ?_
  refine TL_q (Qt_assign (.slice _ _ _) rfl) rfl ?_
  refine TL_q (Qt_assign (.int .i64 _) rfl) rfl ?_
  refine TL_nil ?_
  refine X_then ?_
  refine T_seq ?_
  refine T_seq ?_
  refine T_region ?_
  refine TL_q (Qt_move (.pointer _) rfl) rfl ?_
  refine TL_q (Qt_move (.string _) rfl) rfl ?_
  refine TL_e rfl (Ef_call (asked_c) rfl (fun x13 => ?_))
  refine TL_q (Qt_assign (.int .i64 _) rfl) rfl ?_
  refine TL_nil ?_
  refine X_then ?_
  refine T_seq ?_
  refine T_region ?_
  refine TL_q (Qt_move (.int .i64 _) rfl) rfl ?_
  refine TL_q (Qt_neq rfl rfl) rfl ?_
  refine TL_nil ?_
  refine X_then ?_
  refine T_cond_false rfl (by first | rfl | decide) ?_
  refine T_skip ?_
  refine X_then ?_
  refine T_seq ?_
  refine T_region ?_
  refine TL_q (Qt_move (.pointer _) rfl) rfl ?_
  refine TL_q (Qt_move (.string _) rfl) rfl ?_
  refine TL_e rfl (Ef_call (dread_c (p := p) (s := s) hok hM (by omega) (nm := stB)) rfl (fun x20 => ?_))
  rw [show hasE s.e2 stB = false from by rw [he]; rfl, if_neg (by decide)]
  refine TL_q (Qt_move (.tuple _) rfl) rfl ?_
  refine TL_q (Qt_extract rfl) rfl ?_
  refine TL_q (Qt_extract rfl) rfl ?_
  refine TL_q (Qt_assign (.slice _ _ _) rfl) rfl ?_
  refine TL_q (Qt_assign (.int .i64 _) rfl) rfl ?_
  refine TL_nil ?_
  refine X_then ?_
  refine T_seq ?_
  refine T_seq ?_
  refine T_region ?_
  refine TL_q (Qt_move (.int .i64 _) rfl) rfl ?_
  refine TL_q (Qt_neq rfl rfl) rfl ?_
  refine TL_nil ?_
  refine X_then ?_
  refine T_cond_true rfl (by first | rfl | decide) ?_
  refine T_seq ?_
  refine T_region ?_
  refine TL_q (Qt_move (.int .i64 _) rfl) rfl ?_
  refine TL_q (Qt_assign (.slice _ _ _) rfl) rfl ?_
  refine TL_q (Qt_assign (.int .i64 _) rfl) rfl ?_
  refine TL_nil ?_
  refine X_then ?_
  refine T_ret ?_
  refine X_then_ret ?_
  exact X_ret () [_, _] Tryz.results26 ⟨rfl, rfl, trivial⟩ rfl (Subs.st inferInstance)
set_option maxHeartbeats 1000000 in
theorem sopen_c {w0 : World} {H : List SA} {p : Nat} {s : DS} {M K : Nat} (hok : s.Ok M K) (hM : M ≤ 1000000) (hK : K ≤ 1000000000) (he : s.e2 = []) {num : Int} {mk : Nat} (hmk : mk < 65536) (hr : rightV num mk = true) :
    CT Tryz.prog w0 (DS.H p s H) 7 [.pointer (some ⟨p, 0, none⟩), .agg (ViewV.mk num (mk : Int)).cells] (α := (Nat × Nat) × (Nat × Nat × AC)) (fun y => .tuple #[.pointer (some ⟨y.1.1, 0, none⟩), .int .i64 0]) (fun y => blk y.1.1 (.cells (StoreV.mk (some ⟨y.1.2, 0, none⟩) (some ⟨p, 0, none⟩) (some ⟨y.2.1, 0, none⟩) (some ⟨y.2.2.1, 0, none⟩) false).cells 80 (0, 0)) :: blk y.1.2 (.cells (stateF num (mk : Int) y.2.2.2).cells 86 (0, 0)) :: DS.H p s H) := by
  refine CT_intro Tryz.func7 rfl Tryz.ntmps7 rfl ?_
  refine T_seq ?_
  refine T_region ?_
  refine TL_e rfl (Ef_boxN rfl (fun b3 => ?_))
  refine TL_q (Qt_assign (.pointer _) rfl) rfl ?_
  refine TL_q (Qt_assign (.int .i64 _) rfl) rfl ?_
  refine TL_nil ?_
  refine X_then ?_
  refine T_seq ?_
  refine T_block ?_
  refine T_seq ?_
  refine T_region ?_
  refine TL_q (Qt_move (.pointer _) rfl) rfl ?_
  refine TL_q (Qt_ptr_nil rfl rfl Tryz.underlying28) rfl ?_
  refine TL_q (Qt_assign (.bool _) rfl) rfl ?_
  refine TL_nil ?_
  refine X_then ?_
  refine T_cond_false rfl (by first | rfl | decide) ?_
  refine T_seq ?_
  refine T_region ?_
  refine TL_q (Qt_loadN rfl rfl) rfl ?_
  refine TL_e rfl (Ef_call (right_v hmk) rfl (fun x18 => ?_))
  rw [hr]
  refine TL_q (Qt_not rfl) rfl ?_
  refine TL_q (Qt_assign (.bool _) rfl) rfl ?_
  refine TL_nil ?_
  refine X_then ?_
  refine T_cond_false rfl (by first | rfl | decide) ?_
  refine T_skip ?_
  refine X_block ?_
  refine X_then ?_
  refine T_seq ?_
  refine T_region ?_
  refine TL_q (Qt_move (.pointer _) rfl) rfl ?_
  refine TL_e rfl (Ef_call (vnew_c) rfl (fun x21 => ?_))
  refine TL_q (Qt_build [(1, (.pointer _)), (3, (.pointer _))] rfl (by kernel_rfl)) rfl ?_
  refine TL_e rfl (Ef_boxN rfl (fun b23 => ?_))
  refine TL_q (Qt_assign (.pointer _) rfl) rfl ?_
  refine TL_nil ?_
  refine X_then ?_
  refine T_seq ?_
  refine T_region ?_
  refine TL_q (Qt_loadN rfl rfl) rfl ?_
  refine TL_e rfl (Ef_call (first_c) rfl (fun x25 => ?_))
  refine TL_q (Qt_build [] rfl (by kernel_rfl)) rfl ?_
  refine TL_e rfl (Ef_call (from_c hmk) rfl (fun x27 => ?_))
  refine TL_e rfl (Ef_allocN (fun b7 => ?_))
  refine TL_n (Ef_storeN rfl rfl (?_))
  refine TL_nil ?_
  refine X_then ?_
  refine T_seq ?_
  refine T_region ?_
  refine TL_q (Qt_move (.pointer _) rfl) rfl ?_
  refine TL_conv (fun w hw => (Subs.st inferInstance w hw : St w0 (DS.H p s (blk b7 (.cells (stateF num (mk : Int) x27).cells 86 (0, 0)) :: blk b23 (.cells (StoreV.mk none (some ⟨p, 0, none⟩) none (some ⟨x21, 0, none⟩) false).cells 80 (0, 0)) :: H)) w)) ?_
  refine TL_e rfl (Ef_call (load0_c (p := p) (s := s) hok hM hK he) rfl (fun x30 => ?_))
  refine TL_q (Qt_move (.tuple _) rfl) rfl ?_
  refine TL_q (Qt_extract rfl) rfl ?_
  refine TL_q (Qt_extract rfl) rfl ?_
  refine TL_q (Qt_assign (.slice _ _ _) rfl) rfl ?_
  refine TL_q (Qt_assign (.int .i64 _) rfl) rfl ?_
  refine TL_nil ?_
  refine X_then ?_
  refine T_seq ?_
  refine T_seq ?_
  refine T_region ?_
  refine TL_q (Qt_move (.int .i64 _) rfl) rfl ?_
  refine TL_q (Qt_eql rfl rfl) rfl ?_
  refine TL_nil ?_
  refine X_then ?_
  refine T_cond_false rfl (by first | rfl | decide) ?_
  refine T_skip ?_
  refine X_then ?_
  refine T_seq ?_
  refine T_seq ?_
  refine T_region ?_
  refine TL_q (Qt_move (.int .i64 _) rfl) rfl ?_
  refine TL_q (Qt_neq rfl rfl) rfl ?_
  refine TL_q (Qt_move (.bool _) rfl) rfl ?_
  refine TL_split 42 rfl (fun h42 => ?_) (fun h42 => ?_)
  ·
    have p42 := h42
    try simp only [decide_eq_true_eq, decide_eq_false_iff_not, Bool.not_eq_true', Bool.not_eq_false', Option.isNone_iff_eq_none, ne_eq, Decidable.not_not, Int.not_lt, Int.not_le] at p42
    refine TL_take rfl rfl h42 ?_
    refine TL_q (Qt_move (.int .i64 _) rfl) rfl ?_
    refine TL_take rfl rfl h42 ?_
    refine TL_q (Qt_neq rfl rfl) rfl ?_
    refine TL_q (Qt_pick_t (.bool _) rfl h42 rfl) rfl ?_
    refine TL_nil ?_
    refine X_then ?_
    refine T_cond_false rfl (by first | rfl | decide) ?_
    refine T_skip ?_
    refine X_then ?_
    refine T_seq ?_
    refine T_region ?_
    refine TL_q (Qt_move (.pointer _) rfl) rfl ?_
    refine TL_q (Qt_nilCheck rfl) rfl ?_
    refine TL_q (Qt_fieldAddr 0 rfl rfl) rfl ?_
    refine TL_n (Ef_store1 (.pointer _) rfl rfl (?_))
    refine TL_nil ?_
    refine X_then ?_
    refine T_seq ?_
    refine T_region ?_
    refine TL_q (Qt_assign (.slice _ _ _) rfl) rfl ?_
    refine TL_nil ?_
    refine X_then ?_
    refine T_seq ?_
    refine T_seq ?_
    refine T_region ?_
    refine TL_q (Qt_move (.pointer _) rfl) rfl ?_
    refine TL_q (Qt_move (.pointer _) rfl) rfl ?_
    refine TL_conv (fun w hw => (Subs.st inferInstance w hw : St w0 (DS.H p s (blk b7 (.cells (stateF num (mk : Int) x27).cells 86 (0, 0)) :: blk b23 (.cells (StoreV.mk (some ⟨b7, 0, none⟩) (some ⟨p, 0, none⟩) none (some ⟨x21, 0, none⟩) false).cells 80 (0, 0)) :: H)) w)) ?_
    refine TL_e rfl (Ef_call (openE_c (p := p) (s := s) hok hM he (pre := lg3) (by show 3 ≤ maxLen; unfold maxLen; omega) fineL3) rfl (fun x53 => ?_))
    refine TL_q (Qt_move (.tuple _) rfl) rfl ?_
    refine TL_q (Qt_extract rfl) rfl ?_
    refine TL_q (Qt_extract rfl) rfl ?_
    refine TL_q (Qt_extract rfl) rfl ?_
    refine TL_q (Qt_nilCheck rfl) rfl ?_
    refine TL_q (Qt_fieldAddr 2 rfl rfl) rfl ?_
    refine TL_n (Ef_store1 (.pointer _) rfl rfl (?_))
    refine TL_q (Qt_assign (.slice _ _ _) rfl) rfl ?_
    refine TL_q (Qt_assign (.int .i64 _) rfl) rfl ?_
    refine TL_nil ?_
    refine X_then ?_
    refine T_seq ?_
    refine T_region ?_
    refine TL_q (Qt_move (.int .i64 _) rfl) rfl ?_
    refine TL_q (Qt_neq rfl rfl) rfl ?_
    refine TL_nil ?_
    refine X_then ?_
    refine T_cond_false rfl (by first | rfl | decide) ?_
    refine T_skip ?_
    refine X_then ?_
    refine T_seq ?_
    refine T_seq ?_
    refine T_region ?_
    refine TL_q (Qt_move (.slice _ _ _) rfl) rfl ?_
    refine TL_q (Qt_len_slice rfl Tryz.underlying42) rfl ?_
    refine TL_q (Qt_move (.int .i64 _) rfl) rfl ?_
    refine TL_nil ?_
    refine X_then ?_
    refine T_block ?_
    refine T_unroll (TU_round ?_)
    refine T_seq ?_
    refine T_region ?_
    refine TL_q (Qt_lss rfl rfl) rfl ?_
    refine TL_nil ?_
    refine X_then ?_
    refine T_seq ?_
    refine T_cond_false rfl (by first | rfl | decide) ?_
    refine T_exit ?_
    refine X_then_exit ?_
    refine X_again_exit ?_
    refine X_block_exit ?_
    refine X_then ?_
    refine T_seq ?_
    refine T_region ?_
    refine TL_q (Qt_move (.pointer _) rfl) rfl ?_
    refine TL_q (Qt_assign (.pointer _) rfl) rfl ?_
    refine TL_q (Qt_assign (.int .i64 _) rfl) rfl ?_
    refine TL_nil ?_
    refine X_then ?_
    refine T_ret ?_
    exact X_ret ((b23, b7), (x53, x21, x27)) [_, _] Tryz.results7 ⟨rfl, rfl, trivial⟩ rfl (Subs.st inferInstance)
  ·
    have p42 := h42
    try simp only [decide_eq_true_eq, decide_eq_false_iff_not, Bool.not_eq_true', Bool.not_eq_false', Option.isNone_iff_eq_none, ne_eq, Decidable.not_not, Int.not_lt, Int.not_le] at p42
    exact absurd h42 (by decide)
end
section
open Go.RowKit Go.Sx
set_option maxRecDepth 100000
set_option linter.unusedSimpArgs false
set_option linter.unusedVariables false
attribute [local irreducible] sha worldB
set_option maxHeartbeats 1000000 in
theorem stworld_c {w0 : World} {H : List SA} {sb : Nat} {t : StateV} :
 CT Tryz.prog w0 (blk sb (.cells t.cells 86 (0, 0)) :: H) 45 [.pointer (some ⟨sb, 0, none⟩)] (α := Unit) (fun _ => .agg t.world.cells) (fun _ => blk sb (.cells t.cells 86 (0, 0)) :: H) := by
 refine CT_intro Tryz.func45 rfl Tryz.ntmps45 rfl ?_
 refine T2 ?_
 refine ze rfl (Ef_allocN (fun b2 => ?_))
 refine TX (zS (T2 ?_))
 refine zq (zm (.pointer _) rfl) rfl (zq (Qt_ptr_nil rfl rfl Tryz.underlying77) rfl (TX (T_cond_false rfl (by first | rfl | decide) (S4 (zq (zm (.pointer _) rfl) rfl ?_)))))
 refine zq (Qt_nilCheck rfl) rfl (zq (zf 0 rfl rfl) rfl (zq (zn rfl rfl) rfl ?_))
 refine zN (zs rfl rfl (?_))
 refine TX (zQ ?_)
 exact zX () [_] Tryz.results45 ⟨⟨_, rfl, res_cellN rfl⟩, trivial⟩ rfl SB
set_option maxHeartbeats 1000000 in
theorem stsaved_c {w0 : World} {H : List SA} {sb : Nat} {t : StateV} :
 CT Tryz.prog w0 (blk sb (.cells t.cells 86 (0, 0)) :: H) 46 [.pointer (some ⟨sb, 0, none⟩)] (α := Unit) (fun _ => .int .i64 t.saved) (fun _ => blk sb (.cells t.cells 86 (0, 0)) :: H) := by
 refine CT_intro Tryz.func46 rfl Tryz.ntmps46 rfl ?_
 refine T2 (Qai rfl rfl (TX (zS (T2 ?_))))
 refine zq (zm (.pointer _) rfl) rfl (zq (Qt_ptr_nil rfl rfl Tryz.underlying77) rfl (TX (T_cond_false rfl (by first | rfl | decide) (S4 (zq (zm (.pointer _) rfl) rfl ?_)))))
 refine zq (Qt_nilCheck rfl) rfl (zq (zf 105 rfl rfl) rfl (zq (zl rfl) rfl (Qai rfl rfl (TX (zQ ?_)))))
 exact zX () [_] Tryz.results46 ⟨rfl, trivial⟩ rfl SB
set_option maxHeartbeats 1000000 in
theorem sworld_c {w0 : World} {H : List SA} {q sb : Nat} {d l b : Option Addr} {fu : Bool} {t : StateV} :
 CT Tryz.prog w0 (blk q (.cells (StoreV.mk (some ⟨sb, 0, none⟩) d l b fu).cells 80 (0, 0)) :: blk sb (.cells t.cells 86 (0, 0)) :: H) 20 [.pointer (some ⟨q, 0, none⟩)] (α := Unit) (fun _ => .agg t.world.cells) (fun _ => blk q (.cells (StoreV.mk (some ⟨sb, 0, none⟩) d l b fu).cells 80 (0, 0)) :: blk sb (.cells t.cells 86 (0, 0)) :: H) := by
 refine CT_intro Tryz.func20 rfl Tryz.ntmps20 rfl ?_
 refine T2 ?_
 refine ze rfl (Ef_allocN (fun b2 => ?_))
 refine TX (zS (T2 ?_))
 refine zq (zm (.pointer _) rfl) rfl (zq (Qt_ptr_nil rfl rfl Tryz.underlying30) rfl (TX (T_cond_false rfl (by first | rfl | decide) (S4 (zq (zm (.pointer _) rfl) rfl ?_)))))
 refine zq (Qt_nilCheck rfl) rfl (zq (zf 0 rfl rfl) rfl (zq (zl rfl) rfl (TL_frontA (blk sb (.cells t.cells 86 (0, 0))) ?_)))
 refine ze rfl (zc (stworld_c (sb := sb) (t := t)) rfl (fun x10 => ?_))
 refine zN (zs rfl rfl (?_))
 refine TX (zQ ?_)
 exact zX () [_] Tryz.results20 ⟨⟨_, rfl, res_cellN rfl⟩, trivial⟩ rfl SB
set_option maxHeartbeats 1000000 in
theorem ssaved_c {w0 : World} {H : List SA} {q sb : Nat} {d l b : Option Addr} {fu : Bool} {t : StateV} :
 CT Tryz.prog w0 (blk q (.cells (StoreV.mk (some ⟨sb, 0, none⟩) d l b fu).cells 80 (0, 0)) :: blk sb (.cells t.cells 86 (0, 0)) :: H) 21 [.pointer (some ⟨q, 0, none⟩)] (α := Unit) (fun _ => .int .i64 t.saved) (fun _ => blk q (.cells (StoreV.mk (some ⟨sb, 0, none⟩) d l b fu).cells 80 (0, 0)) :: blk sb (.cells t.cells 86 (0, 0)) :: H) := by
 refine CT_intro Tryz.func21 rfl Tryz.ntmps21 rfl ?_
 refine T2 (Qai rfl rfl (TX (zS (T2 ?_))))
 refine zq (zm (.pointer _) rfl) rfl (zq (Qt_ptr_nil rfl rfl Tryz.underlying30) rfl (TX (T_cond_false rfl (by first | rfl | decide) (S4 (zq (zm (.pointer _) rfl) rfl ?_)))))
 refine zq (Qt_nilCheck rfl) rfl (zq (zf 0 rfl rfl) rfl (zq (zl rfl) rfl (TL_frontA (blk sb (.cells t.cells 86 (0, 0))) ?_)))
 refine ze rfl (zc (stsaved_c (sb := sb) (t := t)) rfl (fun x9 => ?_))
 refine Qai rfl rfl (TX (zQ ?_))
 exact zX () [_] Tryz.results21 ⟨rfl, trivial⟩ rfl SB
theorem right_four : rightV 0 15 = true := by decide +kernel
set_option maxHeartbeats 1000000 in
theorem wakes21_c {w0 : World} {H : List SA}  :
 CT Tryz.prog w0 (H) 4 [] (α := Unit) (fun _ => .bool true) (fun _ => H) := by
 refine CT_intro Tryz.func4 rfl Tryz.ntmps4 rfl ?_
 refine T2 (Qab rfl rfl (T4 ?_))
 refine ze rfl (zc (dnew_c (n := 1000)) rfl (fun x4 => ?_))
 refine ze rfl (zc (four_c) rfl (fun x5 => ?_))
 have hok0 : (newS x4.2.1 x4.2.2 1000).Ok 0 10000 := (newS_ok _ _ _).mono (by decide) (by decide)
 refine ze rfl (zc (sopen_c (p := x4.1) (s := (newS x4.2.1 x4.2.2 1000)) hok0 (by decide) (by decide) rfl (num := 0) (mk := 15) (by decide) right_four) rfl (fun x6 => ?_))
 refine zq (zm (.tuple _) rfl) rfl (zq (Qt_extract rfl) rfl (zq (Qt_extract rfl) rfl (zq (za (.pointer _) rfl) rfl (Qai rfl rfl (T4 ?_)))))
 refine Qmi rfl rfl (zq (Qt_eql rfl rfl) rfl (Qmb rfl rfl ?_))
 refine TL_split 11 rfl (fun h11 => ?_) (fun h11 => ?_)
 ·
  have p11 := h11
  try simp only [dp] at p11
  refine zt rfl rfl h11 (zq (zm (.pointer _) rfl) rfl (zt rfl rfl h11 ?_))
  refine ze rfl (zc (sworld_c) rfl (fun x13 => ?_))
  refine zt rfl rfl h11 (zq (Qt_field1 (ft := 3) rfl rfl) rfl (zt rfl rfl h11 (zq (Qt_eql rfl rfl) rfl (zq (zT (.bool _) rfl h11 rfl) rfl (Qmb rfl rfl ?_)))))
  refine TL_split 17 rfl (fun h17 => ?_) (fun h17 => ?_)
  ·
   have p17 := h17
   try simp only [dp] at p17
   refine zt rfl rfl h17 (zq (zm (.pointer _) rfl) rfl (zt rfl rfl h17 ?_))
   refine ze rfl (zc (sworld_c) rfl (fun x19 => ?_))
   refine zt rfl rfl h17 (zq (Qt_field1 (ft := 3) rfl rfl) rfl (zt rfl rfl h17 (zq (Qt_eql rfl rfl) rfl (zq (zT (.bool _) rfl h17 rfl) rfl (Qmb rfl rfl ?_)))))
   refine TL_split 23 rfl (fun h23 => ?_) (fun h23 => ?_)
   ·
    have p23 := h23
    try simp only [dp] at p23
    refine zt rfl rfl h23 (zq (zm (.pointer _) rfl) rfl (zt rfl rfl h23 ?_))
    refine ze rfl (zc (ssaved_c) rfl (fun x25 => ?_))
    refine zt rfl rfl h23 (zq (Qt_eql rfl rfl) rfl (zq (zT (.bool _) rfl h23 rfl) rfl (Qab rfl rfl (TX (zQ ?_)))))
    exact zX () [.bool true] Tryz.results4 ⟨congrArg Value.bool (decide_eq_true rfl), trivial⟩ rfl SB
   have p23 := h23
   try simp only [dp] at p23
   exact absurd (h23.symm.trans (decide_eq_true rfl)) (by decide)
  have p17 := h17
  try simp only [dp] at p17
  exact absurd (h17.symm.trans (decide_eq_true rfl)) (by decide)
 have p11 := h11
 try simp only [dp] at p11
 exact absurd (h11.symm.trans (decide_eq_true rfl)) (by decide)
end
end Go.Proofs.YtgeknnclmhfjlaaGreatDoor
