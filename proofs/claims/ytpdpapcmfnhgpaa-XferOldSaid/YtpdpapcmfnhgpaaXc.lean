/- Walks of package xfer: New, Best, Mark; the laws XferNil, XferTells. -/
import Derived.Test.YtpdpapcmfnhgpaaXb
import Derived.Test.YtpdpapcmfnhgpaaTw
namespace Go.Proofs.Ytpdpapcmfnhgpaa
open Go.RowKit Go.Sx
set_option maxRecDepth 100000
set_option linter.unusedSimpArgs false
set_option linter.unusedVariables false
theorem eqZeroW : ∀ w, (Op.equal 34 (.agg WorldV.zero.cells) (.agg WorldV.zero.cells)).run Try.prog w = .ok true w := by
  intro w
  kernel_rfl
def encX (_ : Unit) : Value := .bool true
theorem openOf_nil (K : List (List UInt8)) (mk : Nat) : openOfK K mk [] = (1, .zero) := by
  have e : openK K [] = (1, .zero) := if_pos (by decide)
  unfold openOfK
  rw [e, if_neg (by rintro ⟨h, -⟩; cases h)]
theorem lim_of {m : MsgV} {x : SlotV} {b : List UInt8} (hb : m.body.l = b) (hb' : b.length ≤ 100000) (hp : m.parts.ls.map BS.l = x.parts.ls.map BS.l) (hxp : x.parts.ls.length ≤ 20) (hxe : ∀ y ∈ x.parts.ls, y.l.length ≤ 140737488351232) :
    m.body.l.length ≤ 140737488355328 ∧ m.parts.ls.length ≤ 140737488355328 ∧ ∀ y ∈ m.parts.ls, y.l.length ≤ 140737488355328 := by
  refine ⟨by rw [hb]; omega, by have := congrArg List.length hp; simp only [List.length_map] at this; omega, fun y hy => ?_⟩
  have h1 : y.l ∈ x.parts.ls.map BS.l := by rw [← hp]; exact List.mem_map.2 ⟨y, hy, rfl⟩
  obtain ⟨z, hz, he⟩ := List.mem_map.1 h1
  have := hxe z hz
  rw [← he]; omega

set_option maxHeartbeats 1000000 in
theorem keys22_c {w0 : World} {H : List SA} {ask : AskX} :
    CT Try.prog w0 (H) 23 [.agg ask.cells] (α := (PS × List Nat)) (fun y => .agg (KeysV.mk ⟨y.1.a, y.1.c, y.1.ls⟩ ask.roots).cells) (fun y => pu (y.1.ls.map BS.l = keyT 16) :: dat y.2 (Deep.leads (PS.mk y.1.a y.1.c y.1.ls)) :: H) := by
  refine CT_intro Try.func23 rfl Try.ntmps23 rfl ?_
  refine T_seq ?_
  refine T_region ?_
  refine TL_e rfl (Ef_boxN rfl (fun b1 => ?_))
  refine TL_e rfl (Ef_allocN (fun b2 => ?_))
  refine TL_nil ?_
  refine X_then ?_
  refine T_seq ?_
  refine T_region ?_
  refine TL_q (Qt_fieldAddr 3 rfl rfl) rfl ?_
  refine TL_q (Qt_load1 rfl) rfl ?_
  refine TL_q (Qt_build [(1, .slice _ _ _)] rfl (by kernel_rfl)) rfl ?_
  refine TL_e rfl (Ef_allocN (fun b3 => ?_))
  refine TL_n (Ef_storeN rfl rfl (?_))
  refine TL_nil ?_
  refine X_then ?_
  refine T_seq ?_
  refine T_seq ?_
  refine T_region ?_
  refine TL_q (Qt_move (.int .i64 _) rfl) rfl ?_
  refine TL_nil ?_
  refine X_then ?_
  refine T_block ?_
  refine T_loop [4, 8, 9, 10, 11, 12, 13, 14, 15, 16, 17, 18, 19] [8] (fun us H' => ∃ (k : Nat) (a : Option Addr) (c : Nat) (ls : List BS) (fp : List Nat), us = [.int .i64 (k : Int)] ∧ row (.slice a (ls).length c) 37 1 ((ls).map BS.val) :: eachA fp ls :: blk b3 (.cells (KeysV.mk ⟨a, c, ls⟩ ask.roots).cells 62 (0, 0)) :: blk b1 (.cells ask.cells 58 (0, 0)) :: blk b2 (.cells KeysV.zero.cells 62 (0, 0)) :: H = H' ∧ k ≤ 16 ∧ (ls.map BS.l = keyT k) ∧ (ls.length = k)) (fun us => match us with | .int _ i :: _ => 16 - i.toNat | _ => 0) ⟨0, none, 0, [], [], rfl, rfl, by omega, rfl, rfl⟩ (fun w hw => by
        have h0 : St w0 (blk b3 (.cells (KeysV.mk ⟨none, 0, []⟩ ask.roots).cells 62 (0, 0)) :: blk b1 (.cells ask.cells 58 (0, 0)) :: blk b2 (.cells KeysV.zero.cells 62 (0, 0)) :: H) w := Subs.st inferInstance w hw
        exact (h0.eachNil).addNil 37 1) ?_
  rintro τ0 _ _  ⟨k, a, c, ls, fp, rfl, rfl, hk0, hls, hll⟩ _
  refine T_seq ?_
  refine T_region ?_
  refine TL_q (Qt_lss rfl rfl) rfl ?_
  refine TL_nil ?_
  refine X_then ?_
  refine T_seq ?_
  refine T_cond rfl (fun h9 => ?_) (fun h9 => ?_)
  ·
    have p9 := h9
    try simp only [decide_eq_true_eq, decide_eq_false_iff_not, Bool.not_eq_true', Bool.not_eq_false', Option.isNone_iff_eq_none, ne_eq, Decidable.not_not, Int.not_lt, Int.not_le] at p9
    refine T_skip ?_
    refine X_then ?_
    refine T_seq ?_
    refine T_block ?_
    refine T_seq ?_
    refine T_region ?_
    refine TL_q (Qt_move (.int .i64 _) rfl) rfl ?_
    refine TL_q (Qt_assign (.int .i64 _) rfl) rfl ?_
    refine TL_nil ?_
    refine X_then ?_
    refine T_region ?_
    refine TL_q (Qt_fieldAddr 0 rfl rfl) rfl ?_
    refine TL_q (Qt_load1 rfl) rfl ?_
    refine TL_q (Qt_move (.int .i64 _) rfl) rfl ?_
    refine TL_q (Qt_conv rfl rfl Try.underlying5) rfl ?_
    rw [wrap_nat .u8 rfl (by show _ < 2 ^ 8; omega)]
    obtain ⟨u, hu⟩ : ∃ u : UInt8, u = UInt8.ofNat k := ⟨_, rfl⟩
    have hun : (k : Int) = (u.toNat : Int) := by rw [hu]; simp; omega
    refine TL_e rfl (Ef_sliceN (m := ([u] : List UInt8).length) [.int .u8 (k : Int)] (bytesV [u]) rfl rfl rfl (by rw [hun]; rfl) (by simp [Value.cells]) rfl rfl (fun a15 c15 => ?_))
    refine TL_e rfl (Ef_slice1 (v := .slice _ _ _) rfl (fun a16 c16 => ?_))
    refine TL_e rfl (Ef_appendP (sv := .slice _ _ _) (xv := .slice _ _ _) ⟨a15, c15, [u]⟩ rfl rfl (by omega) rfl (fun a17 c17 => ?_))
    refine TL_q (Qt_fieldAddr 0 rfl rfl) rfl ?_
    refine TL_n (Ef_store1 (.slice _ _ _) rfl rfl (?_))
    refine TL_nil ?_
    refine X_block ?_
    refine X_then ?_
    refine T_region ?_
    first
      | refine TL_q (Qt_add rfl rfl (by omega) (by omega)) rfl ?_
      | refine TL_q (Qt_addw rfl rfl) rfl ?_
    refine TL_q (Qt_move (.int .i64 _) rfl) rfl ?_
    refine TL_nil ?_
    apply X_loop
    case ha => exact (by repeat (first | with_reducible exact agree_refl | refine agree_upd rfl ?_ | refine agree_mix rfl ?_ | refine agree_setAll rfl ?_))
    case hI => exact ⟨k + 1, a17, c17, ls ++ [⟨a15, c15, [u]⟩], rowFp (.slice a15 ([u] : List UInt8).length c15) ++ fp, rfl, rfl, by omega, by rw [List.map_append, hls, keyT_succ, ← hu]; rfl, by simp [hll]⟩
    case hm => exact by show 16 - (k + 1 : Int).toNat < 16 - (k : Int).toNat; omega
    case hH => exact fun w hw => eachUnder (Subs.st inferInstance w hw : St w0 (row (.slice a17 (ls ++ [(⟨a15, c15, [u]⟩ : BS)]).length c17) 37 1 ((ls ++ [(⟨a15, c15, [u]⟩ : BS)]).map BS.val) :: row (BS.val ⟨a15, c15, [u]⟩) 5 1 (bytesV (BS.l ⟨a15, c15, [u]⟩)) :: eachA fp ls :: blk b3 (.cells (KeysV.mk ⟨a17, c17, ls ++ [⟨a15, c15, [u]⟩]⟩ ask.roots).cells 62 (0, 0)) :: blk b1 (.cells ask.cells 58 (0, 0)) :: blk b2 (.cells KeysV.zero.cells 62 (0, 0)) :: H) w)
  ·
    have p9 := h9
    try simp only [decide_eq_true_eq, decide_eq_false_iff_not, Bool.not_eq_true', Bool.not_eq_false', Option.isNone_iff_eq_none, ne_eq, Decidable.not_not, Int.not_lt, Int.not_le] at p9
    have hk16 : k = 16 := by omega
    refine T_exit ?_
    refine X_then_exit ?_
    refine X_loop_exit ?_
    refine X_block_exit ?_
    refine X_then ?_
    refine T_seq ?_
    refine T_region ?_
    refine TL_q (Qt_loadN rfl rfl) rfl ?_
    refine TL_n (Ef_storeN rfl rfl (?_))
    refine TL_nil ?_
    refine X_then ?_
    refine T_ret ?_
    refine X_conv (fun w hw => St.datPS (a := a) (c := c) (ls := ls) (fp := fp) (e := 37) (H := blk b2 (.cells (KeysV.mk ⟨a, c, ls⟩ ask.roots).cells 62 (0, 0)) :: H) (Subs.st inferInstance w hw)) (fun fp2 => ?_)
    exact X_ret (⟨a, c, ls⟩, fp2) [_] Try.results23 ⟨⟨_, rfl, res_cellN rfl⟩, trivial⟩ rfl (fun w hw => (Subs.st inferInstance w hw : St w0 (dat fp2 (Deep.leads (PS.mk a c ls)) :: H) w).addPure (by rw [hls, hk16]))
set_option maxHeartbeats 1000000 in
theorem cloneH_c {w0 : World} {H : List SA} {ra : Option Addr} {hs : List (Vector UInt8 32)} {rc : Nat} [hr : RdC w0 H (.slice ra hs.length rc) 32 (hs.flatMap fun h : Vector UInt8 32 => hlist h)] (hn : hs.length ≤ 1000) :
    CT Try.prog w0 (H) 61 [.slice ra hs.length rc] (α := AC) (fun y => .slice y.a hs.length y.c) (fun y => row (.slice y.a hs.length y.c) 36 32 (hs.flatMap fun h : Vector UInt8 32 => hlist h) :: H) := by
  refine CT_intro Try.func61 rfl Try.ntmps61 rfl ?_
  refine T_seq ?_
  refine T_region ?_
  refine TL_q (Qt_assign (.slice _ _ _) rfl) rfl ?_
  refine TL_nil ?_
  refine X_then ?_
  refine T_seq ?_
  refine T_seq ?_
  refine T_region ?_
  refine TL_q (Qt_move (.slice _ _ _) rfl) rfl ?_
  refine TL_q (Qt_slice_nil rfl rfl Try.underlying56) rfl ?_
  refine TL_nil ?_
  refine X_then ?_
  refine T_cond rfl (fun h4 => ?_) (fun h4 => ?_)
  ·
    have p4 := h4
    try simp only [decide_eq_true_eq, decide_eq_false_iff_not, Bool.not_eq_true', Bool.not_eq_false', Option.isNone_iff_eq_none, ne_eq, Decidable.not_not, Int.not_lt, Int.not_le] at p4
    refine T_seq ?_
    refine T_region ?_
    refine TL_q (Qt_assign (.slice _ _ _) rfl) rfl ?_
    refine TL_nil ?_
    refine X_then ?_
    refine T_ret ?_
    refine X_then_ret ?_
    subst p4
    refine X_know (fun w hw => CellsAt.none (hr.rd w hw)) (fun hnil => ?_)
    have hs0 : hs = [] := by have := flat_len (fun h : Vector UInt8 32 => hlist h) 32 hlist_length hs; rw [hnil] at this; simp at this; exact List.eq_nil_of_length_eq_zero (by omega)
    subst hs0
    exact X_ret ⟨none, 0⟩ [.slice none 0 0] Try.results61 ⟨rfl, trivial⟩ rfl (fun w hw => by
        have h2 : St w0 (row (.slice none 0 0) 36 32 [] :: H) w := (Subs.st inferInstance w hw : St w0 H w).addNil 36 32
        exact h2)
  ·
    have p4 := h4
    try simp only [decide_eq_true_eq, decide_eq_false_iff_not, Bool.not_eq_true', Bool.not_eq_false', Option.isNone_iff_eq_none, ne_eq, Decidable.not_not, Int.not_lt, Int.not_le] at p4
    refine T_skip ?_
    refine X_then ?_
    refine T_seq ?_
    refine T_region ?_
    refine TL_e rfl (Ef_slice0 (fun a5 c5 => ?_))
    refine TL_q (Qt_move (.slice _ _ _) rfl) rfl ?_
    refine TL_e rfl (Ef_appendS (fun h : Vector UInt8 32 => hlist h) (sv := .slice _ _ _) (xv := .slice _ _ _) (xs := []) (ys := hs) hlist_length hlist_one rfl rfl (by simp; omega) rfl rfl (fun a7 c7 => ?_))
    simp only [List.nil_append]
    refine TL_q (Qt_assign (.slice _ _ _) rfl) rfl ?_
    refine TL_nil ?_
    refine X_then ?_
    refine T_ret ?_
    exact X_ret ⟨a7, c7⟩ [_] Try.results61 ⟨rfl, trivial⟩ rfl (Subs.st inferInstance)
set_option maxHeartbeats 1000000 in
theorem xnew_c {w0 : World} {H : List SA} {num : Int} {mk : Nat} {had : Int} {sa : Option Addr} {sc : Nat} {ls : List BS} {ra : Option Addr} {rc : Nat} {hs : List (Vector UInt8 32)} [rk : RdC w0 H (.slice sa ls.length sc) 1 (ls.map BS.val)] [rke : RdE w0 H ls] (hkl : ∀ x ∈ ls, x.l.length ≤ 4294967000) (hn : ls.length ≤ 1000) [hr : RdC w0 H (.slice ra hs.length rc) 32 (hs.flatMap fun h : Vector UInt8 32 => hlist h)] (hh : hs.length ≤ 1000) :
    CT Try.prog w0 (H) 22 [.agg (KeysV.mk ⟨sa, sc, ls⟩ ⟨ra, hs.length, rc⟩).cells, .agg (ViewV.mk num (mk : Int)).cells, .int .i64 had] (α := (Nat × Nat × Nat) × (PS × List Nat) × AC) (fun y => .pointer (some ⟨y.1.1, 0, none⟩)) (fun y => pu (y.2.1.1.ls.map BS.l = ls.map BS.l) :: blk y.1.1 (.cells (FetchV.mk (KeysV.mk ⟨y.2.1.1.a, y.2.1.1.c, y.2.1.1.ls⟩ ⟨y.2.2.a, hs.length, y.2.2.c⟩) (ViewV.mk num (mk : Int)) had (some y.1.2.1) (some y.1.2.2) ⟨none, 0, 0⟩).cells 121 (0, 0)) :: blk y.1.2.1 (mapO encX encX [] 0) :: blk y.1.2.2 (mapO encX encX [] 0) :: dat y.2.1.2 (Deep.leads (PS.mk y.2.1.1.a y.2.1.1.c y.2.1.1.ls)) :: row (.slice y.2.2.a hs.length y.2.2.c) 36 32 (hs.flatMap fun h : Vector UInt8 32 => hlist h) :: H) := by
  refine CT_intro Try.func22 rfl Try.ntmps22 rfl ?_
  refine T_seq ?_
  refine T_region ?_
  refine TL_e rfl (Ef_boxN rfl (fun b3 => ?_))
  refine TL_e rfl (Ef_boxN rfl (fun b4 => ?_))
  refine TL_q (Qt_assign (.pointer _) rfl) rfl ?_
  refine TL_nil ?_
  refine X_then ?_
  refine T_seq ?_
  refine T_drawF (blk b3 (.cells (KeysV.mk ⟨sa, sc, ls⟩ ⟨ra, hs.length, rc⟩).cells 62 (0, 0)) :: H) (by kernel_rfl) (Subs.st inferInstance) ?_
  refine DLF_q (i := 0) (by kernel_rfl) rfl (by kernel_rfl) (by kernel_rfl) (Qt_fieldAddr 0 rfl rfl) rfl ?_
  refine DLF_q (i := 1) (by kernel_rfl) rfl (by kernel_rfl) (by kernel_rfl) (Qt_load1 rfl) rfl ?_
  refine DLF_q (i := 3) (by kernel_rfl) rfl (by kernel_rfl) (by kernel_rfl) (Qt_fieldAddr 1 rfl rfl) rfl ?_
  refine DLF_q (i := 4) (by kernel_rfl) rfl (by kernel_rfl) (by kernel_rfl) (Qt_load1 rfl) rfl ?_
  refine DLF_2 (i := 2) (j := 7) (by kernel_rfl) ?_ ?_
  ·
    refine DLS_e rfl rfl (Ef_call (cloned_c (ls := ls) (fun x hx => by have := hkl x hx; omega) hn) rfl (fun x10 => ⟨(Subs.st inferInstance), ?_⟩))
    refine DLF_pure (fun h10 => ?_)
    refine DLF_2 (i := 5) (j := 7) (by kernel_rfl) ?_ ?_
    ·
      refine DLS_e rfl rfl (Ef_call (cloneH_c (hs := hs) hh) rfl (fun x13 => ⟨(Subs.st inferInstance), ?_⟩))
      refine DLF_q (i := 6) (by kernel_rfl) rfl (by kernel_rfl) (by kernel_rfl) (Qt_build [(0, .slice _ _ _), (1, .slice _ _ _)] rfl (by kernel_rfl)) rfl ?_
      refine DLF_1 (i := 7) (by kernel_rfl) ?_
      refine DLS_e rfl rfl (Ef_allocN (fun b7 => ⟨(Subs.st inferInstance), ?_⟩))
      refine DLF_1 (i := 8) (by kernel_rfl) ?_
      refine DLS_n rfl (Ef_storeN rfl rfl (⟨(Subs.st inferInstance), ?_⟩))
      refine DLF_nil (by kernel_rfl) ?_
      refine X_then ?_
      refine T_seq ?_
      refine T_region ?_
      refine TL_q (Qt_loadN rfl rfl) rfl ?_
      refine TL_q (Qt_loadN rfl rfl) rfl ?_
      refine TL_q (Qt_move (.int .i64 _) rfl) rfl ?_
      refine TL_e rfl (Ef_makeMap encX encX (fun r18 => ?_))
      refine TL_e rfl (Ef_makeMap encX encX (fun r19 => ?_))
      refine TL_q (Qt_build [(0, (.agg _)), (1, (.agg _)), (2, (.int .i64 _)), (3, (.map _)), (4, (.map _))] rfl (by kernel_rfl)) rfl ?_
      refine TL_e rfl (Ef_boxN rfl (fun b21 => ?_))
      refine TL_q (Qt_assign (.pointer _) rfl) rfl ?_
      refine TL_nil ?_
      refine X_then ?_
      refine T_ret ?_
      exact X_ret ((b21, r18, r19), (x10, x13)) [_] Try.results22 ⟨rfl, trivial⟩ rfl (fun w hw => (Subs.st inferInstance w hw : St w0 (blk b21 (.cells (FetchV.mk (KeysV.mk ⟨x10.1.a, x10.1.c, x10.1.ls⟩ ⟨x13.a, hs.length, x13.c⟩) (ViewV.mk num (mk : Int)) had (some r18) (some r19) ⟨none, 0, 0⟩).cells 121 (0, 0)) :: blk r18 (mapO encX encX [] 0) :: blk r19 (mapO encX encX [] 0) :: dat x10.2 (Deep.leads (PS.mk x10.1.a x10.1.c x10.1.ls)) :: row (.slice x13.a hs.length x13.c) 36 32 (hs.flatMap fun h : Vector UInt8 32 => hlist h) :: H) w).addPure h10)
    ·
      refine DLS_e rfl rfl (Ef_allocN (fun b7 => ⟨(Subs.st inferInstance), ?_⟩))
      refine DLF_1 (i := 5) (by kernel_rfl) ?_
      refine DLS_e rfl rfl (Ef_call (cloneH_c (hs := hs) hh) rfl (fun x13 => ⟨(Subs.st inferInstance), ?_⟩))
      refine DLF_q (i := 6) (by kernel_rfl) rfl (by kernel_rfl) (by kernel_rfl) (Qt_build [(0, .slice _ _ _), (1, .slice _ _ _)] rfl (by kernel_rfl)) rfl ?_
      refine DLF_1 (i := 8) (by kernel_rfl) ?_
      refine DLS_n rfl (Ef_storeN rfl rfl (⟨(Subs.st inferInstance), ?_⟩))
      refine DLF_nil (by kernel_rfl) ?_
      refine X_then ?_
      refine T_seq ?_
      refine T_region ?_
      refine TL_q (Qt_loadN rfl rfl) rfl ?_
      refine TL_q (Qt_loadN rfl rfl) rfl ?_
      refine TL_q (Qt_move (.int .i64 _) rfl) rfl ?_
      refine TL_e rfl (Ef_makeMap encX encX (fun r18 => ?_))
      refine TL_e rfl (Ef_makeMap encX encX (fun r19 => ?_))
      refine TL_q (Qt_build [(0, (.agg _)), (1, (.agg _)), (2, (.int .i64 _)), (3, (.map _)), (4, (.map _))] rfl (by kernel_rfl)) rfl ?_
      refine TL_e rfl (Ef_boxN rfl (fun b21 => ?_))
      refine TL_q (Qt_assign (.pointer _) rfl) rfl ?_
      refine TL_nil ?_
      refine X_then ?_
      refine T_ret ?_
      exact X_ret ((b21, r18, r19), (x10, x13)) [_] Try.results22 ⟨rfl, trivial⟩ rfl (fun w hw => (Subs.st inferInstance w hw : St w0 (blk b21 (.cells (FetchV.mk (KeysV.mk ⟨x10.1.a, x10.1.c, x10.1.ls⟩ ⟨x13.a, hs.length, x13.c⟩) (ViewV.mk num (mk : Int)) had (some r18) (some r19) ⟨none, 0, 0⟩).cells 121 (0, 0)) :: blk r18 (mapO encX encX [] 0) :: blk r19 (mapO encX encX [] 0) :: dat x10.2 (Deep.leads (PS.mk x10.1.a x10.1.c x10.1.ls)) :: row (.slice x13.a hs.length x13.c) 36 32 (hs.flatMap fun h : Vector UInt8 32 => hlist h) :: H) w).addPure h10)
  ·
    refine DLS_e rfl rfl (Ef_allocN (fun b7 => ⟨(Subs.st inferInstance), ?_⟩))
    refine DLF_1 (i := 2) (by kernel_rfl) ?_
    refine DLS_e rfl rfl (Ef_call (cloned_c (ls := ls) (fun x hx => by have := hkl x hx; omega) hn) rfl (fun x10 => ⟨(Subs.st inferInstance), ?_⟩))
    refine DLF_pure (fun h10 => ?_)
    refine DLF_1 (i := 5) (by kernel_rfl) ?_
    refine DLS_e rfl rfl (Ef_call (cloneH_c (hs := hs) hh) rfl (fun x13 => ⟨(Subs.st inferInstance), ?_⟩))
    refine DLF_q (i := 6) (by kernel_rfl) rfl (by kernel_rfl) (by kernel_rfl) (Qt_build [(0, .slice _ _ _), (1, .slice _ _ _)] rfl (by kernel_rfl)) rfl ?_
    refine DLF_1 (i := 8) (by kernel_rfl) ?_
    refine DLS_n rfl (Ef_storeN rfl rfl (⟨(Subs.st inferInstance), ?_⟩))
    refine DLF_nil (by kernel_rfl) ?_
    refine X_then ?_
    refine T_seq ?_
    refine T_region ?_
    refine TL_q (Qt_loadN rfl rfl) rfl ?_
    refine TL_q (Qt_loadN rfl rfl) rfl ?_
    refine TL_q (Qt_move (.int .i64 _) rfl) rfl ?_
    refine TL_e rfl (Ef_makeMap encX encX (fun r18 => ?_))
    refine TL_e rfl (Ef_makeMap encX encX (fun r19 => ?_))
    refine TL_q (Qt_build [(0, (.agg _)), (1, (.agg _)), (2, (.int .i64 _)), (3, (.map _)), (4, (.map _))] rfl (by kernel_rfl)) rfl ?_
    refine TL_e rfl (Ef_boxN rfl (fun b21 => ?_))
    refine TL_q (Qt_assign (.pointer _) rfl) rfl ?_
    refine TL_nil ?_
    refine X_then ?_
    refine T_ret ?_
    exact X_ret ((b21, r18, r19), (x10, x13)) [_] Try.results22 ⟨rfl, trivial⟩ rfl (fun w hw => (Subs.st inferInstance w hw : St w0 (blk b21 (.cells (FetchV.mk (KeysV.mk ⟨x10.1.a, x10.1.c, x10.1.ls⟩ ⟨x13.a, hs.length, x13.c⟩) (ViewV.mk num (mk : Int)) had (some r18) (some r19) ⟨none, 0, 0⟩).cells 121 (0, 0)) :: blk r18 (mapO encX encX [] 0) :: blk r19 (mapO encX encX [] 0) :: dat x10.2 (Deep.leads (PS.mk x10.1.a x10.1.c x10.1.ls)) :: row (.slice x13.a hs.length x13.c) 36 32 (hs.flatMap fun h : Vector UInt8 32 => hlist h) :: H) w).addPure h10)
set_option maxHeartbeats 1000000 in
theorem bestNil_c {w0 : World} {H : List SA}  :
    CT Try.prog w0 (H) 18 [.pointer none] (α := Unit) (fun _ => .tuple #[.agg WorldV.zero.cells, .agg SlotV.zero.cells, .bool false]) (fun _ => H) := by
  refine CT_intro Try.func18 rfl Try.ntmps18 rfl ?_
  refine T_seq ?_
  refine T_region ?_
  refine TL_e rfl (Ef_allocN (fun b2 => ?_))
  refine TL_e rfl (Ef_allocN (fun b3 => ?_))
  refine TL_q (Qt_assign (.bool _) rfl) rfl ?_
  refine TL_nil ?_
  refine X_then ?_
  refine T_seq ?_
  refine T_seq ?_
  refine T_region ?_
  refine TL_q (Qt_move (.pointer _) rfl) rfl ?_
  refine TL_q (Qt_ptr_nil rfl rfl Try.underlying50) rfl ?_
  refine TL_nil ?_
  refine X_then ?_
  refine T_cond_true rfl (by first | rfl | decide) ?_
  refine T_seq ?_
  refine T_region ?_
  refine TL_q (Qt_build [] rfl (by kernel_rfl)) rfl ?_
  refine TL_q (Qt_build [] rfl (by kernel_rfl)) rfl ?_
  refine TL_n (Ef_storeN rfl rfl (?_))
  refine TL_n (Ef_storeN rfl rfl (?_))
  refine TL_q (Qt_assign (.bool _) rfl) rfl ?_
  refine TL_nil ?_
  refine X_then ?_
  refine T_ret ?_
  refine X_then_ret ?_
  exact X_ret () [_, _, _] Try.results18 ⟨⟨_, rfl, res_cellN rfl⟩, ⟨_, rfl, res_cellN rfl⟩, rfl, trivial⟩ rfl (Subs.st inferInstance)
set_option maxHeartbeats 1000000 in
theorem bestE_c {w0 : World} {H : List SA} {p : Nat} {fk : KeysV} {fv : ViewV} {had : Int} {mr wr : Option Nat} [hm : Mem w0 H p (.cells (FetchV.mk fk fv had mr wr ⟨none, 0, 0⟩).cells 121 (0, 0))] :
    CT Try.prog w0 (H) 18 [.pointer (some ⟨p, 0, none⟩)] (α := Unit) (fun _ => .tuple #[.agg WorldV.zero.cells, .agg SlotV.zero.cells, .bool false]) (fun _ => H) := by
  refine CT_intro Try.func18 rfl Try.ntmps18 rfl ?_
  refine T_seq ?_
  refine T_region ?_
  refine TL_e rfl (Ef_allocN (fun b2 => ?_))
  refine TL_e rfl (Ef_allocN (fun b3 => ?_))
  refine TL_q (Qt_assign (.bool _) rfl) rfl ?_
  refine TL_nil ?_
  refine X_then ?_
  refine T_seq ?_
  refine T_seq ?_
  refine T_region ?_
  refine TL_q (Qt_move (.pointer _) rfl) rfl ?_
  refine TL_q (Qt_ptr_nil rfl rfl Try.underlying50) rfl ?_
  refine TL_nil ?_
  refine X_then ?_
  refine T_cond_false rfl (by first | rfl | decide) ?_
  refine T_skip ?_
  refine X_then ?_
  refine T_seq ?_
  refine T_region ?_
  refine TL_q (Qt_assign (.pointer _) rfl) rfl ?_
  refine TL_nil ?_
  refine X_then ?_
  refine T_seq ?_
  refine T_seq ?_
  refine T_region ?_
  refine TL_q (Qt_move (.pointer _) rfl) rfl ?_
  refine TL_q (Qt_nilCheck rfl) rfl ?_
  refine TL_q (Qt_fieldAddr 7 rfl rfl) rfl ?_
  refine TL_q (Qt_load1 rfl) rfl ?_
  refine TL_q (Qt_len_slice rfl Try.underlying119) rfl ?_
  refine TL_q (Qt_move (.int .i64 _) rfl) rfl ?_
  refine TL_nil ?_
  refine X_then ?_
  refine T_block ?_
  refine T_unroll (TU_round ?_)
  refine T_seq ?_
  refine T_region ?_
  refine TL_q (Qt_lss rfl rfl) rfl ?_
  refine TL_nil ?_
  refine X_then ?_
  refine T_seq ?_
  refine T_cond_false rfl (by first | rfl | decide) ?_
  refine T_exit ?_
  refine X_then_exit ?_
  refine X_again_exit ?_
  refine X_block_exit ?_
  refine X_then ?_
  refine T_seq ?_
  refine T_seq ?_
  refine T_region ?_
  refine TL_q (Qt_move (.pointer _) rfl) rfl ?_
  refine TL_q (Qt_ptr_nil rfl rfl Try.underlying116) rfl ?_
  refine TL_nil ?_
  refine X_then ?_
  refine T_cond_true rfl (by first | rfl | decide) ?_
  refine T_seq ?_
  refine T_region ?_
  refine TL_q (Qt_build [] rfl (by kernel_rfl)) rfl ?_
  refine TL_q (Qt_build [] rfl (by kernel_rfl)) rfl ?_
  refine TL_n (Ef_storeN rfl rfl (?_))
  refine TL_n (Ef_storeN rfl rfl (?_))
  refine TL_q (Qt_assign (.bool _) rfl) rfl ?_
  refine TL_nil ?_
  refine X_then ?_
  refine T_ret ?_
  refine X_then_ret ?_
  exact X_ret () [_, _, _] Try.results18 ⟨⟨_, rfl, res_cellN rfl⟩, ⟨_, rfl, res_cellN rfl⟩, rfl, trivial⟩ rfl (Subs.st inferInstance)
set_option maxHeartbeats 1000000 in
theorem markNil_c {w0 : World} {H : List SA} {a : Option Addr} {n c : Nat} :
    CT Try.prog w0 (H) 19 [.pointer none, .slice a n c] (α := Unit) (fun _ => .int .i64 16) (fun _ => H) := by
  refine CT_intro Try.func19 rfl Try.ntmps19 rfl ?_
  refine T_seq ?_
  refine T_region ?_
  refine TL_q (Qt_assign (.int .i64 _) rfl) rfl ?_
  refine TL_nil ?_
  refine X_then ?_
  refine T_seq ?_
  refine T_seq ?_
  refine T_region ?_
  refine TL_q (Qt_move (.pointer _) rfl) rfl ?_
  refine TL_q (Qt_ptr_nil rfl rfl Try.underlying50) rfl ?_
  refine TL_nil ?_
  refine X_then ?_
  refine T_cond_true rfl (by first | rfl | decide) ?_
  refine T_seq ?_
  refine T_region ?_
  refine TL_q (Qt_assign (.int .i64 _) rfl) rfl ?_
  refine TL_nil ?_
  refine X_then ?_
  refine T_ret ?_
  refine X_then_ret ?_
  exact X_ret () [_] Try.results19 ⟨rfl, trivial⟩ rfl (Subs.st inferInstance)
set_option maxHeartbeats 1000000 in
theorem snapNil_c {w0 : World} {H : List SA} {a : Option Addr} {n c : Nat} :
    CT Try.prog w0 (H) 20 [.pointer none, .slice a n c] (α := Unit) (fun _ => .int .i64 16) (fun _ => H) := by
  refine CT_intro Try.func20 rfl Try.ntmps20 rfl ?_
  refine T_seq ?_
  refine T_region ?_
  refine TL_q (Qt_assign (.int .i64 _) rfl) rfl ?_
  refine TL_nil ?_
  refine X_then ?_
  refine T_seq ?_
  refine T_seq ?_
  refine T_region ?_
  refine TL_q (Qt_move (.pointer _) rfl) rfl ?_
  refine TL_q (Qt_ptr_nil rfl rfl Try.underlying50) rfl ?_
  refine TL_nil ?_
  refine X_then ?_
  refine T_cond_true rfl (by first | rfl | decide) ?_
  refine T_seq ?_
  refine T_region ?_
  refine TL_q (Qt_assign (.int .i64 _) rfl) rfl ?_
  refine TL_nil ?_
  refine X_then ?_
  refine T_ret ?_
  refine X_then_ret ?_
  exact X_ret () [_] Try.results20 ⟨rfl, trivial⟩ rfl (Subs.st inferInstance)
set_option maxHeartbeats 1000000 in
theorem markShort_c {w0 : World} {H : List SA} {p : Nat} {sa : Option Addr} {sc : Nat} {ls : List BS} {rt : Sl} {num : Int} {mk : Nat} (hmk : mk < 65536) {had : Int} {mr wr : Option Nat} {fl : Sl} [hm : Mem w0 H p (.cells (FetchV.mk (KeysV.mk ⟨sa, sc, ls⟩ rt) (ViewV.mk num (mk : Int)) had mr wr fl).cells 121 (0, 0))] [rk : RdC w0 H (.slice sa ls.length sc) 1 (ls.map BS.val)] [rke : RdE w0 H ls] (hkl : ∀ x ∈ ls, x.l.length ≤ 4294967000) :
    CT Try.prog w0 (H) 19 [.pointer (some ⟨p, 0, none⟩), .slice none 0 0] (α := Unit) (fun _ => .int .i64 1) (fun _ => H) := by
  refine CT_intro Try.func19 rfl Try.ntmps19 rfl ?_
  refine T_seq ?_
  refine T_region ?_
  refine TL_q (Qt_assign (.int .i64 _) rfl) rfl ?_
  refine TL_nil ?_
  refine X_then ?_
  refine T_seq ?_
  refine T_seq ?_
  refine T_region ?_
  refine TL_q (Qt_move (.pointer _) rfl) rfl ?_
  refine TL_q (Qt_ptr_nil rfl rfl Try.underlying50) rfl ?_
  refine TL_nil ?_
  refine X_then ?_
  refine T_cond_false rfl (by first | rfl | decide) ?_
  refine T_skip ?_
  refine X_then ?_
  refine T_seq ?_
  refine T_drawF H (by kernel_rfl) (Subs.st inferInstance) ?_
  refine DLF_q (i := 0) (by kernel_rfl) rfl (by kernel_rfl) (by kernel_rfl) (Qt_move (.pointer _) rfl) rfl ?_
  refine DLF_q (i := 1) (by kernel_rfl) rfl (by kernel_rfl) (by kernel_rfl) (Qt_nilCheck rfl) rfl ?_
  refine DLF_q (i := 2) (by kernel_rfl) rfl (by kernel_rfl) (by kernel_rfl) (Qt_fieldAddr 0 rfl rfl) rfl ?_
  refine DLF_q (i := 3) (by kernel_rfl) rfl (by kernel_rfl) (by kernel_rfl) (Qt_loadN rfl rfl) rfl ?_
  refine DLF_q (i := 4) (by kernel_rfl) rfl (by kernel_rfl) (by kernel_rfl) (Qt_move (.pointer _) rfl) rfl ?_
  refine DLF_q (i := 5) (by kernel_rfl) rfl (by kernel_rfl) (by kernel_rfl) (Qt_nilCheck rfl) rfl ?_
  refine DLF_q (i := 6) (by kernel_rfl) rfl (by kernel_rfl) (by kernel_rfl) (Qt_fieldAddr 2 rfl rfl) rfl ?_
  refine DLF_q (i := 7) (by kernel_rfl) rfl (by kernel_rfl) (by kernel_rfl) (Qt_loadN rfl rfl) rfl ?_
  refine DLF_q (i := 8) (by kernel_rfl) rfl (by kernel_rfl) (by kernel_rfl) (Qt_move (.slice _ _ _) rfl) rfl ?_
  refine DLF_2 (i := 9) (j := 13) (by kernel_rfl) ?_ ?_
  ·
    refine DLS_e rfl rfl (Ef_call (openOf_c (num := num) (mk := mk) hmk (sa := sa) (sc := sc) (ls := ls) (rt := rt) hkl (a := none) (l := []) (c := 0) (hr := RdB.nil') (by decide)) rfl (fun x20 => ⟨(Subs.st inferInstance), ?_⟩))
    refine DLF_pure (fun h20 => ?_)
    rw [openOf_nil]
    refine DLF_q (i := 10) (by kernel_rfl) rfl (by kernel_rfl) (by kernel_rfl) (Qt_move (.tuple _) rfl) rfl ?_
    refine DLF_q (i := 11) (by kernel_rfl) rfl (by kernel_rfl) (by kernel_rfl) (Qt_extract rfl) rfl ?_
    refine DLF_q (i := 12) (by kernel_rfl) rfl (by kernel_rfl) (by kernel_rfl) (Qt_extract rfl) rfl ?_
    refine DLF_1 (i := 13) (by kernel_rfl) ?_
    refine DLS_e rfl rfl (Ef_allocN (fun b5 => ⟨(Subs.st inferInstance), ?_⟩))
    refine DLF_1 (i := 14) (by kernel_rfl) ?_
    refine DLS_n rfl (Ef_storeN rfl rfl (⟨(Subs.st inferInstance), ?_⟩))
    refine DLF_q (i := 15) (by kernel_rfl) rfl (by kernel_rfl) (by kernel_rfl) (Qt_assign (.int .i64 _) rfl) rfl ?_
    refine DLF_nil (by kernel_rfl) ?_
    refine X_then ?_
    refine T_seq ?_
    refine T_region ?_
    refine TL_q (Qt_fieldAddr 1 rfl rfl) rfl ?_
    refine TL_q (Qt_load1 rfl) rfl ?_
    refine TL_q (Qt_fieldAddr 4 rfl rfl) rfl ?_
    refine TL_q (Qt_load1 rfl) rfl ?_
    refine TL_q (Qt_build [(0, (.int .i64 _)), (1, (.int .i64 _))] rfl (by kernel_rfl)) rfl ?_
    refine TL_e rfl (Ef_allocN (fun b7 => ?_))
    refine TL_n (Ef_storeN rfl rfl (?_))
    refine TL_nil ?_
    refine X_then ?_
    refine T_seq ?_
    refine T_block ?_
    refine T_seq ?_
    refine T_region ?_
    refine TL_q (Qt_move (.int .i64 _) rfl) rfl ?_
    refine TL_q (Qt_neq rfl rfl) rfl ?_
    refine TL_q (Qt_assign (.bool _) rfl) rfl ?_
    refine TL_nil ?_
    refine X_then ?_
    refine T_cond_true rfl (by first | rfl | decide) ?_
    refine T_seq ?_
    refine T_region ?_
    refine TL_q (Qt_move (.int .i64 _) rfl) rfl ?_
    refine TL_q (Qt_assign (.int .i64 _) rfl) rfl ?_
    refine TL_nil ?_
    refine X_then ?_
    refine T_ret ?_
    refine X_block_ret ?_
    refine X_then_ret ?_
    exact X_ret () [_] Try.results19 ⟨rfl, trivial⟩ rfl (Subs.st inferInstance)
  ·
    refine DLS_e rfl rfl (Ef_allocN (fun b5 => ⟨(Subs.st inferInstance), ?_⟩))
    refine DLF_1 (i := 9) (by kernel_rfl) ?_
    refine DLS_e rfl rfl (Ef_call (openOf_c (num := num) (mk := mk) hmk (sa := sa) (sc := sc) (ls := ls) (rt := rt) hkl (a := none) (l := []) (c := 0) (hr := RdB.nil') (by decide)) rfl (fun x20 => ⟨(Subs.st inferInstance), ?_⟩))
    refine DLF_pure (fun h20 => ?_)
    rw [openOf_nil]
    refine DLF_q (i := 10) (by kernel_rfl) rfl (by kernel_rfl) (by kernel_rfl) (Qt_move (.tuple _) rfl) rfl ?_
    refine DLF_q (i := 11) (by kernel_rfl) rfl (by kernel_rfl) (by kernel_rfl) (Qt_extract rfl) rfl ?_
    refine DLF_q (i := 12) (by kernel_rfl) rfl (by kernel_rfl) (by kernel_rfl) (Qt_extract rfl) rfl ?_
    refine DLF_1 (i := 14) (by kernel_rfl) ?_
    refine DLS_n rfl (Ef_storeN rfl rfl (⟨(Subs.st inferInstance), ?_⟩))
    refine DLF_q (i := 15) (by kernel_rfl) rfl (by kernel_rfl) (by kernel_rfl) (Qt_assign (.int .i64 _) rfl) rfl ?_
    refine DLF_nil (by kernel_rfl) ?_
    refine X_then ?_
    refine T_seq ?_
    refine T_region ?_
    refine TL_q (Qt_fieldAddr 1 rfl rfl) rfl ?_
    refine TL_q (Qt_load1 rfl) rfl ?_
    refine TL_q (Qt_fieldAddr 4 rfl rfl) rfl ?_
    refine TL_q (Qt_load1 rfl) rfl ?_
    refine TL_q (Qt_build [(0, (.int .i64 _)), (1, (.int .i64 _))] rfl (by kernel_rfl)) rfl ?_
    refine TL_e rfl (Ef_allocN (fun b7 => ?_))
    refine TL_n (Ef_storeN rfl rfl (?_))
    refine TL_nil ?_
    refine X_then ?_
    refine T_seq ?_
    refine T_block ?_
    refine T_seq ?_
    refine T_region ?_
    refine TL_q (Qt_move (.int .i64 _) rfl) rfl ?_
    refine TL_q (Qt_neq rfl rfl) rfl ?_
    refine TL_q (Qt_assign (.bool _) rfl) rfl ?_
    refine TL_nil ?_
    refine X_then ?_
    refine T_cond_true rfl (by first | rfl | decide) ?_
    refine T_seq ?_
    refine T_region ?_
    refine TL_q (Qt_move (.int .i64 _) rfl) rfl ?_
    refine TL_q (Qt_assign (.int .i64 _) rfl) rfl ?_
    refine TL_nil ?_
    refine X_then ?_
    refine T_ret ?_
    refine X_block_ret ?_
    refine X_then_ret ?_
    exact X_ret () [_] Try.results19 ⟨rfl, trivial⟩ rfl (Subs.st inferInstance)
set_option maxHeartbeats 1000000 in
theorem wakes22_c {w0 : World} {H : List SA}  :
    CT Try.prog w0 (H) 10 [] (α := Unit) (fun _ => .bool true) (fun _ => H) := by
  refine CT_intro Try.func10 rfl Try.ntmps10 rfl ?_
  refine T_seq ?_
  refine T_region ?_
  refine TL_q (Qt_assign (.bool _) rfl) rfl ?_
  refine TL_nil ?_
  refine X_then ?_
  refine T_seq ?_
  refine T_region ?_
  refine TL_q (Qt_build [] rfl (by kernel_rfl)) rfl ?_
  refine TL_e rfl (Ef_call (keys22_c (ask := AskX.zero)) rfl (fun x7 => ?_))
  refine TL_pure (fun h7 => ?_)
  refine TL_q (Qt_build [(1, (.int .u16 _))] rfl (by kernel_rfl)) rfl ?_
  refine TL_e rfl (Ef_call (xnew_c (num := 0) (mk := 15) (had := 0) (sa := x7.1.a) (sc := x7.1.c) (ls := x7.1.ls) (ra := none) (rc := 0) (hs := []) (hr := ⟨fun w _ => cellsAt_nil w 32⟩) (keyT_small h7).2 (by have := (keyT_small h7).1; omega) (by simp)) rfl (fun x9 => ?_))
  refine TL_pure (fun h9 => ?_)
  refine TL_q (Qt_assign (.pointer _) rfl) rfl ?_
  refine TL_nil ?_
  refine X_then ?_
  refine T_seq ?_
  refine T_region ?_
  refine TL_q (Qt_move (.pointer _) rfl) rfl ?_
  refine TL_e rfl (Ef_call (bestE_c (p := x9.1.1)) rfl (fun x12 => ?_))
  refine TL_q (Qt_move (.tuple _) rfl) rfl ?_
  refine TL_q (Qt_extract rfl) rfl ?_
  refine TL_q (Qt_extract rfl) rfl ?_
  refine TL_q (Qt_extract rfl) rfl ?_
  refine TL_e rfl (Ef_allocN (fun b2 => ?_))
  refine TL_e rfl (Ef_allocN (fun b3 => ?_))
  refine TL_n (Ef_storeN rfl rfl (?_))
  refine TL_n (Ef_storeN rfl rfl (?_))
  refine TL_q (Qt_assign (.bool _) rfl) rfl ?_
  refine TL_nil ?_
  refine X_then ?_
  refine T_seq ?_
  refine T_region ?_
  refine TL_q (Qt_build [(0, (.int .i64 _))] rfl (by kernel_rfl)) rfl ?_
  refine TL_e rfl (Ef_call (mark_c (fr := 2) (s := 3) (f := 0) (n1 := 0) (n2 := 0) (m1 := 0) (m2 := 0) (by decide) (by decide) (cs := Vector.replicate 16 CellV.zero) (fun i hi => by simp [CellV.zero]) (rs := Vector.replicate 6 ReplyV.zero) (fun i hi => by simp [ReplyV.zero, ResV.zero])) rfl (fun x17 => ?_))
  refine TL_e rfl (Ef_allocN (fun b5 => ?_))
  refine TL_n (Ef_storeN rfl rfl (?_))
  refine TL_nil ?_
  refine X_then ?_
  refine T_seq ?_
  refine T_region ?_
  refine TL_q (Qt_move (.bool _) rfl) rfl ?_
  refine TL_q (Qt_not rfl) rfl ?_
  refine TL_q (Qt_move (.bool _) rfl) rfl ?_
  refine TL_split 20 rfl (fun h20 => ?_) (fun h20 => ?_)
  ·
    have p20 := h20
    try simp only [decide_eq_true_eq, decide_eq_false_iff_not, Bool.not_eq_true', Bool.not_eq_false', Option.isNone_iff_eq_none, ne_eq, Decidable.not_not, Int.not_lt, Int.not_le] at p20
    refine TL_take rfl rfl h20 ?_
    refine TL_q (Qt_move (.pointer _) rfl) rfl ?_
    refine TL_take rfl rfl h20 ?_
    refine TL_e rfl (Ef_call (markShort_c (p := x9.1.1) (num := 0) (mk := 15) (by decide) (ls := x9.2.1.1.ls) (fun x hx => (keyT_small (h9.trans h7)).2 x hx)) rfl (fun x22 => ?_))
    refine TL_take rfl rfl h20 ?_
    refine TL_q (Qt_eql rfl rfl) rfl ?_
    refine TL_q (Qt_pick_t (.bool _) rfl h20 rfl) rfl ?_
    refine TL_q (Qt_move (.bool _) rfl) rfl ?_
    refine TL_split 25 rfl (fun h25 => ?_) (fun h25 => ?_)
    ·
      have p25 := h25
      try simp only [decide_eq_true_eq, decide_eq_false_iff_not, Bool.not_eq_true', Bool.not_eq_false', Option.isNone_iff_eq_none, ne_eq, Decidable.not_not, Int.not_lt, Int.not_le] at p25
      refine TL_take rfl rfl h25 ?_
      refine TL_q (Qt_fieldAddr 0 rfl rfl) rfl ?_
      refine TL_take rfl rfl h25 ?_
      refine TL_q (Qt_load1 rfl) rfl ?_
      refine TL_take rfl rfl h25 ?_
      refine TL_q (Qt_eql rfl rfl) rfl ?_
      refine TL_q (Qt_pick_t (.bool _) rfl h25 rfl) rfl ?_
      refine TL_q (Qt_move (.bool _) rfl) rfl ?_
      refine TL_split 30 rfl (fun h30 => ?_) (fun h30 => ?_)
      ·
        have p30 := h30
        try simp only [decide_eq_true_eq, decide_eq_false_iff_not, Bool.not_eq_true', Bool.not_eq_false', Option.isNone_iff_eq_none, ne_eq, Decidable.not_not, Int.not_lt, Int.not_le] at p30
        refine TL_take rfl rfl h30 ?_
        refine TL_q (Qt_fieldAddr 1 rfl rfl) rfl ?_
        refine TL_take rfl rfl h30 ?_
        refine TL_q (Qt_load1 rfl) rfl ?_
        refine TL_take rfl rfl h30 ?_
        refine TL_q (Qt_eql rfl rfl) rfl ?_
        refine TL_q (Qt_pick_t (.bool _) rfl h30 rfl) rfl ?_
        refine TL_q (Qt_move (.bool _) rfl) rfl ?_
        refine TL_split 35 rfl (fun h35 => ?_) (fun h35 => ?_)
        ·
          have p35 := h35
          try simp only [decide_eq_true_eq, decide_eq_false_iff_not, Bool.not_eq_true', Bool.not_eq_false', Option.isNone_iff_eq_none, ne_eq, Decidable.not_not, Int.not_lt, Int.not_le] at p35
          refine TL_take rfl rfl h35 ?_
          refine TL_q (Qt_fieldAddr 4 rfl rfl) rfl ?_
          refine TL_take rfl rfl h35 ?_
          refine TL_q (Qt_load1 rfl) rfl ?_
          refine TL_take rfl rfl h35 ?_
          refine TL_q (Qt_eql rfl rfl) rfl ?_
          refine TL_q (Qt_pick_t (.bool _) rfl h35 rfl) rfl ?_
          refine TL_q (Qt_assign (.bool _) rfl) rfl ?_
          refine TL_nil ?_
          refine X_then ?_
          refine T_ret ?_
          exact X_ret () [.bool true] Try.results10 ⟨congrArg Value.bool (by decide), trivial⟩ rfl (Subs.st inferInstance)
        ·
          have p35 := h35
          try simp only [decide_eq_true_eq, decide_eq_false_iff_not, Bool.not_eq_true', Bool.not_eq_false', Option.isNone_iff_eq_none, ne_eq, Decidable.not_not, Int.not_lt, Int.not_le] at p35
          exact absurd h35 (by decide)
      ·
        have p30 := h30
        try simp only [decide_eq_true_eq, decide_eq_false_iff_not, Bool.not_eq_true', Bool.not_eq_false', Option.isNone_iff_eq_none, ne_eq, Decidable.not_not, Int.not_lt, Int.not_le] at p30
        exact absurd h30 (by decide)
    ·
      have p25 := h25
      try simp only [decide_eq_true_eq, decide_eq_false_iff_not, Bool.not_eq_true', Bool.not_eq_false', Option.isNone_iff_eq_none, ne_eq, Decidable.not_not, Int.not_lt, Int.not_le] at p25
      exact absurd h25 (by decide)
  ·
    have p20 := h20
    try simp only [decide_eq_true_eq, decide_eq_false_iff_not, Bool.not_eq_true', Bool.not_eq_false', Option.isNone_iff_eq_none, ne_eq, Decidable.not_not, Int.not_lt, Int.not_le] at p20
    exact absurd h20 (by decide)
set_option maxHeartbeats 1000000 in
theorem xferNil_c {w0 : World} {H : List SA} {a : Option Addr} {n c : Nat} :
    CT Try.prog w0 (H) 4 [.slice a n c] (α := Unit) (fun _ => .bool true) (fun _ => H) := by
  refine CT_intro Try.func4 rfl Try.ntmps4 rfl ?_
  refine T_seq ?_
  refine T_region ?_
  refine TL_q (Qt_assign (.bool _) rfl) rfl ?_
  refine TL_nil ?_
  refine X_then ?_
  refine T_seq ?_
  refine T_region ?_
  refine TL_q (Qt_assign (.pointer _) rfl) rfl ?_
  refine TL_nil ?_
  refine X_then ?_
  refine T_seq ?_
  refine T_seq ?_
  refine T_region ?_
  refine TL_e rfl (Ef_call (wakes22_c) rfl (fun x7 => ?_))
  refine TL_q (Qt_not rfl) rfl ?_
  refine TL_nil ?_
  refine X_then ?_
  refine T_cond_false rfl (by first | rfl | decide) ?_
  refine T_skip ?_
  refine X_then ?_
  refine T_seq ?_
  refine T_region ?_
  refine TL_q (Qt_move (.pointer _) rfl) rfl ?_
  refine TL_e rfl (Ef_call (bestNil_c) rfl (fun x11 => ?_))
  refine TL_q (Qt_move (.tuple _) rfl) rfl ?_
  refine TL_q (Qt_extract rfl) rfl ?_
  refine TL_q (Qt_extract rfl) rfl ?_
  refine TL_q (Qt_extract rfl) rfl ?_
  refine TL_e rfl (Ef_allocN (fun b4 => ?_))
  refine TL_e rfl (Ef_allocN (fun b5 => ?_))
  refine TL_n (Ef_storeN rfl rfl (?_))
  refine TL_n (Ef_storeN rfl rfl (?_))
  refine TL_q (Qt_assign (.bool _) rfl) rfl ?_
  refine TL_nil ?_
  refine X_then ?_
  refine T_seq ?_
  refine T_region ?_
  refine TL_q (Qt_move (.pointer _) rfl) rfl ?_
  refine TL_q (Qt_move (.slice _ _ _) rfl) rfl ?_
  refine TL_e rfl (Ef_call (markNil_c) rfl (fun x17 => ?_))
  refine TL_q (Qt_eql rfl rfl) rfl ?_
  refine TL_q (Qt_move (.bool _) rfl) rfl ?_
  refine TL_split 19 rfl (fun h19 => ?_) (fun h19 => ?_)
  ·
    have p19 := h19
    try simp only [decide_eq_true_eq, decide_eq_false_iff_not, Bool.not_eq_true', Bool.not_eq_false', Option.isNone_iff_eq_none, ne_eq, Decidable.not_not, Int.not_lt, Int.not_le] at p19
    refine TL_take rfl rfl h19 ?_
    refine TL_q (Qt_move (.pointer _) rfl) rfl ?_
    refine TL_take rfl rfl h19 ?_
    refine TL_q (Qt_move (.slice _ _ _) rfl) rfl ?_
    refine TL_take rfl rfl h19 ?_
    refine TL_e rfl (Ef_call (snapNil_c) rfl (fun x22 => ?_))
    refine TL_take rfl rfl h19 ?_
    refine TL_q (Qt_eql rfl rfl) rfl ?_
    refine TL_q (Qt_pick_t (.bool _) rfl h19 rfl) rfl ?_
    refine TL_q (Qt_move (.bool _) rfl) rfl ?_
    refine TL_split 25 rfl (fun h25 => ?_) (fun h25 => ?_)
    ·
      have p25 := h25
      try simp only [decide_eq_true_eq, decide_eq_false_iff_not, Bool.not_eq_true', Bool.not_eq_false', Option.isNone_iff_eq_none, ne_eq, Decidable.not_not, Int.not_lt, Int.not_le] at p25
      refine TL_take rfl rfl h25 ?_
      refine TL_q (Qt_move (.bool _) rfl) rfl ?_
      refine TL_take rfl rfl h25 ?_
      refine TL_q (Qt_not rfl) rfl ?_
      refine TL_q (Qt_pick_t (.bool _) rfl h25 rfl) rfl ?_
      refine TL_q (Qt_move (.bool _) rfl) rfl ?_
      refine TL_split 29 rfl (fun h29 => ?_) (fun h29 => ?_)
      ·
        have p29 := h29
        try simp only [decide_eq_true_eq, decide_eq_false_iff_not, Bool.not_eq_true', Bool.not_eq_false', Option.isNone_iff_eq_none, ne_eq, Decidable.not_not, Int.not_lt, Int.not_le] at p29
        refine TL_take rfl rfl h29 ?_
        refine TL_q (Qt_loadN rfl rfl) rfl ?_
        refine TL_take rfl rfl h29 ?_
        refine TL_q (Qt_build [] rfl (by kernel_rfl)) rfl ?_
        refine TL_take rfl rfl h29 ?_
        refine TL_q (Qt_agg_eqlH rfl rfl eqZeroW (by kernel_rfl)) rfl ?_
        refine TL_q (Qt_pick_t (.bool _) rfl h29 rfl) rfl ?_
        refine TL_q (Qt_move (.bool _) rfl) rfl ?_
        refine TL_split 34 rfl (fun h34 => ?_) (fun h34 => ?_)
        ·
          have p34 := h34
          try simp only [decide_eq_true_eq, decide_eq_false_iff_not, Bool.not_eq_true', Bool.not_eq_false', Option.isNone_iff_eq_none, ne_eq, Decidable.not_not, Int.not_lt, Int.not_le] at p34
          refine TL_take rfl rfl h34 ?_
          refine TL_q (Qt_fieldAddr 0 rfl rfl) rfl ?_
          refine TL_take rfl rfl h34 ?_
          refine TL_q (Qt_load1 rfl) rfl ?_
          refine TL_take rfl rfl h34 ?_
          refine TL_q (Qt_eql rfl rfl) rfl ?_
          refine TL_q (Qt_pick_t (.bool _) rfl h34 rfl) rfl ?_
          refine TL_q (Qt_assign (.bool _) rfl) rfl ?_
          refine TL_nil ?_
          refine X_then ?_
          refine T_ret ?_
          exact X_ret () [.bool true] Try.results4 ⟨congrArg Value.bool (by decide), trivial⟩ rfl (Subs.st inferInstance)
        ·
          have p34 := h34
          try simp only [decide_eq_true_eq, decide_eq_false_iff_not, Bool.not_eq_true', Bool.not_eq_false', Option.isNone_iff_eq_none, ne_eq, Decidable.not_not, Int.not_lt, Int.not_le] at p34
          exact absurd h34 (by decide)
      ·
        have p29 := h29
        try simp only [decide_eq_true_eq, decide_eq_false_iff_not, Bool.not_eq_true', Bool.not_eq_false', Option.isNone_iff_eq_none, ne_eq, Decidable.not_not, Int.not_lt, Int.not_le] at p29
        exact absurd h29 (by decide)
    ·
      have p25 := h25
      try simp only [decide_eq_true_eq, decide_eq_false_iff_not, Bool.not_eq_true', Bool.not_eq_false', Option.isNone_iff_eq_none, ne_eq, Decidable.not_not, Int.not_lt, Int.not_le] at p25
      exact absurd h25 (by decide)
  ·
    have p19 := h19
    try simp only [decide_eq_true_eq, decide_eq_false_iff_not, Bool.not_eq_true', Bool.not_eq_false', Option.isNone_iff_eq_none, ne_eq, Decidable.not_not, Int.not_lt, Int.not_le] at p19
    exact absurd h19 (by decide)
attribute [local irreducible] sha worldB
set_option maxHeartbeats 1000000 in
theorem xferTells_c {w0 : World} {H : List SA} {k0 k1 : Int} {s f n1 n2 : Int} {m1 m2 : Nat} (hm1 : m1 < 65536) (hm2 : m2 < 65536) {cs : Vector CellV 16} (hcs : ∀ (i : Nat) (hi : i < 16), -9223372036854775808 ≤ cs[i].n ∧ cs[i].n ≤ 9223372036854775807) {rs : Vector ReplyV 6} (hrs : ∀ (i : Nat) (hi : i < 6), -9223372036854775808 ≤ rs[i].res.n ∧ rs[i].res.n ≤ 9223372036854775807) {x : SlotV} [rb : RdB w0 H (.slice x.batch.a x.batch.l.length x.batch.c) x.batch.l] [rc : RdC w0 H (.slice x.parts.a x.parts.ls.length x.parts.c) 1 (x.parts.ls.map BS.val)] [re : RdE w0 H x.parts.ls] (hxe : ∀ y ∈ x.parts.ls, y.l.length ≤ 140737488351232) :
    CT Try.prog w0 (H) 3 [.agg (WorldV.mk s f ⟨n1, (m1 : Int)⟩ ⟨n2, (m2 : Int)⟩ cs rs).cells, .agg x.cells, .agg #[.int .i64 k0, .int .i64 k1]] (α := Unit) (fun _ => .bool true) (fun _ => H) := by
  have hc0 : CellAt #[.int .i64 k0, .int .i64 k1] 0 (.int .i64 k0) := ⟨rfl⟩
  have hc1 : CellAt #[.int .i64 k0, .int .i64 k1] 1 (.int .i64 k1) := ⟨rfl⟩
  have hc2 : Cells (#[.int .i64 k0, .int .i64 k1] : Array Value) 2 := ⟨rfl, fun u hu => by simp at hu; rcases hu with rfl | rfl <;> rfl⟩
  refine CT_intro Try.func3 rfl Try.ntmps3 rfl ?_
  refine T_seq ?_
  refine T_region ?_
  refine TL_e rfl (Ef_boxN rfl (fun b3 => ?_))
  refine TL_e rfl (Ef_boxN rfl (fun b4 => ?_))
  refine TL_e rfl (Ef_boxN rfl (fun b5 => ?_))
  refine TL_q (Qt_assign (.bool _) rfl) rfl ?_
  refine TL_nil ?_
  refine X_then ?_
  refine T_seq ?_
  refine T_seq ?_
  refine T_region ?_
  refine TL_e rfl (Ef_call (wakes22_c) rfl (fun x7 => ?_))
  refine TL_q (Qt_not rfl) rfl ?_
  refine TL_nil ?_
  refine X_then ?_
  refine T_cond_false rfl (by first | rfl | decide) ?_
  refine T_skip ?_
  refine X_then ?_
  refine T_seq ?_
  refine T_seq ?_
  refine T_region ?_
  refine TL_q (Qt_fieldAddr 33 rfl rfl) rfl ?_
  refine TL_q (Qt_load1 rfl) rfl ?_
  refine TL_q (Qt_len_slice rfl Try.underlying37) rfl ?_
  refine TL_q (Qt_gtr rfl rfl) rfl ?_
  refine TL_q (Qt_move (.bool _) rfl) rfl ?_
  refine TL_split 13 rfl (fun h13 => ?_) (fun h13 => ?_)
  ·
    have p13 := h13
    try simp only [decide_eq_true_eq, decide_eq_false_iff_not, Bool.not_eq_true', Bool.not_eq_false', Option.isNone_iff_eq_none, ne_eq, Decidable.not_not, Int.not_lt, Int.not_le] at p13
    refine TL_pass rfl rfl h13 rfl ?_
    refine TL_pass rfl rfl h13 rfl ?_
    refine TL_pass rfl rfl h13 rfl ?_
    refine TL_pass rfl rfl h13 rfl ?_
    refine TL_q (Qt_pick_t (.bool _) rfl h13 rfl) rfl ?_
    refine TL_nil ?_
    refine X_then ?_
    refine T_cond_true rfl rfl ?_
    refine T_seq ?_
    refine T_region ?_
    refine TL_q (Qt_assign (.bool _) rfl) rfl ?_
    refine TL_nil ?_
    refine X_then ?_
    refine T_ret ?_
    refine X_then_ret ?_
    exact X_ret () [_] Try.results3 ⟨rfl, trivial⟩ rfl (Subs.st inferInstance)
  ·
    have p13 := h13
    try simp only [decide_eq_true_eq, decide_eq_false_iff_not, Bool.not_eq_true', Bool.not_eq_false', Option.isNone_iff_eq_none, ne_eq, Decidable.not_not, Int.not_lt, Int.not_le] at p13
    refine TL_take rfl rfl h13 ?_
    refine TL_q (Qt_fieldAddr 34 rfl rfl) rfl ?_
    refine TL_take rfl rfl h13 ?_
    refine TL_q (Qt_load1 rfl) rfl ?_
    refine TL_take rfl rfl h13 ?_
    refine TL_q (Qt_len_slice rfl Try.underlying38) rfl ?_
    refine TL_take rfl rfl h13 ?_
    refine TL_q (Qt_gtr rfl rfl) rfl ?_
    refine TL_q (Qt_pick_f (.bool _) rfl h13 rfl) rfl ?_
    refine TL_nil ?_
    refine X_then ?_
    refine T_cond rfl (fun h18 => ?_) (fun h18 => ?_)
    ·
      have p18 := h18
      try simp only [decide_eq_true_eq, decide_eq_false_iff_not, Bool.not_eq_true', Bool.not_eq_false', Option.isNone_iff_eq_none, ne_eq, Decidable.not_not, Int.not_lt, Int.not_le] at p18
      refine T_seq ?_
      refine T_region ?_
      refine TL_q (Qt_assign (.bool _) rfl) rfl ?_
      refine TL_nil ?_
      refine X_then ?_
      refine T_ret ?_
      refine X_then_ret ?_
      exact X_ret () [_] Try.results3 ⟨rfl, trivial⟩ rfl (Subs.st inferInstance)
    ·
      have p18 := h18
      try simp only [decide_eq_true_eq, decide_eq_false_iff_not, Bool.not_eq_true', Bool.not_eq_false', Option.isNone_iff_eq_none, ne_eq, Decidable.not_not, Int.not_lt, Int.not_le] at p18
      have hxb : x.batch.l.length ≤ 3000 := by omega
      have hxp : x.parts.ls.length ≤ 20 := by omega
      refine T_skip ?_
      refine X_then ?_
      refine T_seq ?_
      refine T_draw (blk b3 (.cells (WorldV.mk s f ⟨n1, (m1 : Int)⟩ ⟨n2, (m2 : Int)⟩ cs rs).cells 34 (0, 0)) :: blk b4 (.cells x.cells 40 (0, 0)) :: blk b5 (.cells #[.int .i64 k0, .int .i64 k1] 41 (0, 0)) :: H) [(0, true), (1, true), (2, true), (3, true), (4, true), (6, true), (7, true), (8, true), (9, true), (10, true), (5, false), (11, false), (12, false), (13, true), (14, true), (15, true), (16, true), (18, true), (19, true), (20, true), (17, false), (21, false), (22, false), (23, true), (24, true), (25, true), (26, true), (27, true), (28, true), (30, true), (31, true), (32, true), (33, true), (29, false), (34, false), (35, false), (36, true), (37, true)] (by kernel_rfl) (by kernel_rfl) rfl (by kernel_rfl) (Subs.st inferInstance) (fun hns0 => ?_)
      refine DL_q hns0 rfl (Qt_indexAddr_arrC (sz := 1) 0 0 rfl rfl Try.underlying41 rfl rfl rfl rfl) rfl ?_
      refine DL_q hns0 rfl (Qt_load1 rfl) rfl ?_
      refine DL_q hns0 rfl (Qt_indexAddr_arrC (sz := 1) 1 1 rfl rfl Try.underlying41 rfl rfl rfl rfl) rfl ?_
      refine DL_q hns0 rfl (Qt_load1 rfl) rfl ?_
      refine DL_q hns0 rfl (Qt_loadN rfl rfl) rfl ?_
      refine DL_q hns0 rfl (Qt_indexAddr_arrC (sz := 1) 0 0 rfl rfl Try.underlying41 rfl rfl rfl rfl) rfl ?_
      refine DL_q hns0 rfl (Qt_load1 rfl) rfl ?_
      refine DL_q hns0 rfl (Qt_indexAddr_arrC (sz := 1) 1 1 rfl rfl Try.underlying41 rfl rfl rfl rfl) rfl ?_
      refine DL_q hns0 rfl (Qt_load1 rfl) rfl ?_
      refine DL_q hns0 rfl (Qt_loadN rfl rfl) rfl ?_
      refine DL_e rfl rfl (Ef_call (give_c (fr := k0) (vi := k1) (x := x) hxb hxp hxe) rfl (fun x24 => ⟨(Subs.st inferInstance), ?_⟩))
      refine DL_pure (fun h24 => ?_)
      refine DL_e rfl rfl (Ef_call (rGive_c (fr := k0) (vi := k1) (x := x) hxb hxp hxe) rfl (fun x30 => ⟨(Subs.st inferInstance), ?_⟩))
      refine DL_pure (fun h30 => ?_)
      refine DL_e rfl rfl (Ef_call (sameML_c (v := x24.1) (u := x30.1) (lim_of (congrArg MsgD.body h24) (by show x.batch.l.length ≤ _; omega) (congrArg MsgD.parts h24) hxp hxe).1 (lim_of (congrArg MsgD.body h24) (by show x.batch.l.length ≤ _; omega) (congrArg MsgD.parts h24) hxp hxe).2.1 (lim_of (congrArg MsgD.body h24) (by show x.batch.l.length ≤ _; omega) (congrArg MsgD.parts h24) hxp hxe).2.2) rfl (fun x31 => ⟨(Subs.st inferInstance), ?_⟩))
      rw [show decide (x24.1.abs = x30.1.abs) = true from by rw [h24, h30]; exact decide_eq_true rfl]
      refine DL_q hns0 rfl (Qt_move (.bool _) rfl) rfl ?_
      refine DL_split 32 rfl (fun h32 => ?_) (fun h32 => ?_)
      ·
        have p32 := h32
        try simp only [decide_eq_true_eq, decide_eq_false_iff_not, Bool.not_eq_true', Bool.not_eq_false', Option.isNone_iff_eq_none, ne_eq, Decidable.not_not, Int.not_lt, Int.not_le] at p32
        refine DL_qg hns0 rfl rfl rfl h32 (Qt_indexAddr_arrC (sz := 1) 0 0 rfl rfl Try.underlying41 rfl rfl rfl rfl) rfl ?_
        refine DL_qg hns0 rfl rfl rfl h32 (Qt_load1 rfl) rfl ?_
        refine DL_qg hns0 rfl rfl rfl h32 (Qt_loadN rfl rfl) rfl ?_
        refine DL_qg hns0 rfl rfl rfl h32 (Qt_indexAddr_arrC (sz := 1) 0 0 rfl rfl Try.underlying41 rfl rfl rfl rfl) rfl ?_
        refine DL_qg hns0 rfl rfl rfl h32 (Qt_load1 rfl) rfl ?_
        refine DL_qg hns0 rfl rfl rfl h32 (Qt_loadN rfl rfl) rfl ?_
        refine DL_eg rfl rfl rfl h32 rfl (Ef_call (mark_c (fr := k0) hm1 hm2 hcs hrs) rfl (fun x36 => ⟨(Subs.st inferInstance), ?_⟩))
        refine DL_eg rfl rfl rfl h32 rfl (Ef_call (rMark_c (fr := k0) hm1 hm2 hcs hrs) rfl (fun x40 => ⟨(Subs.st inferInstance), ?_⟩))
        refine DL_eg rfl rfl rfl h32 rfl (Ef_call (sameML_c (v := (MsgV.mk 10 k0 n1 0 s (sha (worldB s f n1 m1 n2 m2 cs rs)) ⟨none, 0, []⟩ ⟨none, 0, []⟩)) (u := (MsgV.mk 10 k0 n1 0 s (sha (worldB s f n1 m1 n2 m2 cs rs)) ⟨none, 0, []⟩ ⟨none, 0, []⟩)) (rbv := RdB.nil') (rcv := RdC.vals0) (rev := RdE.nil) (rbu := RdB.nil') (rcu := RdC.vals0) (reu := RdE.nil) (by simp) (by simp) (fun y hy => by cases hy)) rfl (fun x41 => ⟨(Subs.st inferInstance), ?_⟩))
        rw [decide_eq_true (rfl : (MsgV.mk 10 k0 n1 0 s (sha (worldB s f n1 m1 n2 m2 cs rs)) ⟨none, 0, []⟩ ⟨none, 0, []⟩).abs = (MsgV.mk 10 k0 n1 0 s (sha (worldB s f n1 m1 n2 m2 cs rs)) ⟨none, 0, []⟩ ⟨none, 0, []⟩).abs)]
        refine DL_q hns0 rfl (Qt_pick_t (.bool _) rfl h32 rfl) rfl ?_
        refine DL_q hns0 rfl (Qt_move (.bool _) rfl) rfl ?_
        refine DL_split 43 rfl (fun h43 => ?_) (fun h43 => ?_)
        ·
          have p43 := h43
          try simp only [decide_eq_true_eq, decide_eq_false_iff_not, Bool.not_eq_true', Bool.not_eq_false', Option.isNone_iff_eq_none, ne_eq, Decidable.not_not, Int.not_lt, Int.not_le] at p43
          refine DL_qg hns0 rfl rfl rfl h43 (Qt_indexAddr_arrC (sz := 1) 0 0 rfl rfl Try.underlying41 rfl rfl rfl rfl) rfl ?_
          refine DL_qg hns0 rfl rfl rfl h43 (Qt_load1 rfl) rfl ?_
          refine DL_qg hns0 rfl rfl rfl h43 (Qt_loadN rfl rfl) rfl ?_
          refine DL_qg hns0 rfl rfl rfl h43 (Qt_loadN rfl rfl) rfl ?_
          refine DL_qg hns0 rfl rfl rfl h43 (Qt_indexAddr_arrC (sz := 1) 0 0 rfl rfl Try.underlying41 rfl rfl rfl rfl) rfl ?_
          refine DL_qg hns0 rfl rfl rfl h43 (Qt_load1 rfl) rfl ?_
          refine DL_qg hns0 rfl rfl rfl h43 (Qt_loadN rfl rfl) rfl ?_
          refine DL_qg hns0 rfl rfl rfl h43 (Qt_loadN rfl rfl) rfl ?_
          refine DL_eg rfl rfl rfl h43 rfl (Ef_call (snap_c (fr := k0) hm1 hm2 hcs hrs (x := x) hxb hxp hxe) rfl (fun x48 => ⟨(Subs.st inferInstance), ?_⟩))
          refine DL_pure (fun h48 => ?_)
          have hl48 := lim_of (congrArg MsgD.body h48) (by have hwl := worldB_len (s := s) (f := f) (n1 := n1) (n2 := n2) (m1 := m1) (m2 := m2) hcs hrs; have htl := textB_length (worldB s f n1 m1 n2 m2 cs rs) (by omega); have hbl := textB_length x.batch.l (by omega); show (textB (worldB s f n1 m1 n2 m2 cs rs) ++ textB x.batch.l).length ≤ _; rw [List.length_append]; omega) (congrArg MsgD.parts h48) hxp hxe
          refine DL_eg rfl rfl rfl h43 rfl (Ef_call (rSnap_c (fr := k0) hm1 hm2 hcs hrs (x := x) hxb hxp hxe) rfl (fun x53 => ⟨(Subs.st inferInstance), ?_⟩))
          refine DL_pure (fun h53 => ?_)
          refine DL_eg rfl rfl rfl h43 rfl (Ef_call (sameML_c (v := x48.1) (u := x53.1) hl48.1 hl48.2.1 hl48.2.2) rfl (fun x54 => ⟨(Subs.st inferInstance), ?_⟩))
          rw [show decide (x48.1.abs = x53.1.abs) = true from by rw [h48, h53]; exact decide_eq_true rfl]
          refine DL_q hns0 rfl (Qt_pick_t (.bool _) rfl h43 rfl) rfl ?_
          refine DL_q hns0 rfl (Qt_assign (.bool _) rfl) rfl ?_
          refine DL_nil ?_
          refine X_then ?_
          refine T_ret ?_
          exact X_ret () [.bool true] Try.results3 ⟨rfl, trivial⟩ rfl (Subs.st inferInstance)
        ·
          have p43 := h43
          try simp only [decide_eq_true_eq, decide_eq_false_iff_not, Bool.not_eq_true', Bool.not_eq_false', Option.isNone_iff_eq_none, ne_eq, Decidable.not_not, Int.not_lt, Int.not_le] at p43
          cases h43
      ·
        have p32 := h32
        try simp only [decide_eq_true_eq, decide_eq_false_iff_not, Bool.not_eq_true', Bool.not_eq_false', Option.isNone_iff_eq_none, ne_eq, Decidable.not_not, Int.not_lt, Int.not_le] at p32
        cases h32
end Go.Proofs.Ytpdpapcmfnhgpaa
