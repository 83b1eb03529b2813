/- Walks: Get of package wire, which defers a function that recovers. -/
import Derived.Test.YtnijomppbgdmnaaWf
import Derived.Test.YtnijomppbgdmnaaSr
namespace Go.Proofs.Ytnijomppbgdmnaa
open Go.RowKit Go.Sx
set_option maxRecDepth 100000
set_option linter.unusedSimpArgs false
set_option linter.unusedVariables false
instance : TyZ Try.prog 90 (.agg #[.pointer none]) := ⟨by kernel_rfl⟩
set_option maxHeartbeats 1000000 in
theorem get1_ret {w0 : World} {H : List SA} {bm be : Nat} : CTD Try.prog w0 (H) 38 ([.pointer (some ⟨bm, 0, none⟩), .pointer (some ⟨be, 0, none⟩)] : List Value).toArray (.returning) (.returning) (H) := by
  refine CTD_intro Try.func38 rfl Try.ntmps38 rfl (fun c₀ cs a w hu ha hw => ?_)
  refine wpS_seq ?_
  refine TS_recover rfl not_out ?_ ha hw
  rw [caught_returning hu]
  refine TL_q (Qt_assertNil rfl Try.underlying85) rfl ?_
  refine TL_q (Qt_move (.tuple _) rfl) rfl ?_
  refine TL_q (Qt_extract rfl) rfl ?_
  refine TL_q (Qt_extract rfl) rfl ?_
  refine TL_q (Qt_assign (.int .i64 _) rfl) rfl ?_
  refine TL_q (Qt_assign (.bool _) rfl) rfl ?_
  refine TL_nil ?_
  refine XS_then ?_
  refine TA_seq ?_
  refine T_region ?_
  refine TL_q (Qt_move (.bool _) rfl) rfl ?_
  refine TL_nil ?_
  refine XA_then ?_
  refine TA_leaf ?_
  refine T_cond rfl (fun h9 => ?_) (fun h9 => ?_)
  ·
    have p9 := h9
    try simp only [decide_eq_true_eq, decide_eq_false_iff_not, Bool.not_eq_true', Bool.not_eq_false', Option.isNone_iff_eq_none, ne_eq, Decidable.not_not, Int.not_lt, Int.not_le] at p9
    cases h9
  ·
    have p9 := h9
    try simp only [decide_eq_true_eq, decide_eq_false_iff_not, Bool.not_eq_true', Bool.not_eq_false', Option.isNone_iff_eq_none, ne_eq, Decidable.not_not, Int.not_lt, Int.not_le] at p9
    refine T_skip ?_
    refine XS_end (by rw [← frame_same hu]) (by simp) (.tuple #[]) ?_
    exact X_ret () [] Try.results38 trivial rfl (Subs.st inferInstance)
set_option maxHeartbeats 1000000 in
theorem get1_pan {w0 : World} {H : List SA} {bm be : Nat} {m : MsgV} {e x : Int} : CTD Try.prog w0 (blk bm (.cells (m).cells 43 (0, 0)) :: blk be (.cells #[.int .i64 (x)] 39 (0, 0)) :: H) 38 ([.pointer (some ⟨bm, 0, none⟩), .pointer (some ⟨be, 0, none⟩)] : List Value).toArray (.panicking (errP e)) (.panicking [{ v := .iface 85 (.int .i64 e), recovered := true }]) (blk bm (.cells (MsgV.zero).cells 43 (0, 0)) :: blk be (.cells #[.int .i64 (e)] 39 (0, 0)) :: H) := by
  refine CTD_intro Try.func38 rfl Try.ntmps38 rfl (fun c₀ cs a w hu ha hw => ?_)
  refine wpS_seq ?_
  refine TS_recover rfl not_out ?_ ha hw
  rw [caught_panicking hu]
  refine TL_q (Qt_assertIs rfl Try.underlying85) rfl ?_
  refine TL_q (Qt_move (.tuple _) rfl) rfl ?_
  refine TL_q (Qt_extract rfl) rfl ?_
  refine TL_q (Qt_extract rfl) rfl ?_
  refine TL_q (Qt_assign (.int .i64 _) rfl) rfl ?_
  refine TL_q (Qt_assign (.bool _) rfl) rfl ?_
  refine TL_nil ?_
  refine XS_then ?_
  refine TA_seq ?_
  refine T_region ?_
  refine TL_q (Qt_move (.bool _) rfl) rfl ?_
  refine TL_nil ?_
  refine XA_then ?_
  refine TA_leaf ?_
  refine T_cond rfl (fun h9 => ?_) (fun h9 => ?_)
  ·
    have p9 := h9
    try simp only [decide_eq_true_eq, decide_eq_false_iff_not, Bool.not_eq_true', Bool.not_eq_false', Option.isNone_iff_eq_none, ne_eq, Decidable.not_not, Int.not_lt, Int.not_le] at p9
    refine T_region ?_
    refine TL_q (Qt_build [] rfl (by kernel_rfl)) rfl ?_
    refine TL_q (Qt_move (.int .i64 _) rfl) rfl ?_
    refine TL_n (Ef_storeN rfl rfl (?_))
    refine TL_n (Ef_store1 (.int .i64 _) rfl rfl (?_))
    refine TL_nil ?_
    refine XS_end (rfl) (by simp) (.tuple #[]) ?_
    exact X_ret () [] Try.results38 trivial rfl (Subs.st inferInstance)
  ·
    have p9 := h9
    try simp only [decide_eq_true_eq, decide_eq_false_iff_not, Bool.not_eq_true', Bool.not_eq_false', Option.isNone_iff_eq_none, ne_eq, Decidable.not_not, Int.not_lt, Int.not_le] at p9
    cases h9
theorem getM_full {l : List UInt8} (h : 65504 < l.length) : getM l = (4, .zero) := if_pos h
theorem getM_bad {l : List UInt8} (h : ¬ 65504 < l.length) (he : (msgR l).1 ≠ 0) : getM l = ((msgR l).1, .zero) := by rw [getM, if_neg h, if_pos he]
theorem getM_good {l : List UInt8} {m : MsgD} (h : ¬ 65504 < l.length) (he : msgR l = (0, m)) : getM l = (0, m) := by rw [getM, if_neg h, he]; rfl
theorem cellsIn_nil {w : World} {fp : List Nat} : CellsIn fp w (.slice none 0 0) 1 [] := ⟨none, 0, 0, rfl, rfl, Nat.le_refl _, by unfold maxLen; omega, fun h => absurd h (by simp)⟩
theorem St.datMsgZero {w0 w : World} {H : List SA} (h : St w0 H w) : St w0 (dat [] (Deep.leads MsgV.zero) :: H) w := by
  refine h.datNil.turn rfl fun _ => ⟨fun y hy => ?_, fun y hy => ?_, fun y hy z hz => ?_, fun y hy => by cases hy⟩
  · obtain rfl : y = MsgV.zero.body := by simpa [Deep.leads] using hy
    exact cellsIn_nil
  · obtain rfl : y = MsgV.zero.parts := by simpa [Deep.leads] using hy
    exact cellsIn_nil
  · obtain rfl : y = MsgV.zero.parts := by simpa [Deep.leads] using hy
    cases hz
theorem zero_abs : MsgV.zero.abs = .zero := rfl

set_option maxHeartbeats 1000000 in
theorem wget_c {w0 : World} {H : List SA} {a : Option Addr} {l : List UInt8} {c : Nat} [hr : RdB w0 H (.slice a l.length c) l] (hl : l.length ≤ 4294967296) :
    CT Try.prog w0 H 19 [.slice a l.length c] (α := MsgV × List Nat) (fun y => .tuple #[.agg y.1.cells, .int .i64 (getM l).1]) (fun y => pu (y.1.abs = (getM l).2) :: dat y.2 (Deep.leads y.1) :: H) := by
  refine CT_introA Try.func19 rfl Try.ntmps19 rfl ?_
  refine TA_seq ?_
  refine T_region ?_
  refine TL_e rfl (Ef_allocN (fun b2 => ?_))
  refine TL_e rfl (Ef_alloc1 (fun b3 => ?_))
  refine TL_nil ?_
  refine XA_then ?_
  refine TA_seq ?_
  refine T_seq ?_
  refine T_region ?_
  refine TL_q (Qt_move (.slice _ _ _) rfl) rfl ?_
  refine TL_q (Qt_len_slice rfl Try.underlying36) rfl ?_
  refine TL_q (Qt_gtr rfl rfl) rfl ?_
  refine TL_nil ?_
  refine X_then ?_
  refine T_cond rfl (fun h6 => ?_) (fun h6 => ?_)
  ·
    have p6 := h6
    try simp only [decide_eq_true_eq, decide_eq_false_iff_not, Bool.not_eq_true', Bool.not_eq_false', Option.isNone_iff_eq_none, ne_eq, Decidable.not_not, Int.not_lt, Int.not_le] at p6
    refine T_seq ?_
    refine T_region ?_
    refine TL_q (Qt_build [] rfl (by kernel_rfl)) rfl ?_
    refine TL_n (Ef_storeN rfl rfl (?_))
    refine TL_n (Ef_store1 (.int .i64 _) rfl rfl (?_))
    refine TL_nil ?_
    refine X_then ?_
    refine T_ret ?_
    refine XA_then_ret ?_
    refine XD_ret0 (by simp) ?_
    have hg := getM_full (l := l) (by omega)
    simp only [hg]
    exact X_ret (MsgV.zero, []) [_, _] Try.results19 ⟨⟨_, rfl, res_cellN rfl⟩, ⟨_, rfl, res_cell1⟩, trivial⟩ rfl (fun w hw => (St.datMsgZero (Subs.st inferInstance w hw : St w0 H w)).addPure rfl)
  ·
    have p6 := h6
    try simp only [decide_eq_true_eq, decide_eq_false_iff_not, Bool.not_eq_true', Bool.not_eq_false', Option.isNone_iff_eq_none, ne_eq, Decidable.not_not, Int.not_lt, Int.not_le] at p6
    have hlen : ¬ 65504 < l.length := by omega
    refine T_skip ?_
    refine XA_then ?_
    refine TA_defer (args := [.pointer _, .pointer _]) rfl rfl ?_
    refine TA_regionA ?_
    refine TLA_q (Qt_move (.slice _ _ _) rfl) rfl ?_
    refine TLA_e rfl (Ef_call (rnew_c (by omega)) rfl (fun x10 => ?_))
    refine TLA_pure (fun hb => ?_)
    obtain ⟨x1, ⟨ba, bc, bl⟩⟩ := x10
    simp only at hb
    subst hb
    refine TLA_q (Qt_build [(0, (.pointer _))] rfl (by kernel_rfl)) rfl ?_
    refine TLA_eP rfl (EfP_call (message_c (p := x1) (b := ⟨ba, bc, bl⟩) (by show bl.length ≤ _; omega)) rfl (fun x12 => ?_) (fun y12 => by
          intro w hw
          have hy := hw.pure
          have hg := getM_bad hlen hy
          refine XD_panic (get1_pan (bm := b2) (be := b3) (m := MsgV.zero) (e := (msgR bl).1) (x := 0) (H := H)) rfl ?_ w (Subs.st inferInstance w hw)
          exact X_ret (MsgV.zero, []) [_, _] Try.results19 ⟨⟨_, rfl, res_cellN rfl⟩, ⟨_, rfl, res_cell1⟩, trivial⟩ (by rw [hg]; rfl) (fun w hw => (St.datMsgZero (Subs.st inferInstance w hw : St w0 H w)).addPure (by rw [hg]; rfl))))
    refine TLA_tail ?_
    refine TL_pure (fun hgl => ?_)
    have hgl := getM_good hlen hgl
    refine TL_n (Ef_storeN rfl rfl (?_))
    refine TL_n (Ef_store1 (.int .i64 _) rfl rfl (?_))
    refine TL_nil ?_
    refine XA_then ?_
    refine TA_leaf ?_
    refine T_ret ?_
    refine XD_ret (by simp) get1_ret rfl ?_
    have hgl := hgl
    exact X_ret x12 [_, _] Try.results19 ⟨⟨_, rfl, res_cellN rfl⟩, ⟨_, rfl, res_cell1⟩, trivial⟩ (by rw [hgl]; rfl) (fun w hw => (Subs.st inferInstance w hw : St w0 (dat x12.2 (Deep.leads x12.1) :: H) w).addPure (by rw [hgl]))
end Go.Proofs.Ytnijomppbgdmnaa
