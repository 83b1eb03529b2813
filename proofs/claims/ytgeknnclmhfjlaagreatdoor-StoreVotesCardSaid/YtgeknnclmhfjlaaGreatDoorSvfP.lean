/- Walks of package store: a vote is kept, and done again. -/
import Derived.Test.YtgeknnclmhfjlaaGreatDoorLuP
import Derived.Test.YtgeknnclmhfjlaaGreatDoorRcP
import Derived.Test.YtgeknnclmhfjlaaGreatDoorGtP
namespace Go.Proofs.YtgeknnclmhfjlaaGreatDoor
open Go.RowKit Go.Sx
set_option maxRecDepth 100000
set_option linter.unusedSimpArgs false
set_option linter.unusedVariables false
def lgB : ByteArray := ⟨#[108, 111, 103]⟩
theorem DLS_conv {P : Program} {n : Fr} {w0 : World} {S : List SA} {ops : Array Oper} {fuel : Nat} {listed : Array Bool} {i : Nat} {σ : Env} {H H' : List SA} {Q : Post} (hs : ∀ w, St w0 H w → St w0 H' w) (h : DLS P n w0 S ops fuel listed i σ H' Q) : DLS P n w0 S ops fuel listed i σ H Q := fun a w ha hw hS => h a w ha (hs w hw) hS
/-- A vote's record. -/
def recV (v : VoteD) : List UInt8 := 2 :: (putV v).1
theorem recV_app (v : VoteD) : ([2] : List UInt8) ++ (putV v).1 = recV v := rfl
theorem recV_len (v : VoteD) : (recV v).length = (putV v).1.length + 1 := rfl
@[reducible] def qblk (q sb p lp bp : Nat) (fu : Bool) : SA := blk q (.cells (StoreV.mk (some ⟨sb, 0, none⟩) (some ⟨p, 0, none⟩) (some ⟨lp, 0, none⟩) (some ⟨bp, 0, none⟩) fu).cells 80 (0, 0))
/-- A store as it lies, but for its state. -/
@[reducible] def SH (q sb p lp bp : Nat) (fu : Bool) (t : LS) (s : DS) (y : BkS) (H : List SA) : List SA := qblk q sb p lp bp fu :: lblk lp p lgB t :: lrow t :: BkS.H y bp (DS.H p s H)
/-- What Vote leaves. -/
structure VoR where
  fu : Bool
  t : LS
  s : DS
  y : BkS
  e : Int
def VoteR (fu : Bool) (t : LS) (s : DS) (y : BkS) (v : VoteD) (M K : Nat) (z : VoR) : Prop :=
  (z.e ≠ 0 ∧ z.fu = fu ∧ z.t = t ∧ z.s = s ∧ z.y = y) ∨
  (fu = false ∧ (putV v).2 = 0 ∧ (putV v).1.length ≤ 30000 ∧ (v.kind = 1 ∨ ¬ v.slot < y.k.slot) ∧
    ((z.e ≠ 0 ∧ AppendR lgB s t (recV v) z.s z.t z.e ∧ z.fu = decide (z.e = 4) ∧ z.y = y) ∨
     (∃ s1 : DS, AppendR lgB s t (recV v) s1 z.t 0 ∧ s1.Ok (M + 1) K ∧ SyncR s1 z.s ∧ z.fu = false ∧
       ((z.s.down = true ∧ z.e = 14 ∧ z.y = y) ∨ (z.s.down = false ∧ z.e = (takeD y.abs v).2 ∧ z.y.Ok ∧ z.y.abs = (takeD y.abs v).1)))))
theorem AppendR.okM {pre : ByteArray} {s s' : DS} {t t' : LS} {l : List UInt8} {e : Int} {M K : Nat} (h : AppendR pre s t l s' t' e) (hok : s.Ok M K) (hb : (toldB t.nx l).length ≤ 2000000) (hK : 2000000 ≤ K) : s'.Ok (M + 1) K := by
  rcases h with ⟨-, hb2⟩ | ⟨-, ha, -⟩
  · exact hb2.1.okM (.inr rfl) hok (by rw [show recsB t.nx [l] = toldB t.nx l from by simp only [recsB, List.append_nil]]; exact hb) hK
  · exact ha.okM (.inl ⟨rfl, rfl⟩) hok hb hK
attribute [local irreducible] toldB recsB nmB lastN newN sha recV
set_option maxHeartbeats 1000000 in
theorem kept_c {w0 : World} {H : List SA} {q sb p lp bp : Nat} {fu : Bool} {e : Int} :
    CT Tryz.prog w0 (qblk q sb p lp bp fu :: H) 32 [.pointer (some ⟨q, 0, none⟩), .int .i64 e] (α := Unit) (fun _ => .int .i64 e) (fun _ => qblk q sb p lp bp (decide (e = 4) || fu) :: H) := by
  refine CT_intro Tryz.func32 rfl Tryz.ntmps32 rfl ?_
  refine T_seq ?_
  refine T_region ?_
  refine TL_q (Qt_assign (.int .i64 _) rfl) rfl ?_
  refine TL_nil ?_
  refine X_then ?_
  refine T_seq ?_
  refine T_seq ?_
  refine T_region ?_
  refine TL_q (Qt_move (.int .i64 _) rfl) rfl ?_
  refine TL_q (Qt_eql rfl rfl) rfl ?_
  refine TL_nil ?_
  refine X_then ?_
  refine T_cond rfl (fun h6 => ?_) (fun h6 => ?_)
  ·
    have p6 := h6
    try simp only [decide_eq_true_eq, decide_eq_false_iff_not, Bool.not_eq_true', Bool.not_eq_false', Option.isNone_iff_eq_none, ne_eq, Decidable.not_not, Int.not_lt, Int.not_le] at p6
    refine T_region ?_
    refine TL_q (Qt_move (.pointer _) rfl) rfl ?_
    refine TL_q (Qt_nilCheck rfl) rfl ?_
    refine TL_q (Qt_fieldAddr 4 rfl rfl) rfl ?_
    refine TL_n (Ef_store1 (.bool _) rfl rfl (?_))
    refine TL_nil ?_
    refine X_then ?_
    refine T_seq ?_
    refine T_region ?_
    refine TL_q (Qt_move (.int .i64 _) rfl) rfl ?_
    refine TL_q (Qt_assign (.int .i64 _) rfl) rfl ?_
    refine TL_nil ?_
    refine X_then ?_
    refine T_ret ?_
    have e1 : (decide (e = 4) || fu) = true := by rw [decide_eq_true p6]; rfl
    exact X_ret () [_] Tryz.results32 ⟨rfl, trivial⟩ rfl (by rw [e1]; exact Subs.st inferInstance)
  ·
    have p6 := h6
    try simp only [decide_eq_true_eq, decide_eq_false_iff_not, Bool.not_eq_true', Bool.not_eq_false', Option.isNone_iff_eq_none, ne_eq, Decidable.not_not, Int.not_lt, Int.not_le] at p6
    refine T_skip ?_
    refine X_then ?_
    refine T_seq ?_
    refine T_region ?_
    refine TL_q (Qt_move (.int .i64 _) rfl) rfl ?_
    refine TL_q (Qt_assign (.int .i64 _) rfl) rfl ?_
    refine TL_nil ?_
    refine X_then ?_
    refine T_ret ?_
    have e1 : (decide (e = 4) || fu) = fu := by rw [decide_eq_false p6]; rfl
    exact X_ret () [_] Tryz.results32 ⟨rfl, trivial⟩ rfl (by rw [e1]; exact Subs.st inferInstance)
set_option maxHeartbeats 1000000 in
theorem synced_c {w0 : World} {H : List SA} {q sb p lp bp : Nat} {fu : Bool} {t : LS} {s : DS} {M K : Nat} (hok : s.Ok M K) (hM : M ≤ 1000000) (hK : K ≤ 1000000000) :
    CT Tryz.prog w0 (qblk q sb p lp bp fu :: lblk lp p lgB t :: lrow t :: DS.H p s H) 35 [.pointer (some ⟨q, 0, none⟩)] (α := DS) (fun y => .int .i64 (if y.down = true then 14 else 0)) (fun y => pu (SyncR s y) :: qblk q sb p lp bp fu :: lblk lp p lgB t :: lrow t :: DS.H p y H) := by
  refine CT_intro Tryz.func35 rfl Tryz.ntmps35 rfl ?_
  refine T_seq ?_
  refine T_region ?_
  refine TL_q (Qt_assign (.int .i64 _) rfl) rfl ?_
  refine TL_nil ?_
  refine X_then ?_
  refine T_seq ?_
  refine T_region ?_
  refine TL_q (Qt_move (.pointer _) rfl) rfl ?_
  refine TL_q (Qt_nilCheck rfl) rfl ?_
  refine TL_q (Qt_fieldAddr 2 rfl rfl) rfl ?_
  refine TL_q (Qt_load1 rfl) rfl ?_
  refine TL_conv (fun w hw => (Subs.st inferInstance w hw : St w0 (lblk lp p lgB t :: lrow t :: DS.H p s (qblk q sb p lp bp fu :: H)) w)) ?_
  refine TL_e rfl (Ef_call (lsync_c (lp := lp) (p := p) (pre := lgB) (t := t) (s := s) hok hM hK) rfl (fun x7 => ?_))
  refine TL_pure (fun h7 => ?_)
  refine TL_nil ?_
  refine X_then ?_
  refine T_seq ?_
  refine T_seq ?_
  refine T_region ?_
  refine TL_q (Qt_move (.pointer _) rfl) rfl ?_
  refine TL_q (Qt_nilCheck rfl) rfl ?_
  refine TL_q (Qt_fieldAddr 1 rfl rfl) rfl ?_
  refine TL_q (Qt_load1 rfl) rfl ?_
  refine TL_conv (fun w hw => (Subs.st inferInstance w hw : St w0 (DS.H p x7 (lblk lp p lgB t :: lrow t :: qblk q sb p lp bp fu :: H)) w)) ?_
  refine TL_e rfl (Ef_call (ddown_c (p := p) (s := x7)) rfl (fun x12 => ?_))
  refine TL_nil ?_
  refine X_then ?_
  refine T_cond rfl (fun h12 => ?_) (fun h12 => ?_)
  ·
    have p12 := h12
    try simp only [decide_eq_true_eq, decide_eq_false_iff_not, Bool.not_eq_true', Bool.not_eq_false', Option.isNone_iff_eq_none, ne_eq, Decidable.not_not, Int.not_lt, Int.not_le] at p12
    refine T_seq ?_
    refine T_region ?_
    refine TL_q (Qt_assign (.int .i64 _) rfl) rfl ?_
    refine TL_nil ?_
    refine X_then ?_
    refine T_ret ?_
    refine X_then_ret ?_
    exact X_ret x7 [_] Tryz.results35 ⟨rfl, trivial⟩ (by rw [if_pos h12]; rfl) (fun w hw => (Subs.st inferInstance w hw : St w0 (qblk q sb p lp bp fu :: lblk lp p lgB t :: lrow t :: DS.H p x7 H) w).addPure h7)
  ·
    have p12 := h12
    try simp only [decide_eq_true_eq, decide_eq_false_iff_not, Bool.not_eq_true', Bool.not_eq_false', Option.isNone_iff_eq_none, ne_eq, Decidable.not_not, Int.not_lt, Int.not_le] at p12
    refine T_skip ?_
    refine X_then ?_
    refine T_seq ?_
    refine T_region ?_
    refine TL_q (Qt_assign (.int .i64 _) rfl) rfl ?_
    refine TL_nil ?_
    refine X_then ?_
    refine T_ret ?_
    exact X_ret x7 [_] Tryz.results35 ⟨rfl, trivial⟩ (by rw [h12]; rfl) (fun w hw => (Subs.st inferInstance w hw : St w0 (qblk q sb p lp bp fu :: lblk lp p lgB t :: lrow t :: DS.H p x7 H) w).addPure h7)
set_option maxHeartbeats 1000000 in
theorem voteRecord_c {w0 : World} {H : List SA} {v : VoteV} [rbv : RdB w0 H (.slice v.batch.a v.batch.l.length v.batch.c) v.batch.l] [rcv : RdC w0 H (.slice v.cert.a v.cert.ls.length v.cert.c) 1 (v.cert.ls.map BS.val)] [rev : RdE w0 H v.cert.ls] (hs : SmallV v.abs) (hl : (putV v.abs).1.length ≤ 30000) :
    CT Tryz.prog w0 (H) 34 [.agg v.cells] (α := AC) (fun y => .slice y.a (recV v.abs).length y.c) (fun y => row (.slice y.a (recV v.abs).length y.c) 5 1 (bytesV (recV v.abs)) :: H) := by
  refine CT_intro Tryz.func34 rfl Tryz.ntmps34 rfl ?_
  refine T_seq ?_
  refine T_region ?_
  refine TL_e rfl (Ef_boxN rfl (fun b1 => ?_))
  refine TL_q (Qt_assign (.slice _ _ _) rfl) rfl ?_
  refine TL_nil ?_
  refine X_then ?_
  refine T_seq ?_
  refine T_region ?_
  refine TL_q (Qt_loadN rfl rfl) rfl ?_
  refine TL_e rfl (Ef_call (put_c hs) rfl (fun x7 => ?_))
  refine TL_q (Qt_move (.tuple _) rfl) rfl ?_
  refine TL_q (Qt_extract rfl) rfl ?_
  refine TL_q (Qt_extract rfl) rfl ?_
  refine TL_q (Qt_assign (.slice _ _ _) rfl) rfl ?_
  refine TL_q (Qt_assign (.int .i64 _) rfl) rfl ?_
  refine TL_nil ?_
  refine X_then ?_
  refine T_seq ?_
  refine T_region ?_
  refine TL_e rfl (Ef_slice1 (v := .int .u8 2) rfl (fun a10 c10 => ?_))
  rw [show (Value.slice a10 1 c10) = .slice a10 ([2] : List UInt8).length c10 from rfl, show ([.int .u8 2] : List Value) = bytesV [2] from rfl]
  refine TL_q (Qt_move (.slice _ _ _) rfl) rfl ?_
  refine TL_e rfl (Ef_appendB (sv := .slice _ _ _) (xv := .slice _ _ _) (l := ([2] : List UInt8)) (l' := (putV v.abs).1) rfl rfl (by simp; omega) rfl (fun a12 c12 => ?_))
  rw [recV_app]
  refine TL_q (Qt_assign (.slice _ _ _) rfl) rfl ?_
  refine TL_nil ?_
  refine X_then ?_
  refine T_ret ?_
  exact X_ret ⟨a12, c12⟩ [_] Tryz.results34 ⟨rfl, trivial⟩ rfl (Subs.st inferInstance)
set_option maxHeartbeats 1000000 in
theorem svote_c {w0 : World} {H : List SA} {q sb p lp bp : Nat} {fu : Bool} {t : LS} {s : DS} {y : BkS} {M K : Nat} (hok : s.Ok M K) (hM : M ≤ 900000) (hK : K ≤ 1000000000) (hK2 : 2000000 ≤ K) (hsl : t.segs.length ≤ 1000) (hlast : lastN t.segs < 99) (hsz : t.siz ≤ 100000) (hnx : t.nx ≤ 1000000) (hy : y.Ok) {v : VoteV} [rbv : RdB w0 H (.slice v.batch.a v.batch.l.length v.batch.c) v.batch.l] [rcv : RdC w0 H (.slice v.cert.a v.cert.ls.length v.cert.c) 1 (v.cert.ls.map BS.val)] [rev : RdE w0 H v.cert.ls] (hs : SmallV v.abs) :
    CT Tryz.prog w0 (SH q sb p lp bp fu t s y H) 10 [.pointer (some ⟨q, 0, none⟩), .agg v.cells] (α := VoR) (fun z => .int .i64 z.e) (fun z => pu (VoteR fu t s y v.abs M K z) :: SH q sb p lp bp z.fu z.t z.s z.y H) := by
  refine CT_intro Tryz.func10 rfl Tryz.ntmps10 rfl ?_
  refine T_seq ?_
  refine T_region ?_
  refine TL_e rfl (Ef_boxN rfl (fun b3 => ?_))
  refine TL_q (Qt_assign (.int .i64 _) rfl) rfl ?_
  refine TL_nil ?_
  refine X_then ?_
  refine T_seq ?_
  refine T_block ?_
  refine T_seq ?_
  refine T_region ?_
  refine TL_q (Qt_move (.pointer _) rfl) rfl ?_
  refine TL_q (Qt_ptr_nil rfl rfl Tryz.underlying30) rfl ?_
  refine TL_q (Qt_assign (.bool _) rfl) rfl ?_
  refine TL_nil ?_
  refine X_then ?_
  refine T_cond_false rfl (by first | rfl | decide) ?_
  refine T_seq ?_
  refine T_region ?_
  refine TL_q (Qt_move (.pointer _) rfl) rfl ?_
  refine TL_q (Qt_nilCheck rfl) rfl ?_
  refine TL_q (Qt_fieldAddr 4 rfl rfl) rfl ?_
  refine TL_q (Qt_load1 rfl) rfl ?_
  refine TL_q (Qt_assign (.bool _) rfl) rfl ?_
  refine TL_nil ?_
  refine X_then ?_
  refine T_cond rfl (fun h12 => ?_) (fun h12 => ?_)
  ·
    have p12 := h12
    try simp only [decide_eq_true_eq, decide_eq_false_iff_not, Bool.not_eq_true', Bool.not_eq_false', Option.isNone_iff_eq_none, ne_eq, Decidable.not_not, Int.not_lt, Int.not_le] at p12
    refine T_seq ?_
    refine T_region ?_
    refine TL_q (Qt_assign (.int .i64 _) rfl) rfl ?_
    refine TL_nil ?_
    refine X_then ?_
    refine T_ret ?_
    refine X_block_ret ?_
    refine X_then_ret ?_
    have hfu : fu = true := h12
    subst hfu
    exact X_ret (⟨true, t, s, y, 4⟩ : VoR) [_] Tryz.results10 ⟨rfl, trivial⟩ rfl (fun w hw => (Subs.st inferInstance w hw : St w0 (SH q sb p lp bp true t s y H) w).addPure (.inl ⟨by show (4 : Int) ≠ 0; decide, rfl, rfl, rfl, rfl⟩))
  ·
    have p12 := h12
    try simp only [decide_eq_true_eq, decide_eq_false_iff_not, Bool.not_eq_true', Bool.not_eq_false', Option.isNone_iff_eq_none, ne_eq, Decidable.not_not, Int.not_lt, Int.not_le] at p12
    have hfu : fu = false := h12
    subst hfu
    refine T_skip ?_
    refine X_block ?_
    refine X_then ?_
    refine T_seq ?_
    refine T_seq ?_
    refine T_region ?_
    refine TL_q (Qt_loadN rfl rfl) rfl ?_
    refine TL_e rfl (Ef_call (put_c hs) rfl (fun x19 => ?_))
    refine TL_q (Qt_move (.tuple _) rfl) rfl ?_
    refine TL_q (Qt_extract rfl) rfl ?_
    refine TL_q (Qt_extract rfl) rfl ?_
    refine TL_q (Qt_assign (.slice _ _ _) rfl) rfl ?_
    refine TL_q (Qt_assign (.int .i64 _) rfl) rfl ?_
    refine TL_nil ?_
    refine X_then ?_
    refine T_seq ?_
    refine T_region ?_
    refine TL_q (Qt_move (.int .i64 _) rfl) rfl ?_
    refine TL_q (Qt_neq rfl rfl) rfl ?_
    refine TL_q (Qt_move (.bool _) rfl) rfl ?_
    refine TL_split 24 rfl (fun h24 => ?_) (fun h24 => ?_)
    ·
      have p24 := h24
      try simp only [decide_eq_true_eq, decide_eq_false_iff_not, Bool.not_eq_true', Bool.not_eq_false', Option.isNone_iff_eq_none, ne_eq, Decidable.not_not, Int.not_lt, Int.not_le] at p24
      refine TL_pass rfl rfl h24 rfl ?_
      refine TL_pass rfl rfl h24 rfl ?_
      refine TL_pass rfl rfl h24 rfl ?_
      refine TL_q (Qt_pick_t (.bool _) rfl h24 rfl) rfl ?_
      refine TL_nil ?_
      refine X_then ?_
      refine T_cond_true rfl rfl ?_
      refine T_seq ?_
      refine T_region ?_
      refine TL_q (Qt_assign (.int .i64 _) rfl) rfl ?_
      refine TL_nil ?_
      refine X_then ?_
      refine T_ret ?_
      refine X_then_ret ?_
      exact X_ret (⟨false, t, s, y, 15⟩ : VoR) [_] Tryz.results10 ⟨rfl, trivial⟩ rfl (fun w hw => (Subs.st inferInstance w hw : St w0 (SH q sb p lp bp false t s y H) w).addPure (.inl ⟨by show (15 : Int) ≠ 0; decide, rfl, rfl, rfl, rfl⟩))
    ·
      have p24 := h24
      try simp only [decide_eq_true_eq, decide_eq_false_iff_not, Bool.not_eq_true', Bool.not_eq_false', Option.isNone_iff_eq_none, ne_eq, Decidable.not_not, Int.not_lt, Int.not_le] at p24
      have hput : (putV v.abs).2 = 0 := by omega
      refine TL_take rfl rfl h24 ?_
      refine TL_q (Qt_move (.slice _ _ _) rfl) rfl ?_
      refine TL_take rfl rfl h24 ?_
      refine TL_q (Qt_len_slice rfl Tryz.underlying41) rfl ?_
      refine TL_take rfl rfl h24 ?_
      refine TL_q (Qt_gtr rfl rfl) rfl ?_
      refine TL_q (Qt_pick_f (.bool _) rfl h24 rfl) rfl ?_
      refine TL_nil ?_
      refine X_then ?_
      refine T_cond rfl (fun h28 => ?_) (fun h28 => ?_)
      ·
        have p28 := h28
        try simp only [decide_eq_true_eq, decide_eq_false_iff_not, Bool.not_eq_true', Bool.not_eq_false', Option.isNone_iff_eq_none, ne_eq, Decidable.not_not, Int.not_lt, Int.not_le] at p28
        refine T_seq ?_
        refine T_region ?_
        refine TL_q (Qt_assign (.int .i64 _) rfl) rfl ?_
        refine TL_nil ?_
        refine X_then ?_
        refine T_ret ?_
        refine X_then_ret ?_
        exact X_ret (⟨false, t, s, y, 15⟩ : VoR) [_] Tryz.results10 ⟨rfl, trivial⟩ rfl (fun w hw => (Subs.st inferInstance w hw : St w0 (SH q sb p lp bp false t s y H) w).addPure (.inl ⟨by show (15 : Int) ≠ 0; decide, rfl, rfl, rfl, rfl⟩))
      ·
        have p28 := h28
        try simp only [decide_eq_true_eq, decide_eq_false_iff_not, Bool.not_eq_true', Bool.not_eq_false', Option.isNone_iff_eq_none, ne_eq, Decidable.not_not, Int.not_lt, Int.not_le] at p28
        refine T_skip ?_
        refine X_then ?_
        refine T_seq ?_
        refine T_cut [29, 30, 31, 32, 33, 34, 35, 36, 37, 38, 39, 40, 41] [41] (fun us H' => ∃ b : Bool, us = [.bool b] ∧ (blk b3 (.cells v.cells 44 (0, 0)) :: SH q sb p lp bp false t s y H) = H' ∧ (b = false → v.abs.kind = 1 ∨ ¬ v.abs.slot < y.k.slot)) ?_ ?_
        ·
          refine T_draw (blk b3 (.cells v.cells 44 (0, 0)) :: SH q sb p lp bp false t s y H) [(0, true), (1, true), (2, true), (3, true), (4, true), (5, true), (6, true), (7, true), (8, true), (9, true), (10, false), (11, true), (12, true)] (by kernel_rfl) (by kernel_rfl) rfl (by kernel_rfl) (Subs.st inferInstance) (fun hns0 => ?_)
          refine DL_q hns0 rfl (Qt_fieldAddr 0 rfl rfl) rfl ?_
          refine DL_q hns0 rfl (Qt_load1 rfl) rfl ?_
          refine DL_q hns0 rfl (Qt_neq rfl rfl) rfl ?_
          refine DL_q hns0 rfl (Qt_move (.bool _) rfl) rfl ?_
          refine DL_split 32 rfl (fun h32 => ?_) (fun h32 => ?_)
          ·
            have p32 := h32
            try simp only [decide_eq_true_eq, decide_eq_false_iff_not, Bool.not_eq_true', Bool.not_eq_false', Option.isNone_iff_eq_none, ne_eq, Decidable.not_not, Int.not_lt, Int.not_le] at p32
            refine DL_qg hns0 rfl rfl rfl h32 (Qt_fieldAddr 3 rfl rfl) rfl ?_
            refine DL_qg hns0 rfl rfl rfl h32 (Qt_load1 rfl) rfl ?_
            refine DL_qg hns0 rfl rfl rfl h32 (Qt_move (.pointer _) rfl) rfl ?_
            refine DL_qg hns0 rfl rfl rfl h32 (Qt_nilCheck rfl) rfl ?_
            refine DL_qg hns0 rfl rfl rfl h32 (Qt_fieldAddr 3 rfl rfl) rfl ?_
            refine DL_qg hns0 rfl rfl rfl h32 (Qt_load1 rfl) rfl ?_
            refine DL_frontB bp ?_
            refine DL_eg rfl rfl rfl h32 rfl (Ef_call (slot_c (p := bp) (k := y.k)) rfl (fun x39 => ⟨(Subs.st inferInstance), ?_⟩))
            refine DL_qg hns0 rfl rfl rfl h32 (Qt_lss rfl rfl) rfl ?_
            refine DL_q hns0 rfl (Qt_pick_t (.bool _) rfl h32 rfl) rfl ?_
            refine DL_nil ?_
            refine X_cut _ (by repeat (first | with_reducible exact agree_refl | refine agree_upd rfl ?_ | refine agree_mix rfl ?_ | refine agree_setAll rfl ?_)) (by first | exact ⟨_, rfl, rfl, fun _ => .inl p32⟩ | exact ⟨_, rfl, rfl, fun h => .inr (of_decide_eq_false h)⟩) ((Subs.st inferInstance))
          ·
            have p32 := h32
            try simp only [decide_eq_true_eq, decide_eq_false_iff_not, Bool.not_eq_true', Bool.not_eq_false', Option.isNone_iff_eq_none, ne_eq, Decidable.not_not, Int.not_lt, Int.not_le] at p32
            refine DL_pass hns0 rfl rfl rfl h32 rfl ?_
            refine DL_pass hns0 rfl rfl rfl h32 rfl ?_
            refine DL_pass hns0 rfl rfl rfl h32 rfl ?_
            refine DL_pass hns0 rfl rfl rfl h32 rfl ?_
            refine DL_pass hns0 rfl rfl rfl h32 rfl ?_
            refine DL_pass hns0 rfl rfl rfl h32 rfl ?_
            refine DL_frontB bp ?_
            refine DL_passF rfl rfl rfl h32 rfl ?_
            refine DL_pass hns0 rfl rfl rfl h32 rfl ?_
            refine DL_q hns0 rfl (Qt_pick_f (.bool _) rfl h32 rfl) rfl ?_
            refine DL_nil ?_
            refine X_cut _ (by repeat (first | with_reducible exact agree_refl | refine agree_upd rfl ?_ | refine agree_mix rfl ?_ | refine agree_setAll rfl ?_)) (by first | exact ⟨_, rfl, rfl, fun _ => .inl p32⟩ | exact ⟨_, rfl, rfl, fun h => .inr (of_decide_eq_false h)⟩) ((Subs.st inferInstance))
        ·
          rintro τc1 _ _ ⟨b41, rfl, rfl, hb41⟩ _
          refine T_cond rfl (fun h41 => ?_) (fun h41 => ?_)
          ·
            have p41 := h41
            try simp only [decide_eq_true_eq, decide_eq_false_iff_not, Bool.not_eq_true', Bool.not_eq_false', Option.isNone_iff_eq_none, ne_eq, Decidable.not_not, Int.not_lt, Int.not_le] at p41
            refine T_seq ?_
            refine T_region ?_
            refine TL_q (Qt_assign (.int .i64 _) rfl) rfl ?_
            refine TL_nil ?_
            refine X_then ?_
            refine T_ret ?_
            refine X_then_ret ?_
            exact X_ret (⟨false, t, s, y, 7⟩ : VoR) [_] Tryz.results10 ⟨rfl, trivial⟩ rfl (fun w hw => (Subs.st inferInstance w hw : St w0 (SH q sb p lp bp false t s y H) w).addPure (.inl ⟨by show (7 : Int) ≠ 0; decide, rfl, rfl, rfl, rfl⟩))
          ·
            have p41 := h41
            try simp only [decide_eq_true_eq, decide_eq_false_iff_not, Bool.not_eq_true', Bool.not_eq_false', Option.isNone_iff_eq_none, ne_eq, Decidable.not_not, Int.not_lt, Int.not_le] at p41
            have hnew := hb41 h41
            refine T_skip ?_
            refine X_then ?_
            refine T_seq ?_
            refine T_cut [7, 42, 43, 44, 45, 46, 47, 48, 49, 50] [7] (fun us H' => ∃ (s4 : DS) (t4 : LS) (e4 : Int), us = [.int .i64 e4] ∧ (blk b3 (.cells v.cells 44 (0, 0)) :: SH q sb p lp bp (decide (e4 = 4) || false) t4 s4 y H) = H' ∧ AppendR lgB s t (recV v.abs) s4 t4 e4) ?_ ?_
            ·
              refine T_drawF (blk b3 (.cells v.cells 44 (0, 0)) :: H) (by kernel_rfl) (Subs.st inferInstance) ?_
              refine DLF_q (i := 0) (by kernel_rfl) rfl (by kernel_rfl) (by kernel_rfl) (Qt_move (.pointer _) rfl) rfl ?_
              refine DLF_q (i := 1) (by kernel_rfl) rfl (by kernel_rfl) (by kernel_rfl) (Qt_move (.pointer _) rfl) rfl ?_
              refine DLF_q (i := 2) (by kernel_rfl) rfl (by kernel_rfl) (by kernel_rfl) (Qt_nilCheck rfl) rfl ?_
              refine DLF_q (i := 3) (by kernel_rfl) rfl (by kernel_rfl) (by kernel_rfl) (Qt_fieldAddr 2 rfl rfl) rfl ?_
              refine DLF_q (i := 5) (by kernel_rfl) rfl (by kernel_rfl) (by kernel_rfl) (Qt_loadN rfl rfl) rfl ?_
              refine DLF_2 (i := 4) (j := 6) (by kernel_rfl) ?_ ?_
              ·
                refine DLS_e rfl rfl (Ef_of_Qt (Qt_load1 rfl) ⟨(Subs.st inferInstance), ?_⟩)
                refine DLF_1 (i := 6) (by kernel_rfl) ?_
                refine DLS_e rfl rfl (Ef_call (voteRecord_c hs (by omega)) rfl (fun x48 => ⟨(Subs.st inferInstance), ?_⟩))
                refine DLF_1 (i := 7) (by kernel_rfl) ?_
                refine DLS_conv (fun w hw => (Subs.st inferInstance w hw : St w0 (lblk lp p lgB t :: lrow t :: DS.H p s (row (.slice x48.a (recV v.abs).length x48.c) 5 1 (bytesV (recV v.abs)) :: blk b3 (.cells v.cells 44 (0, 0)) :: qblk q sb p lp bp false :: BkS.H y bp H)) w)) ?_
                refine DLS_e rfl rfl (Ef_call (lappend_c (lp := lp) (p := p) (pre := lgB) (t := t) (s := s) hok (by omega) hK (by omega) (by decide) hsl hlast hsz hnx (b := ⟨x48.a, x48.c, recV v.abs⟩) (by show (recV v.abs).length ≤ 40000; rw [recV_len]; omega)) rfl (fun x49 => ⟨(Subs.st inferInstance), ?_⟩))
                refine DLF_pure (fun h49 => ?_)
                refine DLF_1 (i := 8) (by kernel_rfl) ?_
                refine DLS_conv (fun w hw => (Subs.st inferInstance w hw : St w0 (qblk q sb p lp bp false :: blk b3 (.cells v.cells 44 (0, 0)) :: lblk lp p lgB x49.2.1 :: lrow x49.2.1 :: BkS.H y bp (DS.H p x49.1 H)) w)) ?_
                refine DLS_e rfl rfl (Ef_call (kept_c (q := q) (sb := sb) (p := p) (lp := lp) (bp := bp) (fu := false) (e := x49.2.2)) rfl (fun x50 => ⟨(Subs.st inferInstance), ?_⟩))
                refine DLF_q (i := 9) (by kernel_rfl) rfl (by kernel_rfl) (by kernel_rfl) (Qt_assign (.int .i64 _) rfl) rfl ?_
                refine DLF_nil (by kernel_rfl) ?_
                refine X_cut _ (by repeat (first | with_reducible exact agree_refl | refine agree_upd rfl ?_ | refine agree_mix rfl ?_ | refine agree_setAll rfl ?_)) (⟨x49.1, x49.2.1, x49.2.2, rfl, rfl, h49⟩) ((Subs.st inferInstance))
              ·
                refine DLS_e rfl rfl (Ef_call (voteRecord_c hs (by omega)) rfl (fun x48 => ⟨(Subs.st inferInstance), ?_⟩))
                refine DLF_1 (i := 4) (by kernel_rfl) ?_
                refine DLS_e rfl rfl (Ef_of_Qt (Qt_load1 rfl) ⟨(Subs.st inferInstance), ?_⟩)
                refine DLF_1 (i := 7) (by kernel_rfl) ?_
                refine DLS_conv (fun w hw => (Subs.st inferInstance w hw : St w0 (lblk lp p lgB t :: lrow t :: DS.H p s (row (.slice x48.a (recV v.abs).length x48.c) 5 1 (bytesV (recV v.abs)) :: blk b3 (.cells v.cells 44 (0, 0)) :: qblk q sb p lp bp false :: BkS.H y bp H)) w)) ?_
                refine DLS_e rfl rfl (Ef_call (lappend_c (lp := lp) (p := p) (pre := lgB) (t := t) (s := s) hok (by omega) hK (by omega) (by decide) hsl hlast hsz hnx (b := ⟨x48.a, x48.c, recV v.abs⟩) (by show (recV v.abs).length ≤ 40000; rw [recV_len]; omega)) rfl (fun x49 => ⟨(Subs.st inferInstance), ?_⟩))
                refine DLF_pure (fun h49 => ?_)
                refine DLF_1 (i := 8) (by kernel_rfl) ?_
                refine DLS_conv (fun w hw => (Subs.st inferInstance w hw : St w0 (qblk q sb p lp bp false :: blk b3 (.cells v.cells 44 (0, 0)) :: lblk lp p lgB x49.2.1 :: lrow x49.2.1 :: BkS.H y bp (DS.H p x49.1 H)) w)) ?_
                refine DLS_e rfl rfl (Ef_call (kept_c (q := q) (sb := sb) (p := p) (lp := lp) (bp := bp) (fu := false) (e := x49.2.2)) rfl (fun x50 => ⟨(Subs.st inferInstance), ?_⟩))
                refine DLF_q (i := 9) (by kernel_rfl) rfl (by kernel_rfl) (by kernel_rfl) (Qt_assign (.int .i64 _) rfl) rfl ?_
                refine DLF_nil (by kernel_rfl) ?_
                refine X_cut _ (by repeat (first | with_reducible exact agree_refl | refine agree_upd rfl ?_ | refine agree_mix rfl ?_ | refine agree_setAll rfl ?_)) (⟨x49.1, x49.2.1, x49.2.2, rfl, rfl, h49⟩) ((Subs.st inferInstance))
            ·
              rintro τc2 _ _ ⟨s4, t4, e4, rfl, rfl, h49⟩ _
              have hok4 := h49.okM hok (by have := (toldB_len t.nx (by omega) (recV v.abs) (by rw [recV_len]; omega)).1; rw [recV_len] at this; omega) hK2
              refine T_seq ?_
              refine T_region ?_
              refine TL_q (Qt_move (.int .i64 _) rfl) rfl ?_
              refine TL_q (Qt_neq rfl rfl) rfl ?_
              refine TL_nil ?_
              refine X_then ?_
              refine T_cond rfl (fun h52 => ?_) (fun h52 => ?_)
              ·
                have p52 := h52
                try simp only [decide_eq_true_eq, decide_eq_false_iff_not, Bool.not_eq_true', Bool.not_eq_false', Option.isNone_iff_eq_none, ne_eq, Decidable.not_not, Int.not_lt, Int.not_le] at p52
                refine T_seq ?_
                refine T_region ?_
                refine TL_q (Qt_move (.int .i64 _) rfl) rfl ?_
                refine TL_q (Qt_assign (.int .i64 _) rfl) rfl ?_
                refine TL_nil ?_
                refine X_then ?_
                refine T_ret ?_
                refine X_then_ret ?_
                exact X_ret (⟨(decide (e4 = 4) || false), t4, s4, y, e4⟩ : VoR) [_] Tryz.results10 ⟨rfl, trivial⟩ rfl (fun w hw => (Subs.st inferInstance w hw : St w0 (SH q sb p lp bp (decide (e4 = 4) || false) t4 s4 y H) w).addPure (.inr ⟨rfl, hput, by omega, hnew, .inl ⟨p52, h49, Bool.or_false _, rfl⟩⟩))
              ·
                have p52 := h52
                try simp only [decide_eq_true_eq, decide_eq_false_iff_not, Bool.not_eq_true', Bool.not_eq_false', Option.isNone_iff_eq_none, ne_eq, Decidable.not_not, Int.not_lt, Int.not_le] at p52
                have he40 : e4 = 0 := by omega
                rw [he40] at h49
                refine T_skip ?_
                refine X_then ?_
                refine T_seq ?_
                refine T_seq ?_
                refine T_region ?_
                refine TL_q (Qt_move (.pointer _) rfl) rfl ?_
                refine TL_conv (fun w hw => (Subs.st inferInstance w hw : St w0 (qblk q sb p lp bp (decide (e4 = 4) || false) :: lblk lp p lgB t4 :: lrow t4 :: DS.H p s4 (blk b3 (.cells v.cells 44 (0, 0)) :: BkS.H y bp H)) w)) ?_
                refine TL_e rfl (Ef_call (synced_c (q := q) (sb := sb) (p := p) (lp := lp) (bp := bp) (fu := (decide (e4 = 4) || false)) (t := t4) (s := s4) hok4 (by omega) hK) rfl (fun x55 => ?_))
                refine TL_pure (fun h55 => ?_)
                refine TL_q (Qt_assign (.int .i64 _) rfl) rfl ?_
                refine TL_nil ?_
                refine X_then ?_
                refine T_seq ?_
                refine T_region ?_
                refine TL_q (Qt_move (.int .i64 _) rfl) rfl ?_
                refine TL_q (Qt_neq rfl rfl) rfl ?_
                refine TL_nil ?_
                refine X_then ?_
                refine T_cond rfl (fun h57 => ?_) (fun h57 => ?_)
                ·
                  have p57 := h57
                  try simp only [decide_eq_true_eq, decide_eq_false_iff_not, Bool.not_eq_true', Bool.not_eq_false', Option.isNone_iff_eq_none, ne_eq, Decidable.not_not, Int.not_lt, Int.not_le] at p57
                  have hdn : x55.down = true := by
                    cases hd : x55.down with
                    | true => rfl
                    | false => exact absurd (by rw [hd]; rfl) p57
                  refine T_seq ?_
                  refine T_region ?_
                  refine TL_q (Qt_move (.int .i64 _) rfl) rfl ?_
                  refine TL_q (Qt_assign (.int .i64 _) rfl) rfl ?_
                  refine TL_nil ?_
                  refine X_then ?_
                  refine T_ret ?_
                  refine X_then_ret ?_
                  exact X_ret (⟨(decide (e4 = 4) || false), t4, x55, y, 14⟩ : VoR) [_] Tryz.results10 ⟨rfl, trivial⟩ (by rw [if_pos hdn]; rfl) (fun w hw => (Subs.st inferInstance w hw : St w0 (SH q sb p lp bp (decide (e4 = 4) || false) t4 x55 y H) w).addPure (.inr ⟨rfl, hput, by omega, hnew, .inr ⟨s4, h49, hok4, h55, by show (decide (e4 = 4) || false) = false; rw [he40]; rfl, .inl ⟨hdn, rfl, rfl⟩⟩⟩))
                ·
                  have p57 := h57
                  try simp only [decide_eq_true_eq, decide_eq_false_iff_not, Bool.not_eq_true', Bool.not_eq_false', Option.isNone_iff_eq_none, ne_eq, Decidable.not_not, Int.not_lt, Int.not_le] at p57
                  have hdn : x55.down = false := by
                    cases hd : x55.down with
                    | false => rfl
                    | true => rw [hd] at p57; exact absurd p57 (by decide)
                  refine T_skip ?_
                  refine X_then ?_
                  refine T_seq ?_
                  refine T_draw (blk b3 (.cells v.cells 44 (0, 0)) :: qblk q sb p lp bp (decide (e4 = 4) || false) :: H) [(0, true), (1, true), (2, true), (3, true), (4, true), (5, false), (6, true)] (by kernel_rfl) (by kernel_rfl) rfl (by kernel_rfl) (Subs.st inferInstance) (fun hns3 => ?_)
                  refine DL_q hns3 rfl (Qt_move (.pointer _) rfl) rfl ?_
                  refine DL_q hns3 rfl (Qt_nilCheck rfl) rfl ?_
                  refine DL_q hns3 rfl (Qt_fieldAddr 3 rfl rfl) rfl ?_
                  refine DL_q hns3 rfl (Qt_load1 rfl) rfl ?_
                  refine DL_q hns3 rfl (Qt_loadN rfl rfl) rfl ?_
                  refine DL_conv (fun w hw => (Subs.st inferInstance w hw : St w0 (BkS.H y bp (blk b3 (.cells v.cells 44 (0, 0)) :: qblk q sb p lp bp (decide (e4 = 4) || false) :: lblk lp p lgB t4 :: lrow t4 :: DS.H p x55 H)) w)) ?_
                  refine DL_e rfl rfl (Ef_call (take_c (p := bp) (y := y) (v := v) hy hs) rfl (fun x64 => ⟨(Subs.st inferInstance), ?_⟩))
                  refine DL_pure (fun hz => ?_)
                  refine DL_q hns3 rfl (Qt_assign (.int .i64 _) rfl) rfl ?_
                  refine DL_nil ?_
                  refine X_then ?_
                  refine T_ret ?_
                  exact X_ret (⟨(decide (e4 = 4) || false), t4, x55, x64, (takeD y.abs v.abs).2⟩ : VoR) [_] Tryz.results10 ⟨rfl, trivial⟩ rfl (fun w hw => (Subs.st inferInstance w hw : St w0 (SH q sb p lp bp (decide (e4 = 4) || false) t4 x55 x64 H) w).addPure (.inr ⟨rfl, hput, by omega, hnew, .inr ⟨s4, h49, hok4, h55, by show (decide (e4 = 4) || false) = false; rw [he40]; rfl, .inr ⟨hdn, rfl, hz.1, hz.2⟩⟩⟩))
end Go.Proofs.YtgeknnclmhfjlaaGreatDoor
