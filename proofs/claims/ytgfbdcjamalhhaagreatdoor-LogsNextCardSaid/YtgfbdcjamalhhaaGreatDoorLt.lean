/- Walks of package logs: segments are gone through. -/
import Derived.Test.YtgfbdcjamalhhaaGreatDoorLs
namespace Go.Proofs.YtgfbdcjamalhhaaGreatDoor
open Go.RowKit Go.Sx
set_option maxRecDepth 100000
set_option linter.unusedSimpArgs false
set_option linter.unusedVariables false
theorem St.datEach {w0 w : World} {H : List SA} {fp : List Nat} {ls : List BS} (h : St w0 (eachA fp ls :: H) w) : St w0 (dat fp ⟨ls, [], []⟩ :: H) w :=
  h.turn rfl fun hp => ⟨fun y hy => hp y hy, fun _ h => (by cases h), fun _ h => (by cases h), fun _ h => (by cases h)⟩
theorem recsB_split (n : Nat) (rs : List (List UInt8)) (j : Nat) (hj : j ≤ rs.length) : recsB n rs = recsB n (rs.take j) ++ recsB (n + j) (rs.drop j) := by
  have h := recsB_app (rs.take j) (rs.drop j) n
  rw [List.take_append_drop, List.length_take, Nat.min_eq_left hj] at h
  exact h
theorem recsB_next (n : Nat) (rs : List (List UInt8)) (j : Nat) (hj : j < rs.length) : (recsB n rs).drop (recsB n (rs.take j)).length = toldB (n + j) rs[j] ++ recsB (n + j + 1) (rs.drop (j + 1)) := by
  rw [recsB_split n rs j (by omega), List.drop_left, List.drop_eq_getElem_cons hj]
  rfl
theorem recsB_take (n : Nat) (rs : List (List UInt8)) (j : Nat) (hj : j < rs.length) : (recsB n (rs.take (j + 1))).length = (recsB n (rs.take j)).length + (toldB (n + j) rs[j]).length := by
  rw [List.take_add_one, List.getElem?_eq_getElem hj, recsB_app, List.length_append, List.length_take, Nat.min_eq_left (by omega)]
  simp [recsB]
theorem recsB_pos (n : Nat) (rs : List (List UInt8)) (j : Nat) (hj : j < rs.length) (hn : n + j < 18446744073709551616) (hl : rs[j].length ≤ 4294967000) : (recsB n (rs.take j)).length < (recsB n rs).length := by
  have h1 := recsB_next n rs j hj
  have h2 := congrArg List.length h1
  have h3 := (toldB_len (n + j) hn rs[j] hl).2
  rw [List.length_drop, List.length_append] at h2
  omega
/-- A log behind a segment whose records are numbered from n on. -/
def bgS (t : LS) (k : Nat) : Bool := if k = 0 then t.bg else true
def nxS (t : LS) (n k : Nat) : Nat := if k = 0 then t.nx else n + k
@[reducible] def scanT (t : LS) (n k : Nat) : LS := ⟨t.ga, t.gc, t.segs, t.siz, nxS t n k, bgS t k⟩
theorem scanT_0 (t : LS) (n : Nat) : scanT t n 0 = t := rfl
theorem scanT_step (t : LS) (n k : Nat) : (⟨(scanT t n k).ga, (scanT t n k).gc, (scanT t n k).segs, (scanT t n k).siz, n + k + 1, true⟩ : LS) = scanT t n (k + 1) := by
  unfold scanT nxS bgS
  simp
  omega
attribute [local irreducible] recsB toldB nxS bgS
set_option maxHeartbeats 1000000 in
theorem scan1_c {w0 : World} {H : List SA} {q0 q1 q2 q3 lp p : Nat} {pre : ByteArray} {t : LS} {bv : BS} [rb : RdB w0 H (.slice bv.a bv.l.length bv.c) bv.l] {at_ : Nat} {oa : Option Addr} {oc : Nat} {out : List BS} {fo : List Nat} {n : Nat} {r rest : List UInt8} (hn1 : 1 ≤ n) (hn : n ≤ 2000000) (hrl : r.length ≤ 1000) (hl : bv.l.length ≤ 100000000) (hat : at_ ≤ bv.l.length) (h : bv.l.drop at_ = toldB n r ++ rest) (hbg : t.bg = true → t.nx = n) (hnx : t.nx ≤ 2000000) (hol : out.length ≤ 1000000) :
    CT Tryz.prog w0 (blk q0 (.cells #[.slice bv.a bv.l.length bv.c] 30 (0, 0)) :: blk q1 (.cells #[.int .i64 (at_ : Int)] 3 (0, 0)) :: blk q2 (.cells #[.pointer (some ⟨lp, 0, none⟩)] 26 (0, 0)) :: blk q3 (.cells #[.slice oa (out).length oc] 22 (0, 0)) :: row (.slice oa (out).length oc) 30 1 ((out).map BS.val) :: eachA fo out :: lblk lp p pre t :: H) 88 [.pointer (some ⟨q0, 0, none⟩), .pointer (some ⟨q1, 0, none⟩), .pointer (some ⟨q2, 0, none⟩), .pointer (some ⟨q3, 0, none⟩)] (α := AC × BS × List Nat) (fun _ => .bool true) (fun y => pu (y.2.1.l = r) :: blk q0 (.cells #[.slice bv.a bv.l.length bv.c] 30 (0, 0)) :: blk q1 (.cells #[.int .i64 ((at_ + (toldB n r).length : Nat) : Int)] 3 (0, 0)) :: blk q2 (.cells #[.pointer (some ⟨lp, 0, none⟩)] 26 (0, 0)) :: blk q3 (.cells #[.slice y.1.a (out ++ [y.2.1]).length y.1.c] 22 (0, 0)) :: row (.slice y.1.a (out ++ [y.2.1]).length y.1.c) 30 1 ((out ++ [y.2.1]).map BS.val) :: eachA y.2.2 (out ++ [y.2.1]) :: lblk lp p pre (⟨t.ga, t.gc, t.segs, t.siz, n + 1, true⟩ : LS) :: H) := by
  refine CT_intro Tryz.func88 rfl Tryz.ntmps88 rfl ?_
  refine T_seq ?_
  refine T_region ?_
  refine TL_q (Qt_assign (.bool _) rfl) rfl ?_
  refine TL_nil ?_
  refine X_then ?_
  refine T_seq ?_
  refine T_region ?_
  refine TL_q (Qt_load1 rfl) rfl ?_
  refine TL_q (Qt_load1 rfl) rfl ?_
  refine TL_q (Qt_sliceB_l at_ rfl rfl (by omega)) rfl ?_
  refine TL_e rfl (Ef_call (read_c (n := n) (by omega) (r := r) (rest := rest) (by omega) (l := bv.l.drop at_) (by rw [List.length_drop]; omega) h) rfl (fun x13 => ?_))
  have htl := toldB_len n (by omega) r (by omega)
  have hdl : (toldB n r).length + rest.length = bv.l.length - at_ := by rw [← List.length_append, ← h, List.length_drop]
  refine TL_q (Qt_move (.tuple _) rfl) rfl ?_
  refine TL_q (Qt_extract rfl) rfl ?_
  refine TL_q (Qt_extract rfl) rfl ?_
  refine TL_q (Qt_extract rfl) rfl ?_
  refine TL_q (Qt_extract rfl) rfl ?_
  refine TL_q (Qt_assign (.int .u64 _) rfl) rfl ?_
  refine TL_q (Qt_assign (.slice _ _ _) rfl) rfl ?_
  refine TL_q (Qt_assign (.int .i64 _) rfl) rfl ?_
  refine TL_q (Qt_assign (.bool _) rfl) rfl ?_
  refine TL_nil ?_
  refine X_then ?_
  refine T_seq ?_
  refine T_seq ?_
  refine T_region ?_
  refine TL_q (Qt_move (.bool _) rfl) rfl ?_
  refine TL_q (Qt_not rfl) rfl ?_
  refine TL_q (Qt_move (.bool _) rfl) rfl ?_
  refine TL_split 20 rfl (fun h20 => ?_) (fun h20 => ?_)
  ·
    have p20 := h20
    try simp only [decide_eq_true_eq, decide_eq_false_iff_not, Bool.not_eq_true', Bool.not_eq_false', Option.isNone_iff_eq_none, ne_eq, Decidable.not_not, Int.not_lt, Int.not_le] at p20
    exact absurd h20 (by decide)
  ·
    have p20 := h20
    try simp only [decide_eq_true_eq, decide_eq_false_iff_not, Bool.not_eq_true', Bool.not_eq_false', Option.isNone_iff_eq_none, ne_eq, Decidable.not_not, Int.not_lt, Int.not_le] at p20
    refine TL_take rfl rfl h20 ?_
    refine TL_q (Qt_load1 rfl) rfl ?_
    refine TL_take rfl rfl h20 ?_
    refine TL_q (Qt_nilCheck rfl) rfl ?_
    refine TL_take rfl rfl h20 ?_
    refine TL_q (Qt_fieldAddr 5 rfl rfl) rfl ?_
    refine TL_take rfl rfl h20 ?_
    refine TL_q (Qt_load1 rfl) rfl ?_
    refine TL_take rfl rfl h20 ?_
    refine TL_q (Qt_move (.bool _) rfl) rfl ?_
    refine TL_split 25 rfl (fun h25 => ?_) (fun h25 => ?_)
    ·
      have p25 := h25
      try simp only [decide_eq_true_eq, decide_eq_false_iff_not, Bool.not_eq_true', Bool.not_eq_false', Option.isNone_iff_eq_none, ne_eq, Decidable.not_not, Int.not_lt, Int.not_le] at p25
      refine TL_take rfl rfl h25 ?_
      refine TL_q (Qt_move (.int .u64 _) rfl) rfl ?_
      refine TL_take rfl rfl h25 ?_
      refine TL_q (Qt_load1 rfl) rfl ?_
      refine TL_take rfl rfl h25 ?_
      refine TL_q (Qt_nilCheck rfl) rfl ?_
      refine TL_take rfl rfl h25 ?_
      refine TL_q (Qt_fieldAddr 4 rfl rfl) rfl ?_
      refine TL_take rfl rfl h25 ?_
      refine TL_q (Qt_load1 rfl) rfl ?_
      refine TL_take rfl rfl h25 ?_
      refine TL_q (Qt_neq rfl rfl) rfl ?_
      refine TL_take rfl rfl h20 ?_
      refine TL_q (Qt_pick_t (.bool _) rfl h25 rfl) rfl ?_
      refine TL_q (Qt_pick_f (.bool _) rfl h20 rfl) rfl ?_
      refine TL_q (Qt_move (.bool _) rfl) rfl ?_
      refine TL_split 34 rfl (fun h34 => ?_) (fun h34 => ?_)
      ·
        have p34 := h34
        try simp only [decide_eq_true_eq, decide_eq_false_iff_not, Bool.not_eq_true', Bool.not_eq_false', Option.isNone_iff_eq_none, ne_eq, Decidable.not_not, Int.not_lt, Int.not_le] at p34
        exact absurd h34 (by first | decide | (rw [hbg h25]; simp))
      ·
        have p34 := h34
        try simp only [decide_eq_true_eq, decide_eq_false_iff_not, Bool.not_eq_true', Bool.not_eq_false', Option.isNone_iff_eq_none, ne_eq, Decidable.not_not, Int.not_lt, Int.not_le] at p34
        refine TL_take rfl rfl h34 ?_
        refine TL_q (Qt_move (.int .u64 _) rfl) rfl ?_
        refine TL_take rfl rfl h34 ?_
        refine TL_q (Qt_eql rfl rfl) rfl ?_
        refine TL_q (Qt_pick_f (.bool _) rfl h34 rfl) rfl ?_
        refine TL_q (Qt_move (.bool _) rfl) rfl ?_
        refine TL_split 38 rfl (fun h38 => ?_) (fun h38 => ?_)
        ·
          have p38 := h38
          try simp only [decide_eq_true_eq, decide_eq_false_iff_not, Bool.not_eq_true', Bool.not_eq_false', Option.isNone_iff_eq_none, ne_eq, Decidable.not_not, Int.not_lt, Int.not_le] at p38
          exact absurd h38 (by simp; omega)
        ·
          have p38 := h38
          try simp only [decide_eq_true_eq, decide_eq_false_iff_not, Bool.not_eq_true', Bool.not_eq_false', Option.isNone_iff_eq_none, ne_eq, Decidable.not_not, Int.not_lt, Int.not_le] at p38
          refine TL_take rfl rfl h38 ?_
          refine TL_q (Qt_move (.int .u64 _) rfl) rfl ?_
          refine TL_take rfl rfl h38 ?_
          refine TL_q (Qt_eql rfl rfl) rfl ?_
          refine TL_q (Qt_pick_f (.bool _) rfl h38 rfl) rfl ?_
          refine TL_nil ?_
          refine X_then ?_
          refine T_cond rfl (fun h41 => ?_) (fun h41 => ?_)
          ·
            have p41 := h41
            try simp only [decide_eq_true_eq, decide_eq_false_iff_not, Bool.not_eq_true', Bool.not_eq_false', Option.isNone_iff_eq_none, ne_eq, Decidable.not_not, Int.not_lt, Int.not_le] at p41
            exact absurd h41 (by simp; omega)
          ·
            have p41 := h41
            try simp only [decide_eq_true_eq, decide_eq_false_iff_not, Bool.not_eq_true', Bool.not_eq_false', Option.isNone_iff_eq_none, ne_eq, Decidable.not_not, Int.not_lt, Int.not_le] at p41
            refine T_skip ?_
            refine X_then ?_
            refine T_seq ?_
            refine T_region ?_
            refine TL_q (Qt_load1 rfl) rfl ?_
            refine TL_q (Qt_move (.slice _ _ _) rfl) rfl ?_
            refine TL_e rfl (Ef_slice1 (v := .slice _ _ _) rfl (fun a44 c44 => ?_))
            refine TL_e rfl (Ef_appendP (sv := .slice _ _ _) (xv := .slice _ _ _) (⟨x13.a, x13.c, r⟩ : BS) rfl rfl (by omega) rfl (fun a45 c45 => ?_))
            refine TL_n (Ef_store1 (.slice _ _ _) rfl rfl (?_))
            refine TL_nil ?_
            refine X_then ?_
            refine T_seq ?_
            refine T_region ?_
            refine TL_q (Qt_load1 rfl) rfl ?_
            refine TL_q (Qt_move (.int .i64 _) rfl) rfl ?_
            first
              | refine TL_q (Qt_add rfl rfl (by omega) (by omega)) rfl ?_
              | refine TL_q (Qt_addw rfl rfl) rfl ?_
            rw [show (at_ : Int) + ((toldB n r).length : Int) = ((at_ + (toldB n r).length : Nat) : Int) from rfl]
            refine TL_n (Ef_store1 (.int .i64 _) rfl rfl (?_))
            refine TL_nil ?_
            refine X_then ?_
            refine T_seq ?_
            refine T_drawF (blk q2 (.cells #[.pointer (some ⟨lp, 0, none⟩)] 26 (0, 0)) :: H) (by kernel_rfl) (Subs.st inferInstance) ?_
            refine DLF_q (i := 0) (by kernel_rfl) rfl (by kernel_rfl) (by kernel_rfl) (Qt_load1 rfl) rfl ?_
            refine DLF_q (i := 1) (by kernel_rfl) rfl (by kernel_rfl) (by kernel_rfl) (Qt_load1 rfl) rfl ?_
            refine DLF_q (i := 2) (by kernel_rfl) rfl (by kernel_rfl) (by kernel_rfl) (Qt_move (.int .u64 _) rfl) rfl ?_
            refine DLF_q (i := 3) (by kernel_rfl) rfl (by kernel_rfl) (by kernel_rfl) (Qt_val (Qt_addw rfl rfl) (congrArg (Value.int .u64) (show IntKind.u64.wrap ((n : Int) + 1) = ((n + 1 : Nat) : Int) from wrap_u64 (by omega) (by omega)))) rfl ?_
            refine DLF_q (i := 4) (by kernel_rfl) rfl (by kernel_rfl) (by kernel_rfl) (Qt_nilCheck rfl) rfl ?_
            refine DLF_q (i := 5) (by kernel_rfl) rfl (by kernel_rfl) (by kernel_rfl) (Qt_fieldAddr 4 rfl rfl) rfl ?_
            refine DLF_1 (i := 6) (by kernel_rfl) ?_
            refine DLS_n rfl (Ef_store1 (.int .u64 _) rfl rfl (⟨(Subs.st inferInstance), ?_⟩))
            refine DLF_q (i := 7) (by kernel_rfl) rfl (by kernel_rfl) (by kernel_rfl) (Qt_nilCheck rfl) rfl ?_
            refine DLF_q (i := 8) (by kernel_rfl) rfl (by kernel_rfl) (by kernel_rfl) (Qt_fieldAddr 5 rfl rfl) rfl ?_
            refine DLF_1 (i := 9) (by kernel_rfl) ?_
            refine DLS_n rfl (Ef_store1 (.bool _) rfl rfl (⟨(Subs.st inferInstance), ?_⟩))
            refine DLF_nil (by kernel_rfl) ?_
            refine X_then ?_
            refine T_seq ?_
            refine T_region ?_
            refine TL_q (Qt_assign (.bool _) rfl) rfl ?_
            refine TL_nil ?_
            refine X_then ?_
            refine T_ret ?_
            exact X_ret (⟨a45, c45⟩, (⟨x13.a, x13.c, r⟩ : BS), rowFp (.slice x13.a r.length x13.c) ++ fo) [_] Tryz.results88 ⟨rfl, trivial⟩ rfl (fun w hw => by
              have h1 : St w0 (row (BS.val (⟨x13.a, x13.c, r⟩ : BS)) 5 1 (bytesV (BS.l (⟨x13.a, x13.c, r⟩ : BS))) :: eachA fo out :: blk q0 (.cells #[.slice bv.a bv.l.length bv.c] 30 (0, 0)) :: blk q1 (.cells #[.int .i64 ((at_ + (toldB n r).length : Nat) : Int)] 3 (0, 0)) :: blk q2 (.cells #[.pointer (some ⟨lp, 0, none⟩)] 26 (0, 0)) :: blk q3 (.cells #[.slice a45 (out ++ [(⟨x13.a, x13.c, r⟩ : BS)]).length c45] 22 (0, 0)) :: row (.slice a45 (out ++ [(⟨x13.a, x13.c, r⟩ : BS)]).length c45) 30 1 ((out ++ [(⟨x13.a, x13.c, r⟩ : BS)]).map BS.val) :: lblk lp p pre (⟨t.ga, t.gc, t.segs, t.siz, n + 1, true⟩ : LS) :: H) w := Subs.st inferInstance w hw
              have h2 := h1.eachAdd
              exact (Subs.st inferInstance w h2 : St w0 (blk q0 (.cells #[.slice bv.a bv.l.length bv.c] 30 (0, 0)) :: blk q1 (.cells #[.int .i64 ((at_ + (toldB n r).length : Nat) : Int)] 3 (0, 0)) :: blk q2 (.cells #[.pointer (some ⟨lp, 0, none⟩)] 26 (0, 0)) :: blk q3 (.cells #[.slice a45 (out ++ [(⟨x13.a, x13.c, r⟩ : BS)]).length c45] 22 (0, 0)) :: row (.slice a45 (out ++ [(⟨x13.a, x13.c, r⟩ : BS)]).length c45) 30 1 ((out ++ [(⟨x13.a, x13.c, r⟩ : BS)]).map BS.val) :: eachA (rowFp (.slice x13.a r.length x13.c) ++ fo) (out ++ [(⟨x13.a, x13.c, r⟩ : BS)]) :: lblk lp p pre (⟨t.ga, t.gc, t.segs, t.siz, n + 1, true⟩ : LS) :: H) w).addPure rfl)
    ·
      have p25 := h25
      try simp only [decide_eq_true_eq, decide_eq_false_iff_not, Bool.not_eq_true', Bool.not_eq_false', Option.isNone_iff_eq_none, ne_eq, Decidable.not_not, Int.not_lt, Int.not_le] at p25
      refine TL_pass rfl rfl h25 rfl ?_
      refine TL_pass rfl rfl h25 rfl ?_
      refine TL_pass rfl rfl h25 rfl ?_
      refine TL_pass rfl rfl h25 rfl ?_
      refine TL_pass rfl rfl h25 rfl ?_
      refine TL_pass rfl rfl h25 rfl ?_
      refine TL_take rfl rfl h20 ?_
      refine TL_q (Qt_pick_f (.bool _) rfl h25 rfl) rfl ?_
      refine TL_q (Qt_pick_f (.bool _) rfl h20 rfl) rfl ?_
      refine TL_q (Qt_move (.bool _) rfl) rfl ?_
      refine TL_take rfl rfl rfl ?_
      refine TL_q (Qt_move (.int .u64 _) rfl) rfl ?_
      refine TL_take rfl rfl rfl ?_
      refine TL_q (Qt_eql rfl rfl) rfl ?_
      refine TL_q (Qt_pick_f (.bool _) rfl rfl rfl) rfl ?_
      refine TL_q (Qt_move (.bool _) rfl) rfl ?_
      refine TL_split 38 rfl (fun h38 => ?_) (fun h38 => ?_)
      ·
        have p38 := h38
        try simp only [decide_eq_true_eq, decide_eq_false_iff_not, Bool.not_eq_true', Bool.not_eq_false', Option.isNone_iff_eq_none, ne_eq, Decidable.not_not, Int.not_lt, Int.not_le] at p38
        exact absurd h38 (by simp; omega)
      ·
        have p38 := h38
        try simp only [decide_eq_true_eq, decide_eq_false_iff_not, Bool.not_eq_true', Bool.not_eq_false', Option.isNone_iff_eq_none, ne_eq, Decidable.not_not, Int.not_lt, Int.not_le] at p38
        refine TL_take rfl rfl h38 ?_
        refine TL_q (Qt_move (.int .u64 _) rfl) rfl ?_
        refine TL_take rfl rfl h38 ?_
        refine TL_q (Qt_eql rfl rfl) rfl ?_
        refine TL_q (Qt_pick_f (.bool _) rfl h38 rfl) rfl ?_
        refine TL_nil ?_
        refine X_then ?_
        refine T_cond rfl (fun h41 => ?_) (fun h41 => ?_)
        ·
          have p41 := h41
          try simp only [decide_eq_true_eq, decide_eq_false_iff_not, Bool.not_eq_true', Bool.not_eq_false', Option.isNone_iff_eq_none, ne_eq, Decidable.not_not, Int.not_lt, Int.not_le] at p41
          exact absurd h41 (by simp; omega)
        ·
          have p41 := h41
          try simp only [decide_eq_true_eq, decide_eq_false_iff_not, Bool.not_eq_true', Bool.not_eq_false', Option.isNone_iff_eq_none, ne_eq, Decidable.not_not, Int.not_lt, Int.not_le] at p41
          refine T_skip ?_
          refine X_then ?_
          refine T_seq ?_
          refine T_region ?_
          refine TL_q (Qt_load1 rfl) rfl ?_
          refine TL_q (Qt_move (.slice _ _ _) rfl) rfl ?_
          refine TL_e rfl (Ef_slice1 (v := .slice _ _ _) rfl (fun a44 c44 => ?_))
          refine TL_e rfl (Ef_appendP (sv := .slice _ _ _) (xv := .slice _ _ _) (⟨x13.a, x13.c, r⟩ : BS) rfl rfl (by omega) rfl (fun a45 c45 => ?_))
          refine TL_n (Ef_store1 (.slice _ _ _) rfl rfl (?_))
          refine TL_nil ?_
          refine X_then ?_
          refine T_seq ?_
          refine T_region ?_
          refine TL_q (Qt_load1 rfl) rfl ?_
          refine TL_q (Qt_move (.int .i64 _) rfl) rfl ?_
          first
            | refine TL_q (Qt_add rfl rfl (by omega) (by omega)) rfl ?_
            | refine TL_q (Qt_addw rfl rfl) rfl ?_
          rw [show (at_ : Int) + ((toldB n r).length : Int) = ((at_ + (toldB n r).length : Nat) : Int) from rfl]
          refine TL_n (Ef_store1 (.int .i64 _) rfl rfl (?_))
          refine TL_nil ?_
          refine X_then ?_
          refine T_seq ?_
          refine T_drawF (blk q2 (.cells #[.pointer (some ⟨lp, 0, none⟩)] 26 (0, 0)) :: H) (by kernel_rfl) (Subs.st inferInstance) ?_
          refine DLF_q (i := 0) (by kernel_rfl) rfl (by kernel_rfl) (by kernel_rfl) (Qt_load1 rfl) rfl ?_
          refine DLF_q (i := 1) (by kernel_rfl) rfl (by kernel_rfl) (by kernel_rfl) (Qt_load1 rfl) rfl ?_
          refine DLF_q (i := 2) (by kernel_rfl) rfl (by kernel_rfl) (by kernel_rfl) (Qt_move (.int .u64 _) rfl) rfl ?_
          refine DLF_q (i := 3) (by kernel_rfl) rfl (by kernel_rfl) (by kernel_rfl) (Qt_val (Qt_addw rfl rfl) (congrArg (Value.int .u64) (show IntKind.u64.wrap ((n : Int) + 1) = ((n + 1 : Nat) : Int) from wrap_u64 (by omega) (by omega)))) rfl ?_
          refine DLF_q (i := 4) (by kernel_rfl) rfl (by kernel_rfl) (by kernel_rfl) (Qt_nilCheck rfl) rfl ?_
          refine DLF_q (i := 5) (by kernel_rfl) rfl (by kernel_rfl) (by kernel_rfl) (Qt_fieldAddr 4 rfl rfl) rfl ?_
          refine DLF_1 (i := 6) (by kernel_rfl) ?_
          refine DLS_n rfl (Ef_store1 (.int .u64 _) rfl rfl (⟨(Subs.st inferInstance), ?_⟩))
          refine DLF_q (i := 7) (by kernel_rfl) rfl (by kernel_rfl) (by kernel_rfl) (Qt_nilCheck rfl) rfl ?_
          refine DLF_q (i := 8) (by kernel_rfl) rfl (by kernel_rfl) (by kernel_rfl) (Qt_fieldAddr 5 rfl rfl) rfl ?_
          refine DLF_1 (i := 9) (by kernel_rfl) ?_
          refine DLS_n rfl (Ef_store1 (.bool _) rfl rfl (⟨(Subs.st inferInstance), ?_⟩))
          refine DLF_nil (by kernel_rfl) ?_
          refine X_then ?_
          refine T_seq ?_
          refine T_region ?_
          refine TL_q (Qt_assign (.bool _) rfl) rfl ?_
          refine TL_nil ?_
          refine X_then ?_
          refine T_ret ?_
          exact X_ret (⟨a45, c45⟩, (⟨x13.a, x13.c, r⟩ : BS), rowFp (.slice x13.a r.length x13.c) ++ fo) [_] Tryz.results88 ⟨rfl, trivial⟩ rfl (fun w hw => by
            have h1 : St w0 (row (BS.val (⟨x13.a, x13.c, r⟩ : BS)) 5 1 (bytesV (BS.l (⟨x13.a, x13.c, r⟩ : BS))) :: eachA fo out :: blk q0 (.cells #[.slice bv.a bv.l.length bv.c] 30 (0, 0)) :: blk q1 (.cells #[.int .i64 ((at_ + (toldB n r).length : Nat) : Int)] 3 (0, 0)) :: blk q2 (.cells #[.pointer (some ⟨lp, 0, none⟩)] 26 (0, 0)) :: blk q3 (.cells #[.slice a45 (out ++ [(⟨x13.a, x13.c, r⟩ : BS)]).length c45] 22 (0, 0)) :: row (.slice a45 (out ++ [(⟨x13.a, x13.c, r⟩ : BS)]).length c45) 30 1 ((out ++ [(⟨x13.a, x13.c, r⟩ : BS)]).map BS.val) :: lblk lp p pre (⟨t.ga, t.gc, t.segs, t.siz, n + 1, true⟩ : LS) :: H) w := Subs.st inferInstance w hw
            have h2 := h1.eachAdd
            exact (Subs.st inferInstance w h2 : St w0 (blk q0 (.cells #[.slice bv.a bv.l.length bv.c] 30 (0, 0)) :: blk q1 (.cells #[.int .i64 ((at_ + (toldB n r).length : Nat) : Int)] 3 (0, 0)) :: blk q2 (.cells #[.pointer (some ⟨lp, 0, none⟩)] 26 (0, 0)) :: blk q3 (.cells #[.slice a45 (out ++ [(⟨x13.a, x13.c, r⟩ : BS)]).length c45] 22 (0, 0)) :: row (.slice a45 (out ++ [(⟨x13.a, x13.c, r⟩ : BS)]).length c45) 30 1 ((out ++ [(⟨x13.a, x13.c, r⟩ : BS)]).map BS.val) :: eachA (rowFp (.slice x13.a r.length x13.c) ++ fo) (out ++ [(⟨x13.a, x13.c, r⟩ : BS)]) :: lblk lp p pre (⟨t.ga, t.gc, t.segs, t.siz, n + 1, true⟩ : LS) :: H) w).addPure rfl)
theorem scan_bg (t : LS) (n k : Nat) (recs : List (List UInt8)) (hk : k < recs.length) (h : recs ≠ [] → t.bg = true → t.nx = n) : (scanT t n k).bg = true → (scanT t n k).nx = n + k := by
  show bgS t k = true → nxS t n k = n + k
  unfold bgS nxS
  by_cases h0 : k = 0
  · subst h0
    rw [if_pos rfl, if_pos rfl]
    exact fun hb => h (by intro he; rw [he] at hk; simp at hk) hb
  · rw [if_neg h0, if_neg h0]; exact fun _ => rfl
theorem scan_start {w0 w : World} {H : List SA} {b2 b3 b6 b7 lp p : Nat} {pre : ByteArray} {t : LS} {b : BS} {n0 : Nat} {recs : List (List UInt8)}
    (hw : St w0 (blk b3 (.cells #[.slice b.a b.l.length b.c] 30 (0, 0)) :: blk b7 (.cells #[.int .i64 0] 3 (0, 0)) :: blk b2 (.cells #[.pointer (some ⟨lp, 0, none⟩)] 26 (0, 0)) :: blk b6 (.cells #[.slice none 0 0] 22 (0, 0)) :: lblk lp p pre t :: H) w) :
    St w0 (blk b3 (.cells #[.slice b.a b.l.length b.c] 30 (0, 0)) :: blk b7 (.cells #[.int .i64 (((recsB n0 (recs.take 0)).length : Nat) : Int)] 3 (0, 0)) :: blk b2 (.cells #[.pointer (some ⟨lp, 0, none⟩)] 26 (0, 0)) :: blk b6 (.cells #[.slice none ([] : List BS).length 0] 22 (0, 0)) :: row (.slice none ([] : List BS).length 0) 30 1 (([] : List BS).map BS.val) :: eachA [] ([] : List BS) :: lblk lp p pre (scanT t n0 0) :: H) w := by
  have e1 : scanT t n0 0 = t := scanT_0 t n0
  have e2 : (recsB n0 (recs.take 0)).length = 0 := by rw [recs0]; rfl
  rw [e1, e2]
  have h1 := (hw.eachNil).addNil 30 1
  exact Subs.st (H := row (.slice none 0 0) 30 1 [] :: eachA [] [] :: blk b3 (.cells #[.slice b.a b.l.length b.c] 30 (0, 0)) :: blk b7 (.cells #[.int .i64 0] 3 (0, 0)) :: blk b2 (.cells #[.pointer (some ⟨lp, 0, none⟩)] 26 (0, 0)) :: blk b6 (.cells #[.slice none 0 0] 22 (0, 0)) :: lblk lp p pre t :: H) (H' := blk b3 (.cells #[.slice b.a b.l.length b.c] 30 (0, 0)) :: blk b7 (.cells #[.int .i64 0] 3 (0, 0)) :: blk b2 (.cells #[.pointer (some ⟨lp, 0, none⟩)] 26 (0, 0)) :: blk b6 (.cells #[.slice none 0 0] 22 (0, 0)) :: row (.slice none 0 0) 30 1 [] :: eachA [] [] :: lblk lp p pre t :: H) inferInstance w h1
set_option maxHeartbeats 1000000 in
theorem scan_c {w0 : World} {H : List SA} {lp p : Nat} {pre : ByteArray} {t : LS} {b : BS} [rb : RdB w0 H (.slice b.a b.l.length b.c) b.l] {n0 : Nat} {recs : List (List UInt8)} (hb : b.l = recsB n0 recs) (hbl : b.l.length ≤ 100000000) (hn1 : 1 ≤ n0) (hn2 : n0 + recs.length ≤ 1000000) (hbg : recs ≠ [] → t.bg = true → t.nx = n0) (hnx : t.nx ≤ 1000000) (hrl : ∀ l ∈ recs, l.length ≤ 1000) :
    CT Tryz.prog w0 (lblk lp p pre t :: H) 39 [.pointer (some ⟨lp, 0, none⟩), .slice b.a b.l.length b.c] (α := AC × List BS × List Nat) (fun y => .tuple #[.slice y.1.a y.2.1.length y.1.c, .int .i64 (b.l.length : Int)]) (fun y => pu (y.2.1.map BS.l = recs) :: row (.slice y.1.a (y.2.1).length y.1.c) 30 1 ((y.2.1).map BS.val) :: dat y.2.2 ⟨y.2.1, [], []⟩ :: lblk lp p pre (scanT t n0 recs.length) :: H) := by
  refine CT_intro Tryz.func39 rfl Tryz.ntmps39 rfl ?_
  refine T_seq ?_
  refine T_region ?_
  refine TL_e rfl (Ef_box1 (.pointer _) rfl (fun b2 => ?_))
  refine TL_e rfl (Ef_box1 (.slice _ _ _) rfl (fun b3 => ?_))
  refine TL_q (Qt_assign (.slice _ _ _) rfl) rfl ?_
  refine TL_q (Qt_assign (.int .i64 _) rfl) rfl ?_
  refine TL_nil ?_
  refine X_then ?_
  refine T_seq ?_
  refine T_region ?_
  refine TL_e rfl (Ef_alloc1 (fun b6 => ?_))
  refine TL_nil ?_
  refine X_then ?_
  refine T_seq ?_
  refine T_region ?_
  refine TL_e rfl (Ef_alloc1 (fun b7 => ?_))
  refine TL_n (Ef_store1 (.int .i64 _) rfl rfl (?_))
  refine TL_nil ?_
  refine X_then ?_
  refine T_seq ?_
  refine T_region ?_
  refine TL_q (Qt_makeFunc (args := [.pointer _, .pointer _, .pointer _, .pointer _]) rfl) rfl ?_
  refine TL_q (Qt_assign _ rfl) rfl ?_
  refine TL_nil ?_
  refine X_then ?_
  refine T_seq ?_
  refine T_block ?_
  refine T_loopg (m0 := recs.length) [10, 11, 12, 13, 14, 15, 16, 17] [] (fun us H' m => ∃ (j : Nat) (oa : Option Addr) (oc : Nat) (out : List BS) (fo : List Nat), us = [] ∧ blk b3 (.cells #[.slice b.a b.l.length b.c] 30 (0, 0)) :: blk b7 (.cells #[.int .i64 (((recsB n0 (recs.take j)).length : Nat) : Int)] 3 (0, 0)) :: blk b2 (.cells #[.pointer (some ⟨lp, 0, none⟩)] 26 (0, 0)) :: blk b6 (.cells #[.slice oa (out).length oc] 22 (0, 0)) :: row (.slice oa (out).length oc) 30 1 ((out).map BS.val) :: eachA fo out :: lblk lp p pre (scanT t n0 j) :: H = H' ∧ m = recs.length - j ∧ j ≤ recs.length ∧ out.map BS.l = recs.take j) ⟨0, none, 0, [], [], rfl, rfl, rfl, by omega, by simp⟩ (fun w hw => scan_start (Subs.st inferInstance w hw)) ?_
  rintro τ0 _ _ m ⟨j, oa, oc, out, fo, rfl, rfl, rfl, hjle, hout⟩ _
  refine T_seq ?_
  refine T_seq ?_
  refine T_region ?_
  refine TL_q (Qt_load1 rfl) rfl ?_
  refine TL_q (Qt_load1 rfl) rfl ?_
  refine TL_q (Qt_len_slice rfl Tryz.underlying30) rfl ?_
  refine TL_q (Qt_lss rfl rfl) rfl ?_
  refine TL_q (Qt_move (.bool _) rfl) rfl ?_
  refine TL_split 14 rfl (fun h14 => ?_) (fun h14 => ?_)
  ·
    have p14 := h14
    try simp only [decide_eq_true_eq, decide_eq_false_iff_not, Bool.not_eq_true', Bool.not_eq_false', Option.isNone_iff_eq_none, ne_eq, Decidable.not_not, Int.not_lt, Int.not_le] at p14
    have hj : j < recs.length := by
      rcases Nat.lt_or_ge j recs.length with h | h
      · exact h
      · rw [List.take_of_length_le h, ← hb] at p14; omega
    have hlt := recsB_pos n0 recs j hj (by omega) (by have := hrl _ (List.getElem_mem hj); omega)
    rw [← hb] at hlt
    have hbj : (scanT t n0 j).bg = true → (scanT t n0 j).nx = n0 + j := scan_bg t n0 j recs hj hbg
    have hnj : (scanT t n0 j).nx ≤ 2000000 := by show nxS t n0 j ≤ _; unfold nxS; split <;> omega
    have hol : out.length ≤ 1000000 := by have h := congrArg List.length hout; rw [List.length_map, List.length_take] at h; omega
    refine TL_take rfl rfl h14 ?_
    refine TL_q (Qt_move _ rfl) rfl ?_
    refine TL_conv (fun w hw => (Subs.st inferInstance w hw : St w0 (blk b3 (.cells #[.slice b.a b.l.length b.c] 30 (0, 0)) :: blk b7 (.cells #[.int .i64 (((recsB n0 (recs.take j)).length : Nat) : Int)] 3 (0, 0)) :: blk b2 (.cells #[.pointer (some ⟨lp, 0, none⟩)] 26 (0, 0)) :: blk b6 (.cells #[.slice oa (out).length oc] 22 (0, 0)) :: row (.slice oa (out).length oc) 30 1 ((out).map BS.val) :: eachA fo out :: lblk lp p pre (scanT t n0 j) :: H) w)) ?_
    refine TL_take rfl rfl h14 ?_
    refine TL_e rfl (Ef_callF (argv := []) (caps := [_, _, _, _]) (scan1_c (q0 := b3) (q1 := b7) (q2 := b2) (q3 := b6) (t := scanT t n0 j) (bv := b) (at_ := (recsB n0 (recs.take j)).length) (out := out) (fo := fo) (n := n0 + j) (r := recs[j]) (rest := recsB (n0 + j + 1) (recs.drop (j + 1))) (by omega) (by omega) (hrl _ (List.getElem_mem hj)) (by omega) (by omega) (by rw [hb]; exact recsB_next n0 recs j hj) hbj hnj (by omega)) rfl rfl (fun x16 => ?_))
    refine TL_pure (fun h16 => ?_)
    rw [← recsB_take n0 recs j hj, scanT_step]
    refine TL_q (Qt_pick_t (.bool _) rfl h14 rfl) rfl ?_
    refine TL_nil ?_
    refine X_then ?_
    refine T_cond rfl (fun h17 => ?_) (fun h17 => ?_)
    ·
      have p17 := h17
      try simp only [decide_eq_true_eq, decide_eq_false_iff_not, Bool.not_eq_true', Bool.not_eq_false', Option.isNone_iff_eq_none, ne_eq, Decidable.not_not, Int.not_lt, Int.not_le] at p17
      refine T_skip ?_
      refine X_then ?_
      refine T_block ?_
      refine T_skip ?_
      refine X_block ?_
      refine X_loopg _ (by repeat (first | with_reducible exact agree_refl | refine agree_upd rfl ?_ | refine agree_mix rfl ?_ | refine agree_setAll rfl ?_)) (⟨j + 1, x16.1.a, x16.1.c, out ++ [x16.2.1], x16.2.2, rfl, rfl, rfl, by omega, by rw [List.map_append, hout, List.take_add_one, List.getElem?_eq_getElem hj]; simp [h16]⟩) (by omega) ((Subs.st inferInstance))
    ·
      have p17 := h17
      try simp only [decide_eq_true_eq, decide_eq_false_iff_not, Bool.not_eq_true', Bool.not_eq_false', Option.isNone_iff_eq_none, ne_eq, Decidable.not_not, Int.not_lt, Int.not_le] at p17
      exact absurd h17 (by decide)
  ·
    have p14 := h14
    try simp only [decide_eq_true_eq, decide_eq_false_iff_not, Bool.not_eq_true', Bool.not_eq_false', Option.isNone_iff_eq_none, ne_eq, Decidable.not_not, Int.not_lt, Int.not_le] at p14
    have hjn : j = recs.length := by
      rcases Nat.lt_or_ge j recs.length with h | h
      · have hlt := recsB_pos n0 recs j h (by omega) (by have := hrl _ (List.getElem_mem h); omega)
        rw [← hb] at hlt; omega
      · omega
    refine TL_pass rfl rfl h14 rfl ?_
    refine TL_conv (fun w hw => (Subs.st inferInstance w hw : St w0 (blk b3 (.cells #[.slice b.a b.l.length b.c] 30 (0, 0)) :: blk b7 (.cells #[.int .i64 (((recsB n0 (recs.take j)).length : Nat) : Int)] 3 (0, 0)) :: blk b2 (.cells #[.pointer (some ⟨lp, 0, none⟩)] 26 (0, 0)) :: blk b6 (.cells #[.slice oa (out).length oc] 22 (0, 0)) :: row (.slice oa (out).length oc) 30 1 ((out).map BS.val) :: eachA fo out :: lblk lp p pre (scanT t n0 j) :: H) w)) ?_
    refine TL_pass rfl rfl h14 rfl ?_
    refine TL_q (Qt_pick_f (.bool _) rfl h14 rfl) rfl ?_
    refine TL_nil ?_
    refine X_then ?_
    refine T_cond_false rfl rfl ?_
    refine T_exit ?_
    refine X_then_exit ?_
    refine X_loopg_exit ?_
    refine X_block_exit ?_
    refine X_then ?_
    refine T_seq ?_
    refine T_draw _ [(0, true), (1, true), (2, true), (3, true)] (by kernel_rfl) (by kernel_rfl) rfl (by kernel_rfl) (fun _ hh => hh) (fun hns0 => ?_)
    refine DL_q hns0 rfl (Qt_load1 rfl) rfl ?_
    refine DL_q hns0 rfl (Qt_load1 rfl) rfl ?_
    refine DL_q hns0 rfl (Qt_assign (.slice _ _ _) rfl) rfl ?_
    refine DL_q hns0 rfl (Qt_assign (.int .i64 _) rfl) rfl ?_
    refine DL_nil ?_
    refine X_then ?_
    refine T_ret ?_
    subst hjn
    exact X_ret (⟨oa, oc⟩, out, fo) [_, _] Tryz.results39 ⟨rfl, rfl, trivial⟩ (by rw [List.take_length, ← hb]; rfl) (fun w hw => by
      have h1 : St w0 (eachA fo out :: row (.slice oa (out).length oc) 30 1 ((out).map BS.val) :: lblk lp p pre (scanT t n0 recs.length) :: H) w := Subs.st inferInstance w hw
      exact (Subs.st inferInstance w (St.datEach h1) : St w0 (row (.slice oa (out).length oc) 30 1 ((out).map BS.val) :: dat fo ⟨out, [], []⟩ :: lblk lp p pre (scanT t n0 recs.length) :: H) w).addPure (by rw [hout, List.take_length]))
end Go.Proofs.YtgfbdcjamalhhaaGreatDoor
