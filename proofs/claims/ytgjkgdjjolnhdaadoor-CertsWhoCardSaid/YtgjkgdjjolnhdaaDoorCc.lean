/- Walks: what the laws on certs share: the example, how long parts may be. -/
import Derived.Test.YtgjkgdjjolnhdaaDoorCa
import Derived.Test.YtgjkgdjjolnhdaaDoorTz
namespace Go.Proofs.YtgjkgdjjolnhdaaDoor
open Go.RowKit Go.Sx
set_option maxRecDepth 100000
set_option linter.unusedSimpArgs false
set_option linter.unusedVariables false
def MS (i : Nat) : MsgD := ⟨2, i, 0, 0, 1, zeroV 32, [], []⟩
theorem smallS (i : Nat) : SmallM (MS i) := ⟨by simp [MS], by simp [MS], fun x hx => by cases hx⟩
theorem formedS (i : Nat) (h : i < 3) : formedM (MS i) = true := by simp only [formedM_iff, MS]; omega
theorem lenS (i : Nat) : (msgB (MS i)).length = 42 := by
  rw [msgB_len, headM_len]
  have e : packed 0 = [0] := packed_small (by decide)
  simp [textB, MS, texts, e]
theorem putS (i : Nat) (h : i < 3) : (putM (MS i)).2 = 0 := by
  unfold putM
  rw [if_neg (by rw [lenS]; simp [MS]), if_pos (formedS i h)]
theorem sealS (i : Nat) (h : i < 3) : (sealK (keyT 16) (MS i)).2 = 0 := by
  rw [sealK_ok (putS i h) (by rw [keyT_len]; show ¬ ((16 : Nat) : Int) ≤ (i : Int); omega)]
theorem has15 : ∀ i < 3, hasV 15 ((i : Nat) : Int) = true := by decide
theorem openS (i : Nat) (h : i < 3) : opn (keyT 16) 15 (sealK (keyT 16) (MS i)).1 = MS i := by
  unfold opn openOfK
  rw [openK_seal (sealS i h) (smallS i), if_neg (by rintro ⟨-, h2⟩; rw [show (MS i).frm = ((i : Nat) : Int) from rfl, has15 i h] at h2; cases h2)]
def sealsW (n : Nat) : List (List UInt8) := (List.range n).map fun i => (sealK (keyT 16) (MS i)).1
theorem sealsW_succ (n : Nat) : sealsW (n + 1) = sealsW n ++ [(sealK (keyT 16) (MS n)).1] := by simp [sealsW, List.range_succ]
theorem sealK_le {K : List (List UInt8)} {m : MsgD} : (sealK K m).1.length ≤ 65536 := by
  have := putM_le m
  unfold sealK
  split
  · simp
  · split
    · simp
    · simp; omega
theorem sealsW_le (n : Nat) : ∀ x ∈ sealsW n, x.length ≤ 65536 := fun x hx => by
  obtain ⟨i, -, rfl⟩ := List.mem_map.1 hx
  exact sealK_le
theorem openW : (sealsW 3).map (opn (keyT 16) 15) = [MS 0, MS 1, MS 2] := by
  rw [sealsW, List.map_map]
  show [opn (keyT 16) 15 _, opn (keyT 16) 15 _, opn (keyT 16) 15 _] = _
  rw [openS 0 (by decide), openS 1 (by decide), openS 2 (by decide)]
theorem rightW : rightV 0 15 = true := by decide +kernel
theorem wNil : writD (keyT 16) 0 15 0 1 (zeroV 32) [] = 12 := if_neg (by rintro ⟨-, -, h⟩; revert h; rw [List.map_nil]; decide +kernel)
theorem wAll : writD (keyT 16) 0 15 0 1 (zeroV 32) (sealsW 3) = 0 := if_pos ⟨rightW, by simp [sealsW], by rw [openW]; decide +kernel⟩
def longC (K : List (List UInt8)) : Bool := decide (24 < K.length) || K.any fun c => decide (400 < c.length)
theorem longC_small {ps : List BS} (h : longC (ps.map BS.l) = false) : ps.length ≤ 24 ∧ ∀ x ∈ ps, x.l.length ≤ 400 := by
  simp only [longC, Bool.or_eq_false_iff, decide_eq_false_iff_not, List.any_eq_false, decide_eq_true_eq, List.length_map] at h
  exact ⟨by omega, fun x hx => by have := h.2 x.l (List.mem_map.2 ⟨x, hx, rfl⟩); omega⟩
attribute [local irreducible] sealK openOfK keyT writD opn

set_option maxHeartbeats 1000000 in
theorem wakes17_c {w0 : World} {H : List SA}  :
    CT Tryd.prog w0 (H) 11 [] (α := Unit) (fun _ => .bool true) (fun _ => H) := by
  refine CT_intro Tryd.func11 rfl Tryd.ntmps11 rfl ?_
  refine T_seq ?_
  refine T_region ?_
  refine TL_q (Qt_assign (.bool _) rfl) rfl ?_
  refine TL_nil ?_
  refine X_then ?_
  refine T_seq ?_
  refine T_region ?_
  refine TL_q (Qt_build [(1, (.int .u16 _))] rfl (by kernel_rfl)) rfl ?_
  refine TL_e rfl (Ef_allocN (fun b1 => ?_))
  refine TL_n (Ef_storeN rfl rfl (?_))
  refine TL_nil ?_
  refine X_then ?_
  refine T_seq ?_
  refine T_region ?_
  refine TL_q (Qt_assign (.slice _ _ _) rfl) rfl ?_
  refine TL_nil ?_
  refine X_then ?_
  refine T_seq ?_
  refine T_seq ?_
  refine T_region ?_
  refine TL_q (Qt_move (.int .i64 _) rfl) rfl ?_
  refine TL_nil ?_
  refine X_then ?_
  refine T_block ?_
  refine T_loop [2, 3, 4, 5, 7, 8, 9, 10, 11, 12, 13, 14, 15, 16, 17, 18, 19, 20, 21] [7, 2] (fun us H' => ∃ (k : Nat) (a : Option Addr) (c : Nat) (ps : List BS) (fp : List Nat), us = [.int .i64 (k : Int), .slice a ps.length c] ∧ row (.slice a (ps).length c) 27 1 ((ps).map BS.val) :: eachA fp ps :: blk b1 (.cells (ViewV.mk 0 ((15 : Nat) : Int)).cells 24 (0, 0)) :: H = H' ∧ k ≤ 3 ∧ (ps.map BS.l = sealsW k) ∧ (ps.length = k)) (fun us => match us with | .int _ i :: _ => 3 - i.toNat | _ => 0) ⟨0, none, 0, [], [], rfl, rfl, by omega, rfl, rfl⟩ (fun w hw => by
        have h0 : St w0 (blk b1 (.cells (ViewV.mk 0 ((15 : Nat) : Int)).cells 24 (0, 0)) :: H) w := Subs.st inferInstance w hw
        exact (h0.eachNil).addNil 27 1) ?_
  rintro τ0 _ _  ⟨k, a, c, ps, fp, rfl, rfl, hk0, hps, hpl⟩ _
  refine T_seq ?_
  refine T_region ?_
  refine TL_q (Qt_lss rfl rfl) rfl ?_
  refine TL_nil ?_
  refine X_then ?_
  refine T_seq ?_
  refine T_cond rfl (fun h8 => ?_) (fun h8 => ?_)
  ·
    have p8 := h8
    try simp only [decide_eq_true_eq, decide_eq_false_iff_not, Bool.not_eq_true', Bool.not_eq_false', Option.isNone_iff_eq_none, ne_eq, Decidable.not_not, Int.not_lt, Int.not_le] at p8
    refine T_skip ?_
    refine X_then ?_
    refine T_seq ?_
    refine T_block ?_
    refine T_seq ?_
    refine T_region ?_
    refine TL_q (Qt_move (.int .i64 _) rfl) rfl ?_
    refine TL_q (Qt_assign (.int .i64 _) rfl) rfl ?_
    refine TL_nil ?_
    refine X_then ?_
    refine T_seq ?_
    refine T_region ?_
    refine TL_e rfl (Ef_call (table17_c) rfl (fun x11 => ?_))
    refine TL_pure (fun hk11 => ?_)
    refine TL_q (Qt_move (.int .i64 _) rfl) rfl ?_
    refine TL_q (Qt_build [(0, (.int .i64 _)), (1, (.int .i64 _)), (4, (.int .i64 _))] rfl (by kernel_rfl)) rfl ?_
    refine TL_e rfl (Ef_call (sealF_c (sa := x11.1.a) (sc := x11.1.c) (ls := x11.1.ls) (rt := ⟨none, 0, 0⟩) (keyT_small hk11).2 (m := ⟨2, k, 0, 0, 1, zeroV 32, ⟨none, 0, []⟩, ⟨none, 0, []⟩⟩) (MS k) (rb := RdB.nil') (rc := RdC.vals0) (re := RdE.nil) rfl (smallS k)) rfl (fun x14 => ?_))
    rw [hk11]
    refine TL_q (Qt_move (.tuple _) rfl) rfl ?_
    refine TL_q (Qt_extract rfl) rfl ?_
    refine TL_q (Qt_extract rfl) rfl ?_
    refine TL_q (Qt_assign (.slice _ _ _) rfl) rfl ?_
    refine TL_q (Qt_assign (.int .i64 _) rfl) rfl ?_
    refine TL_nil ?_
    refine X_then ?_
    refine T_region ?_
    refine TL_q (Qt_move (.slice _ _ _) rfl) rfl ?_
    refine TL_q (Qt_move (.slice _ _ _) rfl) rfl ?_
    refine TL_e rfl (Ef_slice1 (v := .slice _ _ _) rfl (fun a19 c19 => ?_))
    refine TL_e rfl (Ef_appendP (sv := .slice _ _ _) (xv := .slice _ _ _) ⟨x14.a, x14.c, (sealK (keyT 16) (MS k)).1⟩ rfl rfl (by omega) rfl (fun a20 c20 => ?_))
    refine TL_q (Qt_assign (.slice _ _ _) rfl) rfl ?_
    refine TL_nil ?_
    refine X_block ?_
    refine X_then ?_
    refine T_region ?_
    first
      | refine TL_q (Qt_add rfl rfl (by omega) (by omega)) rfl ?_
      | refine TL_q (Qt_addw rfl rfl) rfl ?_
    refine TL_q (Qt_move (.int .i64 _) rfl) rfl ?_
    refine TL_nil ?_
    apply X_loop
    case ha => exact (by repeat (first | with_reducible exact agree_refl | refine agree_upd rfl ?_ | refine agree_mix rfl ?_ | refine agree_setAll rfl ?_))
    case hI => exact ⟨k + 1, a20, c20, ps ++ [⟨x14.a, x14.c, (sealK (keyT 16) (MS k)).1⟩], rowFp (.slice x14.a ((sealK (keyT 16) (MS k)).1).length x14.c) ++ fp, rfl, rfl, by omega, by rw [List.map_append, hps, sealsW_succ]; rfl, by simp [hpl]⟩
    case hm => exact by show 3 - (k + 1 : Int).toNat < 3 - (k : Int).toNat; omega
    case hH => exact fun w hw => eachUnder (Subs.st inferInstance w hw : St w0 (row (.slice a20 (ps ++ [(⟨x14.a, x14.c, (sealK (keyT 16) (MS k)).1⟩ : BS)]).length c20) 27 1 ((ps ++ [(⟨x14.a, x14.c, (sealK (keyT 16) (MS k)).1⟩ : BS)]).map BS.val) :: row (BS.val ⟨x14.a, x14.c, (sealK (keyT 16) (MS k)).1⟩) 5 1 (bytesV (BS.l ⟨x14.a, x14.c, (sealK (keyT 16) (MS k)).1⟩)) :: eachA fp ps :: blk b1 (.cells (ViewV.mk 0 ((15 : Nat) : Int)).cells 24 (0, 0)) :: H) w)
  ·
    have p8 := h8
    try simp only [decide_eq_true_eq, decide_eq_false_iff_not, Bool.not_eq_true', Bool.not_eq_false', Option.isNone_iff_eq_none, ne_eq, Decidable.not_not, Int.not_lt, Int.not_le] at p8
    have hk3 : k = 3 := by omega
    rw [hk3] at hps
    refine T_exit ?_
    refine X_then_exit ?_
    refine X_loop_exit ?_
    refine X_block_exit ?_
    refine X_then ?_
    refine T_seq ?_
    refine T_draw (blk b1 (.cells (ViewV.mk 0 ((15 : Nat) : Int)).cells 24 (0, 0)) :: row (.slice a (ps).length c) 27 1 ((ps).map BS.val) :: eachA fp ps :: H) [(1, true), (2, true), (0, false), (3, false), (4, true), (5, true), (7, true), (8, true), (9, true), (6, false), (10, false), (11, true), (12, true), (13, true)] (by kernel_rfl) (by kernel_rfl) rfl (by kernel_rfl) (Subs.st inferInstance) (fun hns0 => ?_)
    refine DL_q hns0 rfl (Qt_loadN rfl rfl) rfl ?_
    refine DL_q hns0 rfl (Qt_build_arr (hlist (zeroV 32)).toArray Tryd.underlying26 rfl rfl rfl) rfl ?_
    refine DL_e rfl rfl (Ef_call (table17_c) rfl (fun x22 => ⟨(Subs.st inferInstance), ?_⟩))
    refine DL_pure (fun hk22 => ?_)
    refine DL_e rfl rfl (Ef_call (written_c (num := 0) (mk := 15) (by decide) (sa := x22.1.a) (sc := x22.1.c) (ls := x22.1.ls) (rt := ⟨none, 0, 0⟩) (ps := []) (a := none) (c := 0) (hp := RdC.vals0) (hpe := RdE.nil) (keyT_small hk22).2 (fun x h => by cases h) (by decide) (reg := 0) (slot := 1) (h := zeroV 32)) rfl (fun x25 => ⟨(Subs.st inferInstance), ?_⟩))
    simp only [List.map_nil]
    rw [hk22, wNil]
    refine DL_q hns0 rfl (Qt_eql rfl rfl) rfl ?_
    refine DL_q hns0 rfl (Qt_move (.bool _) rfl) rfl ?_
    refine DL_split 27 rfl (fun h27 => ?_) (fun h27 => ?_)
    ·
      have p27 := h27
      try simp only [decide_eq_true_eq, decide_eq_false_iff_not, Bool.not_eq_true', Bool.not_eq_false', Option.isNone_iff_eq_none, ne_eq, Decidable.not_not, Int.not_lt, Int.not_le] at p27
      refine DL_qg hns0 rfl rfl rfl h27 (Qt_loadN rfl rfl) rfl ?_
      refine DL_qg hns0 rfl rfl rfl h27 (Qt_build_arr (hlist (zeroV 32)).toArray Tryd.underlying26 rfl rfl rfl) rfl ?_
      refine DL_qg hns0 rfl rfl rfl h27 (Qt_move (.slice _ _ _) rfl) rfl ?_
      refine DL_eg rfl rfl rfl h27 rfl (Ef_call (table17_c) rfl (fun x28 => ⟨(Subs.st inferInstance), ?_⟩))
      refine DL_pure (fun hk28 => ?_)
      refine DL_eg rfl rfl rfl h27 rfl (Ef_call (written_c (num := 0) (mk := 15) (by decide) (sa := x28.1.a) (sc := x28.1.c) (ls := x28.1.ls) (rt := ⟨none, 0, 0⟩) (ps := ps) (keyT_small hk28).2 (fun x hx => by have := sealsW_le 3 x.l (hps ▸ List.mem_map.2 ⟨x, hx, rfl⟩); omega) (by omega) (reg := 0) (slot := 1) (h := zeroV 32)) rfl (fun x32 => ⟨(Subs.st inferInstance), ?_⟩))
      rw [hk28, hps, wAll]
      refine DL_qg hns0 rfl rfl rfl h27 (Qt_eql rfl rfl) rfl ?_
      refine DL_q hns0 rfl (Qt_pick_t (.bool _) rfl h27 rfl) rfl ?_
      refine DL_q hns0 rfl (Qt_assign (.bool _) rfl) rfl ?_
      refine DL_nil ?_
      refine X_then ?_
      refine T_ret ?_
      exact X_ret () [.bool true] Tryd.results11 ⟨by refine congrArg Value.bool ?_; decide, trivial⟩ rfl (Subs.st inferInstance)
    ·
      have p27 := h27
      try simp only [decide_eq_true_eq, decide_eq_false_iff_not, Bool.not_eq_true', Bool.not_eq_false', Option.isNone_iff_eq_none, ne_eq, Decidable.not_not, Int.not_lt, Int.not_le] at p27
      exact absurd h27 (by decide)
set_option maxHeartbeats 1000000 in
theorem long17_c {w0 : World} {H : List SA} {a : Option Addr} {ps : List BS} {c : Nat} [hr : RdC w0 H (.slice a ps.length c) 1 (ps.map BS.val)] :
    CT Tryd.prog w0 (H) 12 [.slice a ps.length c] (α := Unit) (fun _ => .bool (longC (ps.map BS.l))) (fun _ => H) := by
  refine CT_intro Tryd.func12 rfl Tryd.ntmps12 rfl ?_
  refine T_seq ?_
  refine T_region ?_
  refine TL_q (Qt_assign (.bool _) rfl) rfl ?_
  refine TL_nil ?_
  refine X_then ?_
  refine T_seq ?_
  refine T_seq ?_
  refine T_region ?_
  refine TL_q (Qt_move (.slice _ _ _) rfl) rfl ?_
  refine TL_q (Qt_len_slice rfl Tryd.underlying28) rfl ?_
  refine TL_q (Qt_gtr rfl rfl) rfl ?_
  refine TL_nil ?_
  refine X_then ?_
  refine T_cond rfl (fun h6 => ?_) (fun h6 => ?_)
  ·
    have p6 := h6
    try simp only [decide_eq_true_eq, decide_eq_false_iff_not, Bool.not_eq_true', Bool.not_eq_false', Option.isNone_iff_eq_none, ne_eq, Decidable.not_not, Int.not_lt, Int.not_le] at p6
    refine T_seq ?_
    refine T_region ?_
    refine TL_q (Qt_assign (.bool _) rfl) rfl ?_
    refine TL_nil ?_
    refine X_then ?_
    refine T_ret ?_
    refine X_then_ret ?_
    have e : longC (ps.map BS.l) = true := by simp [longC]; left; omega
    exact X_ret () [_] Tryd.results12 ⟨rfl, trivial⟩ (by rw [e]; rfl) (Subs.st inferInstance)
  ·
    have p6 := h6
    try simp only [decide_eq_true_eq, decide_eq_false_iff_not, Bool.not_eq_true', Bool.not_eq_false', Option.isNone_iff_eq_none, ne_eq, Decidable.not_not, Int.not_lt, Int.not_le] at p6
    refine T_skip ?_
    refine X_then ?_
    refine T_seq ?_
    refine T_seq ?_
    refine T_region ?_
    refine TL_q (Qt_move (.slice _ _ _) rfl) rfl ?_
    refine TL_q (Qt_len_slice rfl Tryd.underlying28) rfl ?_
    refine TL_q (Qt_move (.int .i64 _) rfl) rfl ?_
    refine TL_nil ?_
    refine X_then ?_
    refine T_block ?_
    refine T_loop [2, 3, 9, 10, 11, 12, 13, 14, 15, 16, 17, 18] [9] (fun us H' => ∃ (k : Nat), us = [.int .i64 (k : Int)] ∧ H = H' ∧ k ≤ ps.length ∧ (((ps.map BS.l).take k).any (fun c => decide (400 < c.length)) = false)) (fun us => match us with | .int _ i :: _ => ps.length - i.toNat | _ => 0) ⟨0, rfl, rfl, by omega, rfl⟩ (Subs.st inferInstance) ?_
    rintro τ0 _ _  ⟨k, rfl, rfl, hk0, hpre⟩ _
    refine T_seq ?_
    refine T_region ?_
    refine TL_q (Qt_lss rfl rfl) rfl ?_
    refine TL_nil ?_
    refine X_then ?_
    refine T_seq ?_
    refine T_cond rfl (fun h10 => ?_) (fun h10 => ?_)
    ·
      have p10 := h10
      try simp only [decide_eq_true_eq, decide_eq_false_iff_not, Bool.not_eq_true', Bool.not_eq_false', Option.isNone_iff_eq_none, ne_eq, Decidable.not_not, Int.not_lt, Int.not_le] at p10
      have hk : k < ps.length := by omega
      refine T_skip ?_
      refine X_then ?_
      refine T_seq ?_
      refine T_block ?_
      refine T_seq ?_
      refine T_region ?_
      refine TL_q (Qt_move (.int .i64 _) rfl) rfl ?_
      refine TL_q (Qt_assign (.int .i64 _) rfl) rfl ?_
      refine TL_nil ?_
      refine X_then ?_
      refine T_seq ?_
      refine T_region ?_
      refine TL_q (Qt_move (.slice _ _ _) rfl) rfl ?_
      refine TL_q (Qt_move (.int .i64 _) rfl) rfl ?_
      refine TL_q (Qt_indexR rfl rfl (by omega) (by simp; omega)) rfl ?_
      refine TL_q (Qt_loadR (.slice _ _ _) rfl (vals_get _ _ hk)) rfl ?_
      refine TL_q (Qt_len_slice rfl Tryd.underlying27) rfl ?_
      refine TL_q (Qt_gtr rfl rfl) rfl ?_
      refine TL_nil ?_
      refine X_then ?_
      refine T_cond rfl (fun h17 => ?_) (fun h17 => ?_)
      ·
        have p17 := h17
        try simp only [decide_eq_true_eq, decide_eq_false_iff_not, Bool.not_eq_true', Bool.not_eq_false', Option.isNone_iff_eq_none, ne_eq, Decidable.not_not, Int.not_lt, Int.not_le] at p17
        refine T_seq ?_
        refine T_region ?_
        refine TL_q (Qt_assign (.bool _) rfl) rfl ?_
        refine TL_nil ?_
        refine X_then ?_
        refine T_ret ?_
        refine X_block_ret ?_
        refine X_then_ret ?_
        refine X_loop_ret ?_
        refine X_block_ret ?_
        refine X_then_ret ?_
        have e : longC (ps.map BS.l) = true := by have := any_of_get (fun c : List UInt8 => decide (400 < c.length)) (ps.map BS.l) k (by simpa using hk) (by simp; omega); simp only [longC, this, Bool.or_true]
        exact X_ret () [_] Tryd.results12 ⟨rfl, trivial⟩ (by rw [e]; rfl) (Subs.st inferInstance)
      ·
        have p17 := h17
        try simp only [decide_eq_true_eq, decide_eq_false_iff_not, Bool.not_eq_true', Bool.not_eq_false', Option.isNone_iff_eq_none, ne_eq, Decidable.not_not, Int.not_lt, Int.not_le] at p17
        refine T_skip ?_
        refine X_block ?_
        refine X_then ?_
        refine T_region ?_
        first
          | refine TL_q (Qt_add rfl rfl (by omega) (by omega)) rfl ?_
          | refine TL_q (Qt_addw rfl rfl) rfl ?_
        refine TL_q (Qt_move (.int .i64 _) rfl) rfl ?_
        refine TL_nil ?_
        apply X_loop
        case ha => exact (by repeat (first | with_reducible exact agree_refl | refine agree_upd rfl ?_ | refine agree_mix rfl ?_ | refine agree_setAll rfl ?_))
        case hI => exact ⟨k + 1, rfl, rfl, by omega, any_take_snoc _ (ps.map BS.l) k (by simpa using hk) hpre (by simp; omega)⟩
        case hm => exact by show ps.length - (k + 1 : Int).toNat < ps.length - (k : Int).toNat; omega
        case hH => exact (Subs.st inferInstance)
    ·
      have p10 := h10
      try simp only [decide_eq_true_eq, decide_eq_false_iff_not, Bool.not_eq_true', Bool.not_eq_false', Option.isNone_iff_eq_none, ne_eq, Decidable.not_not, Int.not_lt, Int.not_le] at p10
      have et : (ps.map BS.l).take k = ps.map BS.l := List.take_of_length_le (by simp; omega)
      rw [et] at hpre
      refine T_exit ?_
      refine X_then_exit ?_
      refine X_loop_exit ?_
      refine X_block_exit ?_
      refine X_then ?_
      refine T_seq ?_
      refine T_region ?_
      refine TL_q (Qt_assign (.bool _) rfl) rfl ?_
      refine TL_nil ?_
      refine X_then ?_
      refine T_ret ?_
      have e : longC (ps.map BS.l) = false := by simp only [longC, hpre, Bool.or_false]; simp; omega
      exact X_ret () [_] Tryd.results12 ⟨rfl, trivial⟩ (by rw [e]; rfl) (Subs.st inferInstance)
end Go.Proofs.YtgjkgdjjolnhdaaDoor
