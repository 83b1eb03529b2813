/- Walks: the law SealsTag. -/
import Derived.Test.YtgjkgdjjolnhdaaLy
namespace Go.Proofs.Ytgjkgdjjolnhdaa
open Go.RowKit Go.Sx
set_option maxRecDepth 100000
set_option linter.unusedSimpArgs false
set_option linter.unusedVariables false
attribute [local irreducible] sealK openK putM tagOf msgB
set_option maxHeartbeats 1000000 in
theorem sealsTag_c {w0 : World} {H : List SA} {x : BS} {m : MsgV} {n : Nat} (hn : n < 65536) [rx : RdB w0 H (.slice x.a x.l.length x.c) x.l] [rb : RdB w0 H (.slice m.body.a m.body.l.length m.body.c) m.body.l] [rc : RdC w0 H (.slice m.parts.a m.parts.ls.length m.parts.c) 1 (m.parts.ls.map BS.val)] [re : RdE w0 H m.parts.ls] :
    CT Try.prog w0 (H) 5 [.slice x.a x.l.length x.c, .agg m.cells, .int .u16 (n : Int)] (α := Unit) (fun _ => .bool true) (fun _ => H) := by
  refine CT_intro Try.func5 rfl Try.ntmps5 rfl ?_
  refine T_seq ?_
  refine T_region ?_
  refine TL_e rfl (Ef_boxN rfl (fun b4 => ?_))
  refine TL_q (Qt_assign (.bool _) rfl) rfl ?_
  refine TL_nil ?_
  refine X_then ?_
  refine T_seq ?_
  refine T_seq ?_
  refine T_region ?_
  refine TL_e rfl (Ef_call (wakes09_c) rfl (fun x13 => ?_))
  refine TL_q (Qt_not rfl) rfl ?_
  refine TL_nil ?_
  refine X_then ?_
  refine T_cond rfl (fun h14 => ?_) (fun h14 => ?_)
  ·
    have p14 := h14
    try simp only [decide_eq_true_eq, decide_eq_false_iff_not, Bool.not_eq_true', Bool.not_eq_false', Option.isNone_iff_eq_none, ne_eq, Decidable.not_not, Int.not_lt, Int.not_le] at p14
    cases h14
  ·
    have p14 := h14
    try simp only [decide_eq_true_eq, decide_eq_false_iff_not, Bool.not_eq_true', Bool.not_eq_false', Option.isNone_iff_eq_none, ne_eq, Decidable.not_not, Int.not_lt, Int.not_le] at p14
    refine T_skip ?_
    refine X_then ?_
    refine T_seq ?_
    refine T_seq ?_
    refine T_region ?_
    refine TL_q (Qt_move (.slice _ _ _) rfl) rfl ?_
    refine TL_q (Qt_len_slice rfl Try.underlying25) rfl ?_
    refine TL_q (Qt_gtr rfl rfl) rfl ?_
    refine TL_q (Qt_move (.bool _) rfl) rfl ?_
    refine TL_split 18 rfl (fun h18 => ?_) (fun h18 => ?_)
    ·
      have p18 := h18
      try simp only [decide_eq_true_eq, decide_eq_false_iff_not, Bool.not_eq_true', Bool.not_eq_false', Option.isNone_iff_eq_none, ne_eq, Decidable.not_not, Int.not_lt, Int.not_le] at p18
      refine TL_pass rfl rfl h18 rfl ?_
      refine TL_pass rfl rfl h18 rfl ?_
      refine TL_q (Qt_pick_t (.bool _) rfl h18 rfl) rfl ?_
      refine TL_nil ?_
      refine X_then ?_
      refine T_cond_true rfl rfl ?_
      refine T_seq ?_
      refine T_region ?_
      refine TL_q (Qt_assign (.bool _) rfl) rfl ?_
      refine TL_nil ?_
      refine X_then ?_
      refine T_ret ?_
      refine X_then_ret ?_
      exact X_ret () [_] Try.results5 ⟨rfl, trivial⟩ rfl (Subs.st inferInstance)
    ·
      have p18 := h18
      try simp only [decide_eq_true_eq, decide_eq_false_iff_not, Bool.not_eq_true', Bool.not_eq_false', Option.isNone_iff_eq_none, ne_eq, Decidable.not_not, Int.not_lt, Int.not_le] at p18
      refine TL_take rfl rfl h18 ?_
      refine TL_q (Qt_loadN rfl rfl) rfl ?_
      refine TL_take rfl rfl h18 ?_
      refine TL_e rfl (Ef_call (longM_c) rfl (fun x20 => ?_))
      refine TL_q (Qt_pick_f (.bool _) rfl h18 rfl) rfl ?_
      refine TL_nil ?_
      refine X_then ?_
      refine T_cond rfl (fun h21 => ?_) (fun h21 => ?_)
      ·
        have p21 := h21
        try simp only [decide_eq_true_eq, decide_eq_false_iff_not, Bool.not_eq_true', Bool.not_eq_false', Option.isNone_iff_eq_none, ne_eq, Decidable.not_not, Int.not_lt, Int.not_le] at p21
        refine T_seq ?_
        refine T_region ?_
        refine TL_q (Qt_assign (.bool _) rfl) rfl ?_
        refine TL_nil ?_
        refine X_then ?_
        refine T_ret ?_
        refine X_then_ret ?_
        exact X_ret () [_] Try.results5 ⟨rfl, trivial⟩ rfl (Subs.st inferInstance)
      ·
        have p21 := h21
        try simp only [decide_eq_true_eq, decide_eq_false_iff_not, Bool.not_eq_true', Bool.not_eq_false', Option.isNone_iff_eq_none, ne_eq, Decidable.not_not, Int.not_lt, Int.not_le] at p21
        have hsm : SmallM m.abs := small_of_longM h21
        refine T_skip ?_
        refine X_then ?_
        refine T_seq ?_
        refine T_region ?_
        refine TL_q (Qt_fieldAddr 1 rfl rfl) rfl ?_
        refine TL_n (Ef_store1 (.int .i64 _) rfl rfl (?_))
        refine TL_nil ?_
        refine X_then ?_
        refine T_seq ?_
        refine T_region ?_
        obtain ⟨m0, hm0⟩ : ∃ m0 : MsgV, m0 = { m with frm := 0 } := ⟨_, rfl⟩
        rw [← hm0]
        have hfz : m0.abs.frm = 0 := by rw [hm0]; rfl
        have rb0 : RdB w0 H (.slice m0.body.a m0.body.l.length m0.body.c) m0.body.l := by rw [hm0]; exact rb
        have rc0 : RdC w0 H (.slice m0.parts.a m0.parts.ls.length m0.parts.c) 1 (m0.parts.ls.map BS.val) := by rw [hm0]; exact rc
        have re0 : RdE w0 H m0.parts.ls := by rw [hm0]; exact re
        have hs0 : SmallM m0.abs := by rw [hm0]; exact ⟨hsm.body, hsm.parts, hsm.each⟩
        refine TL_q (Qt_move (.slice _ _ _) rfl) rfl ?_
        refine TL_e rfl (Ef_sliceN (m := ([x] : List BS).length) [BS.val x] (([x] : List BS).map BS.val) rfl rfl rfl rfl (by simp [Value.cells, BS.val]) rfl rfl (fun a24 c24 => ?_))
        refine TL_q (Qt_build [(0, .slice _ _ _)] rfl (by kernel_rfl)) rfl ?_
        refine TL_e rfl (Ef_allocN (fun b7 => ?_))
        refine TL_n (Ef_storeN rfl rfl (?_))
        refine TL_nil ?_
        refine X_then ?_
        refine T_seq ?_
        refine T_region ?_
        refine TL_q (Qt_loadN rfl rfl) rfl ?_
        refine TL_q (Qt_loadN rfl rfl) rfl ?_
        refine TL_e rfl (Ef_call (sealF_c (sa := a24) (sc := c24) (ls := [x]) (rt := KeysV.zero.roots) (by intro z hz; simp at hz; subst hz; omega) m0.abs rfl hs0) rfl (fun x29 => ?_))
        rw [show ([x] : List BS).map BS.l = [x.l] from rfl]
        refine TL_q (Qt_move (.tuple _) rfl) rfl ?_
        refine TL_q (Qt_extract rfl) rfl ?_
        refine TL_q (Qt_extract rfl) rfl ?_
        refine TL_q (Qt_assign (.slice _ _ _) rfl) rfl ?_
        refine TL_q (Qt_assign (.int .i64 _) rfl) rfl ?_
        refine TL_nil ?_
        refine X_then ?_
        refine T_seq ?_
        refine T_region ?_
        refine TL_q (Qt_move (.int .u16 _) rfl) rfl ?_
        refine TL_q (Qt_shrN 8 rfl (by exact rfl) (by decide)) rfl ?_
        refine TL_q (Qt_conv rfl rfl Try.underlying5) rfl ?_
        rw [wrap_nat .u8 rfl (by show _ < 2 ^ 8; omega)]
        obtain ⟨tb, htb⟩ : ∃ tb : UInt8, tb.toNat = n / 2 ^ 8 := ⟨UInt8.ofNat (n / 2 ^ 8), by simp; omega⟩
        rw [← htb]
        refine TL_q (Qt_assign (.int .u8 _) rfl) rfl ?_
        refine TL_nil ?_
        refine X_then ?_
        refine T_seq ?_
        refine T_seq ?_
        refine T_region ?_
        refine TL_q (Qt_move (.int .i64 _) rfl) rfl ?_
        refine TL_q (Qt_neq rfl rfl) rfl ?_
        refine TL_q (Qt_move (.bool _) rfl) rfl ?_
        refine TL_split 37 rfl (fun h37 => ?_) (fun h37 => ?_)
        ·
          have p37 := h37
          try simp only [decide_eq_true_eq, decide_eq_false_iff_not, Bool.not_eq_true', Bool.not_eq_false', Option.isNone_iff_eq_none, ne_eq, Decidable.not_not, Int.not_lt, Int.not_le] at p37
          refine TL_pass rfl rfl h37 rfl ?_
          refine TL_pass rfl rfl h37 rfl ?_
          refine TL_q (Qt_pick_t (.bool _) rfl h37 rfl) rfl ?_
          refine TL_nil ?_
          refine X_then ?_
          refine T_cond_true rfl rfl ?_
          refine T_seq ?_
          refine T_region ?_
          refine TL_q (Qt_assign (.bool _) rfl) rfl ?_
          refine TL_nil ?_
          refine X_then ?_
          refine T_ret ?_
          refine X_then_ret ?_
          exact X_ret () [_] Try.results5 ⟨rfl, trivial⟩ rfl (Subs.st inferInstance)
        ·
          have p37 := h37
          try simp only [decide_eq_true_eq, decide_eq_false_iff_not, Bool.not_eq_true', Bool.not_eq_false', Option.isNone_iff_eq_none, ne_eq, Decidable.not_not, Int.not_lt, Int.not_le] at p37
          have hz0 := h37
          refine TL_take rfl rfl h37 ?_
          refine TL_q (Qt_move (.int .u8 _) rfl) rfl ?_
          refine TL_take rfl rfl h37 ?_
          refine TL_q (Qt_eql rfl rfl) rfl ?_
          refine TL_q (Qt_pick_f (.bool _) rfl h37 rfl) rfl ?_
          refine TL_nil ?_
          refine X_then ?_
          refine T_cond rfl (fun h40 => ?_) (fun h40 => ?_)
          ·
            have p40 := h40
            try simp only [decide_eq_true_eq, decide_eq_false_iff_not, Bool.not_eq_true', Bool.not_eq_false', Option.isNone_iff_eq_none, ne_eq, Decidable.not_not, Int.not_lt, Int.not_le] at p40
            refine T_seq ?_
            refine T_region ?_
            refine TL_q (Qt_assign (.bool _) rfl) rfl ?_
            refine TL_nil ?_
            refine X_then ?_
            refine T_ret ?_
            refine X_then_ret ?_
            exact X_ret () [_] Try.results5 ⟨rfl, trivial⟩ rfl (Subs.st inferInstance)
          ·
            have p40 := h40
            try simp only [decide_eq_true_eq, decide_eq_false_iff_not, Bool.not_eq_true', Bool.not_eq_false', Option.isNone_iff_eq_none, ne_eq, Decidable.not_not, Int.not_lt, Int.not_le] at p40
            have hb0 : tb ≠ 0 := by intro h; subst h; exact absurd h40 (by decide)
            refine T_skip ?_
            refine X_then ?_
            refine T_seq ?_
            refine T_region ?_
            have hz : (sealK [x.l] m0.abs).2 = 0 := by simpa using hz0
            have hpz := sealK_put hz
            have hsx1 := sealK_one (k := x.l) hpz hfz
            obtain ⟨B, hB⟩ : ∃ B, B = msgB m0.abs := ⟨_, rfl⟩
            obtain ⟨tv, htv⟩ : ∃ tv, tv = tagOf x.l B := ⟨_, rfl⟩
            have hS : (sealK [x.l] m0.abs).1 = B ++ tv.toList := by rw [hsx1, htv, hB]
            rw [hS]
            have hBl : B.length ≤ 65504 := by rw [hB]; exact (putM_ok hpz).2.2.1
            have hj : n % 32 < 32 := by omega
            refine TL_q (Qt_move (.slice _ _ _) rfl) rfl ?_
            refine TL_q (Qt_move (.slice _ _ _) rfl) rfl ?_
            refine TL_q (Qt_len_slice rfl Try.underlying25) rfl ?_
            refine TL_q (Qt_val (Qt_sub rfl rfl (by simp only [List.length_append, Vector.length_toList]; omega) (by simp only [List.length_append, Vector.length_toList]; omega)) (congrArg (Value.int .i64) (show ((B ++ tv.toList).length : Int) - 32 = ((B.length : Nat) : Int) from by simp))) rfl ?_
            refine TL_q (Qt_move (.int .u16 _) rfl) rfl ?_
            refine TL_q (Qt_conv_i64 rfl rfl Try.underlying3 (by omega) (by omega)) rfl ?_
            refine TL_q (Qt_val (Qt_rem rfl rfl (by omega)) (congrArg (Value.int .i64) (rem_nat n 32))) rfl ?_
            refine TL_q (Qt_val (Qt_add rfl rfl (by omega) (by omega)) (congrArg (Value.int .i64) (show ((B.length : Nat) : Int) + ((n % 32 : Nat) : Int) = ((B.length + n % 32 : Nat) : Int) from by omega))) rfl ?_
            refine TL_q (Qt_indexR rfl rfl (by omega) (by simp; omega)) rfl ?_
            refine TL_q (Qt_loadR (.int .u8 (tv[n % 32].toNat : Int)) rfl (by rw [Int.toNat_natCast]; exact get_tag hj)) rfl ?_
            refine TL_q (Qt_move (.int .u8 _) rfl) rfl ?_
            refine TL_q (Qt_val (Qt_xorN rfl rfl rfl (tv[n % 32].toNat_lt) (tb.toNat_lt)) (congrArg (Value.int .u8) (xor_byte _ _))) rfl ?_
            refine TL_q (Qt_indexR rfl rfl (by omega) (by simp; omega)) rfl ?_
            refine TL_n (Ef_storeR (e := 5) (.int .u8 ((tv[n % 32] ^^^ tb).toNat : Int)) rfl rfl (by rw [bytesV_length, Int.toNat_natCast, List.length_append, Vector.length_toList]; omega) rfl (?_))
            rw [Int.toNat_natCast, set_tag hj]
            obtain ⟨tu, htu⟩ : ∃ tu : Vector UInt8 32, tu = tv.set (n % 32) (tv[n % 32] ^^^ tb) := ⟨_, rfl⟩
            rw [← htu, show (B ++ tv.toList).length = (B ++ tu.toList).length from by simp]
            have hne : tagOf x.l (msgB m0.abs) ≠ tu := by rw [← hB, ← htv, htu]; exact turned_ne hj hb0
            have hop : openK [x.l] (B ++ tu.toList) = (5, .zero) := by rw [hB, openK_one hpz hs0 hfz, if_pos hne]
            refine TL_nil ?_
            refine X_then ?_
            refine T_seq ?_
            refine T_region ?_
            refine TL_q (Qt_loadN rfl rfl) rfl ?_
            refine TL_q (Qt_move (.slice _ _ _) rfl) rfl ?_
            refine TL_e rfl (Ef_call (openF_c (sa := a24) (sc := c24) (ls := [x]) (rt := KeysV.zero.roots) (by intro z hz; simp at hz; subst hz; omega) (l := B ++ tu.toList) (by simp; omega)) rfl (fun x57 => ?_))
            rw [show ([x] : List BS).map BS.l = [x.l] from rfl]
            rw [hop]
            refine TL_pure (fun _ => ?_)
            refine TL_q (Qt_move (.tuple _) rfl) rfl ?_
            refine TL_q (Qt_extract rfl) rfl ?_
            refine TL_q (Qt_extract rfl) rfl ?_
            refine TL_e rfl (Ef_allocN (fun b11 => ?_))
            refine TL_n (Ef_storeN rfl rfl (?_))
            refine TL_q (Qt_assign (.int .i64 _) rfl) rfl ?_
            refine TL_nil ?_
            refine X_then ?_
            refine T_seq ?_
            refine T_region ?_
            refine TL_q (Qt_move (.int .i64 _) rfl) rfl ?_
            refine TL_q (Qt_eql rfl rfl) rfl ?_
            refine TL_q (Qt_assign (.bool _) rfl) rfl ?_
            refine TL_nil ?_
            refine X_then ?_
            refine T_ret ?_
            exact X_ret () [_] Try.results5 ⟨rfl, trivial⟩ rfl (Subs.st inferInstance)
end Go.Proofs.Ytgjkgdjjolnhdaa
