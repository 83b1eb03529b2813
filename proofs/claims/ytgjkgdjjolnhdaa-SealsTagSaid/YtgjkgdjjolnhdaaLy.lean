/- Walks: the laws SealsOther and SealsTag. -/
import Derived.Test.YtgjkgdjjolnhdaaLx
namespace Go.Proofs.Ytgjkgdjjolnhdaa
open Go.RowKit Go.Sx
set_option maxRecDepth 100000
set_option linter.unusedSimpArgs false
set_option linter.unusedVariables false
theorem sealK_one {k : List UInt8} {m : MsgD} (h : (putM m).2 = 0) (hf : m.frm = 0) : sealK [k] m = (msgB m ++ (tagOf k (msgB m)).toList, 0) := by
  rw [sealK_ok h (by rw [hf]; simp), (putM_ok h).1, hf]; rfl
theorem sealK_put {k : List UInt8} {m : MsgD} (h : (sealK [k] m).2 = 0) : (putM m).2 = 0 := by
  by_cases h1 : (putM m).2 = 0
  · exact h1
  · rw [sealK_err h1] at h; exact absurd h h1
theorem openK_one {k : List UInt8} {m : MsgD} (h : (putM m).2 = 0) (hs : SmallM m) (hf : m.frm = 0) (t : Vector UInt8 32) : openK [k] (msgB m ++ t.toList) = if tagOf k (msgB m) ≠ t then (5, .zero) else (0, m) := by
  rw [openK_of h hs, if_neg (by rw [hf]; simp), hf]; rfl
theorem tag_eq {B : List UInt8} {t u : Vector UInt8 32} : B ++ t.toList = B ++ u.toList ↔ t = u := by
  constructor
  · intro h
    have := List.append_cancel_left h
    exact Vector.toList_inj.1 this
  · rintro rfl; rfl
theorem set_tag {B : List UInt8} {tv : Vector UInt8 32} {j : Nat} (hj : j < 32) (c : UInt8) : (bytesV (B ++ tv.toList)).set (B.length + j) (.int .u8 (c.toNat : Int)) = bytesV (B ++ (tv.set j c).toList) := by
  have e : (B ++ tv.toList).set (B.length + j) c = B ++ (tv.set j c).toList := by
    rw [List.set_append_right _ _ (by omega)]
    simp [Vector.toList_set]
  rw [← e]
  simp [bytesV, byteV, List.map_set]
theorem get_tag {B : List UInt8} {tv : Vector UInt8 32} {j : Nat} (hj : j < 32) : (bytesV (B ++ tv.toList))[B.length + j]? = some (.int .u8 (tv[j].toNat : Int)) := by
  have h : B.length + j < (B ++ tv.toList).length := by simp; omega
  rw [bytes_get _ _ h]
  simp
theorem turned_ne {tv : Vector UInt8 32} {j : Nat} (hj : j < 32) {c : UInt8} (hc : c ≠ 0) : tv ≠ tv.set j (tv[j] ^^^ c) := by
  intro h
  have h1 : tv[j] = tv[j] ^^^ c := by
    have h2 : (tv.set j (tv[j] ^^^ c))[j] = tv[j] ^^^ c := by simp
    rw [← h] at h2
    exact h2
  have h3 : tv[j] ^^^ tv[j] = tv[j] ^^^ (tv[j] ^^^ c) := by rw [← h1]
  rw [← UInt8.xor_assoc, UInt8.xor_self, UInt8.zero_xor] at h3
  exact hc h3.symm
attribute [local irreducible] sealK openK putM tagOf msgB

set_option maxHeartbeats 1000000 in
theorem sealsOther_c {w0 : World} {H : List SA} {x y : BS} {m : MsgV} [rx : RdB w0 H (.slice x.a x.l.length x.c) x.l] [ry : RdB w0 H (.slice y.a y.l.length y.c) y.l] [rb : RdB w0 H (.slice m.body.a m.body.l.length m.body.c) m.body.l] [rc : RdC w0 H (.slice m.parts.a m.parts.ls.length m.parts.c) 1 (m.parts.ls.map BS.val)] [re : RdE w0 H m.parts.ls] :
    CT Try.prog w0 (H) 4 [.slice x.a x.l.length x.c, .slice y.a y.l.length y.c, .agg m.cells] (α := Unit) (fun _ => .bool true) (fun _ => H) := by
  refine CT_intro Try.func4 rfl Try.ntmps4 rfl ?_
  refine T_seq ?_
  refine T_region ?_
  refine TL_e rfl (Ef_boxN rfl (fun b5 => ?_))
  refine TL_q (Qt_assign (.bool _) rfl) rfl ?_
  refine TL_nil ?_
  refine X_then ?_
  refine T_seq ?_
  refine T_seq ?_
  refine T_region ?_
  refine TL_e rfl (Ef_call (wakes09_c) rfl (fun x13 => ?_))
  refine TL_q (Qt_not rfl) rfl ?_
  refine TL_nil ?_
  refine X_then ?_
  refine T_cond rfl (fun h14 => ?_) (fun h14 => ?_)
  ·
    have p14 := h14
    try simp only [decide_eq_true_eq, decide_eq_false_iff_not, Bool.not_eq_true', Bool.not_eq_false', Option.isNone_iff_eq_none, ne_eq, Decidable.not_not, Int.not_lt, Int.not_le] at p14
    cases h14
  ·
    have p14 := h14
    try simp only [decide_eq_true_eq, decide_eq_false_iff_not, Bool.not_eq_true', Bool.not_eq_false', Option.isNone_iff_eq_none, ne_eq, Decidable.not_not, Int.not_lt, Int.not_le] at p14
    refine T_skip ?_
    refine X_then ?_
    refine T_seq ?_
    refine T_seq ?_
    refine T_region ?_
    refine TL_q (Qt_move (.slice _ _ _) rfl) rfl ?_
    refine TL_q (Qt_len_slice rfl Try.underlying25) rfl ?_
    refine TL_q (Qt_gtr rfl rfl) rfl ?_
    refine TL_q (Qt_move (.bool _) rfl) rfl ?_
    refine TL_split 18 rfl (fun h18 => ?_) (fun h18 => ?_)
    ·
      have p18 := h18
      try simp only [decide_eq_true_eq, decide_eq_false_iff_not, Bool.not_eq_true', Bool.not_eq_false', Option.isNone_iff_eq_none, ne_eq, Decidable.not_not, Int.not_lt, Int.not_le] at p18
      refine TL_pass rfl rfl h18 rfl ?_
      refine TL_pass rfl rfl h18 rfl ?_
      refine TL_pass rfl rfl h18 rfl ?_
      refine TL_q (Qt_pick_t (.bool _) rfl h18 rfl) rfl ?_
      refine TL_q (Qt_move (.bool _) rfl) rfl ?_
      refine TL_pass rfl rfl rfl rfl ?_
      refine TL_pass rfl rfl rfl rfl ?_
      refine TL_q (Qt_pick_t (.bool _) rfl rfl rfl) rfl ?_
      refine TL_nil ?_
      refine X_then ?_
      refine T_cond_true rfl rfl ?_
      refine T_seq ?_
      refine T_region ?_
      refine TL_q (Qt_assign (.bool _) rfl) rfl ?_
      refine TL_nil ?_
      refine X_then ?_
      refine T_ret ?_
      refine X_then_ret ?_
      exact X_ret () [_] Try.results4 ⟨rfl, trivial⟩ rfl (Subs.st inferInstance)
    ·
      have p18 := h18
      try simp only [decide_eq_true_eq, decide_eq_false_iff_not, Bool.not_eq_true', Bool.not_eq_false', Option.isNone_iff_eq_none, ne_eq, Decidable.not_not, Int.not_lt, Int.not_le] at p18
      refine TL_take rfl rfl h18 ?_
      refine TL_q (Qt_move (.slice _ _ _) rfl) rfl ?_
      refine TL_take rfl rfl h18 ?_
      refine TL_q (Qt_len_slice rfl Try.underlying25) rfl ?_
      refine TL_take rfl rfl h18 ?_
      refine TL_q (Qt_gtr rfl rfl) rfl ?_
      refine TL_q (Qt_pick_f (.bool _) rfl h18 rfl) rfl ?_
      refine TL_q (Qt_move (.bool _) rfl) rfl ?_
      refine TL_split 23 rfl (fun h23 => ?_) (fun h23 => ?_)
      ·
        have p23 := h23
        try simp only [decide_eq_true_eq, decide_eq_false_iff_not, Bool.not_eq_true', Bool.not_eq_false', Option.isNone_iff_eq_none, ne_eq, Decidable.not_not, Int.not_lt, Int.not_le] at p23
        refine TL_pass rfl rfl h23 rfl ?_
        refine TL_pass rfl rfl h23 rfl ?_
        refine TL_q (Qt_pick_t (.bool _) rfl h23 rfl) rfl ?_
        refine TL_nil ?_
        refine X_then ?_
        refine T_cond_true rfl rfl ?_
        refine T_seq ?_
        refine T_region ?_
        refine TL_q (Qt_assign (.bool _) rfl) rfl ?_
        refine TL_nil ?_
        refine X_then ?_
        refine T_ret ?_
        refine X_then_ret ?_
        exact X_ret () [_] Try.results4 ⟨rfl, trivial⟩ rfl (Subs.st inferInstance)
      ·
        have p23 := h23
        try simp only [decide_eq_true_eq, decide_eq_false_iff_not, Bool.not_eq_true', Bool.not_eq_false', Option.isNone_iff_eq_none, ne_eq, Decidable.not_not, Int.not_lt, Int.not_le] at p23
        refine TL_take rfl rfl h23 ?_
        refine TL_q (Qt_loadN rfl rfl) rfl ?_
        refine TL_take rfl rfl h23 ?_
        refine TL_e rfl (Ef_call (longM_c) rfl (fun x25 => ?_))
        refine TL_q (Qt_pick_f (.bool _) rfl h23 rfl) rfl ?_
        refine TL_nil ?_
        refine X_then ?_
        refine T_cond rfl (fun h26 => ?_) (fun h26 => ?_)
        ·
          have p26 := h26
          try simp only [decide_eq_true_eq, decide_eq_false_iff_not, Bool.not_eq_true', Bool.not_eq_false', Option.isNone_iff_eq_none, ne_eq, Decidable.not_not, Int.not_lt, Int.not_le] at p26
          refine T_seq ?_
          refine T_region ?_
          refine TL_q (Qt_assign (.bool _) rfl) rfl ?_
          refine TL_nil ?_
          refine X_then ?_
          refine T_ret ?_
          refine X_then_ret ?_
          exact X_ret () [_] Try.results4 ⟨rfl, trivial⟩ rfl (Subs.st inferInstance)
        ·
          have p26 := h26
          try simp only [decide_eq_true_eq, decide_eq_false_iff_not, Bool.not_eq_true', Bool.not_eq_false', Option.isNone_iff_eq_none, ne_eq, Decidable.not_not, Int.not_lt, Int.not_le] at p26
          have hsm : SmallM m.abs := small_of_longM h26
          refine T_skip ?_
          refine X_then ?_
          refine T_seq ?_
          refine T_region ?_
          refine TL_q (Qt_fieldAddr 1 rfl rfl) rfl ?_
          refine TL_n (Ef_store1 (.int .i64 _) rfl rfl (?_))
          refine TL_nil ?_
          refine X_then ?_
          refine T_seq ?_
          refine T_region ?_
          obtain ⟨m0, hm0⟩ : ∃ m0 : MsgV, m0 = { m with frm := 0 } := ⟨_, rfl⟩
          rw [← hm0]
          have hfz : m0.abs.frm = 0 := by rw [hm0]; rfl
          have rb0 : RdB w0 H (.slice m0.body.a m0.body.l.length m0.body.c) m0.body.l := by rw [hm0]; exact rb
          have rc0 : RdC w0 H (.slice m0.parts.a m0.parts.ls.length m0.parts.c) 1 (m0.parts.ls.map BS.val) := by rw [hm0]; exact rc
          have re0 : RdE w0 H m0.parts.ls := by rw [hm0]; exact re
          have hs0 : SmallM m0.abs := by rw [hm0]; exact ⟨hsm.body, hsm.parts, hsm.each⟩
          refine TL_q (Qt_move (.slice _ _ _) rfl) rfl ?_
          refine TL_e rfl (Ef_sliceN (m := ([x] : List BS).length) [BS.val x] (([x] : List BS).map BS.val) rfl rfl rfl rfl (by simp [Value.cells, BS.val]) rfl rfl (fun a30 c30 => ?_))
          refine TL_q (Qt_build [(0, .slice _ _ _)] rfl (by kernel_rfl)) rfl ?_
          refine TL_q (Qt_loadN rfl rfl) rfl ?_
          refine TL_e rfl (Ef_call (sealF_c (sa := a30) (sc := c30) (ls := [x]) (rt := KeysV.zero.roots) (by intro z hz; simp at hz; subst hz; omega) m0.abs rfl hs0) rfl (fun x33 => ?_))
          rw [show ([x] : List BS).map BS.l = [x.l] from rfl]
          refine TL_q (Qt_move (.tuple _) rfl) rfl ?_
          refine TL_q (Qt_extract rfl) rfl ?_
          refine TL_q (Qt_extract rfl) rfl ?_
          refine TL_q (Qt_assign (.slice _ _ _) rfl) rfl ?_
          refine TL_q (Qt_assign (.int .i64 _) rfl) rfl ?_
          refine TL_nil ?_
          refine X_then ?_
          refine T_seq ?_
          refine T_seq ?_
          refine T_region ?_
          refine TL_q (Qt_move (.int .i64 _) rfl) rfl ?_
          refine TL_q (Qt_neq rfl rfl) rfl ?_
          refine TL_nil ?_
          refine X_then ?_
          refine T_cond rfl (fun h37 => ?_) (fun h37 => ?_)
          ·
            have p37 := h37
            try simp only [decide_eq_true_eq, decide_eq_false_iff_not, Bool.not_eq_true', Bool.not_eq_false', Option.isNone_iff_eq_none, ne_eq, Decidable.not_not, Int.not_lt, Int.not_le] at p37
            refine T_seq ?_
            refine T_region ?_
            refine TL_q (Qt_move (.slice _ _ _) rfl) rfl ?_
            refine TL_q (Qt_len_slice rfl Try.underlying25) rfl ?_
            refine TL_q (Qt_eql rfl rfl) rfl ?_
            refine TL_q (Qt_assign (.bool _) rfl) rfl ?_
            refine TL_nil ?_
            refine X_then ?_
            refine T_ret ?_
            refine X_then_ret ?_
            have hn : (sealK [x.l] m0.abs).1 = [] := sealK_nil (by simpa using h37)
            exact X_ret () [.bool true] Try.results4 ⟨by refine congrArg Value.bool ?_; rw [hn]; rfl, trivial⟩ rfl (Subs.st inferInstance)
          ·
            have p37 := h37
            try simp only [decide_eq_true_eq, decide_eq_false_iff_not, Bool.not_eq_true', Bool.not_eq_false', Option.isNone_iff_eq_none, ne_eq, Decidable.not_not, Int.not_lt, Int.not_le] at p37
            have hz : (sealK [x.l] m0.abs).2 = 0 := by simpa using h37
            have hpz := sealK_put hz
            have hsx1 := sealK_one (k := x.l) hpz hfz
            have hsy1 := sealK_one (k := y.l) hpz hfz
            refine T_skip ?_
            refine X_then ?_
            refine T_seq ?_
            refine T_region ?_
            refine TL_q (Qt_move (.slice _ _ _) rfl) rfl ?_
            refine TL_e rfl (Ef_sliceN (m := ([y] : List BS).length) [BS.val y] (([y] : List BS).map BS.val) rfl rfl rfl rfl (by simp [Value.cells, BS.val]) rfl rfl (fun a43 c43 => ?_))
            refine TL_q (Qt_build [(0, .slice _ _ _)] rfl (by kernel_rfl)) rfl ?_
            refine TL_q (Qt_move (.slice _ _ _) rfl) rfl ?_
            refine TL_e rfl (Ef_call (openF_c (sa := a43) (sc := c43) (ls := [y]) (rt := KeysV.zero.roots) (by intro z hz; simp at hz; subst hz; omega) (l := (sealK [x.l] m0.abs).1) (by have := @sealK_le [x.l] m0.abs; omega)) rfl (fun x46 => ?_))
            rw [show ([y] : List BS).map BS.l = [y.l] from rfl]
            refine TL_pure (fun hx46 => ?_)
            refine TL_q (Qt_move (.tuple _) rfl) rfl ?_
            refine TL_q (Qt_extract rfl) rfl ?_
            refine TL_q (Qt_extract rfl) rfl ?_
            refine TL_e rfl (Ef_allocN (fun b9 => ?_))
            refine TL_n (Ef_storeN rfl rfl (?_))
            refine TL_q (Qt_assign (.int .i64 _) rfl) rfl ?_
            refine TL_nil ?_
            refine X_then ?_
            refine T_seq ?_
            refine T_region ?_
            refine TL_q (Qt_move (.slice _ _ _) rfl) rfl ?_
            refine TL_e rfl (Ef_sliceN (m := ([y] : List BS).length) [BS.val y] (([y] : List BS).map BS.val) rfl rfl rfl rfl (by simp [Value.cells, BS.val]) rfl rfl (fun a51 c51 => ?_))
            refine TL_q (Qt_build [(0, .slice _ _ _)] rfl (by kernel_rfl)) rfl ?_
            refine TL_q (Qt_loadN rfl rfl) rfl ?_
            refine TL_e rfl (Ef_call (rSealF_c (sa := a51) (sc := c51) (ls := [y]) (rt := KeysV.zero.roots) (by intro z hz; simp at hz; subst hz; omega) m0.abs rfl hs0) rfl (fun x54 => ?_))
            rw [show ([y] : List BS).map BS.l = [y.l] from rfl]
            refine TL_q (Qt_move (.tuple _) rfl) rfl ?_
            refine TL_q (Qt_extract rfl) rfl ?_
            refine TL_q (Qt_extract rfl) rfl ?_
            refine TL_q (Qt_assign (.slice _ _ _) rfl) rfl ?_
            refine TL_q (Qt_assign (.int .i64 _) rfl) rfl ?_
            refine TL_nil ?_
            refine X_then ?_
            refine T_seq ?_
            refine T_seq ?_
            refine T_region ?_
            refine TL_q (Qt_move (.slice _ _ _) rfl) rfl ?_
            refine TL_q (Qt_move (.slice _ _ _) rfl) rfl ?_
            refine TL_e rfl (Ef_call (same_c (by have := @sealK_le [x.l] m0.abs; omega)) rfl (fun x59 => ?_))
            refine TL_nil ?_
            refine X_then ?_
            refine T_cond rfl (fun h59 => ?_) (fun h59 => ?_)
            ·
              have p59 := h59
              try simp only [decide_eq_true_eq, decide_eq_false_iff_not, Bool.not_eq_true', Bool.not_eq_false', Option.isNone_iff_eq_none, ne_eq, Decidable.not_not, Int.not_lt, Int.not_le] at p59
              have p59 : (sealK [x.l] m0.abs).1 = (sealK [y.l] m0.abs).1 := of_decide_eq_true h59
              have htg : tagOf x.l (msgB m0.abs) = tagOf y.l (msgB m0.abs) := by rw [hsx1, hsy1] at p59; exact tag_eq.1 p59
              have hop : openK [y.l] (sealK [x.l] m0.abs).1 = (0, m0.abs) := by rw [hsx1, openK_one hpz hs0 hfz, if_neg (by rw [htg]; simp)]
              rw [hop] at hx46 ⊢
              have hsx : SmallM x46.1.abs := by rw [hx46]; exact hs0
              refine T_seq ?_
              refine T_region ?_
              refine TL_q (Qt_move (.int .i64 _) rfl) rfl ?_
              refine TL_q (Qt_eql rfl rfl) rfl ?_
              refine TL_q (Qt_move (.bool _) rfl) rfl ?_
              refine TL_split 62 rfl (fun h62 => ?_) (fun h62 => ?_)
              ·
                have p62 := h62
                try simp only [decide_eq_true_eq, decide_eq_false_iff_not, Bool.not_eq_true', Bool.not_eq_false', Option.isNone_iff_eq_none, ne_eq, Decidable.not_not, Int.not_lt, Int.not_le] at p62
                refine TL_take rfl rfl h62 ?_
                refine TL_q (Qt_loadN rfl rfl) rfl ?_
                refine TL_take rfl rfl h62 ?_
                refine TL_q (Qt_loadN rfl rfl) rfl ?_
                refine TL_take rfl rfl h62 ?_
                refine TL_e rfl (Ef_call (sameM_c (v := x46.1) (u := m0) (by have : x46.1.body.l.length ≤ 3000 := hsx.body; omega) (by have := hsx.parts; rw [parts_len] at this; omega) (fun x hx => by have : x.l.length ≤ 3000 := hsx.each x.l (List.mem_map.2 ⟨x, hx, rfl⟩); omega)) rfl (fun x65 => ?_))
                refine TL_q (Qt_pick_t (.bool _) rfl h62 rfl) rfl ?_
                refine TL_q (Qt_assign (.bool _) rfl) rfl ?_
                refine TL_nil ?_
                refine X_then ?_
                refine T_ret ?_
                refine X_then_ret ?_
                exact X_ret () [.bool true] Try.results4 ⟨by refine congrArg Value.bool ?_; simp [hx46], trivial⟩ rfl (Subs.st inferInstance)
              ·
                have p62 := h62
                try simp only [decide_eq_true_eq, decide_eq_false_iff_not, Bool.not_eq_true', Bool.not_eq_false', Option.isNone_iff_eq_none, ne_eq, Decidable.not_not, Int.not_lt, Int.not_le] at p62
                exact absurd h62 (by simp)
            ·
              have p59 := h59
              try simp only [decide_eq_true_eq, decide_eq_false_iff_not, Bool.not_eq_true', Bool.not_eq_false', Option.isNone_iff_eq_none, ne_eq, Decidable.not_not, Int.not_lt, Int.not_le] at p59
              have p59 : ¬ (sealK [x.l] m0.abs).1 = (sealK [y.l] m0.abs).1 := of_decide_eq_false h59
              have htg : tagOf y.l (msgB m0.abs) ≠ tagOf x.l (msgB m0.abs) := fun h => p59 (by rw [hsx1, hsy1, h])
              have hop : openK [y.l] (sealK [x.l] m0.abs).1 = (5, .zero) := by rw [hsx1, openK_one hpz hs0 hfz, if_pos htg]
              rw [hop]
              refine T_skip ?_
              refine X_then ?_
              refine T_seq ?_
              refine T_region ?_
              refine TL_q (Qt_move (.int .i64 _) rfl) rfl ?_
              refine TL_q (Qt_eql rfl rfl) rfl ?_
              refine TL_q (Qt_assign (.bool _) rfl) rfl ?_
              refine TL_nil ?_
              refine X_then ?_
              refine T_ret ?_
              exact X_ret () [_] Try.results4 ⟨rfl, trivial⟩ rfl (Subs.st inferInstance)
end Go.Proofs.Ytgjkgdjjolnhdaa
