/- Walks: the laws on seals. -/
import Derived.Test.YtgjkgdjjolnhdaaLp
namespace Go.Proofs.Ytgjkgdjjolnhdaa
open Go.RowKit Go.Sx
set_option maxRecDepth 100000
set_option linter.unusedSimpArgs false
set_option linter.unusedVariables false
theorem openF_c {w0 : World} {H : List SA} {sa : Option Addr} {sc : Nat} {ls : List BS} {rt : Sl} [rk : RdC w0 H (.slice sa ls.length sc) 1 (ls.map BS.val)] [rke : RdE w0 H ls] (hkl : ∀ x ∈ ls, x.l.length ≤ 4294967000) {a : Option Addr} {l : List UInt8} {c : Nat} [hr : RdB w0 H (.slice a l.length c) l] (hl : l.length ≤ 4294960000) :
    CT Try.prog w0 H 14 [.agg (KeysV.mk ⟨sa, sc, ls⟩ rt).cells, .slice a l.length c] (α := MsgV × List Nat) (fun y => .tuple #[.agg y.1.cells, .int .i64 (openK (ls.map BS.l) l).1]) (fun y => pu (y.1.abs = (openK (ls.map BS.l) l).2) :: dat y.2 (Deep.leads y.1) :: H) :=
  open_c (k := ⟨⟨sa, sc, ls⟩, rt⟩) (rk := rk) (rke := rke) hkl hl
theorem sealF_c {w0 : World} {H : List SA} {sa : Option Addr} {sc : Nat} {ls : List BS} {rt : Sl} [rk : RdC w0 H (.slice sa ls.length sc) 1 (ls.map BS.val)] [rke : RdE w0 H ls] (hkl : ∀ x ∈ ls, x.l.length ≤ 4294967000) {m : MsgV} (M : MsgD) [rb : RdB w0 H (.slice m.body.a m.body.l.length m.body.c) m.body.l] [rc : RdC w0 H (.slice m.parts.a m.parts.ls.length m.parts.c) 1 (m.parts.ls.map BS.val)] [re : RdE w0 H m.parts.ls] (hM : m.abs = M) (hs : SmallM M) :
    CT Try.prog w0 H 10 [.agg (KeysV.mk ⟨sa, sc, ls⟩ rt).cells, .agg m.cells] (α := AC) (fun y => .tuple #[.slice y.a (sealK (ls.map BS.l) M).1.length y.c, .int .i64 (sealK (ls.map BS.l) M).2]) (fun y => row (.slice y.a (sealK (ls.map BS.l) M).1.length y.c) 5 1 (bytesV (sealK (ls.map BS.l) M).1) :: H) := by
  subst hM
  exact seal_c (k := ⟨⟨sa, sc, ls⟩, rt⟩) (rk := rk) (rke := rke) hkl hs
theorem rSealF_c {w0 : World} {H : List SA} {sa : Option Addr} {sc : Nat} {ls : List BS} {rt : Sl} [rk : RdC w0 H (.slice sa ls.length sc) 1 (ls.map BS.val)] [rke : RdE w0 H ls] (hkl : ∀ x ∈ ls, x.l.length ≤ 4294967000) {m : MsgV} (M : MsgD) [rb : RdB w0 H (.slice m.body.a m.body.l.length m.body.c) m.body.l] [rc : RdC w0 H (.slice m.parts.a m.parts.ls.length m.parts.c) 1 (m.parts.ls.map BS.val)] [re : RdE w0 H m.parts.ls] (hM : m.abs = M) (hs : SmallM M) :
    CT Try.prog w0 H 12 [.agg (KeysV.mk ⟨sa, sc, ls⟩ rt).cells, .agg m.cells] (α := AC) (fun y => .tuple #[.slice y.a (sealK (ls.map BS.l) M).1.length y.c, .int .i64 (sealK (ls.map BS.l) M).2]) (fun y => row (.slice y.a (sealK (ls.map BS.l) M).1.length y.c) 5 1 (bytesV (sealK (ls.map BS.l) M).1) :: H) := by
  subst hM
  exact rSeal_c (k := ⟨⟨sa, sc, ls⟩, rt⟩) (rk := rk) (rke := rke) hkl hs
def longK (K : List (List UInt8)) : Bool := decide (16 < K.length) || K.any fun c => decide (200 < c.length)
theorem longK_small {K : List (List UInt8)} (h : longK K = false) : K.length ≤ 16 ∧ ∀ x ∈ K, x.length ≤ 200 := by
  simp only [longK, Bool.or_eq_false_iff, decide_eq_false_iff_not, List.any_eq_false, decide_eq_true_eq] at h
  exact ⟨by omega, fun x hx => by have := h.2 x hx; omega⟩
def MW : MsgD := ⟨2, 1, 0, 0, 0, zeroV 32, [], []⟩
def KW : List (List UInt8) := [[1], [2]]
theorem smallW : SmallM MW := ⟨by decide, by decide, fun x hx => by cases hx⟩
theorem formedW : formedM MW = true := by simp [formedM, MW]
theorem lenW : (msgB MW).length = 42 := by
  rw [msgB_len, headM_len]
  have e : packed 0 = [0] := packed_small (by decide)
  simp [textB, MW, texts, e]
theorem putW : (putM MW).2 = 0 := by
  unfold putM
  rw [if_neg (by rw [lenW]; simp [MW]), if_pos formedW]
theorem sealW : (sealK KW MW).2 = 0 ∧ (sealK KW MW).1.length = 74 := by
  rw [sealK_ok putW (by simp [KW, MW])]
  refine ⟨rfl, ?_⟩
  simp only [(putM_ok putW).1, List.length_append, lenW, Vector.length_toList]
theorem openW : openK KW (sealK KW MW).1 = (0, MW) := openK_seal sealW.1 smallW
theorem sealK_nil {K : List (List UInt8)} {m : MsgD} (h : (sealK K m).2 ≠ 0) : (sealK K m).1 = [] := by
  unfold sealK at h ⊢
  split
  · rfl
  · rename_i h1
    rw [if_neg h1] at h
    split
    · rfl
    · rename_i h2; rw [if_neg h2] at h; exact absurd rfl h
theorem openK_nil {K : List (List UInt8)} : openK K [] = (1, .zero) := openK_1 (by decide)
instance RdE.one {w0 : World} {H : List SA} {x : BS} [h : RdB w0 H (.slice x.a x.l.length x.c) x.l] : RdE w0 H [x] := ⟨fun z hz w hw => by
  obtain rfl : z = x := by simpa using hz
  exact h.rd w hw⟩
theorem sealK_le {K : List (List UInt8)} {m : MsgD} : (sealK K m).1.length ≤ 65536 := by
  have := putM_le m
  unfold sealK
  split
  · simp
  · split
    · simp
    · simp; omega
attribute [local irreducible] sealK openK putM tagOf

set_option maxHeartbeats 1000000 in
theorem wakes09_c {w0 : World} {H : List SA}  :
    CT Try.prog w0 (H) 7 [] (α := Unit) (fun _ => .bool true) (fun _ => H) := by
  refine CT_intro Try.func7 rfl Try.ntmps7 rfl ?_
  refine T_seq ?_
  refine T_region ?_
  refine TL_q (Qt_assign (.bool _) rfl) rfl ?_
  refine TL_nil ?_
  refine X_then ?_
  refine T_seq ?_
  refine T_region ?_
  refine TL_e rfl (Ef_sliceN (m := ([1] : List UInt8).length) [.int .u8 1] (bytesV [1]) rfl rfl rfl rfl (by simp [Value.cells]) rfl rfl (fun a8 c8 => ?_))
  refine TL_e rfl (Ef_sliceN (m := ([2] : List UInt8).length) [.int .u8 2] (bytesV [2]) rfl rfl rfl rfl (by simp [Value.cells]) rfl rfl (fun a9 c9 => ?_))
  refine TL_e rfl (Ef_sliceN (m := ([⟨a8, c8, [1]⟩, ⟨a9, c9, [2]⟩] : List BS).length) [BS.val ⟨a8, c8, [1]⟩, BS.val ⟨a9, c9, [2]⟩] (([⟨a8, c8, [1]⟩, ⟨a9, c9, [2]⟩] : List BS).map BS.val) rfl rfl rfl rfl (by simp [Value.cells, BS.val]) rfl rfl (fun a10 c10 => ?_))
  refine TL_q (Qt_build [(0, .slice _ _ _)] rfl (by kernel_rfl)) rfl ?_
  refine TL_e rfl (Ef_allocN (fun b1 => ?_))
  refine TL_n (Ef_storeN rfl rfl (?_))
  refine TL_nil ?_
  refine X_then ?_
  refine T_seq ?_
  refine T_region ?_
  refine TL_q (Qt_loadN rfl rfl) rfl ?_
  refine TL_e rfl (Ef_call (openF_c (sa := a10) (sc := c10) (ls := ([⟨a8, c8, [1]⟩, ⟨a9, c9, [2]⟩] : List BS)) (rt := KeysV.zero.roots) (l := []) (by intro x hx; simp at hx; rcases hx with rfl | rfl <;> simp) (by simp)) rfl (fun x14 => ?_))
  rw [openK_nil]
  refine TL_pure (fun _ => ?_)
  refine TL_q (Qt_move (.tuple _) rfl) rfl ?_
  refine TL_q (Qt_extract rfl) rfl ?_
  refine TL_q (Qt_extract rfl) rfl ?_
  refine TL_e rfl (Ef_allocN (fun b2 => ?_))
  refine TL_n (Ef_storeN rfl rfl (?_))
  refine TL_q (Qt_assign (.int .i64 _) rfl) rfl ?_
  refine TL_nil ?_
  refine X_then ?_
  refine T_seq ?_
  refine T_region ?_
  refine TL_q (Qt_loadN rfl rfl) rfl ?_
  refine TL_q (Qt_build [(0, (.int .i64 _)), (1, (.int .i64 _))] rfl (by kernel_rfl)) rfl ?_
  refine TL_e rfl (Ef_call (sealF_c (sa := a10) (sc := c10) (ls := ([⟨a8, c8, [1]⟩, ⟨a9, c9, [2]⟩] : List BS)) (rt := KeysV.zero.roots) (by intro x hx; simp at hx; rcases hx with rfl | rfl <;> simp) (m := ⟨2, 1, 0, 0, 0, zeroV 32, ⟨none, 0, []⟩, ⟨none, 0, []⟩⟩) MW (rb := RdB.nil') (rc := RdC.vals0) (re := RdE.nil) rfl smallW) rfl (fun x20 => ?_))
  rw [show ([⟨a8, c8, [1]⟩, ⟨a9, c9, [2]⟩] : List BS).map BS.l = KW from rfl]
  rw [sealW.1]
  refine TL_q (Qt_move (.tuple _) rfl) rfl ?_
  refine TL_q (Qt_extract rfl) rfl ?_
  refine TL_q (Qt_extract rfl) rfl ?_
  refine TL_q (Qt_assign (.slice _ _ _) rfl) rfl ?_
  refine TL_q (Qt_assign (.int .i64 _) rfl) rfl ?_
  refine TL_nil ?_
  refine X_then ?_
  refine T_seq ?_
  refine T_region ?_
  refine TL_q (Qt_loadN rfl rfl) rfl ?_
  refine TL_q (Qt_move (.slice _ _ _) rfl) rfl ?_
  refine TL_e rfl (Ef_call (openF_c (sa := a10) (sc := c10) (ls := ([⟨a8, c8, [1]⟩, ⟨a9, c9, [2]⟩] : List BS)) (rt := KeysV.zero.roots) (by intro x hx; simp at hx; rcases hx with rfl | rfl <;> simp) (l := (sealK KW MW).1) (by have := @sealK_le KW MW; omega)) rfl (fun x26 => ?_))
  rw [show ([⟨a8, c8, [1]⟩, ⟨a9, c9, [2]⟩] : List BS).map BS.l = KW from rfl, openW]
  refine TL_pure (fun hx => ?_)
  have hfr : x26.1.frm = 1 := congrArg MsgD.frm hx
  refine TL_q (Qt_move (.tuple _) rfl) rfl ?_
  refine TL_q (Qt_extract rfl) rfl ?_
  refine TL_q (Qt_extract rfl) rfl ?_
  refine TL_e rfl (Ef_allocN (fun b6 => ?_))
  refine TL_n (Ef_storeN rfl rfl (?_))
  refine TL_q (Qt_assign (.int .i64 _) rfl) rfl ?_
  refine TL_nil ?_
  refine X_then ?_
  refine T_seq ?_
  refine T_region ?_
  refine TL_q (Qt_move (.int .i64 _) rfl) rfl ?_
  refine TL_q (Qt_eql rfl rfl) rfl ?_
  refine TL_q (Qt_move (.bool _) rfl) rfl ?_
  refine TL_split 31 rfl (fun h31 => ?_) (fun h31 => ?_)
  ·
    have p31 := h31
    try simp only [decide_eq_true_eq, decide_eq_false_iff_not, Bool.not_eq_true', Bool.not_eq_false', Option.isNone_iff_eq_none, ne_eq, Decidable.not_not, Int.not_lt, Int.not_le] at p31
    refine TL_take rfl rfl h31 ?_
    refine TL_q (Qt_move (.int .i64 _) rfl) rfl ?_
    refine TL_take rfl rfl h31 ?_
    refine TL_q (Qt_eql rfl rfl) rfl ?_
    refine TL_q (Qt_pick_t (.bool _) rfl h31 rfl) rfl ?_
    refine TL_q (Qt_move (.bool _) rfl) rfl ?_
    refine TL_split 35 rfl (fun h35 => ?_) (fun h35 => ?_)
    ·
      have p35 := h35
      try simp only [decide_eq_true_eq, decide_eq_false_iff_not, Bool.not_eq_true', Bool.not_eq_false', Option.isNone_iff_eq_none, ne_eq, Decidable.not_not, Int.not_lt, Int.not_le] at p35
      refine TL_take rfl rfl h35 ?_
      refine TL_q (Qt_move (.slice _ _ _) rfl) rfl ?_
      refine TL_take rfl rfl h35 ?_
      refine TL_q (Qt_len_slice rfl Try.underlying25) rfl ?_
      refine TL_take rfl rfl h35 ?_
      refine TL_q (Qt_eql rfl rfl) rfl ?_
      refine TL_q (Qt_pick_t (.bool _) rfl h35 rfl) rfl ?_
      refine TL_q (Qt_move (.bool _) rfl) rfl ?_
      refine TL_split 40 rfl (fun h40 => ?_) (fun h40 => ?_)
      ·
        have p40 := h40
        try simp only [decide_eq_true_eq, decide_eq_false_iff_not, Bool.not_eq_true', Bool.not_eq_false', Option.isNone_iff_eq_none, ne_eq, Decidable.not_not, Int.not_lt, Int.not_le] at p40
        refine TL_take rfl rfl h40 ?_
        refine TL_q (Qt_move (.int .i64 _) rfl) rfl ?_
        refine TL_take rfl rfl h40 ?_
        refine TL_q (Qt_eql rfl rfl) rfl ?_
        refine TL_q (Qt_pick_t (.bool _) rfl h40 rfl) rfl ?_
        refine TL_q (Qt_move (.bool _) rfl) rfl ?_
        refine TL_split 44 rfl (fun h44 => ?_) (fun h44 => ?_)
        ·
          have p44 := h44
          try simp only [decide_eq_true_eq, decide_eq_false_iff_not, Bool.not_eq_true', Bool.not_eq_false', Option.isNone_iff_eq_none, ne_eq, Decidable.not_not, Int.not_lt, Int.not_le] at p44
          refine TL_take rfl rfl h44 ?_
          refine TL_q (Qt_fieldAddr 1 rfl rfl) rfl ?_
          refine TL_take rfl rfl h44 ?_
          refine TL_q (Qt_load1 rfl) rfl ?_
          refine TL_take rfl rfl h44 ?_
          refine TL_q (Qt_eql rfl rfl) rfl ?_
          refine TL_q (Qt_pick_t (.bool _) rfl h44 rfl) rfl ?_
          refine TL_q (Qt_assign (.bool _) rfl) rfl ?_
          refine TL_nil ?_
          refine X_then ?_
          refine T_ret ?_
          exact X_ret () [.bool true] Try.results7 ⟨by refine congrArg Value.bool ?_; simp [hfr], trivial⟩ rfl (Subs.st inferInstance)
        ·
          have p44 := h44
          try simp only [decide_eq_true_eq, decide_eq_false_iff_not, Bool.not_eq_true', Bool.not_eq_false', Option.isNone_iff_eq_none, ne_eq, Decidable.not_not, Int.not_lt, Int.not_le] at p44
          exact absurd h44 (by first | (simp [sealW.2]; done) | (rw [sealW.2]; simp))
      ·
        have p40 := h40
        try simp only [decide_eq_true_eq, decide_eq_false_iff_not, Bool.not_eq_true', Bool.not_eq_false', Option.isNone_iff_eq_none, ne_eq, Decidable.not_not, Int.not_lt, Int.not_le] at p40
        exact absurd h40 (by first | (simp [sealW.2]; done) | (rw [sealW.2]; simp))
    ·
      have p35 := h35
      try simp only [decide_eq_true_eq, decide_eq_false_iff_not, Bool.not_eq_true', Bool.not_eq_false', Option.isNone_iff_eq_none, ne_eq, Decidable.not_not, Int.not_lt, Int.not_le] at p35
      exact absurd h35 (by first | (simp [sealW.2]; done) | (rw [sealW.2]; simp))
  ·
    have p31 := h31
    try simp only [decide_eq_true_eq, decide_eq_false_iff_not, Bool.not_eq_true', Bool.not_eq_false', Option.isNone_iff_eq_none, ne_eq, Decidable.not_not, Int.not_lt, Int.not_le] at p31
    exact absurd h31 (by first | (simp [sealW.2]; done) | (rw [sealW.2]; simp))
set_option maxHeartbeats 1000000 in
theorem long09_c {w0 : World} {H : List SA} {a : Option Addr} {ls : List BS} {c : Nat} [hr : RdC w0 H (.slice a ls.length c) 1 (ls.map BS.val)] :
    CT Try.prog w0 (H) 8 [.slice a ls.length c] (α := Unit) (fun _ => .bool (longK (ls.map BS.l))) (fun _ => H) := by
  refine CT_intro Try.func8 rfl Try.ntmps8 rfl ?_
  refine T_seq ?_
  refine T_region ?_
  refine TL_q (Qt_assign (.bool _) rfl) rfl ?_
  refine TL_nil ?_
  refine X_then ?_
  refine T_seq ?_
  refine T_seq ?_
  refine T_region ?_
  refine TL_q (Qt_move (.slice _ _ _) rfl) rfl ?_
  refine TL_q (Qt_len_slice rfl Try.underlying22) rfl ?_
  refine TL_q (Qt_gtr rfl rfl) rfl ?_
  refine TL_nil ?_
  refine X_then ?_
  refine T_cond rfl (fun h6 => ?_) (fun h6 => ?_)
  ·
    have p6 := h6
    try simp only [decide_eq_true_eq, decide_eq_false_iff_not, Bool.not_eq_true', Bool.not_eq_false', Option.isNone_iff_eq_none, ne_eq, Decidable.not_not, Int.not_lt, Int.not_le] at p6
    refine T_seq ?_
    refine T_region ?_
    refine TL_q (Qt_assign (.bool _) rfl) rfl ?_
    refine TL_nil ?_
    refine X_then ?_
    refine T_ret ?_
    refine X_then_ret ?_
    have e : longK (ls.map BS.l) = true := by simp [longK]; left; omega
    exact X_ret () [_] Try.results8 ⟨rfl, trivial⟩ (by rw [e]; rfl) (Subs.st inferInstance)
  ·
    have p6 := h6
    try simp only [decide_eq_true_eq, decide_eq_false_iff_not, Bool.not_eq_true', Bool.not_eq_false', Option.isNone_iff_eq_none, ne_eq, Decidable.not_not, Int.not_lt, Int.not_le] at p6
    refine T_skip ?_
    refine X_then ?_
    refine T_seq ?_
    refine T_seq ?_
    refine T_region ?_
    refine TL_q (Qt_move (.slice _ _ _) rfl) rfl ?_
    refine TL_q (Qt_len_slice rfl Try.underlying22) rfl ?_
    refine TL_q (Qt_move (.int .i64 _) rfl) rfl ?_
    refine TL_nil ?_
    refine X_then ?_
    refine T_block ?_
    refine T_loop [2, 3, 9, 10, 11, 12, 13, 14, 15, 16, 17, 18] [9] (fun us H' => ∃ (k : Nat), us = [.int .i64 (k : Int)] ∧ H = H' ∧ k ≤ ls.length ∧ (((ls.map BS.l).take k).any (fun c => decide (200 < c.length)) = false)) (fun us => match us with | .int _ i :: _ => ls.length - i.toNat | _ => 0) ⟨0, rfl, rfl, by omega, rfl⟩ (Subs.st inferInstance) ?_
    rintro τ0 _ _  ⟨k, rfl, rfl, hk0, hpre⟩ _
    refine T_seq ?_
    refine T_region ?_
    refine TL_q (Qt_lss rfl rfl) rfl ?_
    refine TL_nil ?_
    refine X_then ?_
    refine T_seq ?_
    refine T_cond rfl (fun h10 => ?_) (fun h10 => ?_)
    ·
      have p10 := h10
      try simp only [decide_eq_true_eq, decide_eq_false_iff_not, Bool.not_eq_true', Bool.not_eq_false', Option.isNone_iff_eq_none, ne_eq, Decidable.not_not, Int.not_lt, Int.not_le] at p10
      have hk : k < ls.length := by omega
      refine T_skip ?_
      refine X_then ?_
      refine T_seq ?_
      refine T_block ?_
      refine T_seq ?_
      refine T_region ?_
      refine TL_q (Qt_move (.int .i64 _) rfl) rfl ?_
      refine TL_q (Qt_assign (.int .i64 _) rfl) rfl ?_
      refine TL_nil ?_
      refine X_then ?_
      refine T_seq ?_
      refine T_region ?_
      refine TL_q (Qt_move (.slice _ _ _) rfl) rfl ?_
      refine TL_q (Qt_move (.int .i64 _) rfl) rfl ?_
      refine TL_q (Qt_indexR rfl rfl (by omega) (by simp; omega)) rfl ?_
      refine TL_q (Qt_loadR (.slice _ _ _) rfl (vals_get _ _ hk)) rfl ?_
      refine TL_q (Qt_len_slice rfl Try.underlying25) rfl ?_
      refine TL_q (Qt_gtr rfl rfl) rfl ?_
      refine TL_nil ?_
      refine X_then ?_
      refine T_cond rfl (fun h17 => ?_) (fun h17 => ?_)
      ·
        have p17 := h17
        try simp only [decide_eq_true_eq, decide_eq_false_iff_not, Bool.not_eq_true', Bool.not_eq_false', Option.isNone_iff_eq_none, ne_eq, Decidable.not_not, Int.not_lt, Int.not_le] at p17
        refine T_seq ?_
        refine T_region ?_
        refine TL_q (Qt_assign (.bool _) rfl) rfl ?_
        refine TL_nil ?_
        refine X_then ?_
        refine T_ret ?_
        refine X_block_ret ?_
        refine X_then_ret ?_
        refine X_loop_ret ?_
        refine X_block_ret ?_
        refine X_then_ret ?_
        have e : longK (ls.map BS.l) = true := by have := any_of_get (fun c : List UInt8 => decide (200 < c.length)) (ls.map BS.l) k (by simpa using hk) (by simp; omega); simp only [longK, this, Bool.or_true]
        exact X_ret () [_] Try.results8 ⟨rfl, trivial⟩ (by rw [e]; rfl) (Subs.st inferInstance)
      ·
        have p17 := h17
        try simp only [decide_eq_true_eq, decide_eq_false_iff_not, Bool.not_eq_true', Bool.not_eq_false', Option.isNone_iff_eq_none, ne_eq, Decidable.not_not, Int.not_lt, Int.not_le] at p17
        refine T_skip ?_
        refine X_block ?_
        refine X_then ?_
        refine T_region ?_
        first
          | refine TL_q (Qt_add rfl rfl (by omega) (by omega)) rfl ?_
          | refine TL_q (Qt_addw rfl rfl) rfl ?_
        refine TL_q (Qt_move (.int .i64 _) rfl) rfl ?_
        refine TL_nil ?_
        apply X_loop
        case ha => exact (by repeat (first | with_reducible exact agree_refl | refine agree_upd rfl ?_ | refine agree_mix rfl ?_ | refine agree_setAll rfl ?_))
        case hI => exact ⟨k + 1, rfl, rfl, by omega, any_take_snoc _ (ls.map BS.l) k (by simpa using hk) hpre (by simp; omega)⟩
        case hm => exact by show ls.length - (k + 1 : Int).toNat < ls.length - (k : Int).toNat; omega
        case hH => exact (Subs.st inferInstance)
    ·
      have p10 := h10
      try simp only [decide_eq_true_eq, decide_eq_false_iff_not, Bool.not_eq_true', Bool.not_eq_false', Option.isNone_iff_eq_none, ne_eq, Decidable.not_not, Int.not_lt, Int.not_le] at p10
      have et : (ls.map BS.l).take k = ls.map BS.l := List.take_of_length_le (by simp; omega)
      rw [et] at hpre
      refine T_exit ?_
      refine X_then_exit ?_
      refine X_loop_exit ?_
      refine X_block_exit ?_
      refine X_then ?_
      refine T_seq ?_
      refine T_region ?_
      refine TL_q (Qt_assign (.bool _) rfl) rfl ?_
      refine TL_nil ?_
      refine X_then ?_
      refine T_ret ?_
      have e : longK (ls.map BS.l) = false := by simp only [longK, hpre, Bool.or_false]; simp; omega
      exact X_ret () [_] Try.results8 ⟨rfl, trivial⟩ (by rw [e]; rfl) (Subs.st inferInstance)
end Go.Proofs.Ytgjkgdjjolnhdaa
