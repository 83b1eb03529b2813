/- Walks: what follows from what members tell: comparisons, MaxFunc, DeleteFunc, follows. -/
import Derived.Test.YtnijomppbgdmnaaVa
import Derived.Test.YtnijomppbgdmnaaSj
import Derived.Test.YtnijomppbgdmnaaSu
namespace Go.Proofs.Ytnijomppbgdmnaa
section
open Go.RowKit Go.Sx
set_option maxRecDepth 100000
set_option linter.unusedSimpArgs false
set_option linter.unusedVariables false
structure GoodT (t : ToldV) : Prop where
  l : 0 ≤ t.b.last ∧ t.b.last ≤ 60
  r : -1 ≤ t.b.reg ∧ t.b.reg ≤ 41
  f : 0 ≤ t.frm ∧ t.frm ≤ 15
def cmpL (x y : ToldV) : Int := x.b.last - y.b.last
def cmpR (x y : ToldV) : Int := if x.b.reg ≠ y.b.reg then x.b.reg - y.b.reg else y.frm - x.frm
/-- The greatest of the first of a list, by a comparison. -/
def mxK (f : ToldV → ToldV → Int) (ls : List ToldV) : Nat → ToldV
  | 0 => ls.getD 0 ToldV.zero
  | k + 1 => if 0 < f (ls.getD (k + 1) ToldV.zero) (mxK f ls k) then ls.getD (k + 1) ToldV.zero else mxK f ls k
theorem mxK_zero (f : ToldV → ToldV → Int) (ls : List ToldV) : mxK f ls 0 = ls.getD 0 ToldV.zero := rfl
theorem mxK_succ (f : ToldV → ToldV → Int) (ls : List ToldV) (k : Nat) : mxK f ls (k + 1) = if 0 < f (ls.getD (k + 1) ToldV.zero) (mxK f ls k) then ls.getD (k + 1) ToldV.zero else mxK f ls k := rfl
theorem getD_at {ls : List ToldV} {k : Nat} (h : k < ls.length) : ls.getD k ToldV.zero = ls[k] := by rw [List.getD_eq_getElem?_getD, List.getElem?_eq_getElem h]; rfl
theorem mxK_mem (f : ToldV → ToldV → Int) (ls : List ToldV) : ∀ k, k < ls.length → mxK f ls k ∈ ls
  | 0, h => by rw [mxK_zero, getD_at h]; exact List.getElem_mem h
  | k + 1, h => by
    rw [mxK_succ]
    split
    · rw [getD_at h]; exact List.getElem_mem h
    · exact mxK_mem f ls k (by omega)
theorem mxL_max (ls : List ToldV) : ∀ k, k < ls.length → ∀ i, i ≤ k → (hi : i < ls.length) → ls[i].b.last ≤ (mxK cmpL ls k).b.last
  | 0, h, i, hik, hi => by
    obtain rfl : i = 0 := by omega
    rw [mxK_zero, getD_at h]; exact Int.le_refl _
  | k + 1, h, i, hik, hi => by
    rw [mxK_succ, getD_at h]
    rcases Nat.lt_or_ge i (k + 1) with h1 | h1
    · have ih := mxL_max ls k (by omega) i (by omega) hi
      split
      · rename_i h2
        have h3 : 0 < ls[k + 1].b.last - (mxK cmpL ls k).b.last := h2
        omega
      · exact ih
    · obtain rfl : i = k + 1 := by omega
      split
      · exact Int.le_refl _
      · rename_i h2
        have h3 : ¬ 0 < ls[k + 1].b.last - (mxK cmpL ls k).b.last := h2
        omega
def delT (last : Int) (t : ToldV) : Bool := decide (t.b.last ≠ last) || !t.b.has
theorem del_store (kl : List ToldV) (q v : ToldV) (rest : List ToldV) : ((kl ++ (q :: rest)).flatMap ToldV.list).take (kl.length * 37) ++ (v.cells.toList ++ ((kl ++ (q :: rest)).flatMap ToldV.list).drop (kl.length * 37 + 37)) = ((kl ++ [v]) ++ rest).flatMap ToldV.list := by
  have e1 := flat_len ToldV.list 37 ToldV.list_len kl
  have e2 := ToldV.list_len q
  rw [List.flatMap_append, List.flatMap_cons, List.take_left' e1, ← List.drop_drop, List.drop_left' e1, List.drop_left' e2]
  simp [ToldV.cells]
theorem del_clear (kl jk : List ToldV) : ((kl ++ jk).flatMap ToldV.list).take (kl.length * 37) = kl.flatMap ToldV.list := by
  rw [List.flatMap_append, List.take_left' (flat_len ToldV.list 37 ToldV.list_len kl)]
theorem row_le {w0 w : World} {H : List SA} {a : Option Addr} {n c e sz : Nat} {xs : List Value} (h : St w0 (row (.slice a n c) e sz xs :: H) w) : n ≤ c := by
  obtain ⟨a', n', c', hv, -, hn, -⟩ := h.holds (row (.slice a n c) e sz xs) (by simp)
  simp at hv; omega
theorem toldZ {z : Value} (h : (Try.prog.info? 61).bind (·.zero) = some z) : ∀ u ∈ z.cells.toList, u.oneCell' = true := by
  have h2 := (inferInstance : TyZ Try.prog 61 (.agg ToldV.zero.cells)).ok
  rw [h2] at h
  obtain rfl := Option.some.inj h
  exact (inferInstance : Cells ToldV.zero.cells _).one

set_option maxHeartbeats 1000000 in
theorem cmpL_c {w0 : World} {H : List SA} {x y : ToldV} (hx : GoodT x) (hy : GoodT y) :
    CT Try.prog w0 (H) 34 [.agg x.cells, .agg y.cells] (α := Unit) (fun _ => .int .i64 (cmpL x y)) (fun _ => H) := by
  have hxl := hx.l
  have hyl := hy.l
  have hxr := hx.r
  have hyr := hy.r
  have hxf := hx.f
  have hyf := hy.f
  refine CT_intro Try.func34 rfl Try.ntmps34 rfl ?_
  refine T_seq ?_
  refine T_region ?_
  refine TL_e rfl (Ef_boxN rfl (fun b2 => ?_))
  refine TL_e rfl (Ef_boxN rfl (fun b3 => ?_))
  refine TL_q (Qt_assign (.int .i64 _) rfl) rfl ?_
  refine TL_nil ?_
  refine X_then ?_
  refine T_seq ?_
  refine T_region ?_
  refine TL_q (Qt_fieldAddr 1 rfl rfl) rfl ?_
  refine TL_q (Qt_fieldAddr 1 rfl rfl) rfl ?_
  refine TL_q (Qt_load1 rfl) rfl ?_
  refine TL_q (Qt_fieldAddr 1 rfl rfl) rfl ?_
  refine TL_q (Qt_fieldAddr 1 rfl rfl) rfl ?_
  refine TL_q (Qt_load1 rfl) rfl ?_
  first
    | refine TL_q (Qt_sub rfl rfl (by omega) (by omega)) rfl ?_
    | refine TL_q (Qt_subw rfl rfl) rfl ?_
  refine TL_q (Qt_assign (.int .i64 _) rfl) rfl ?_
  refine TL_nil ?_
  refine X_then ?_
  refine T_ret ?_
  exact X_ret () [_] Try.results34 ⟨rfl, trivial⟩ rfl (Subs.st inferInstance)
set_option maxHeartbeats 1000000 in
theorem cmpR_c {w0 : World} {H : List SA} {x y : ToldV} (hx : GoodT x) (hy : GoodT y) :
    CT Try.prog w0 (H) 37 [.agg x.cells, .agg y.cells] (α := Unit) (fun _ => .int .i64 (cmpR x y)) (fun _ => H) := by
  have hxl := hx.l
  have hyl := hy.l
  have hxr := hx.r
  have hyr := hy.r
  have hxf := hx.f
  have hyf := hy.f
  refine CT_intro Try.func37 rfl Try.ntmps37 rfl ?_
  refine T_seq ?_
  refine T_region ?_
  refine TL_e rfl (Ef_boxN rfl (fun b2 => ?_))
  refine TL_e rfl (Ef_boxN rfl (fun b3 => ?_))
  refine TL_q (Qt_assign (.int .i64 _) rfl) rfl ?_
  refine TL_nil ?_
  refine X_then ?_
  refine T_seq ?_
  refine T_seq ?_
  refine T_region ?_
  refine TL_q (Qt_fieldAddr 1 rfl rfl) rfl ?_
  refine TL_q (Qt_fieldAddr 3 rfl rfl) rfl ?_
  refine TL_q (Qt_load1 rfl) rfl ?_
  refine TL_q (Qt_fieldAddr 1 rfl rfl) rfl ?_
  refine TL_q (Qt_fieldAddr 3 rfl rfl) rfl ?_
  refine TL_q (Qt_load1 rfl) rfl ?_
  refine TL_q (Qt_neq rfl rfl) rfl ?_
  refine TL_nil ?_
  refine X_then ?_
  refine T_cond rfl (fun h11 => ?_) (fun h11 => ?_)
  ·
    have p11 := h11
    try simp only [decide_eq_true_eq, decide_eq_false_iff_not, Bool.not_eq_true', Bool.not_eq_false', Option.isNone_iff_eq_none, ne_eq, Decidable.not_not, Int.not_lt, Int.not_le] at p11
    refine T_seq ?_
    refine T_region ?_
    refine TL_q (Qt_fieldAddr 1 rfl rfl) rfl ?_
    refine TL_q (Qt_fieldAddr 3 rfl rfl) rfl ?_
    refine TL_q (Qt_load1 rfl) rfl ?_
    refine TL_q (Qt_fieldAddr 1 rfl rfl) rfl ?_
    refine TL_q (Qt_fieldAddr 3 rfl rfl) rfl ?_
    refine TL_q (Qt_load1 rfl) rfl ?_
    first
      | refine TL_q (Qt_sub rfl rfl (by omega) (by omega)) rfl ?_
      | refine TL_q (Qt_subw rfl rfl) rfl ?_
    refine TL_q (Qt_assign (.int .i64 _) rfl) rfl ?_
    refine TL_nil ?_
    refine X_then ?_
    refine T_ret ?_
    refine X_then_ret ?_
    have e : cmpR x y = x.b.reg - y.b.reg := if_pos (by simpa using h11)
    rw [e]
    exact X_ret () [_] Try.results37 ⟨rfl, trivial⟩ rfl (Subs.st inferInstance)
  ·
    have p11 := h11
    try simp only [decide_eq_true_eq, decide_eq_false_iff_not, Bool.not_eq_true', Bool.not_eq_false', Option.isNone_iff_eq_none, ne_eq, Decidable.not_not, Int.not_lt, Int.not_le] at p11
    refine T_skip ?_
    refine X_then ?_
    refine T_seq ?_
    refine T_region ?_
    refine TL_q (Qt_fieldAddr 0 rfl rfl) rfl ?_
    refine TL_q (Qt_load1 rfl) rfl ?_
    refine TL_q (Qt_fieldAddr 0 rfl rfl) rfl ?_
    refine TL_q (Qt_load1 rfl) rfl ?_
    first
      | refine TL_q (Qt_sub rfl rfl (by omega) (by omega)) rfl ?_
      | refine TL_q (Qt_subw rfl rfl) rfl ?_
    refine TL_q (Qt_assign (.int .i64 _) rfl) rfl ?_
    refine TL_nil ?_
    refine X_then ?_
    refine T_ret ?_
    have e : cmpR x y = y.frm - x.frm := if_neg (by simpa using h11)
    rw [e]
    exact X_ret () [_] Try.results37 ⟨rfl, trivial⟩ rfl (Subs.st inferInstance)
set_option maxHeartbeats 1000000 in
theorem pred_c {w0 : World} {H : List SA} {p : Nat} {last : Int} [hp : Mem w0 H p (.cells #[.int .i64 last] 3 (0, 0))] {t : ToldV} :
    CT Try.prog w0 (H) 36 [.agg t.cells, .pointer (some ⟨p, 0, none⟩)] (α := Unit) (fun _ => .bool (delT last t)) (fun _ => H) := by
  refine CT_intro Try.func36 rfl Try.ntmps36 rfl ?_
  refine T_seq ?_
  refine T_region ?_
  refine TL_e rfl (Ef_boxN rfl (fun b2 => ?_))
  refine TL_q (Qt_assign (.bool _) rfl) rfl ?_
  refine TL_nil ?_
  refine X_then ?_
  refine T_seq ?_
  refine T_region ?_
  refine TL_q (Qt_fieldAddr 1 rfl rfl) rfl ?_
  refine TL_q (Qt_fieldAddr 1 rfl rfl) rfl ?_
  refine TL_q (Qt_load1 rfl) rfl ?_
  refine TL_q (Qt_load1 rfl) rfl ?_
  refine TL_q (Qt_neq rfl rfl) rfl ?_
  refine TL_q (Qt_move (.bool _) rfl) rfl ?_
  refine TL_split 9 rfl (fun h9 => ?_) (fun h9 => ?_)
  ·
    have p9 := h9
    try simp only [decide_eq_true_eq, decide_eq_false_iff_not, Bool.not_eq_true', Bool.not_eq_false', Option.isNone_iff_eq_none, ne_eq, Decidable.not_not, Int.not_lt, Int.not_le] at p9
    refine TL_pass rfl rfl h9 rfl ?_
    refine TL_pass rfl rfl h9 rfl ?_
    refine TL_pass rfl rfl h9 rfl ?_
    refine TL_pass rfl rfl h9 rfl ?_
    refine TL_q (Qt_pick_t (.bool _) rfl h9 rfl) rfl ?_
    refine TL_q (Qt_assign (.bool _) rfl) rfl ?_
    refine TL_nil ?_
    refine X_then ?_
    refine T_ret ?_
    refine X_ret () [.bool (delT last t)] Try.results36 ⟨?_, trivial⟩ rfl (Subs.st inferInstance)
    refine congrArg Value.bool ?_
    unfold delT
    simp_all
  ·
    have p9 := h9
    try simp only [decide_eq_true_eq, decide_eq_false_iff_not, Bool.not_eq_true', Bool.not_eq_false', Option.isNone_iff_eq_none, ne_eq, Decidable.not_not, Int.not_lt, Int.not_le] at p9
    refine TL_take rfl rfl h9 ?_
    refine TL_q (Qt_fieldAddr 1 rfl rfl) rfl ?_
    refine TL_take rfl rfl h9 ?_
    refine TL_q (Qt_fieldAddr 2 rfl rfl) rfl ?_
    refine TL_take rfl rfl h9 ?_
    refine TL_q (Qt_load1 rfl) rfl ?_
    refine TL_take rfl rfl h9 ?_
    refine TL_q (Qt_not rfl) rfl ?_
    refine TL_q (Qt_pick_f (.bool _) rfl h9 rfl) rfl ?_
    refine TL_q (Qt_assign (.bool _) rfl) rfl ?_
    refine TL_nil ?_
    refine X_then ?_
    refine T_ret ?_
    refine X_ret () [.bool (delT last t)] Try.results36 ⟨?_, trivial⟩ rfl (Subs.st inferInstance)
    refine congrArg Value.bool ?_
    unfold delT
    simp_all
set_option maxHeartbeats 1000000 in
theorem maxL_c {w0 : World} {H : List SA} {a : Option Addr} {ls : List ToldV} {c : Nat} [hr : RdC w0 H (.slice a ls.length c) 37 (ls.flatMap ToldV.list)] (hn : ls.length ≤ 1000) (h0 : 0 < ls.length) (hg : ∀ t ∈ ls, GoodT t) :
    CT Try.prog w0 (H) 33 [.slice a ls.length c, .func (.func 34) #[] #[]] (α := Unit) (fun _ => .agg (mxK cmpL ls (ls.length - 1)).cells) (fun _ => H) := by
  refine CT_intro Try.func33 rfl Try.ntmps33 rfl ?_
  refine T_seq ?_
  refine T_region ?_
  refine TL_e rfl (Ef_allocN (fun b4 => ?_))
  refine TL_nil ?_
  refine X_then ?_
  refine T_seq ?_
  refine T_seq ?_
  refine T_region ?_
  refine TL_q (Qt_move (.slice _ _ _) rfl) rfl ?_
  refine TL_q (Qt_len_slice rfl Try.underlying58) rfl ?_
  refine TL_q (Qt_lss rfl rfl) rfl ?_
  refine TL_nil ?_
  refine X_then ?_
  refine T_cond rfl (fun h9 => ?_) (fun h9 => ?_)
  ·
    have p9 := h9
    try simp only [decide_eq_true_eq, decide_eq_false_iff_not, Bool.not_eq_true', Bool.not_eq_false', Option.isNone_iff_eq_none, ne_eq, Decidable.not_not, Int.not_lt, Int.not_le] at p9
    exact absurd p9 (by omega)
  ·
    have p9 := h9
    try simp only [decide_eq_true_eq, decide_eq_false_iff_not, Bool.not_eq_true', Bool.not_eq_false', Option.isNone_iff_eq_none, ne_eq, Decidable.not_not, Int.not_lt, Int.not_le] at p9
    refine T_skip ?_
    refine X_then ?_
    refine T_seq ?_
    refine T_region ?_
    refine TL_q (Qt_move (.slice _ _ _) rfl) rfl ?_
    refine TL_q (Qt_indexN rfl rfl (by omega) (by omega)) rfl ?_
    refine TL_q (Qt_val (Qt_loadRN 37 ls[0].list rfl (flat_slice _ 37 ToldV.list_len ls (0) h0) (ToldV.list_len _) (by decide)) (show Value.agg ls[0].list.toArray = Value.agg ls[0].cells from rfl)) rfl ?_
    refine TL_e rfl (Ef_allocN (fun b5 => ?_))
    refine TL_n (Ef_storeN rfl rfl (?_))
    refine TL_nil ?_
    refine X_then ?_
    refine T_seq ?_
    refine T_seq ?_
    refine T_region ?_
    refine TL_q (Qt_assign (.int .i64 _) rfl) rfl ?_
    refine TL_nil ?_
    refine X_then ?_
    refine T_block ?_
    refine T_loop [6, 14, 15, 16, 17, 18, 19, 20, 21, 22, 23, 24, 25, 26, 27, 28, 29, 30, 31] [6] (fun us H' => ∃ (k : Nat), us = [.int .i64 ((k + 1 : Nat) : Int)] ∧ blk b5 (.cells (mxK cmpL ls k).cells 61 (0, 0)) :: blk b4 (.cells ToldV.zero.cells 61 (0, 0)) :: H = H' ∧ k + 1 ≤ ls.length) (fun us => match us with | .int _ i :: _ => ls.length - i.toNat | _ => 0) ⟨0, rfl, rfl, by omega⟩ (fun w hw => by rw [mxK_zero, getD_at h0]; exact Subs.st inferInstance w hw) ?_
    rintro τ0 _ _  ⟨k, rfl, rfl, hk0⟩ _
    refine T_seq ?_
    refine T_seq ?_
    refine T_region ?_
    refine TL_q (Qt_move (.int .i64 _) rfl) rfl ?_
    refine TL_q (Qt_move (.slice _ _ _) rfl) rfl ?_
    refine TL_q (Qt_len_slice rfl Try.underlying58) rfl ?_
    refine TL_q (Qt_lss rfl rfl) rfl ?_
    refine TL_nil ?_
    refine X_then ?_
    refine T_cond rfl (fun h17 => ?_) (fun h17 => ?_)
    ·
      have p17 := h17
      try simp only [decide_eq_true_eq, decide_eq_false_iff_not, Bool.not_eq_true', Bool.not_eq_false', Option.isNone_iff_eq_none, ne_eq, Decidable.not_not, Int.not_lt, Int.not_le] at p17
      have hk : k + 1 < ls.length := by omega
      have hms := mxK_succ cmpL ls k
      rw [getD_at hk] at hms
      refine T_skip ?_
      refine X_then ?_
      refine T_seq ?_
      refine T_block ?_
      refine T_seq ?_
      refine T_draw (blk b5 (.cells (mxK cmpL ls k).cells 61 (0, 0)) :: H) [(0, true), (1, true), (2, true), (3, true), (4, true), (5, true), (6, false), (7, true)] (by kernel_rfl) (by kernel_rfl) rfl (by kernel_rfl) (Subs.st inferInstance) (fun hns0 => ?_)
      refine DL_q hns0 rfl (Qt_move _ rfl) rfl ?_
      refine DL_q hns0 rfl (Qt_move (.slice _ _ _) rfl) rfl ?_
      refine DL_q hns0 rfl (Qt_move (.int .i64 _) rfl) rfl ?_
      refine DL_q hns0 rfl (Qt_indexN rfl rfl (by omega) (by omega)) rfl ?_
      refine DL_q hns0 rfl (Qt_val (Qt_loadRN 37 ls[k + 1].list rfl (flat_slice _ 37 ToldV.list_len ls (k + 1) hk) (ToldV.list_len _) (by decide)) (show Value.agg ls[k + 1].list.toArray = Value.agg ls[k + 1].cells from rfl)) rfl ?_
      refine DL_q hns0 rfl (Qt_loadN rfl rfl) rfl ?_
      refine DL_e rfl rfl (Ef_callF (argv := [_, _]) (caps := []) (cmpL_c (x := ls[k + 1]) (y := (mxK cmpL ls k)) (hg _ (List.getElem_mem hk)) (hg _ (mxK_mem cmpL ls k (by omega)))) rfl rfl (fun x26 => ⟨(Subs.st inferInstance), ?_⟩))
      refine DL_q hns0 rfl (Qt_gtr rfl rfl) rfl ?_
      refine DL_nil ?_
      refine X_then ?_
      refine T_cond rfl (fun h27 => ?_) (fun h27 => ?_)
      ·
        have p27 := h27
        try simp only [decide_eq_true_eq, decide_eq_false_iff_not, Bool.not_eq_true', Bool.not_eq_false', Option.isNone_iff_eq_none, ne_eq, Decidable.not_not, Int.not_lt, Int.not_le] at p27
        rw [if_pos (by omega)] at hms
        refine T_region ?_
        refine TL_q (Qt_move (.slice _ _ _) rfl) rfl ?_
        refine TL_q (Qt_move (.int .i64 _) rfl) rfl ?_
        refine TL_q (Qt_indexN rfl rfl (by omega) (by omega)) rfl ?_
        refine TL_q (Qt_val (Qt_loadRN 37 ls[k + 1].list rfl (flat_slice _ 37 ToldV.list_len ls (k + 1) hk) (ToldV.list_len _) (by decide)) (show Value.agg ls[k + 1].list.toArray = Value.agg ls[k + 1].cells from rfl)) rfl ?_
        refine TL_n (Ef_storeN rfl rfl (?_))
        refine TL_nil ?_
        refine X_block ?_
        refine X_then ?_
        refine T_region ?_
        refine TL_q (Qt_move (.int .i64 _) rfl) rfl ?_
        first
          | refine TL_q (Qt_add rfl rfl (by omega) (by omega)) rfl ?_
          | refine TL_q (Qt_addw rfl rfl) rfl ?_
        refine TL_q (Qt_assign (.int .i64 _) rfl) rfl ?_
        refine TL_nil ?_
        apply X_loop
        case ha => exact (by repeat (first | with_reducible exact agree_refl | refine agree_upd rfl ?_ | refine agree_mix rfl ?_ | refine agree_setAll rfl ?_))
        case hI => exact ⟨k + 1, rfl, rfl, by omega⟩
        case hm => exact by show ls.length - (((k + 1 : Nat) : Int) + 1).toNat < ls.length - ((k + 1 : Nat) : Int).toNat; omega
        case hH => exact (fun w hw => by rw [hms]; exact Subs.st inferInstance w hw)
      ·
        have p27 := h27
        try simp only [decide_eq_true_eq, decide_eq_false_iff_not, Bool.not_eq_true', Bool.not_eq_false', Option.isNone_iff_eq_none, ne_eq, Decidable.not_not, Int.not_lt, Int.not_le] at p27
        rw [if_neg (by omega)] at hms
        refine T_skip ?_
        refine X_block ?_
        refine X_then ?_
        refine T_region ?_
        refine TL_q (Qt_move (.int .i64 _) rfl) rfl ?_
        first
          | refine TL_q (Qt_add rfl rfl (by omega) (by omega)) rfl ?_
          | refine TL_q (Qt_addw rfl rfl) rfl ?_
        refine TL_q (Qt_assign (.int .i64 _) rfl) rfl ?_
        refine TL_nil ?_
        apply X_loop
        case ha => exact (by repeat (first | with_reducible exact agree_refl | refine agree_upd rfl ?_ | refine agree_mix rfl ?_ | refine agree_setAll rfl ?_))
        case hI => exact ⟨k + 1, rfl, rfl, by omega⟩
        case hm => exact by show ls.length - (((k + 1 : Nat) : Int) + 1).toNat < ls.length - ((k + 1 : Nat) : Int).toNat; omega
        case hH => exact (fun w hw => by rw [hms]; exact Subs.st inferInstance w hw)
    ·
      have p17 := h17
      try simp only [decide_eq_true_eq, decide_eq_false_iff_not, Bool.not_eq_true', Bool.not_eq_false', Option.isNone_iff_eq_none, ne_eq, Decidable.not_not, Int.not_lt, Int.not_le] at p17
      have hkn : k = ls.length - 1 := by omega
      subst hkn
      refine T_exit ?_
      refine X_then_exit ?_
      refine X_loop_exit ?_
      refine X_block_exit ?_
      refine X_then ?_
      refine T_seq ?_
      refine T_region ?_
      refine TL_q (Qt_loadN rfl rfl) rfl ?_
      refine TL_n (Ef_storeN rfl rfl (?_))
      refine TL_nil ?_
      refine X_then ?_
      refine T_ret ?_
      exact X_ret () [_] Try.results33 ⟨⟨_, rfl, res_cellN rfl⟩, trivial⟩ rfl (Subs.st inferInstance)
set_option maxHeartbeats 1000000 in
theorem maxR_c {w0 : World} {H : List SA} {a : Option Addr} {ls : List ToldV} {c : Nat} [hr : RdC w0 H (.slice a ls.length c) 37 (ls.flatMap ToldV.list)] (hn : ls.length ≤ 1000) (h0 : 0 < ls.length) (hg : ∀ t ∈ ls, GoodT t) :
    CT Try.prog w0 (H) 33 [.slice a ls.length c, .func (.func 37) #[] #[]] (α := Unit) (fun _ => .agg (mxK cmpR ls (ls.length - 1)).cells) (fun _ => H) := by
  refine CT_intro Try.func33 rfl Try.ntmps33 rfl ?_
  refine T_seq ?_
  refine T_region ?_
  refine TL_e rfl (Ef_allocN (fun b4 => ?_))
  refine TL_nil ?_
  refine X_then ?_
  refine T_seq ?_
  refine T_seq ?_
  refine T_region ?_
  refine TL_q (Qt_move (.slice _ _ _) rfl) rfl ?_
  refine TL_q (Qt_len_slice rfl Try.underlying58) rfl ?_
  refine TL_q (Qt_lss rfl rfl) rfl ?_
  refine TL_nil ?_
  refine X_then ?_
  refine T_cond rfl (fun h9 => ?_) (fun h9 => ?_)
  ·
    have p9 := h9
    try simp only [decide_eq_true_eq, decide_eq_false_iff_not, Bool.not_eq_true', Bool.not_eq_false', Option.isNone_iff_eq_none, ne_eq, Decidable.not_not, Int.not_lt, Int.not_le] at p9
    exact absurd p9 (by omega)
  ·
    have p9 := h9
    try simp only [decide_eq_true_eq, decide_eq_false_iff_not, Bool.not_eq_true', Bool.not_eq_false', Option.isNone_iff_eq_none, ne_eq, Decidable.not_not, Int.not_lt, Int.not_le] at p9
    refine T_skip ?_
    refine X_then ?_
    refine T_seq ?_
    refine T_region ?_
    refine TL_q (Qt_move (.slice _ _ _) rfl) rfl ?_
    refine TL_q (Qt_indexN rfl rfl (by omega) (by omega)) rfl ?_
    refine TL_q (Qt_val (Qt_loadRN 37 ls[0].list rfl (flat_slice _ 37 ToldV.list_len ls (0) h0) (ToldV.list_len _) (by decide)) (show Value.agg ls[0].list.toArray = Value.agg ls[0].cells from rfl)) rfl ?_
    refine TL_e rfl (Ef_allocN (fun b5 => ?_))
    refine TL_n (Ef_storeN rfl rfl (?_))
    refine TL_nil ?_
    refine X_then ?_
    refine T_seq ?_
    refine T_seq ?_
    refine T_region ?_
    refine TL_q (Qt_assign (.int .i64 _) rfl) rfl ?_
    refine TL_nil ?_
    refine X_then ?_
    refine T_block ?_
    refine T_loop [6, 14, 15, 16, 17, 18, 19, 20, 21, 22, 23, 24, 25, 26, 27, 28, 29, 30, 31] [6] (fun us H' => ∃ (k : Nat), us = [.int .i64 ((k + 1 : Nat) : Int)] ∧ blk b5 (.cells (mxK cmpR ls k).cells 61 (0, 0)) :: blk b4 (.cells ToldV.zero.cells 61 (0, 0)) :: H = H' ∧ k + 1 ≤ ls.length) (fun us => match us with | .int _ i :: _ => ls.length - i.toNat | _ => 0) ⟨0, rfl, rfl, by omega⟩ (fun w hw => by rw [mxK_zero, getD_at h0]; exact Subs.st inferInstance w hw) ?_
    rintro τ0 _ _  ⟨k, rfl, rfl, hk0⟩ _
    refine T_seq ?_
    refine T_seq ?_
    refine T_region ?_
    refine TL_q (Qt_move (.int .i64 _) rfl) rfl ?_
    refine TL_q (Qt_move (.slice _ _ _) rfl) rfl ?_
    refine TL_q (Qt_len_slice rfl Try.underlying58) rfl ?_
    refine TL_q (Qt_lss rfl rfl) rfl ?_
    refine TL_nil ?_
    refine X_then ?_
    refine T_cond rfl (fun h17 => ?_) (fun h17 => ?_)
    ·
      have p17 := h17
      try simp only [decide_eq_true_eq, decide_eq_false_iff_not, Bool.not_eq_true', Bool.not_eq_false', Option.isNone_iff_eq_none, ne_eq, Decidable.not_not, Int.not_lt, Int.not_le] at p17
      have hk : k + 1 < ls.length := by omega
      have hms := mxK_succ cmpR ls k
      rw [getD_at hk] at hms
      refine T_skip ?_
      refine X_then ?_
      refine T_seq ?_
      refine T_block ?_
      refine T_seq ?_
      refine T_draw (blk b5 (.cells (mxK cmpR ls k).cells 61 (0, 0)) :: H) [(0, true), (1, true), (2, true), (3, true), (4, true), (5, true), (6, false), (7, true)] (by kernel_rfl) (by kernel_rfl) rfl (by kernel_rfl) (Subs.st inferInstance) (fun hns0 => ?_)
      refine DL_q hns0 rfl (Qt_move _ rfl) rfl ?_
      refine DL_q hns0 rfl (Qt_move (.slice _ _ _) rfl) rfl ?_
      refine DL_q hns0 rfl (Qt_move (.int .i64 _) rfl) rfl ?_
      refine DL_q hns0 rfl (Qt_indexN rfl rfl (by omega) (by omega)) rfl ?_
      refine DL_q hns0 rfl (Qt_val (Qt_loadRN 37 ls[k + 1].list rfl (flat_slice _ 37 ToldV.list_len ls (k + 1) hk) (ToldV.list_len _) (by decide)) (show Value.agg ls[k + 1].list.toArray = Value.agg ls[k + 1].cells from rfl)) rfl ?_
      refine DL_q hns0 rfl (Qt_loadN rfl rfl) rfl ?_
      refine DL_e rfl rfl (Ef_callF (argv := [_, _]) (caps := []) (cmpR_c (x := ls[k + 1]) (y := (mxK cmpR ls k)) (hg _ (List.getElem_mem hk)) (hg _ (mxK_mem cmpR ls k (by omega)))) rfl rfl (fun x26 => ⟨(Subs.st inferInstance), ?_⟩))
      refine DL_q hns0 rfl (Qt_gtr rfl rfl) rfl ?_
      refine DL_nil ?_
      refine X_then ?_
      refine T_cond rfl (fun h27 => ?_) (fun h27 => ?_)
      ·
        have p27 := h27
        try simp only [decide_eq_true_eq, decide_eq_false_iff_not, Bool.not_eq_true', Bool.not_eq_false', Option.isNone_iff_eq_none, ne_eq, Decidable.not_not, Int.not_lt, Int.not_le] at p27
        rw [if_pos (by omega)] at hms
        refine T_region ?_
        refine TL_q (Qt_move (.slice _ _ _) rfl) rfl ?_
        refine TL_q (Qt_move (.int .i64 _) rfl) rfl ?_
        refine TL_q (Qt_indexN rfl rfl (by omega) (by omega)) rfl ?_
        refine TL_q (Qt_val (Qt_loadRN 37 ls[k + 1].list rfl (flat_slice _ 37 ToldV.list_len ls (k + 1) hk) (ToldV.list_len _) (by decide)) (show Value.agg ls[k + 1].list.toArray = Value.agg ls[k + 1].cells from rfl)) rfl ?_
        refine TL_n (Ef_storeN rfl rfl (?_))
        refine TL_nil ?_
        refine X_block ?_
        refine X_then ?_
        refine T_region ?_
        refine TL_q (Qt_move (.int .i64 _) rfl) rfl ?_
        first
          | refine TL_q (Qt_add rfl rfl (by omega) (by omega)) rfl ?_
          | refine TL_q (Qt_addw rfl rfl) rfl ?_
        refine TL_q (Qt_assign (.int .i64 _) rfl) rfl ?_
        refine TL_nil ?_
        apply X_loop
        case ha => exact (by repeat (first | with_reducible exact agree_refl | refine agree_upd rfl ?_ | refine agree_mix rfl ?_ | refine agree_setAll rfl ?_))
        case hI => exact ⟨k + 1, rfl, rfl, by omega⟩
        case hm => exact by show ls.length - (((k + 1 : Nat) : Int) + 1).toNat < ls.length - ((k + 1 : Nat) : Int).toNat; omega
        case hH => exact (fun w hw => by rw [hms]; exact Subs.st inferInstance w hw)
      ·
        have p27 := h27
        try simp only [decide_eq_true_eq, decide_eq_false_iff_not, Bool.not_eq_true', Bool.not_eq_false', Option.isNone_iff_eq_none, ne_eq, Decidable.not_not, Int.not_lt, Int.not_le] at p27
        rw [if_neg (by omega)] at hms
        refine T_skip ?_
        refine X_block ?_
        refine X_then ?_
        refine T_region ?_
        refine TL_q (Qt_move (.int .i64 _) rfl) rfl ?_
        first
          | refine TL_q (Qt_add rfl rfl (by omega) (by omega)) rfl ?_
          | refine TL_q (Qt_addw rfl rfl) rfl ?_
        refine TL_q (Qt_assign (.int .i64 _) rfl) rfl ?_
        refine TL_nil ?_
        apply X_loop
        case ha => exact (by repeat (first | with_reducible exact agree_refl | refine agree_upd rfl ?_ | refine agree_mix rfl ?_ | refine agree_setAll rfl ?_))
        case hI => exact ⟨k + 1, rfl, rfl, by omega⟩
        case hm => exact by show ls.length - (((k + 1 : Nat) : Int) + 1).toNat < ls.length - ((k + 1 : Nat) : Int).toNat; omega
        case hH => exact (fun w hw => by rw [hms]; exact Subs.st inferInstance w hw)
    ·
      have p17 := h17
      try simp only [decide_eq_true_eq, decide_eq_false_iff_not, Bool.not_eq_true', Bool.not_eq_false', Option.isNone_iff_eq_none, ne_eq, Decidable.not_not, Int.not_lt, Int.not_le] at p17
      have hkn : k = ls.length - 1 := by omega
      subst hkn
      refine T_exit ?_
      refine X_then_exit ?_
      refine X_loop_exit ?_
      refine X_block_exit ?_
      refine X_then ?_
      refine T_seq ?_
      refine T_region ?_
      refine TL_q (Qt_loadN rfl rfl) rfl ?_
      refine TL_n (Ef_storeN rfl rfl (?_))
      refine TL_nil ?_
      refine X_then ?_
      refine T_ret ?_
      exact X_ret () [_] Try.results33 ⟨⟨_, rfl, res_cellN rfl⟩, trivial⟩ rfl (Subs.st inferInstance)
set_option maxHeartbeats 1000000 in
theorem indexT_c {w0 : World} {H : List SA} {p : Nat} {last : Int} [hp : Mem w0 H p (.cells #[.int .i64 last] 3 (0, 0))] {a : Option Addr} {ls : List ToldV} {c : Nat} [hr : RdC w0 H (.slice a ls.length c) 37 (ls.flatMap ToldV.list)] (hn : ls.length ≤ 1000) :
    CT Try.prog w0 (H) 62 [.slice a ls.length c, .func (.func 36) #[] #[.pointer (some ⟨p, 0, none⟩)]] (α := Int) (fun r => .int .i64 r) (fun r => pu ((r = -1 ∧ ∀ t ∈ ls, delT last t = false) ∨ ∃ k : Nat, r = (k : Int) ∧ ∃ hk : k < ls.length, delT last ls[k] = true ∧ ∀ (j : Nat) (hj : j < ls.length), j < k → delT last ls[j] = false) :: H) := by
  refine CT_intro Try.func62 rfl Try.ntmps62 rfl ?_
  refine T_seq ?_
  refine T_region ?_
  refine TL_q (Qt_assign (.int .i64 _) rfl) rfl ?_
  refine TL_nil ?_
  refine X_then ?_
  refine T_seq ?_
  refine T_seq ?_
  refine T_region ?_
  refine TL_q (Qt_move (.slice _ _ _) rfl) rfl ?_
  refine TL_q (Qt_len_slice rfl Try.underlying58) rfl ?_
  refine TL_q (Qt_move (.int .i64 _) rfl) rfl ?_
  refine TL_nil ?_
  refine X_then ?_
  refine T_block ?_
  refine T_loop [4, 5, 8, 9, 10, 11, 12, 13, 14, 15, 16, 17, 18] [8] (fun us H' => ∃ (k : Nat), us = [.int .i64 (k : Int)] ∧ H = H' ∧ k ≤ ls.length ∧ (∀ (j : Nat) (hj : j < ls.length), j < k → delT last ls[j] = false)) (fun us => match us with | .int _ i :: _ => ls.length - i.toNat | _ => 0) ⟨0, rfl, rfl, by omega, fun j hj h => by omega⟩ (Subs.st inferInstance) ?_
  rintro τ0 _ _  ⟨k, rfl, rfl, hk0, hno⟩ _
  refine T_seq ?_
  refine T_region ?_
  refine TL_q (Qt_lss rfl rfl) rfl ?_
  refine TL_nil ?_
  refine X_then ?_
  refine T_seq ?_
  refine T_cond rfl (fun h9 => ?_) (fun h9 => ?_)
  ·
    have p9 := h9
    try simp only [decide_eq_true_eq, decide_eq_false_iff_not, Bool.not_eq_true', Bool.not_eq_false', Option.isNone_iff_eq_none, ne_eq, Decidable.not_not, Int.not_lt, Int.not_le] at p9
    have hk : k < ls.length := by omega
    refine T_skip ?_
    refine X_then ?_
    refine T_seq ?_
    refine T_block ?_
    refine T_seq ?_
    refine T_region ?_
    refine TL_q (Qt_move (.int .i64 _) rfl) rfl ?_
    refine TL_q (Qt_assign (.int .i64 _) rfl) rfl ?_
    refine TL_nil ?_
    refine X_then ?_
    refine T_seq ?_
    refine T_region ?_
    refine TL_q (Qt_move _ rfl) rfl ?_
    refine TL_q (Qt_move (.slice _ _ _) rfl) rfl ?_
    refine TL_q (Qt_move (.int .i64 _) rfl) rfl ?_
    refine TL_q (Qt_indexN rfl rfl (by omega) (by omega)) rfl ?_
    refine TL_q (Qt_val (Qt_loadRN 37 ls[k].list rfl (flat_slice _ 37 ToldV.list_len ls (k) hk) (ToldV.list_len _) (by decide)) (show Value.agg ls[k].list.toArray = Value.agg ls[k].cells from rfl)) rfl ?_
    refine TL_e rfl (Ef_callF (argv := [_]) (caps := [_]) (pred_c (p := p) (last := last) (t := ls[k])) rfl rfl (fun x16 => ?_))
    refine TL_nil ?_
    refine X_then ?_
    refine T_cond rfl (fun h16 => ?_) (fun h16 => ?_)
    ·
      have p16 := h16
      try simp only [decide_eq_true_eq, decide_eq_false_iff_not, Bool.not_eq_true', Bool.not_eq_false', Option.isNone_iff_eq_none, ne_eq, Decidable.not_not, Int.not_lt, Int.not_le] at p16
      refine T_seq ?_
      refine T_region ?_
      refine TL_q (Qt_move (.int .i64 _) rfl) rfl ?_
      refine TL_q (Qt_assign (.int .i64 _) rfl) rfl ?_
      refine TL_nil ?_
      refine X_then ?_
      refine T_ret ?_
      refine X_block_ret ?_
      refine X_then_ret ?_
      refine X_loop_ret ?_
      refine X_block_ret ?_
      refine X_then_ret ?_
      exact X_ret (k : Int) [_] Try.results62 ⟨rfl, trivial⟩ rfl (fun w hw => (Subs.st inferInstance w hw : St w0 H w).addPure (.inr ⟨k, rfl, hk, h16, hno⟩))
    ·
      have p16 := h16
      try simp only [decide_eq_true_eq, decide_eq_false_iff_not, Bool.not_eq_true', Bool.not_eq_false', Option.isNone_iff_eq_none, ne_eq, Decidable.not_not, Int.not_lt, Int.not_le] at p16
      refine T_skip ?_
      refine X_block ?_
      refine X_then ?_
      refine T_region ?_
      first
        | refine TL_q (Qt_add rfl rfl (by omega) (by omega)) rfl ?_
        | refine TL_q (Qt_addw rfl rfl) rfl ?_
      refine TL_q (Qt_move (.int .i64 _) rfl) rfl ?_
      refine TL_nil ?_
      apply X_loop
      case ha => exact (by repeat (first | with_reducible exact agree_refl | refine agree_upd rfl ?_ | refine agree_mix rfl ?_ | refine agree_setAll rfl ?_))
      case hI => exact ⟨k + 1, rfl, rfl, by omega, fun j hj h => by rcases Nat.lt_or_ge j k with h1 | h1; exact hno j hj h1; obtain rfl : j = k := (by omega); exact h16⟩
      case hm => exact by show ls.length - (k + 1 : Int).toNat < ls.length - (k : Int).toNat; omega
      case hH => exact (Subs.st inferInstance)
  ·
    have p9 := h9
    try simp only [decide_eq_true_eq, decide_eq_false_iff_not, Bool.not_eq_true', Bool.not_eq_false', Option.isNone_iff_eq_none, ne_eq, Decidable.not_not, Int.not_lt, Int.not_le] at p9
    refine T_exit ?_
    refine X_then_exit ?_
    refine X_loop_exit ?_
    refine X_block_exit ?_
    refine X_then ?_
    refine T_seq ?_
    refine T_region ?_
    refine TL_q (Qt_assign (.int .i64 _) rfl) rfl ?_
    refine TL_nil ?_
    refine X_then ?_
    refine T_ret ?_
    exact X_ret (-1) [_] Try.results62 ⟨rfl, trivial⟩ rfl (fun w hw => (Subs.st inferInstance w hw : St w0 H w).addPure (.inl ⟨rfl, fun v hv => by obtain ⟨j, hj, rfl⟩ := List.getElem_of_mem hv; exact hno j hj (by omega)⟩))
end
section
open Go.RowKit Go.Sx
set_option maxRecDepth 100000
set_option linter.unusedSimpArgs false
set_option linter.unusedVariables false
def keepL (last : Int) (ls : List ToldV) : List ToldV := ls.filter fun t => !delT last t
theorem keepL_all {last : Int} {ls : List ToldV} (h : ∀ t ∈ ls, delT last t = false) : keepL last ls = ls := List.filter_eq_self.2 fun t ht => by rw [h t ht]; rfl
theorem keepL_pre {last : Int} {ls : List ToldV} {k : Nat} (hk : k < ls.length) (h : delT last ls[k] = true) (hno : ∀ (j : Nat) (hj : j < ls.length), j < k → delT last ls[j] = false) : keepL last (ls.take (k + 1)) = ls.take k := by
  rw [List.take_succ_eq_append_getElem hk, keepL, List.filter_append]
  have e1 : (ls.take k).filter (fun t => !delT last t) = ls.take k := List.filter_eq_self.2 fun t ht => by
    obtain ⟨j, hj, rfl⟩ := List.getElem_of_mem ht
    rw [List.getElem_take, hno j (by simp at hj; omega) (by simp at hj; omega)]; rfl
  rw [e1]; simp [h]
theorem keepL_yes {last : Int} {ls : List ToldV} {k : Nat} (hk : k < ls.length) (h : delT last ls[k] = false) : keepL last (ls.take (k + 1)) = keepL last (ls.take k) ++ [ls[k]] := by
  rw [List.take_succ_eq_append_getElem hk, keepL, List.filter_append]; simp [h, keepL]
theorem keepL_no {last : Int} {ls : List ToldV} {k : Nat} (hk : k < ls.length) (h : delT last ls[k] = true) : keepL last (ls.take (k + 1)) = keepL last (ls.take k) := by
  rw [List.take_succ_eq_append_getElem hk, keepL, List.filter_append]; simp [h, keepL]
theorem cur_get {kl jk ls : List ToldV} {j : Nat} (h : kl.length + jk.length = j) (hj : j < ls.length) (hL : j < (kl ++ (jk ++ ls.drop j)).length) : (kl ++ (jk ++ ls.drop j))[j] = ls[j] := by
  rw [List.getElem_append_right (by omega), List.getElem_append_right (by omega), List.getElem_drop]
  congr 1; omega
theorem cur_slice {kl jk ls : List ToldV} {j : Nat} (h : kl.length + jk.length = j) (hj : j < ls.length) : (((kl ++ (jk ++ ls.drop j)).flatMap ToldV.list).drop (j * 37)).take 37 = ls[j].list := by
  have hL : j < (kl ++ (jk ++ ls.drop j)).length := by simp; omega
  rw [flat_slice _ 37 ToldV.list_len _ j hL, cur_get h hj hL]
set_option maxHeartbeats 1000000 in
theorem deleteT_c {w0 : World} {H : List SA} {p : Nat} {last : Int} [hp : Mem w0 H p (.cells #[.int .i64 last] 3 (0, 0))] {a : Option Addr} {ls : List ToldV} {c : Nat} (hn : ls.length ≤ 1000) :
    CT Try.prog w0 (row (.slice a ls.length c) 61 37 ((ls).flatMap ToldV.list) :: H) 35 [.slice a ls.length c, .func (.func 36) #[] #[.pointer (some ⟨p, 0, none⟩)]] (α := Unit) (fun _ => .slice a (keepL last ls).length c) (fun _ => row (.slice a (keepL last ls).length c) 61 37 ((keepL last ls).flatMap ToldV.list) :: H) := by
  refine CT_intro Try.func35 rfl Try.ntmps35 rfl ?_
  refine T_seq ?_
  refine T_region ?_
  refine TL_q (Qt_assign (.slice _ _ _) rfl) rfl ?_
  refine TL_nil ?_
  refine X_then ?_
  refine T_seq ?_
  refine T_region ?_
  refine TL_q (Qt_move (.slice _ _ _) rfl) rfl ?_
  refine TL_q (Qt_move _ rfl) rfl ?_
  refine TL_e rfl (Ef_call (indexT_c (p := p) (last := last) (ls := ls) hn) rfl (fun x10 => ?_))
  refine TL_pure (fun h10 => ?_)
  refine TL_q (Qt_assign (.int .i64 _) rfl) rfl ?_
  refine TL_nil ?_
  refine X_then ?_
  refine T_seq ?_
  refine T_seq ?_
  refine T_region ?_
  refine TL_q (Qt_move (.int .i64 _) rfl) rfl ?_
  refine TL_q (Qt_eql rfl rfl) rfl ?_
  refine TL_nil ?_
  refine X_then ?_
  refine T_cond rfl (fun h12 => ?_) (fun h12 => ?_)
  ·
    have p12 := h12
    try simp only [decide_eq_true_eq, decide_eq_false_iff_not, Bool.not_eq_true', Bool.not_eq_false', Option.isNone_iff_eq_none, ne_eq, Decidable.not_not, Int.not_lt, Int.not_le] at p12
    have hnone : ∀ t ∈ ls, delT last t = false := by rcases h10 with ⟨-, h⟩ | ⟨k, hk, -⟩; exact h; exact absurd p12 (by omega)
    refine T_seq ?_
    refine T_region ?_
    refine TL_q (Qt_move (.slice _ _ _) rfl) rfl ?_
    refine TL_q (Qt_assign (.slice _ _ _) rfl) rfl ?_
    refine TL_nil ?_
    refine X_then ?_
    refine T_ret ?_
    refine X_then_ret ?_
    rw [keepL_all hnone]
    exact X_ret () [_] Try.results35 ⟨rfl, trivial⟩ rfl (Subs.st inferInstance)
  ·
    have p12 := h12
    try simp only [decide_eq_true_eq, decide_eq_false_iff_not, Bool.not_eq_true', Bool.not_eq_false', Option.isNone_iff_eq_none, ne_eq, Decidable.not_not, Int.not_lt, Int.not_le] at p12
    obtain ⟨k, rfl, hk, hdk, hno⟩ : ∃ k : Nat, x10 = (k : Int) ∧ ∃ hk : k < ls.length, delT last ls[k] = true ∧ ∀ (j : Nat) (hj : j < ls.length), j < k → delT last ls[j] = false := by rcases h10 with ⟨h, -⟩ | h; exact absurd h p12; exact h
    refine T_skip ?_
    refine X_then ?_
    refine T_seq ?_
    refine T_seq ?_
    refine T_region ?_
    refine TL_q (Qt_move (.int .i64 _) rfl) rfl ?_
    first
      | refine TL_q (Qt_add rfl rfl (by omega) (by omega)) rfl ?_
      | refine TL_q (Qt_addw rfl rfl) rfl ?_
    refine TL_q (Qt_assign (.int .i64 _) rfl) rfl ?_
    refine TL_nil ?_
    refine X_then ?_
    refine T_block ?_
    refine T_loop [5, 6, 7, 16, 17, 18, 19, 20, 21, 22, 23, 24, 25, 26, 27, 28, 29, 30, 31, 32, 33, 34, 35] [6, 5] (fun us H' => ∃ (j : Nat) (kl jk : List ToldV), us = [.int .i64 (j : Int), .int .i64 (kl.length : Int)] ∧ row (.slice a ls.length c) 61 37 ((kl ++ (jk ++ ls.drop j)).flatMap ToldV.list) :: H = H' ∧ j ≤ ls.length ∧ kl.length + jk.length = j ∧ 0 < jk.length ∧ kl = keepL last (ls.take j)) (fun us => match us with | .int _ i :: _ => ls.length - i.toNat | _ => 0) ⟨k + 1, ls.take k, [ls[k]], by rw [List.length_take, Nat.min_eq_left (by omega)]; rfl, rfl, by omega, by simp; omega, by simp, (keepL_pre hk hdk hno).symm⟩ (fun w hw => by
            rw [show ls.take k ++ ([ls[k]] ++ ls.drop (k + 1)) = ls from by rw [List.singleton_append, ← List.drop_eq_getElem_cons hk, List.take_append_drop]]
            exact Subs.st inferInstance w hw) ?_
    rintro τ0 _ _  ⟨j, kl, jk, rfl, rfl, hj0, hjl, hjp, hkl⟩ _
    refine T_seq ?_
    refine T_seq ?_
    refine T_region ?_
    refine TL_q (Qt_move (.int .i64 _) rfl) rfl ?_
    refine TL_q (Qt_move (.slice _ _ _) rfl) rfl ?_
    refine TL_q (Qt_len_slice rfl Try.underlying58) rfl ?_
    refine TL_q (Qt_lss rfl rfl) rfl ?_
    refine TL_nil ?_
    refine X_then ?_
    refine T_cond rfl (fun h19 => ?_) (fun h19 => ?_)
    ·
      have p19 := h19
      try simp only [decide_eq_true_eq, decide_eq_false_iff_not, Bool.not_eq_true', Bool.not_eq_false', Option.isNone_iff_eq_none, ne_eq, Decidable.not_not, Int.not_lt, Int.not_le] at p19
      have hj : j < ls.length := by omega
      refine T_skip ?_
      refine X_then ?_
      refine T_seq ?_
      refine T_block ?_
      refine T_seq ?_
      refine T_region ?_
      refine TL_q (Qt_move (.slice _ _ _) rfl) rfl ?_
      refine TL_q (Qt_move (.int .i64 _) rfl) rfl ?_
      refine TL_q (Qt_indexN rfl rfl (by omega) (by omega)) rfl ?_
      refine TL_q (Qt_val (Qt_loadRN 37 ls[j].list rfl (cur_slice hjl hj) (ToldV.list_len _) (by decide)) (show Value.agg ls[j].list.toArray = Value.agg ls[j].cells from rfl)) rfl ?_
      refine TL_e rfl (Ef_allocN (fun b7 => ?_))
      refine TL_n (Ef_storeN rfl rfl (?_))
      refine TL_nil ?_
      refine X_then ?_
      refine T_seq ?_
      refine T_region ?_
      refine TL_q (Qt_move _ rfl) rfl ?_
      refine TL_q (Qt_loadN rfl rfl) rfl ?_
      refine TL_e rfl (Ef_callF (argv := [_]) (caps := [_]) (pred_c (p := p) (last := last) (t := ls[j])) rfl rfl (fun x28 => ?_))
      refine TL_q (Qt_not rfl) rfl ?_
      refine TL_nil ?_
      refine X_then ?_
      refine T_cond rfl (fun h29 => ?_) (fun h29 => ?_)
      ·
        have p29 := h29
        try simp only [decide_eq_true_eq, decide_eq_false_iff_not, Bool.not_eq_true', Bool.not_eq_false', Option.isNone_iff_eq_none, ne_eq, Decidable.not_not, Int.not_lt, Int.not_le] at p29
        obtain ⟨q, rest, rfl⟩ : ∃ q rest, jk = q :: rest := by cases jk with | nil => simp at hjp | cons q r => exact ⟨q, r, rfl⟩
        rw [List.cons_append]
        have hsl : kl.length * 37 + 37 ≤ ((kl ++ (q :: (rest ++ ls.drop j))).flatMap ToldV.list).length := by
          rw [flat_len _ 37 ToldV.list_len, List.length_append, List.length_cons]; omega
        refine T_seq ?_
        refine T_region ?_
        refine TL_q (Qt_move (.slice _ _ _) rfl) rfl ?_
        refine TL_q (Qt_move (.int .i64 _) rfl) rfl ?_
        refine TL_q (Qt_loadN rfl rfl) rfl ?_
        refine TL_q (Qt_indexN rfl rfl (by omega) (by omega)) rfl ?_
        refine TL_n (Ef_storeRN (e := 61) (sz := 37) (j := kl.length * 37) rfl rfl (by decide) hsl (by kernel_rfl) (?_))
        rw [del_store, show rest ++ ls.drop j = (rest ++ [ls[j]]) ++ ls.drop (j + 1) from by rw [List.drop_eq_getElem_cons hj]; simp]
        refine TL_nil ?_
        refine X_then ?_
        refine T_region ?_
        refine TL_q (Qt_move (.int .i64 _) rfl) rfl ?_
        first
          | refine TL_q (Qt_add rfl rfl (by omega) (by omega)) rfl ?_
          | refine TL_q (Qt_addw rfl rfl) rfl ?_
        refine TL_q (Qt_assign (.int .i64 _) rfl) rfl ?_
        refine TL_nil ?_
        refine X_block ?_
        refine X_then ?_
        refine T_region ?_
        refine TL_q (Qt_move (.int .i64 _) rfl) rfl ?_
        first
          | refine TL_q (Qt_add rfl rfl (by omega) (by omega)) rfl ?_
          | refine TL_q (Qt_addw rfl rfl) rfl ?_
        refine TL_q (Qt_assign (.int .i64 _) rfl) rfl ?_
        refine TL_nil ?_
        apply X_loop
        case ha => exact (by repeat (first | with_reducible exact agree_refl | refine agree_upd rfl ?_ | refine agree_mix rfl ?_ | refine agree_setAll rfl ?_))
        case hI => exact by first | exact ⟨j + 1, kl ++ [ls[j]], rest ++ [ls[j]], by rw [List.length_append]; rfl, rfl, by omega, by simp at hjl ⊢; omega, by simp, by rw [keepL_yes hj (by simpa using h29), ← hkl]⟩ | exact ⟨j + 1, kl, jk ++ [ls[j]], rfl, rfl, by omega, by simp; omega, by simp, by rw [keepL_no hj (by simpa using h29), ← hkl]⟩
        case hm => exact by show ls.length - ((j : Int) + 1).toNat < ls.length - (j : Int).toNat; omega
        case hH => exact (Subs.st inferInstance)
      ·
        have p29 := h29
        try simp only [decide_eq_true_eq, decide_eq_false_iff_not, Bool.not_eq_true', Bool.not_eq_false', Option.isNone_iff_eq_none, ne_eq, Decidable.not_not, Int.not_lt, Int.not_le] at p29
        rw [show jk ++ ls.drop j = (jk ++ [ls[j]]) ++ ls.drop (j + 1) from by rw [List.drop_eq_getElem_cons hj]; simp]
        refine T_skip ?_
        refine X_block ?_
        refine X_then ?_
        refine T_region ?_
        refine TL_q (Qt_move (.int .i64 _) rfl) rfl ?_
        first
          | refine TL_q (Qt_add rfl rfl (by omega) (by omega)) rfl ?_
          | refine TL_q (Qt_addw rfl rfl) rfl ?_
        refine TL_q (Qt_assign (.int .i64 _) rfl) rfl ?_
        refine TL_nil ?_
        apply X_loop
        case ha => exact (by repeat (first | with_reducible exact agree_refl | refine agree_upd rfl ?_ | refine agree_mix rfl ?_ | refine agree_setAll rfl ?_))
        case hI => exact by first | exact ⟨j + 1, kl ++ [ls[j]], rest ++ [ls[j]], by rw [List.length_append]; rfl, rfl, by omega, by simp at hjl ⊢; omega, by simp, by rw [keepL_yes hj (by simpa using h29), ← hkl]⟩ | exact ⟨j + 1, kl, jk ++ [ls[j]], rfl, rfl, by omega, by simp; omega, by simp, by rw [keepL_no hj (by simpa using h29), ← hkl]⟩
        case hm => exact by show ls.length - ((j : Int) + 1).toNat < ls.length - (j : Int).toNat; omega
        case hH => exact (Subs.st inferInstance)
    ·
      have p19 := h19
      try simp only [decide_eq_true_eq, decide_eq_false_iff_not, Bool.not_eq_true', Bool.not_eq_false', Option.isNone_iff_eq_none, ne_eq, Decidable.not_not, Int.not_lt, Int.not_le] at p19
      have hjn : j = ls.length := by omega
      subst hjn
      rw [List.drop_length, List.append_nil]
      rw [List.take_length] at hkl
      refine T_exit ?_
      refine X_then_exit ?_
      refine X_loop_exit ?_
      refine X_block_exit ?_
      refine X_then ?_
      refine T_seq ?_
      refine T_region ?_
      refine TL_q (Qt_move (.slice _ _ _) rfl) rfl ?_
      refine TL_q (Qt_move (.int .i64 _) rfl) rfl ?_
      refine TL_q (Qt_slice_l kl.length rfl rfl (by omega)) rfl ?_
      refine TL_n (Ef_clearT (k := kl.length) rfl (by omega) (by rw [flat_len _ 37 ToldV.list_len, List.length_append, hjl]) (fun z hz => toldZ hz) (fun zs hzl => ?_))
      rw [del_clear]
      refine TL_nil ?_
      refine X_then ?_
      refine T_seq ?_
      refine T_region ?_
      refine TL_q (Qt_move (.slice _ _ _) rfl) rfl ?_
      refine TL_q (Qt_move (.int .i64 _) rfl) rfl ?_
      refine TL_q (Qt_slice_h kl.length rfl rfl (fun w hw => by have := row_le hw; omega)) rfl ?_
      refine TL_q (Qt_assign (.slice _ _ _) rfl) rfl ?_
      refine TL_nil ?_
      refine X_then ?_
      refine T_ret ?_
      rw [← hkl]
      exact X_ret () [_] Try.results35 ⟨rfl, trivial⟩ rfl (fun w hw => St.rowCut (n := ls.length) (zs := zs) (Subs.st inferInstance w hw) (flat_len _ 37 ToldV.list_len kl) (by omega))
end
section
open Go.RowKit Go.Sx
set_option maxRecDepth 100000
set_option linter.unusedSimpArgs false
set_option linter.unusedVariables false
theorem Qt_fieldN {P : Program} {w0 : World} {σ : Env} {H : List SA} {d : Option Nat} {ty : TypeId} {pos : String} {aft : Array Edge} {g : Option (Nat × Bool)} {x : Operand} {cs sub : Array Value} {s f off n : Nat} {ft : TypeId} (h : ev σ x = .agg cs) [hf : TyF P s f off] (hft : (match P.underlying s with | some (.struct fs) => (fs[f]?).map (·.type) | _ => none) = some ft)
    [h1 : TyN P ft n] [hc : SubAt cs off n sub] : Qt P w0 H σ ⟨d, .field s x f, ty, pos, aft, g⟩ (.agg sub) := fun w _ => by
  have hb := hf.ok
  unfold fieldB at hb
  split at hb
  · rename_i fs hs
    split at hb
    · rename_i fd hfd
      simp only [Bool.and_eq_true, beq_iff_eq] at hb
      obtain ⟨e1, -⟩ := hb
      simp only [hs, hfd, Option.map_some, Option.some.injEq] at hft
      obtain ⟨dd, i, hd1, hd2, hi, hn⟩ := h1.spec
      subst e1
      subst hft
      subst hn
      simp only [execOp, h, Instr.field, Sem.run_bind, run_underlying hs, Result.andThen_ok, hfd, asAgg, Sem.run_pure, part, run_isAgg_of hd1, hd2, if_true, run_sizeOf_of hi, hc.ok]
    · cases hb
  · cases hb
def lastT (ls : List ToldV) : Int := (mxK cmpL ls (ls.length - 1)).b.last
def keptT (ls : List ToldV) : List ToldV := keepL (mxK cmpL ls (ls.length - 1)).b.last ls
def bestT (ls : List ToldV) : ToldV := mxK cmpR (keptT ls) ((keptT ls).length - 1)
/-- What follows from what members tell. -/
def choiceT (ls : List ToldV) : ChoiceV := if (keptT ls).length = 0 then ⟨lastT ls, false, zeroV 32, ⟨none, 0, []⟩⟩ else ⟨lastT ls, true, (bestT ls).b.hash, (bestT ls).b.batch⟩
theorem keptT_sub {ls : List ToldV} {t : ToldV} (h : t ∈ keptT ls) : t ∈ ls := (List.mem_filter.1 h).1
theorem keptT_le (ls : List ToldV) : (keptT ls).length ≤ ls.length := List.length_filter_le _ _
theorem lastT_ge {ls : List ToldV} {t : ToldV} (h : t ∈ ls) : t.b.last ≤ lastT ls := by
  obtain ⟨i, hi, rfl⟩ := List.getElem_of_mem h
  exact mxL_max ls (ls.length - 1) (by omega) i (by omega) hi
theorem choiceT_last (ls : List ToldV) : (choiceT ls).last = lastT ls := by unfold choiceT; split <;> rfl
theorem choiceT_bound {ls : List ToldV} {t : ToldV} (h : t ∈ ls) (hl : t.b.last = lastT ls) (hh : t.b.has = true) : (choiceT ls).bound = true := by
  have hm : t ∈ keptT ls := List.mem_filter.2 ⟨h, by
    have : delT (mxK cmpL ls (ls.length - 1)).b.last t = false := by
      unfold delT; rw [hh, show t.b.last = (mxK cmpL ls (ls.length - 1)).b.last from hl]; simp
    rw [this]; rfl⟩
  have : (keptT ls).length ≠ 0 := by
    intro h0
    rw [List.length_eq_zero_iff.1 h0] at hm
    cases hm
  unfold choiceT; rw [if_neg this]
set_option maxHeartbeats 1000000 in
theorem follows_c {w0 : World} {H : List SA} {a : Option Addr} {ls : List ToldV} {c : Nat} (hn : ls.length ≤ 1000) (h0 : 0 < ls.length) (hg : ∀ t ∈ ls, GoodT t) :
    CT Try.prog w0 (row (.slice a ls.length c) 61 37 ((ls).flatMap ToldV.list) :: H) 18 [.slice a ls.length c] (α := Unit) (fun _ => .agg (choiceT ls).cells) (fun _ => H) := by
  refine CT_intro Try.func18 rfl Try.ntmps18 rfl ?_
  refine T_seq ?_
  refine T_region ?_
  refine TL_e rfl (Ef_allocN (fun b2 => ?_))
  refine TL_nil ?_
  refine X_then ?_
  refine T_seq ?_
  refine T_region ?_
  refine TL_q (Qt_move (.slice _ _ _) rfl) rfl ?_
  refine TL_e rfl (Ef_call (maxL_c (ls := ls) hn h0 hg) rfl (fun x7 => ?_))
  refine TL_q (Qt_fieldN (ft := 47) rfl rfl) rfl ?_
  refine TL_q (Qt_field1 (ft := 3) rfl rfl) rfl ?_
  refine TL_e rfl (Ef_alloc1 (fun b3 => ?_))
  refine TL_n (Ef_store1 (.int .i64 _) rfl rfl (?_))
  refine TL_nil ?_
  refine X_then ?_
  refine T_seq ?_
  refine T_region ?_
  refine TL_q (Qt_move (.slice _ _ _) rfl) rfl ?_
  refine TL_q (Qt_makeFunc (args := [.pointer _]) rfl) rfl ?_
  refine TL_conv (H' := row (.slice a ls.length c) 61 37 ((ls).flatMap ToldV.list) :: blk b3 (.cells #[.int .i64 (mxK cmpL ls (ls.length - 1)).b.last] 3 (0, 0)) :: blk b2 (.cells ChoiceV.zero.cells 38 (0, 0)) :: H) (fun w hw => Subs.st inferInstance w hw) ?_
  refine TL_e rfl (Ef_call (deleteT_c (p := b3) (last := (mxK cmpL ls (ls.length - 1)).b.last) (ls := ls) hn) rfl (fun x12 => ?_))
  rw [show keepL (mxK cmpL ls (ls.length - 1)).b.last ls = (keptT ls) from rfl]
  refine TL_q (Qt_assign (.slice _ _ _) rfl) rfl ?_
  refine TL_nil ?_
  refine X_then ?_
  refine T_seq ?_
  refine T_region ?_
  refine TL_q (Qt_load1 rfl) rfl ?_
  refine TL_q (Qt_build [(0, (.int .i64 _))] rfl (by kernel_rfl)) rfl ?_
  refine TL_e rfl (Ef_allocN (fun b4 => ?_))
  refine TL_n (Ef_storeN rfl rfl (?_))
  refine TL_nil ?_
  refine X_then ?_
  refine T_seq ?_
  refine T_seq ?_
  refine T_region ?_
  refine TL_q (Qt_move (.slice _ _ _) rfl) rfl ?_
  refine TL_q (Qt_len_slice rfl Try.underlying58) rfl ?_
  refine TL_q (Qt_eql rfl rfl) rfl ?_
  refine TL_nil ?_
  refine X_then ?_
  refine T_cond rfl (fun h17 => ?_) (fun h17 => ?_)
  ·
    have p17 := h17
    try simp only [decide_eq_true_eq, decide_eq_false_iff_not, Bool.not_eq_true', Bool.not_eq_false', Option.isNone_iff_eq_none, ne_eq, Decidable.not_not, Int.not_lt, Int.not_le] at p17
    refine T_seq ?_
    refine T_region ?_
    refine TL_q (Qt_loadN rfl rfl) rfl ?_
    refine TL_n (Ef_storeN rfl rfl (?_))
    refine TL_nil ?_
    refine X_then ?_
    refine T_ret ?_
    refine X_then_ret ?_
    have e : choiceT ls = ⟨lastT ls, false, zeroV 32, ⟨none, 0, []⟩⟩ := if_pos (by omega)
    rw [e]
    exact X_ret () [_] Try.results18 ⟨⟨_, rfl, res_cellN rfl⟩, trivial⟩ rfl (Subs.st inferInstance)
  ·
    have p17 := h17
    try simp only [decide_eq_true_eq, decide_eq_false_iff_not, Bool.not_eq_true', Bool.not_eq_false', Option.isNone_iff_eq_none, ne_eq, Decidable.not_not, Int.not_lt, Int.not_le] at p17
    refine T_skip ?_
    refine X_then ?_
    refine T_seq ?_
    refine T_region ?_
    refine TL_q (Qt_move (.slice _ _ _) rfl) rfl ?_
    refine TL_e rfl (Ef_call (maxR_c (ls := (keptT ls)) (by have := keptT_le ls; omega) (by omega) (fun t ht => hg t (keptT_sub ht))) rfl (fun x20 => ?_))
    rw [show mxK cmpR (keptT ls) ((keptT ls).length - 1) = bestT ls from rfl]
    refine TL_q (Qt_fieldN (ft := 47) rfl rfl) rfl ?_
    refine TL_e rfl (Ef_allocN (fun b5 => ?_))
    refine TL_n (Ef_storeN rfl rfl (?_))
    refine TL_nil ?_
    refine X_then ?_
    refine T_seq ?_
    refine T_draw (blk b5 (.cells (bestT ls).b.cells 47 (0, 0)) :: H) [(0, true), (1, true), (2, true), (3, true), (4, true), (5, false), (6, true), (7, false), (8, true), (9, false)] (by kernel_rfl) (by kernel_rfl) rfl (by kernel_rfl) (Subs.st inferInstance) (fun hns0 => ?_)
    refine DL_q hns0 rfl (Qt_fieldAddr 3 rfl rfl) rfl ?_
    refine DL_q hns0 rfl (Qt_loadN rfl rfl) rfl ?_
    refine DL_q hns0 rfl (Qt_fieldAddr 35 rfl rfl) rfl ?_
    refine DL_q hns0 rfl (Qt_load1 rfl) rfl ?_
    refine DL_q hns0 rfl (Qt_fieldAddr 1 rfl rfl) rfl ?_
    refine DL_n rfl (Ef_store1 (.bool _) rfl rfl (⟨(Subs.st inferInstance), ?_⟩))
    refine DL_q hns0 rfl (Qt_fieldAddr 2 rfl rfl) rfl ?_
    refine DL_n rfl (Ef_storeN rfl rfl (⟨(Subs.st inferInstance), ?_⟩))
    refine DL_q hns0 rfl (Qt_fieldAddr 34 rfl rfl) rfl ?_
    refine DL_n rfl (Ef_store1 (.slice _ _ _) rfl rfl (⟨(Subs.st inferInstance), ?_⟩))
    refine DL_nil ?_
    refine X_then ?_
    refine T_seq ?_
    refine T_region ?_
    refine TL_q (Qt_loadN rfl rfl) rfl ?_
    refine TL_n (Ef_storeN rfl rfl (?_))
    refine TL_nil ?_
    refine X_then ?_
    refine T_ret ?_
    have e : choiceT ls = ⟨lastT ls, true, (bestT ls).b.hash, (bestT ls).b.batch⟩ := if_neg (by omega)
    rw [e]
    exact X_ret () [_] Try.results18 ⟨⟨_, rfl, res_cellN rfl⟩, trivial⟩ rfl (Subs.st inferInstance)
end
section
open Go.RowKit Go.Sx
set_option maxRecDepth 100000
set_option linter.unusedSimpArgs false
set_option linter.unusedVariables false
theorem prs_small : ∀ (n : Nat) (l : List UInt8), (∀ x ∈ (prs n l).2.1, x.length ≤ l.length) ∧ (prs n l).2.1.length ≤ n
  | 0, l => by simp [prs]
  | n + 1, l => by
    have h1 := (rdText_bound l 65536).2
    have h2 := prs_small n (l.drop (rdText l 65536).2.2)
    rw [List.length_drop] at h2
    unfold prs
    split
    · simp
    · split
      · simp
      · refine ⟨fun x hx => ?_, by simp; exact h2.2⟩
        rcases List.mem_cons.1 hx with rfl | hx
        · exact h1
        · have := h2.1 x hx; omega
theorem partsR_small (l : List UInt8) : (∀ x ∈ (partsR l).2.1, x.length ≤ l.length) ∧ (partsR l).2.1.length ≤ 16 := by
  unfold partsR
  split
  · simp
  · rename_i hc
    have h2 := prs_small (rdCount l 16).2.1 (l.drop (rdCount l 16).2.2)
    have h3 := rdCount_ok (show (rdCount l 16).1 = 0 by omega)
    have h4 : ((rdCount l 16).2.1 : Int) ≤ 16 := by rw [h3.1]; exact h3.2.1
    rw [List.length_drop] at h2
    split
    · simp
    · exact ⟨fun x hx => by have := h2.1 x hx; omega, by have := h2.2; show (prs _ _).2.1.length ≤ 16; omega⟩
def Small2 (m : MsgD) (n : Nat) : Prop := m.body.length ≤ n ∧ (∀ x ∈ m.parts, x.length ≤ n) ∧ m.parts.length ≤ 16
theorem Small2.zero (n : Nat) : Small2 .zero n := ⟨Nat.zero_le _, fun x hx => (by cases hx), Nat.zero_le _⟩
theorem msgR_small2 (l : List UInt8) : Small2 (msgR l).2 l.length := by
  have hb := (rdText_bound (l.drop (8 + 32)) 65536).2
  have hp := partsR_small (l.drop (8 + 32 + (bodyR l).2.2))
  rw [List.length_drop] at hb hp
  unfold msgR
  repeat' split
  all_goals first | exact Small2.zero _ | exact ⟨by show (bodyR l).2.1.length ≤ _; unfold bodyR; omega, fun x hx => by have := hp.1 x hx; omega, hp.2⟩
theorem getM_small2 (l : List UInt8) : Small2 (getM l).2 l.length := by
  unfold getM
  repeat' split
  all_goals first | exact Small2.zero _ | exact msgR_small2 l
theorem openK_small2 (K : List (List UInt8)) (l : List UInt8) : Small2 (openK K l).2 l.length := by
  unfold openK
  repeat' split
  all_goals first | exact Small2.zero _ | (have h := getM_small2 (l.take (l.length - 32)); rw [List.length_take] at h; exact ⟨by have := h.1; show (getM (l.take (l.length - 32))).2.body.length ≤ _; omega, fun x hx => by have := h.2.1 x hx; omega, h.2.2⟩)
theorem openOfK_small2 (K : List (List UInt8)) (mk : Nat) (l : List UInt8) : Small2 (openOfK K mk l).2 l.length := by
  unfold openOfK
  split
  · exact Small2.zero _
  · exact openK_small2 K l
theorem validD_good {K : List (List UInt8)} {rs : List (Vector UInt8 32)} {num : Int} {mk : Nat} {first : Int} {m : MsgD} (hs : 0 ≤ m.slot ∧ m.slot ≤ 60) :
    (0 ≤ (validD K rs num mk first m).2.last ∧ (validD K rs num mk first m).2.last ≤ 60) ∧ (-1 ≤ (validD K rs num mk first m).2.reg ∧ (validD K rs num mk first m).2.reg ≤ 41) := by
  have hb := bndD_range K num mk m.slot (sha m.body) m.parts (startN m.reg)
  have hl := startN_le m.reg
  unfold validD
  repeat' split
  all_goals first | exact ⟨⟨by show (0 : Int) ≤ 0; decide, by show (0 : Int) ≤ 60; decide⟩, ⟨by show (-1 : Int) ≤ 0; decide, by show (0 : Int) ≤ 41; decide⟩⟩ | exact ⟨hs, ⟨by show (-1 : Int) ≤ 0; decide, by show (0 : Int) ≤ 41; decide⟩⟩ | exact ⟨hs, by show -1 ≤ bndM K num mk m; unfold bndM; omega, by show bndM K num mk m ≤ 41; unfold bndM; omega⟩
/-- The parts one by one: the error, who told what. -/
def chGo (K : List (List UInt8)) (rs : List (Vector UInt8 32)) (num : Int) (mk : Nat) (first reg : Int) : List (List UInt8) → Nat → List (Int × BindD) → Int × List (Int × BindD)
  | [], _, acc => (0, acc)
  | p :: ps, met, acc =>
    if (openOfK K mk p).1 ≠ 0 then ((openOfK K mk p).1, acc)
    else if (openOfK K mk p).2.kind ≠ 5 ∨ (openOfK K mk p).2.reg ≠ reg then (10, acc)
    else if met / 2 ^ (openOfK K mk p).2.frm.toNat % 2 ≠ 0 then (7, acc)
    else if (validD K rs num mk first (openOfK K mk p).2).1 ≠ 0 then ((validD K rs num mk first (openOfK K mk p).2).1, acc)
    else chGo K rs num mk first reg ps (met ||| 2 ^ (openOfK K mk p).2.frm.toNat) (acc ++ [((openOfK K mk p).2.frm, (validD K rs num mk first (openOfK K mk p).2).2)])
def chooseE (K : List (List UInt8)) (rs : List (Vector UInt8 32)) (num : Int) (mk : Nat) (first reg : Int) (ps : List (List UInt8)) : Int × List (Int × BindD) :=
  if enoughV num mk = 0 ∨ ps.length < enoughV num mk ∨ 16 < ps.length then (12, []) else chGo K rs num mk first reg ps 0 []
theorem chGo_acc {K : List (List UInt8)} {rs : List (Vector UInt8 32)} {num : Int} {mk : Nat} {first reg : Int} : ∀ {ps : List (List UInt8)} {met : Nat} {acc : List (Int × BindD)}, (chGo K rs num mk first reg ps met acc).1 = 0 → ∀ z ∈ acc, z ∈ (chGo K rs num mk first reg ps met acc).2
  | [], met, acc, _, z, hz => hz
  | p :: ps, met, acc, h, z, hz => by
    unfold chGo at h ⊢
    by_cases h1 : (openOfK K mk p).1 ≠ 0
    · rw [if_pos h1] at h; exact absurd h h1
    · rw [if_neg h1] at h ⊢
      by_cases h2 : (openOfK K mk p).2.kind ≠ 5 ∨ (openOfK K mk p).2.reg ≠ reg
      · rw [if_pos h2] at h; cases h
      · rw [if_neg h2] at h ⊢
        by_cases h3 : met / 2 ^ (openOfK K mk p).2.frm.toNat % 2 ≠ 0
        · rw [if_pos h3] at h; cases h
        · rw [if_neg h3] at h ⊢
          by_cases h4 : (validD K rs num mk first (openOfK K mk p).2).1 ≠ 0
          · rw [if_pos h4] at h; exact absurd h h4
          · rw [if_neg h4] at h ⊢
            exact chGo_acc h z (List.mem_append_left _ hz)
/-- Where all goes well, each part opens and is valid, and is among what is told. -/
theorem chGo_all {K : List (List UInt8)} {rs : List (Vector UInt8 32)} {num : Int} {mk : Nat} {first reg : Int} : ∀ {ps : List (List UInt8)} {met : Nat} {acc : List (Int × BindD)}, (chGo K rs num mk first reg ps met acc).1 = 0 →
    ∀ p ∈ ps, (openOfK K mk p).1 = 0 ∧ (validD K rs num mk first (openOfK K mk p).2).1 = 0 ∧ ((openOfK K mk p).2.frm, (validD K rs num mk first (openOfK K mk p).2).2) ∈ (chGo K rs num mk first reg ps met acc).2
  | [], met, acc, _, p, hp => by cases hp
  | q :: ps, met, acc, h, p, hp => by
    unfold chGo at h ⊢
    by_cases h1 : (openOfK K mk q).1 ≠ 0
    · rw [if_pos h1] at h; exact absurd h h1
    · rw [if_neg h1] at h ⊢
      by_cases h2 : (openOfK K mk q).2.kind ≠ 5 ∨ (openOfK K mk q).2.reg ≠ reg
      · rw [if_pos h2] at h; cases h
      · rw [if_neg h2] at h ⊢
        by_cases h3 : met / 2 ^ (openOfK K mk q).2.frm.toNat % 2 ≠ 0
        · rw [if_pos h3] at h; cases h
        · rw [if_neg h3] at h ⊢
          by_cases h4 : (validD K rs num mk first (openOfK K mk q).2).1 ≠ 0
          · rw [if_pos h4] at h; exact absurd h h4
          · rw [if_neg h4] at h ⊢
            rcases List.mem_cons.1 hp with rfl | hp
            · exact ⟨by omega, by omega, chGo_acc h _ (by simp)⟩
            · exact chGo_all h p hp
theorem openOfK_K {K : List (List UInt8)} {mk : Nat} {l : List UInt8} (h : (openOfK K mk l).1 = 0) : openOfK K mk l = openK K l := by
  unfold openOfK at h ⊢
  split at h
  · cases h
  · rename_i h1; rw [if_neg h1]
def absT (t : ToldV) : Int × BindD := (t.frm, t.b.abs)
end
section
open Go.RowKit Go.Sx
set_option maxRecDepth 100000
set_option linter.unusedSimpArgs false
set_option linter.unusedVariables false
attribute [local irreducible] openOfK validD enoughV
theorem chGo_at (K : List (List UInt8)) (rs : List (Vector UInt8 32)) (num : Int) (mk : Nat) (first reg : Int) (ps : List (List UInt8)) (met : Nat) (acc : List (Int × BindD)) (k : Nat) (hk : k < ps.length) : chGo K rs num mk first reg (ps.drop k) met acc =
    if (openOfK K mk ps[k]).1 ≠ 0 then ((openOfK K mk ps[k]).1, acc)
    else if (openOfK K mk ps[k]).2.kind ≠ 5 ∨ (openOfK K mk ps[k]).2.reg ≠ reg then (10, acc)
    else if met / 2 ^ (openOfK K mk ps[k]).2.frm.toNat % 2 ≠ 0 then (7, acc)
    else if (validD K rs num mk first (openOfK K mk ps[k]).2).1 ≠ 0 then ((validD K rs num mk first (openOfK K mk ps[k]).2).1, acc)
    else chGo K rs num mk first reg (ps.drop (k + 1)) (met ||| 2 ^ (openOfK K mk ps[k]).2.frm.toNat) (acc ++ [((openOfK K mk ps[k]).2.frm, (validD K rs num mk first (openOfK K mk ps[k]).2).2)]) := by
  rw [List.drop_eq_getElem_cons hk]; rfl
set_option maxHeartbeats 1000000 in
theorem choose_c {w0 : World} {H : List SA} {num : Int} {mk : Nat} (hmk : mk < 65536) {sa : Option Addr} {sc : Nat} {ls : List BS} [rk : RdC w0 H (.slice sa ls.length sc) 1 (ls.map BS.val)] [rke : RdE w0 H ls] (hkl : ∀ x ∈ ls, x.l.length ≤ 4294967000) {ra : Option Addr} {rq : Nat} {rs : List (Vector UInt8 32)} [hrr : RdC w0 H (.slice ra rs.length rq) 32 (rs.flatMap hlist)] (hrs : rs.length ≤ 1000) {a : Option Addr} {ps : List BS} {c : Nat} [hp : RdC w0 H (.slice a ps.length c) 1 (ps.map BS.val)] [hpe : RdE w0 H ps] (hps : ∀ x ∈ ps, x.l.length ≤ 4294960000) (hn : ps.length ≤ 1000) {first reg : Int} (hfi : -1000 ≤ first ∧ first ≤ 1000) :
    CT Try.prog w0 (H) 7 [.agg (KeysV.mk ⟨sa, sc, ls⟩ ⟨ra, rs.length, rq⟩).cells, .agg (ViewV.mk num (mk : Int)).cells, .int .i64 first, .int .i64 reg, .slice a ps.length c] (α := (ChoiceV × List ToldV) × List Nat) (fun y => .tuple #[.agg y.1.1.cells, .int .i64 (chooseE (ls.map BS.l) rs num mk first reg (ps.map BS.l)).1]) (fun y => pu (((chooseE (ls.map BS.l) rs num mk first reg (ps.map BS.l)).1 = 0 → y.1.2.map absT = (chooseE (ls.map BS.l) rs num mk first reg (ps.map BS.l)).2 ∧ y.1.1 = choiceT y.1.2) ∧ ((chooseE (ls.map BS.l) rs num mk first reg (ps.map BS.l)).1 ≠ 0 → y.1.1 = ChoiceV.zero)) :: dat y.2 ⟨(y.1.2).map (fun t => t.b.batch), [], []⟩ :: H) := by
  refine CT_intro Try.func7 rfl Try.ntmps7 rfl ?_
  refine T_seq ?_
  refine T_region ?_
  refine TL_e rfl (Ef_boxN rfl (fun b5 => ?_))
  refine TL_e rfl (Ef_boxN rfl (fun b6 => ?_))
  refine TL_e rfl (Ef_allocN (fun b10 => ?_))
  refine TL_q (Qt_assign (.int .i64 _) rfl) rfl ?_
  refine TL_nil ?_
  refine X_then ?_
  refine T_seq ?_
  refine T_seq ?_
  refine T_region ?_
  refine TL_q (Qt_loadN rfl rfl) rfl ?_
  refine TL_e rfl (Ef_call (enough_v (num := num) hmk) rfl (fun x21 => ?_))
  refine TL_q (Qt_assign (.int .i64 _) rfl) rfl ?_
  refine TL_nil ?_
  refine X_then ?_
  refine T_seq ?_
  refine T_region ?_
  refine TL_q (Qt_move (.int .i64 _) rfl) rfl ?_
  refine TL_q (Qt_eql rfl rfl) rfl ?_
  refine TL_q (Qt_move (.bool _) rfl) rfl ?_
  refine TL_split 24 rfl (fun h24 => ?_) (fun h24 => ?_)
  ·
    have p24 := h24
    try simp only [decide_eq_true_eq, decide_eq_false_iff_not, Bool.not_eq_true', Bool.not_eq_false', Option.isNone_iff_eq_none, ne_eq, Decidable.not_not, Int.not_lt, Int.not_le] at p24
    refine TL_pass rfl rfl h24 rfl ?_
    refine TL_pass rfl rfl h24 rfl ?_
    refine TL_pass rfl rfl h24 rfl ?_
    refine TL_pass rfl rfl h24 rfl ?_
    refine TL_q (Qt_pick_t (.bool _) rfl h24 rfl) rfl ?_
    refine TL_q (Qt_move (.bool _) rfl) rfl ?_
    refine TL_pass rfl rfl rfl rfl ?_
    refine TL_pass rfl rfl rfl rfl ?_
    refine TL_pass rfl rfl rfl rfl ?_
    refine TL_q (Qt_pick_t (.bool _) rfl rfl rfl) rfl ?_
    refine TL_nil ?_
    refine X_then ?_
    refine T_cond_true rfl rfl ?_
    refine T_seq ?_
    refine T_region ?_
    refine TL_q (Qt_build [] rfl (by kernel_rfl)) rfl ?_
    refine TL_n (Ef_storeN rfl rfl (?_))
    refine TL_q (Qt_assign (.int .i64 _) rfl) rfl ?_
    refine TL_nil ?_
    refine X_then ?_
    refine T_ret ?_
    refine X_then_ret ?_
    have e : (chooseE (ls.map BS.l) rs num mk first reg (ps.map BS.l)).1 = 12 := by
      unfold chooseE; rw [if_pos (by rw [List.length_map]; simp_all <;> omega)]
    have e0 : (12 : Int) ≠ 0 := by first | decide | assumption | omega
    exact X_ret ((ChoiceV.zero, []), []) [_, _] Try.results7 ⟨⟨_, rfl, res_cellN rfl⟩, rfl, trivial⟩ (by rw [e]; rfl) (fun w hw => St.addPure ((Subs.st inferInstance w hw : St w0 H w).datNil) ⟨fun h => absurd (e.symm.trans h) e0, fun _ => rfl⟩)
  ·
    have p24 := h24
    try simp only [decide_eq_true_eq, decide_eq_false_iff_not, Bool.not_eq_true', Bool.not_eq_false', Option.isNone_iff_eq_none, ne_eq, Decidable.not_not, Int.not_lt, Int.not_le] at p24
    refine TL_take rfl rfl h24 ?_
    refine TL_q (Qt_move (.slice _ _ _) rfl) rfl ?_
    refine TL_take rfl rfl h24 ?_
    refine TL_q (Qt_len_slice rfl Try.underlying28) rfl ?_
    refine TL_take rfl rfl h24 ?_
    refine TL_q (Qt_move (.int .i64 _) rfl) rfl ?_
    refine TL_take rfl rfl h24 ?_
    refine TL_q (Qt_lss rfl rfl) rfl ?_
    refine TL_q (Qt_pick_f (.bool _) rfl h24 rfl) rfl ?_
    refine TL_q (Qt_move (.bool _) rfl) rfl ?_
    refine TL_split 30 rfl (fun h30 => ?_) (fun h30 => ?_)
    ·
      have p30 := h30
      try simp only [decide_eq_true_eq, decide_eq_false_iff_not, Bool.not_eq_true', Bool.not_eq_false', Option.isNone_iff_eq_none, ne_eq, Decidable.not_not, Int.not_lt, Int.not_le] at p30
      refine TL_pass rfl rfl h30 rfl ?_
      refine TL_pass rfl rfl h30 rfl ?_
      refine TL_pass rfl rfl h30 rfl ?_
      refine TL_q (Qt_pick_t (.bool _) rfl h30 rfl) rfl ?_
      refine TL_nil ?_
      refine X_then ?_
      refine T_cond_true rfl rfl ?_
      refine T_seq ?_
      refine T_region ?_
      refine TL_q (Qt_build [] rfl (by kernel_rfl)) rfl ?_
      refine TL_n (Ef_storeN rfl rfl (?_))
      refine TL_q (Qt_assign (.int .i64 _) rfl) rfl ?_
      refine TL_nil ?_
      refine X_then ?_
      refine T_ret ?_
      refine X_then_ret ?_
      have e : (chooseE (ls.map BS.l) rs num mk first reg (ps.map BS.l)).1 = 12 := by
        unfold chooseE; rw [if_pos (by rw [List.length_map]; simp_all <;> omega)]
      have e0 : (12 : Int) ≠ 0 := by first | decide | assumption | omega
      exact X_ret ((ChoiceV.zero, []), []) [_, _] Try.results7 ⟨⟨_, rfl, res_cellN rfl⟩, rfl, trivial⟩ (by rw [e]; rfl) (fun w hw => St.addPure ((Subs.st inferInstance w hw : St w0 H w).datNil) ⟨fun h => absurd (e.symm.trans h) e0, fun _ => rfl⟩)
    ·
      have p30 := h30
      try simp only [decide_eq_true_eq, decide_eq_false_iff_not, Bool.not_eq_true', Bool.not_eq_false', Option.isNone_iff_eq_none, ne_eq, Decidable.not_not, Int.not_lt, Int.not_le] at p30
      refine TL_take rfl rfl h30 ?_
      refine TL_q (Qt_move (.slice _ _ _) rfl) rfl ?_
      refine TL_take rfl rfl h30 ?_
      refine TL_q (Qt_len_slice rfl Try.underlying28) rfl ?_
      refine TL_take rfl rfl h30 ?_
      refine TL_q (Qt_gtr rfl rfl) rfl ?_
      refine TL_q (Qt_pick_f (.bool _) rfl h30 rfl) rfl ?_
      refine TL_nil ?_
      refine X_then ?_
      refine T_cond rfl (fun h34 => ?_) (fun h34 => ?_)
      ·
        have p34 := h34
        try simp only [decide_eq_true_eq, decide_eq_false_iff_not, Bool.not_eq_true', Bool.not_eq_false', Option.isNone_iff_eq_none, ne_eq, Decidable.not_not, Int.not_lt, Int.not_le] at p34
        refine T_seq ?_
        refine T_region ?_
        refine TL_q (Qt_build [] rfl (by kernel_rfl)) rfl ?_
        refine TL_n (Ef_storeN rfl rfl (?_))
        refine TL_q (Qt_assign (.int .i64 _) rfl) rfl ?_
        refine TL_nil ?_
        refine X_then ?_
        refine T_ret ?_
        refine X_then_ret ?_
        have e : (chooseE (ls.map BS.l) rs num mk first reg (ps.map BS.l)).1 = 12 := by
          unfold chooseE; rw [if_pos (by rw [List.length_map]; simp_all <;> omega)]
        have e0 : (12 : Int) ≠ 0 := by first | decide | assumption | omega
        exact X_ret ((ChoiceV.zero, []), []) [_, _] Try.results7 ⟨⟨_, rfl, res_cellN rfl⟩, rfl, trivial⟩ (by rw [e]; rfl) (fun w hw => St.addPure ((Subs.st inferInstance w hw : St w0 H w).datNil) ⟨fun h => absurd (e.symm.trans h) e0, fun _ => rfl⟩)
      ·
        have p34 := h34
        try simp only [decide_eq_true_eq, decide_eq_false_iff_not, Bool.not_eq_true', Bool.not_eq_false', Option.isNone_iff_eq_none, ne_eq, Decidable.not_not, Int.not_lt, Int.not_le] at p34
        have hce : chooseE (ls.map BS.l) rs num mk first reg (ps.map BS.l) = chGo (ls.map BS.l) rs num mk first reg (ps.map BS.l) 0 [] := by
          unfold chooseE; rw [if_neg (by rw [List.length_map]; simp_all <;> omega)]
        have h16 : ps.length ≤ 16 ∧ 0 < ps.length := by simp_all; omega
        refine T_skip ?_
        refine X_then ?_
        refine T_seq ?_
        refine T_region ?_
        refine TL_q (Qt_assign (.int .u16 _) rfl) rfl ?_
        refine TL_nil ?_
        refine X_then ?_
        refine T_seq ?_
        refine T_region ?_
        refine TL_q (Qt_assign (.slice _ _ _) rfl) rfl ?_
        refine TL_nil ?_
        refine X_then ?_
        refine T_seq ?_
        refine T_seq ?_
        refine T_region ?_
        refine TL_q (Qt_move (.slice _ _ _) rfl) rfl ?_
        refine TL_q (Qt_len_slice rfl Try.underlying28) rfl ?_
        refine TL_q (Qt_move (.int .i64 _) rfl) rfl ?_
        refine TL_nil ?_
        refine X_then ?_
        refine T_block ?_
        refine T_loop [11, 13, 14, 16, 17, 18, 19, 38, 39, 40, 41, 42, 43, 44, 45, 46, 47, 48, 49, 50, 51, 52, 53, 54, 55, 56, 57, 58, 59, 60, 61, 62, 63, 64, 65, 66, 67, 68, 69, 70, 71, 72, 73, 74, 75, 76, 77, 78, 79, 80, 81, 82, 83, 84, 85, 86, 87, 88, 89, 90, 91, 92, 93, 94, 95, 96, 97] [38, 13, 14] (fun us H' => ∃ (k : Nat) (met : Nat) (aa : Option Addr) (cc : Nat) (ts : List ToldV) (fp : List Nat), us = [.int .i64 (k : Int), .int .u16 (met : Int), .slice aa ts.length cc] ∧ row (.slice aa (ts).length cc) 61 37 ((ts).flatMap ToldV.list) :: dat fp ⟨(ts).map (fun t => t.b.batch), [], []⟩ :: blk b5 (.cells (KeysV.mk ⟨sa, sc, ls⟩ ⟨ra, rs.length, rq⟩).cells 32 (0, 0)) :: blk b6 (.cells (ViewV.mk num (mk : Int)).cells 24 (0, 0)) :: blk b10 (.cells ChoiceV.zero.cells 38 (0, 0)) :: H = H' ∧ k ≤ ps.length ∧ (chGo (ls.map BS.l) rs num mk first reg (ps.map BS.l) 0 [] = chGo (ls.map BS.l) rs num mk first reg ((ps.map BS.l).drop k) met (ts.map absT)) ∧ (met < 65536) ∧ (ts.length = k) ∧ (∀ t ∈ ts, GoodT t)) (fun us => match us with | .int _ i :: _ => ps.length - i.toNat | _ => 0) ⟨0, 0, none, 0, [], [], rfl, rfl, by omega, rfl, by decide, rfl, fun t ht => by cases ht⟩ (fun w hw => by
              have h0 : St w0 (blk b5 (.cells (KeysV.mk ⟨sa, sc, ls⟩ ⟨ra, rs.length, rq⟩).cells 32 (0, 0)) :: blk b6 (.cells (ViewV.mk num (mk : Int)).cells 24 (0, 0)) :: blk b10 (.cells ChoiceV.zero.cells 38 (0, 0)) :: H) w := Subs.st inferInstance w hw
              exact (h0.datNil).addNil 61 37) ?_
        rintro τ0 _ _  ⟨k, met, aa, cc, ts, fp, rfl, rfl, hk0, hi, hmet, hll, hg⟩ _
        refine T_seq ?_
        refine T_region ?_
        refine TL_q (Qt_lss rfl rfl) rfl ?_
        refine TL_nil ?_
        refine X_then ?_
        refine T_seq ?_
        refine T_cond rfl (fun h39 => ?_) (fun h39 => ?_)
        ·
          have p39 := h39
          try simp only [decide_eq_true_eq, decide_eq_false_iff_not, Bool.not_eq_true', Bool.not_eq_false', Option.isNone_iff_eq_none, ne_eq, Decidable.not_not, Int.not_lt, Int.not_le] at p39
          have hk : k < ps.length := by omega
          have hst := chGo_at (ls.map BS.l) rs num mk first reg (ps.map BS.l) met (ts.map absT) k (by simpa using hk)
          have hgk : ((ps.map BS.l)[k]'(by simpa using hk)) = ps[k].l := by simp
          rw [hgk] at hst
          refine T_skip ?_
          refine X_then ?_
          refine T_seq ?_
          refine T_block ?_
          refine T_seq ?_
          refine T_region ?_
          refine TL_q (Qt_indexR rfl rfl (by omega) (by simp; omega)) rfl ?_
          refine TL_q (Qt_loadR (.slice _ _ _) rfl (vals_get _ _ hk)) rfl ?_
          refine TL_q (Qt_assign (.slice _ _ _) rfl) rfl ?_
          refine TL_nil ?_
          refine X_then ?_
          refine T_seq ?_
          refine T_region ?_
          refine TL_q (Qt_loadN rfl rfl) rfl ?_
          refine TL_q (Qt_loadN rfl rfl) rfl ?_
          refine TL_q (Qt_move (.slice _ _ _) rfl) rfl ?_
          have : RdB w0 H (.slice ps[k].a ps[k].l.length ps[k].c) ps[k].l := hpe.get (List.getElem_mem hk)
          refine TL_e rfl (Ef_call (openOf_c (sa := sa) (sc := sc) (ls := ls) (rt := ⟨ra, rs.length, rq⟩) (num := num) hmk hkl (l := ps[k].l) (hps _ (List.getElem_mem hk))) rfl (fun x46 => ?_))
          refine TL_pure (fun h46 => ?_)
          have hkd : x46.1.kind = (openOfK (ls.map BS.l) mk ps[k].l).2.kind := congrArg MsgD.kind h46
          have hrg : x46.1.reg = (openOfK (ls.map BS.l) mk ps[k].l).2.reg := congrArg MsgD.reg h46
          have hfr : x46.1.frm = (openOfK (ls.map BS.l) mk ps[k].l).2.frm := congrArg MsgD.frm h46
          have hs2 := openOfK_small2 (ls.map BS.l) mk ps[k].l
          have hpk := hps _ (List.getElem_mem hk)
          rw [← h46] at hs2
          have hmbl : x46.1.body.l.length ≤ 4294960000 := Nat.le_trans hs2.1 hpk
          have hmps : ∀ x ∈ x46.1.parts.ls, x.l.length ≤ 4294960000 := fun x hx => Nat.le_trans (hs2.2.1 x.l (List.mem_map.2 ⟨x, hx, rfl⟩)) hpk
          have hmpn : x46.1.parts.ls.length ≤ 16 := by have := hs2.2.2; rwa [show x46.1.abs.parts = x46.1.parts.ls.map BS.l from rfl, List.length_map] at this
          refine TL_q (Qt_move (.tuple _) rfl) rfl ?_
          refine TL_q (Qt_extract rfl) rfl ?_
          refine TL_q (Qt_extract rfl) rfl ?_
          refine TL_e rfl (Ef_allocN (fun b17 => ?_))
          refine TL_n (Ef_storeN rfl rfl (?_))
          refine TL_q (Qt_assign (.int .i64 _) rfl) rfl ?_
          refine TL_nil ?_
          refine X_then ?_
          refine T_seq ?_
          refine T_block ?_
          refine T_seq ?_
          refine T_region ?_
          refine TL_q (Qt_move (.int .i64 _) rfl) rfl ?_
          refine TL_q (Qt_neq rfl rfl) rfl ?_
          refine TL_q (Qt_assign (.bool _) rfl) rfl ?_
          refine TL_nil ?_
          refine X_then ?_
          refine T_cond rfl (fun h49 => ?_) (fun h49 => ?_)
          ·
            have p49 := h49
            try simp only [decide_eq_true_eq, decide_eq_false_iff_not, Bool.not_eq_true', Bool.not_eq_false', Option.isNone_iff_eq_none, ne_eq, Decidable.not_not, Int.not_lt, Int.not_le] at p49
            rw [if_pos p49] at hst
            refine T_seq ?_
            refine T_region ?_
            refine TL_q (Qt_build [] rfl (by kernel_rfl)) rfl ?_
            refine TL_q (Qt_move (.int .i64 _) rfl) rfl ?_
            refine TL_n (Ef_storeN rfl rfl (?_))
            refine TL_q (Qt_assign (.int .i64 _) rfl) rfl ?_
            refine TL_nil ?_
            refine X_then ?_
            refine T_ret ?_
            refine X_block_ret ?_
            refine X_then_ret ?_
            refine X_block_ret ?_
            refine X_then_ret ?_
            refine X_loop_ret ?_
            refine X_block_ret ?_
            refine X_then_ret ?_
            have e : (chooseE (ls.map BS.l) rs num mk first reg (ps.map BS.l)).1 = (openOfK (ls.map BS.l) mk ps[k].l).1 := by
              rw [hce, hi, hst]
            have e0 : ((openOfK (ls.map BS.l) mk ps[k].l).1 : Int) ≠ 0 := by first | decide | assumption | omega
            exact X_ret ((ChoiceV.zero, []), []) [_, _] Try.results7 ⟨⟨_, rfl, res_cellN rfl⟩, rfl, trivial⟩ (by rw [e]; rfl) (fun w hw => St.addPure ((Subs.st inferInstance w hw : St w0 H w).datNil) ⟨fun h => absurd (e.symm.trans h) e0, fun _ => rfl⟩)
          ·
            have p49 := h49
            try simp only [decide_eq_true_eq, decide_eq_false_iff_not, Bool.not_eq_true', Bool.not_eq_false', Option.isNone_iff_eq_none, ne_eq, Decidable.not_not, Int.not_lt, Int.not_le] at p49
            rw [if_neg (by omega)] at hst
            have hfm := (formedM_iff _).1 (opn_ok (K := (ls.map BS.l)) (mk := mk) (l := ps[k].l) (by omega)).1
            rw [show opn (ls.map BS.l) mk ps[k].l = (openOfK (ls.map BS.l) mk ps[k].l).2 from rfl, ← h46] at hfm
            have hmsl : 0 ≤ x46.1.slot ∧ x46.1.slot ≤ 60 := hfm.2.2.2.2.2.2.2.2
            have hfra : 0 ≤ x46.1.frm ∧ x46.1.frm ≤ 15 := ⟨hfm.2.2.1, hfm.2.2.2.1⟩
            obtain ⟨f, hfe⟩ := Int.eq_ofNat_of_zero_le hfra.1
            have hf16 : f < 16 := by omega
            have h2f : 2 ^ f < 65536 := Nat.pow_lt_pow_right (by decide) hf16
            have hff : (openOfK (ls.map BS.l) mk ps[k].l).2.frm.toNat = f := by rw [← hfr, hfe]; rfl
            rw [hff, ← hfr, ← hkd, ← hrg, ← h46] at hst
            refine T_seq ?_
            refine T_region ?_
            refine TL_q (Qt_fieldAddr 0 rfl rfl) rfl ?_
            refine TL_q (Qt_load1 rfl) rfl ?_
            refine TL_q (Qt_neq rfl rfl) rfl ?_
            refine TL_q (Qt_move (.bool _) rfl) rfl ?_
            refine TL_split 58 rfl (fun h58 => ?_) (fun h58 => ?_)
            ·
              have p58 := h58
              try simp only [decide_eq_true_eq, decide_eq_false_iff_not, Bool.not_eq_true', Bool.not_eq_false', Option.isNone_iff_eq_none, ne_eq, Decidable.not_not, Int.not_lt, Int.not_le] at p58
              refine TL_pass rfl rfl h58 rfl ?_
              refine TL_pass rfl rfl h58 rfl ?_
              refine TL_pass rfl rfl h58 rfl ?_
              refine TL_pass rfl rfl h58 rfl ?_
              refine TL_q (Qt_pick_t (.bool _) rfl h58 rfl) rfl ?_
              refine TL_q (Qt_assign (.bool _) rfl) rfl ?_
              refine TL_nil ?_
              refine X_then ?_
              refine T_cond_true rfl rfl ?_
              refine T_seq ?_
              refine T_region ?_
              refine TL_q (Qt_build [] rfl (by kernel_rfl)) rfl ?_
              refine TL_n (Ef_storeN rfl rfl (?_))
              refine TL_q (Qt_assign (.int .i64 _) rfl) rfl ?_
              refine TL_nil ?_
              refine X_then ?_
              refine T_ret ?_
              refine X_block_ret ?_
              refine X_then_ret ?_
              refine X_block_ret ?_
              refine X_then_ret ?_
              refine X_loop_ret ?_
              refine X_block_ret ?_
              refine X_then_ret ?_
              have e : (chooseE (ls.map BS.l) rs num mk first reg (ps.map BS.l)).1 = 10 := by
                rw [hce, hi, hst, if_pos (by first | (left; assumption) | (right; assumption) | (simp_all; done) | (simp_all; omega))]
              have e0 : (10 : Int) ≠ 0 := by first | decide | assumption | omega
              exact X_ret ((ChoiceV.zero, []), []) [_, _] Try.results7 ⟨⟨_, rfl, res_cellN rfl⟩, rfl, trivial⟩ (by rw [e]; rfl) (fun w hw => St.addPure ((Subs.st inferInstance w hw : St w0 H w).datNil) ⟨fun h => absurd (e.symm.trans h) e0, fun _ => rfl⟩)
            ·
              have p58 := h58
              try simp only [decide_eq_true_eq, decide_eq_false_iff_not, Bool.not_eq_true', Bool.not_eq_false', Option.isNone_iff_eq_none, ne_eq, Decidable.not_not, Int.not_lt, Int.not_le] at p58
              refine TL_take rfl rfl h58 ?_
              refine TL_q (Qt_fieldAddr 3 rfl rfl) rfl ?_
              refine TL_take rfl rfl h58 ?_
              refine TL_q (Qt_load1 rfl) rfl ?_
              refine TL_take rfl rfl h58 ?_
              refine TL_q (Qt_move (.int .i64 _) rfl) rfl ?_
              refine TL_take rfl rfl h58 ?_
              refine TL_q (Qt_neq rfl rfl) rfl ?_
              refine TL_q (Qt_pick_f (.bool _) rfl h58 rfl) rfl ?_
              refine TL_q (Qt_assign (.bool _) rfl) rfl ?_
              refine TL_nil ?_
              refine X_then ?_
              refine T_cond rfl (fun h54 => ?_) (fun h54 => ?_)
              ·
                have p54 := h54
                try simp only [decide_eq_true_eq, decide_eq_false_iff_not, Bool.not_eq_true', Bool.not_eq_false', Option.isNone_iff_eq_none, ne_eq, Decidable.not_not, Int.not_lt, Int.not_le] at p54
                refine T_seq ?_
                refine T_region ?_
                refine TL_q (Qt_build [] rfl (by kernel_rfl)) rfl ?_
                refine TL_n (Ef_storeN rfl rfl (?_))
                refine TL_q (Qt_assign (.int .i64 _) rfl) rfl ?_
                refine TL_nil ?_
                refine X_then ?_
                refine T_ret ?_
                refine X_block_ret ?_
                refine X_then_ret ?_
                refine X_block_ret ?_
                refine X_then_ret ?_
                refine X_loop_ret ?_
                refine X_block_ret ?_
                refine X_then_ret ?_
                have e : (chooseE (ls.map BS.l) rs num mk first reg (ps.map BS.l)).1 = 10 := by
                  rw [hce, hi, hst, if_pos (by first | (left; assumption) | (right; assumption) | (simp_all; done) | (simp_all; omega))]
                have e0 : (10 : Int) ≠ 0 := by first | decide | assumption | omega
                exact X_ret ((ChoiceV.zero, []), []) [_, _] Try.results7 ⟨⟨_, rfl, res_cellN rfl⟩, rfl, trivial⟩ (by rw [e]; rfl) (fun w hw => St.addPure ((Subs.st inferInstance w hw : St w0 H w).datNil) ⟨fun h => absurd (e.symm.trans h) e0, fun _ => rfl⟩)
              ·
                have p54 := h54
                try simp only [decide_eq_true_eq, decide_eq_false_iff_not, Bool.not_eq_true', Bool.not_eq_false', Option.isNone_iff_eq_none, ne_eq, Decidable.not_not, Int.not_lt, Int.not_le] at p54
                rw [if_neg (by rintro (h | h) <;> simp_all)] at hst
                refine T_seq ?_
                refine T_region ?_
                refine TL_q (Qt_move (.int .u16 _) rfl) rfl ?_
                refine TL_q (Qt_fieldAddr 1 rfl rfl) rfl ?_
                refine TL_q (Qt_load1 rfl) rfl ?_
                refine TL_q (Qt_shrN f rfl (show Value.int .i64 x46.1.frm = Value.int .i64 (f : Int) from by rw [hfe]) (by show f ≤ 16; omega)) rfl ?_
                refine TL_q (Qt_andN (b := 1) rfl rfl rfl (by have := Nat.div_le_self met (2 ^ f); show _ < 2 ^ 16; omega) (by decide)) rfl ?_
                rw [Nat.and_one_is_mod]
                refine TL_q (Qt_neq rfl rfl) rfl ?_
                refine TL_q (Qt_assign (.bool _) rfl) rfl ?_
                refine TL_nil ?_
                refine X_then ?_
                refine T_cond rfl (fun h65 => ?_) (fun h65 => ?_)
                ·
                  have p65 := h65
                  try simp only [decide_eq_true_eq, decide_eq_false_iff_not, Bool.not_eq_true', Bool.not_eq_false', Option.isNone_iff_eq_none, ne_eq, Decidable.not_not, Int.not_lt, Int.not_le] at p65
                  rw [if_pos (by omega)] at hst
                  refine T_seq ?_
                  refine T_region ?_
                  refine TL_q (Qt_build [] rfl (by kernel_rfl)) rfl ?_
                  refine TL_n (Ef_storeN rfl rfl (?_))
                  refine TL_q (Qt_assign (.int .i64 _) rfl) rfl ?_
                  refine TL_nil ?_
                  refine X_then ?_
                  refine T_ret ?_
                  refine X_block_ret ?_
                  refine X_then_ret ?_
                  refine X_block_ret ?_
                  refine X_then_ret ?_
                  refine X_loop_ret ?_
                  refine X_block_ret ?_
                  refine X_then_ret ?_
                  have e : (chooseE (ls.map BS.l) rs num mk first reg (ps.map BS.l)).1 = 7 := by
                    rw [hce, hi, hst]
                  have e0 : (7 : Int) ≠ 0 := by first | decide | assumption | omega
                  exact X_ret ((ChoiceV.zero, []), []) [_, _] Try.results7 ⟨⟨_, rfl, res_cellN rfl⟩, rfl, trivial⟩ (by rw [e]; rfl) (fun w hw => St.addPure ((Subs.st inferInstance w hw : St w0 H w).datNil) ⟨fun h => absurd (e.symm.trans h) e0, fun _ => rfl⟩)
                ·
                  have p65 := h65
                  try simp only [decide_eq_true_eq, decide_eq_false_iff_not, Bool.not_eq_true', Bool.not_eq_false', Option.isNone_iff_eq_none, ne_eq, Decidable.not_not, Int.not_lt, Int.not_le] at p65
                  rw [if_neg (by omega)] at hst
                  refine T_skip ?_
                  refine X_block ?_
                  refine X_then ?_
                  refine T_seq ?_
                  refine T_region ?_
                  refine TL_q (Qt_loadN rfl rfl) rfl ?_
                  refine TL_q (Qt_loadN rfl rfl) rfl ?_
                  refine TL_q (Qt_move (.int .i64 _) rfl) rfl ?_
                  refine TL_q (Qt_loadN rfl rfl) rfl ?_
                  refine TL_e rfl (Ef_call (valid_c (num := num) hmk (sa := sa) (sc := sc) (ls := ls) hkl (ra := ra) (rq := rq) (rs := rs) hrs (m := x46.1) hmsl hmps hmpn hmbl (first := first) hfi) rfl (fun x78 => ?_))
                  refine TL_pure (fun h78 => ?_)
                  have hvg := validD_good (K := (ls.map BS.l)) (rs := rs) (num := num) (mk := mk) (first := first) (m := x46.1.abs) hmsl
                  rw [← h78] at hvg
                  refine TL_q (Qt_move (.tuple _) rfl) rfl ?_
                  refine TL_q (Qt_extract rfl) rfl ?_
                  refine TL_q (Qt_extract rfl) rfl ?_
                  refine TL_e rfl (Ef_allocN (fun b19 => ?_))
                  refine TL_n (Ef_storeN rfl rfl (?_))
                  refine TL_q (Qt_assign (.int .i64 _) rfl) rfl ?_
                  refine TL_nil ?_
                  refine X_then ?_
                  refine T_seq ?_
                  refine T_seq ?_
                  refine T_region ?_
                  refine TL_q (Qt_move (.int .i64 _) rfl) rfl ?_
                  refine TL_q (Qt_neq rfl rfl) rfl ?_
                  refine TL_nil ?_
                  refine X_then ?_
                  refine T_cond rfl (fun h82 => ?_) (fun h82 => ?_)
                  ·
                    have p82 := h82
                    try simp only [decide_eq_true_eq, decide_eq_false_iff_not, Bool.not_eq_true', Bool.not_eq_false', Option.isNone_iff_eq_none, ne_eq, Decidable.not_not, Int.not_lt, Int.not_le] at p82
                    rw [if_pos p82] at hst
                    refine T_seq ?_
                    refine T_region ?_
                    refine TL_q (Qt_build [] rfl (by kernel_rfl)) rfl ?_
                    refine TL_q (Qt_move (.int .i64 _) rfl) rfl ?_
                    refine TL_n (Ef_storeN rfl rfl (?_))
                    refine TL_q (Qt_assign (.int .i64 _) rfl) rfl ?_
                    refine TL_nil ?_
                    refine X_then ?_
                    refine T_ret ?_
                    refine X_then_ret ?_
                    refine X_block_ret ?_
                    refine X_then_ret ?_
                    refine X_loop_ret ?_
                    refine X_block_ret ?_
                    refine X_then_ret ?_
                    have e : (chooseE (ls.map BS.l) rs num mk first reg (ps.map BS.l)).1 = (validD (ls.map BS.l) rs num mk first x46.1.abs).1 := by
                      rw [hce, hi, hst]
                    have e0 : ((validD (ls.map BS.l) rs num mk first x46.1.abs).1 : Int) ≠ 0 := by first | decide | assumption | omega
                    exact X_ret ((ChoiceV.zero, []), []) [_, _] Try.results7 ⟨⟨_, rfl, res_cellN rfl⟩, rfl, trivial⟩ (by rw [e]; rfl) (fun w hw => St.addPure ((Subs.st inferInstance w hw : St w0 H w).datNil) ⟨fun h => absurd (e.symm.trans h) e0, fun _ => rfl⟩)
                  ·
                    have p82 := h82
                    try simp only [decide_eq_true_eq, decide_eq_false_iff_not, Bool.not_eq_true', Bool.not_eq_false', Option.isNone_iff_eq_none, ne_eq, Decidable.not_not, Int.not_lt, Int.not_le] at p82
                    rw [if_neg (by omega)] at hst
                    refine T_skip ?_
                    refine X_then ?_
                    refine T_seq ?_
                    refine T_region ?_
                    refine TL_q (Qt_move (.int .u16 _) rfl) rfl ?_
                    refine TL_q (Qt_fieldAddr 1 rfl rfl) rfl ?_
                    refine TL_q (Qt_load1 rfl) rfl ?_
                    refine TL_q (Qt_shlN (k := .u16) (a := 1) (m := f) rfl (show Value.int .i64 x46.1.frm = Value.int .i64 (f : Int) from by rw [hfe]) (by show f ≤ 16; omega) (by show 1 * 2 ^ f < 2 ^ 16; omega) rfl) rfl ?_
                    rw [Nat.one_mul]
                    refine TL_q (Qt_orN rfl rfl rfl (by show _ < 2 ^ 16; omega) (by show _ < 2 ^ 16; omega)) rfl ?_
                    refine TL_q (Qt_assign (.int .u16 _) rfl) rfl ?_
                    refine TL_nil ?_
                    refine X_then ?_
                    refine T_region ?_
                    refine TL_q (Qt_move (.slice _ _ _) rfl) rfl ?_
                    refine TL_q (Qt_fieldAddr 1 rfl rfl) rfl ?_
                    refine TL_q (Qt_load1 rfl) rfl ?_
                    refine TL_q (Qt_loadN rfl rfl) rfl ?_
                    refine TL_q (Qt_build [(0, (.int .i64 _)), (1, (.agg _))] rfl (by kernel_rfl)) rfl ?_
                    refine TL_e rfl (Ef_sliceN (m := ([(⟨x46.1.frm, x78⟩ : ToldV)] : List ToldV).length) [.agg ((⟨x46.1.frm, x78⟩ : ToldV)).cells] (([(⟨x46.1.frm, x78⟩ : ToldV)] : List ToldV).flatMap ToldV.list) rfl rfl rfl rfl (by simp [Value.cells, ToldV.size]) rfl rfl (fun a95 c95 => ?_))
                    refine TL_e rfl (Ef_appendS ToldV.list (sv := .slice _ _ _) (xv := .slice _ _ _) (xs := ts) (ys := [(⟨x46.1.frm, x78⟩ : ToldV)]) ToldV.list_len ToldV.list_one rfl rfl (by simp; omega) rfl rfl (fun a96 c96 => ?_))
                    refine TL_q (Qt_assign (.slice _ _ _) rfl) rfl ?_
                    refine TL_nil ?_
                    refine X_block ?_
                    refine X_then ?_
                    refine T_region ?_
                    first
                      | refine TL_q (Qt_add rfl rfl (by omega) (by omega)) rfl ?_
                      | refine TL_q (Qt_addw rfl rfl) rfl ?_
                    refine TL_q (Qt_move (.int .i64 _) rfl) rfl ?_
                    refine TL_nil ?_
                    apply X_loop
                    case ha => exact (by repeat (first | with_reducible exact agree_refl | refine agree_upd rfl ?_ | refine agree_mix rfl ?_ | refine agree_setAll rfl ?_))
                    case hI => exact ⟨k + 1, (met ||| 2 ^ f), a96, c96, ts ++ [(⟨x46.1.frm, x78⟩ : ToldV)], (fp ++ (rowFp (.slice x78.batch.a x78.batch.l.length x78.batch.c))), rfl, rfl, by omega, by rw [hi, hst, List.map_append, ← h78]; rfl, Nat.or_lt_two_pow (n := 16) hmet h2f, by simp [hll], fun t ht => by rcases List.mem_append.1 ht with h | h; exact hg t h; rw [List.mem_singleton.1 h]; exact ⟨hvg.1, hvg.2, hfra⟩⟩
                    case hm => exact by show ps.length - (k + 1 : Int).toNat < ps.length - (k : Int).toNat; omega
                    case hH => exact (fun w hw => by
                      have h1 : St w0 (row (.slice x78.batch.a x78.batch.l.length x78.batch.c) 5 1 (bytesV x78.batch.l) :: dat fp ⟨(ts).map (fun t => t.b.batch), [], []⟩ :: row (.slice a96 (ts ++ [(⟨x46.1.frm, x78⟩ : ToldV)]).length c96) 61 37 ((ts ++ [(⟨x46.1.frm, x78⟩ : ToldV)]).flatMap ToldV.list) :: blk b5 (.cells (KeysV.mk ⟨sa, sc, ls⟩ ⟨ra, rs.length, rq⟩).cells 32 (0, 0)) :: blk b6 (.cells (ViewV.mk num (mk : Int)).cells 24 (0, 0)) :: blk b10 (.cells ChoiceV.zero.cells 38 (0, 0)) :: H) w := Subs.st inferInstance w hw
                      have h3 : St w0 (dat fp ⟨(ts).map (fun t => t.b.batch), [], []⟩ :: dat (rowFp (.slice x78.batch.a x78.batch.l.length x78.batch.c)) ⟨[x78.batch], [], []⟩ :: row (.slice a96 (ts ++ [(⟨x46.1.frm, x78⟩ : ToldV)]).length c96) 61 37 ((ts ++ [(⟨x46.1.frm, x78⟩ : ToldV)]).flatMap ToldV.list) :: blk b5 (.cells (KeysV.mk ⟨sa, sc, ls⟩ ⟨ra, rs.length, rq⟩).cells 32 (0, 0)) :: blk b6 (.cells (ViewV.mk num (mk : Int)).cells 24 (0, 0)) :: blk b10 (.cells ChoiceV.zero.cells 38 (0, 0)) :: H) w := Subs.st inferInstance w h1.datB
                      have h4 : St w0 (dat (fp ++ (rowFp (.slice x78.batch.a x78.batch.l.length x78.batch.c))) ⟨(ts ++ [(⟨x46.1.frm, x78⟩ : ToldV)]).map (fun t => t.b.batch), [], []⟩ :: row (.slice a96 (ts ++ [(⟨x46.1.frm, x78⟩ : ToldV)]).length c96) 61 37 ((ts ++ [(⟨x46.1.frm, x78⟩ : ToldV)]).flatMap ToldV.list) :: blk b5 (.cells (KeysV.mk ⟨sa, sc, ls⟩ ⟨ra, rs.length, rq⟩).cells 32 (0, 0)) :: blk b6 (.cells (ViewV.mk num (mk : Int)).cells 24 (0, 0)) :: blk b10 (.cells ChoiceV.zero.cells 38 (0, 0)) :: H) w := by
                        rw [List.map_append]; exact h3.datAdd
                      exact Subs.st inferInstance w h4)
        ·
          have p39 := h39
          try simp only [decide_eq_true_eq, decide_eq_false_iff_not, Bool.not_eq_true', Bool.not_eq_false', Option.isNone_iff_eq_none, ne_eq, Decidable.not_not, Int.not_lt, Int.not_le] at p39
          have hkn : k = ps.length := by omega
          rw [hkn, List.drop_of_length_le (by simp)] at hi
          have hi2 : chGo (ls.map BS.l) rs num mk first reg (ps.map BS.l) 0 [] = (0, ts.map absT) := hi
          refine T_exit ?_
          refine X_then_exit ?_
          refine X_loop_exit ?_
          refine X_block_exit ?_
          refine X_then ?_
          refine T_seq ?_
          refine T_region ?_
          refine TL_q (Qt_move (.slice _ _ _) rfl) rfl ?_
          refine TL_frontA (row (.slice aa (ts).length cc) 61 37 ((ts).flatMap ToldV.list)) ?_
          refine TL_e rfl (Ef_call (follows_c (ls := ts) (by omega) (by omega) hg) rfl (fun x99 => ?_))
          refine TL_n (Ef_storeN rfl rfl (?_))
          refine TL_q (Qt_assign (.int .i64 _) rfl) rfl ?_
          refine TL_nil ?_
          refine X_then ?_
          refine T_ret ?_
          have e : (chooseE (ls.map BS.l) rs num mk first reg (ps.map BS.l)) = (0, ts.map absT) := hce.trans hi2
          exact X_ret ((choiceT ts, ts), fp) [_, _] Try.results7 ⟨⟨_, rfl, res_cellN rfl⟩, rfl, trivial⟩ (by rw [e]; rfl) (fun w hw => (Subs.st inferInstance w hw : St w0 (dat fp ⟨(ts).map (fun t => t.b.batch), [], []⟩ :: H) w).addPure ⟨fun _ => ⟨by rw [e], rfl⟩, fun h => absurd (by rw [e]) h⟩)
end
end Go.Proofs.Ytnijomppbgdmnaa
