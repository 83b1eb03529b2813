/- Walks of the reference of law 24: replies of bytes, Ask, Take. -/
import Derived.Test.YtpdpapcmfnhgpaaJfR
import Derived.Test.YtpdpapcmfnhgpaaRrR
import Derived.Test.YtpdpapcmfnhgpaaMbR
namespace Go.Proofs.Ytpdpapcmfnhgpaa
section
open Go.RowKit Go.Sx
set_option maxRecDepth 100000
set_option linter.unusedSimpArgs false
set_option linter.unusedVariables false
theorem getD_at {l : List UInt8} {i : Nat} (h : i < l.length) : l.getD i 0 = l[i] := by rw [List.getD_eq_getElem?_getD, List.getElem?_eq_getElem h]; rfl
theorem neg_half {x : Nat} (h : x < 18446744073709551616) : IntKind.i64.wrap (0 - ((x / 2 : Nat) : Int)) = -((x / 2 : Nat) : Int) := by
 simp [IntKind.wrap, IntKind.bits, IntKind.signed]; omega
def chkR (K : List (List UInt8)) (id : Int) (n : Nat) (waits : Bool) (says : List SaidV) (l : List UInt8) : Int :=
 if (openK K l).1 ≠ 0 then (openK K l).1 else if (openK K l).2.kind ≠ 7 then 15 else if (replyG (openK K l).2.body).1 ≠ 0 then (replyG (openK K l).2.body).1
 else if (repC K l).client ≠ id then 6 else if waits = false ∨ (repC K l).seq ≠ (n : Int) then 13 else if (repC K l).slot ≠ (openK K l).2.slot then 8
 else if ∃ s ∈ says, s.frm = (openK K l).2.frm then 7 else 0
def cntS (says : List SaidV) (r : ReplyV) : Nat := (says.filter fun s => decide (s.r = r)).length
theorem cnt_take {says : List SaidV} {k : Nat} (hk : k < says.length) (r : ReplyV) : cntS (says.take (k + 1)) r = cntS (says.take k) r + (if says[k].r = r then 1 else 0) := by
 unfold cntS
 rw [List.take_add_one, List.getElem?_eq_getElem hk, List.filter_append, List.length_append]
 by_cases h : says[k].r = r <;> simp [h]
theorem cnt_le (l : List SaidV) (r : ReplyV) (k : Nat) : cntS (l.take k) r ≤ k := by
 have h := List.length_filter_le (fun s : SaidV => decide (s.r = r)) (l.take k)
 rw [List.length_take] at h
 unfold cntS; omega
theorem said_get (l : List SaidV) (i j : Nat) (hi : i < l.length) {v : Value} (hj : j < 6) (hv : (l[i].list)[j]? = some v) : (l.flatMap SaidV.list)[i * 6 + j]? = some v := by
 rw [flat_get SaidV.list 6 SaidV.list_len l i j hi hj]; exact hv
theorem said_r (l : List SaidV) (i : Nat) (hi : i < l.length) : ((l.flatMap SaidV.list).drop (i * 6 + 1)).take 5 = l[i].r.list := by
 have h := flat_slice SaidV.list 6 SaidV.list_len l i hi
 have h2 := congrArg (List.drop 1) h
 rw [List.drop_take, List.drop_drop] at h2
 exact h2.trans rfl
structure RTk where
 e : Int
 r : ReplyV
 says : List SaidV
 ya : Option Addr
 yc : Nat
 got : List ReplyV
 ga : Option Addr
 gc : Nat
 waits : Bool
def RTakeR (K : List (List UInt8)) (id need : Int) (n : Nat) (waits : Bool) (says : List SaidV) (got : List ReplyV) (l : List UInt8) (y : RTk) : Prop :=
 (chkR K id n waits says l ≠ 0 → y.says = says ∧ y.waits = waits) ∧
 (chkR K id n waits says l = 0 → y.says = says ++ [⟨(openK K l).2.frm, repC K l⟩] ∧ (((1 + cntS says (repC K l) : Nat) : Int) < need → y.waits = waits)) ∧
 y.says.length ≤ says.length + 1 ∧ y.got.length ≤ got.length + 1
theorem RTakeR.bad {K : List (List UInt8)} {id need : Int} {n : Nat} {waits : Bool} {says : List SaidV} {got : List ReplyV} {l : List UInt8} {e : Int} {ya ga : Option Addr} {yc gc : Nat} (h : chkR K id n waits says l = e) (he : e ≠ 0) : RTakeR K id need n waits says got l ⟨e, .zero, says, ya, yc, got, ga, gc, waits⟩ :=
 ⟨fun _ => ⟨rfl, rfl⟩, fun h0 => absurd (h.symm.trans h0) he, Nat.le_succ _, Nat.le_succ _⟩
attribute [local irreducible] replyG openK
set_option maxHeartbeats 1000000 in
theorem rUnfold_c {w0 : World} {H : List SA} {x : Nat} (hx : x < 18446744073709551616) :
 CT Try.prog w0 (H) 115 [.int .u64 (x : Int)] (α := Unit) (fun _ => .int .i64 (unfoldN x)) (fun _ => H) := by
 refine CT_intro Try.func115 rfl Try.ntmps115 rfl ?_
 refine T_seq ?_
 refine T_region ?_
 refine TL_q (Qt_assign (.int .i64 _) rfl) rfl ?_
 refine TL_nil ?_
 refine X_then ?_
 refine T_seq ?_
 refine T_seq ?_
 refine T_region ?_
 refine TL_q (Qt_move (.int .u64 _) rfl) rfl ?_
 refine TL_q (Qt_val (Qt_rem rfl rfl (by decide)) (congrArg (Value.int .u64) (rem_nat x 2))) rfl ?_
 refine TL_q (Qt_eql rfl rfl) rfl ?_
 refine TL_nil ?_
 refine X_then ?_
 refine T_cond rfl (fun h5 => ?_) (fun h5 => ?_)
 ·
  have p5 := h5
  try simp only [decide_eq_true_eq, decide_eq_false_iff_not, Bool.not_eq_true', Bool.not_eq_false', Option.isNone_iff_eq_none, ne_eq, Decidable.not_not, Int.not_lt, Int.not_le] at p5
  refine T_seq ?_
  refine T_region ?_
  refine TL_q (Qt_move (.int .u64 _) rfl) rfl ?_
  refine TL_q (Qt_val (Qt_quo rfl rfl (by decide)) (congrArg (Value.int .u64) (quo_nat x 2 (by decide) hx))) rfl ?_
  refine TL_q (Qt_conv_i64 rfl rfl Try.underlying2 (by omega) (by omega)) rfl ?_
  refine TL_q (Qt_val (Qt_neg rfl) (congrArg (Value.int .i64) (neg_half hx))) rfl ?_
  first
   | refine TL_q (Qt_sub rfl rfl (by omega) (by omega)) rfl ?_
   | refine TL_q (Qt_subw rfl rfl) rfl ?_
  refine TL_q (Qt_assign (.int .i64 _) rfl) rfl ?_
  refine TL_nil ?_
  refine X_then ?_
  refine T_ret ?_
  refine X_then_ret ?_
  exact X_ret () [_] Try.results115 ⟨rfl, trivial⟩ (by rw [show unfoldN x = -((x / 2 : Nat) : Int) - 1 from if_pos (by omega)]; rfl) (Subs.st inferInstance)
 ·
  have p5 := h5
  try simp only [decide_eq_true_eq, decide_eq_false_iff_not, Bool.not_eq_true', Bool.not_eq_false', Option.isNone_iff_eq_none, ne_eq, Decidable.not_not, Int.not_lt, Int.not_le] at p5
  refine T_skip ?_
  refine X_then ?_
  refine T_seq ?_
  refine T_region ?_
  refine TL_q (Qt_move (.int .u64 _) rfl) rfl ?_
  refine TL_q (Qt_val (Qt_quo rfl rfl (by decide)) (congrArg (Value.int .u64) (quo_nat x 2 (by decide) hx))) rfl ?_
  refine TL_q (Qt_conv_i64 rfl rfl Try.underlying2 (by omega) (by omega)) rfl ?_
  refine TL_q (Qt_assign (.int .i64 _) rfl) rfl ?_
  refine TL_nil ?_
  refine X_then ?_
  refine T_ret ?_
  exact X_ret () [_] Try.results115 ⟨rfl, trivial⟩ (by rw [show unfoldN x = ((x / 2 : Nat) : Int) from if_neg (by omega)]; rfl) (Subs.st inferInstance)
set_option maxHeartbeats 1000000 in
theorem rGetReply_c {w0 : World} {H : List SA} {a : Option Addr} {l : List UInt8} {c : Nat} [hr : RdB w0 H (.slice a l.length c) l] (hl : l.length ≤ 4294967296) :
 CT Try.prog w0 (H) 70 [.slice a l.length c] (α := Unit) (fun _ => .tuple #[.agg (replyG l).2.cells, .int .i64 (replyG l).1]) (fun _ => H) := by
 refine CT_intro Try.func70 rfl Try.ntmps70 rfl ?_
 refine T_seq ?_
 refine T_region ?_
 refine TL_e rfl (Ef_allocN (fun b2 => ?_))
 refine TL_q (Qt_assign (.int .i64 _) rfl) rfl ?_
 refine TL_nil ?_
 refine X_then ?_
 refine T_seq ?_
 refine T_seq ?_
 refine T_region ?_
 refine TL_q (Qt_move (.slice _ _ _) rfl) rfl ?_
 refine TL_q (Qt_len_slice rfl Try.underlying37) rfl ?_
 refine TL_q (Qt_lss rfl rfl) rfl ?_
 refine TL_nil ?_
 refine X_then ?_
 refine T_cond rfl (fun h7 => ?_) (fun h7 => ?_)
 ·
  have p7 := h7
  try simp only [decide_eq_true_eq, decide_eq_false_iff_not, Bool.not_eq_true', Bool.not_eq_false', Option.isNone_iff_eq_none, ne_eq, Decidable.not_not, Int.not_lt, Int.not_le] at p7
  refine T_seq ?_
  refine T_region ?_
  refine TL_q (Qt_build [] rfl (by kernel_rfl)) rfl ?_
  refine TL_n (Ef_storeN rfl rfl (?_))
  refine TL_q (Qt_assign (.int .i64 _) rfl) rfl ?_
  refine TL_nil ?_
  refine X_then ?_
  refine T_ret ?_
  refine X_then_ret ?_
  have e : replyG l = (1, .zero) := by unfold replyG; exact if_pos (by omega)
  rw [e]
  exact X_ret () [_, _] Try.results70 ⟨⟨_, rfl, res_cellN rfl⟩, rfl, trivial⟩ rfl (Subs.st inferInstance)
 ·
  have p7 := h7
  try simp only [decide_eq_true_eq, decide_eq_false_iff_not, Bool.not_eq_true', Bool.not_eq_false', Option.isNone_iff_eq_none, ne_eq, Decidable.not_not, Int.not_lt, Int.not_le] at p7
  have h4 : 4 ≤ l.length := by omega
  have q0 : 0 < l.length := by omega
  have q1 : 1 < l.length := by omega
  have q2 : 2 < l.length := by omega
  have q3 : 3 < l.length := by omega
  have hb0 := (l[0]'q0).toNat_lt
  have hb1 := (l[1]'q1).toNat_lt
  have hb2 := (l[2]'q2).toNat_lt
  have hb3 := (l[3]'q3).toNat_lt
  refine T_skip ?_
  refine X_then ?_
  refine T_seq ?_
  refine T_region ?_
  refine TL_q (Qt_move (.slice _ _ _) rfl) rfl ?_
  refine TL_e rfl (Ef_call (rReadPacked_c (k := 4) (by omega) hl) rfl (fun x10 => ?_))
  obtain ⟨P, hP⟩ : ∃ P, P = rdPacked (l.drop 4) := ⟨_, rfl⟩
  have hP2 := (rdPacked_bound (l.drop 4)).2.1
  have hP3 := (rdPacked_bound (l.drop 4)).2.2
  rw [List.length_drop] at hP2
  rw [← hP] at hP2 hP3 ⊢
  refine TL_e rfl (Ef_allocN (fun b4 => ?_))
  refine TL_n (Ef_storeN rfl rfl (?_))
  refine TL_nil ?_
  refine X_then ?_
  refine T_seq ?_
  refine T_seq ?_
  refine T_region ?_
  refine TL_q (Qt_fieldAddr 3 rfl rfl) rfl ?_
  refine TL_q (Qt_load1 rfl) rfl ?_
  refine TL_q (Qt_neq rfl rfl) rfl ?_
  refine TL_nil ?_
  refine X_then ?_
  refine T_cond rfl (fun h13 => ?_) (fun h13 => ?_)
  ·
   have p13 := h13
   try simp only [decide_eq_true_eq, decide_eq_false_iff_not, Bool.not_eq_true', Bool.not_eq_false', Option.isNone_iff_eq_none, ne_eq, Decidable.not_not, Int.not_lt, Int.not_le] at p13
   refine T_seq ?_
   refine T_draw (blk b4 (.cells (GotV.mk (P.2.1 : Int) ⟨none, 0, []⟩ (P.2.2 : Int) P.1).cells 199 (0, 0)) :: H) [(0, true), (1, true), (2, true), (3, false), (4, true)] (by kernel_rfl) (by kernel_rfl) rfl (by kernel_rfl) (Subs.st inferInstance) (fun hns0 => ?_)
   refine DL_q hns0 rfl (Qt_build [] rfl (by kernel_rfl)) rfl ?_
   refine DL_q hns0 rfl (Qt_fieldAddr 3 rfl rfl) rfl ?_
   refine DL_q hns0 rfl (Qt_load1 rfl) rfl ?_
   refine DL_n rfl (Ef_storeN rfl rfl (⟨(Subs.st inferInstance), ?_⟩))
   refine DL_q hns0 rfl (Qt_assign (.int .i64 _) rfl) rfl ?_
   refine DL_nil ?_
   refine X_then ?_
   refine T_ret ?_
   refine X_then_ret ?_
   have e : replyG l = (P.1, .zero) := by unfold replyG; rw [if_neg (by omega), ← hP, if_pos p13]
   rw [e]
   exact X_ret () [_, _] Try.results70 ⟨⟨_, rfl, res_cellN rfl⟩, rfl, trivial⟩ rfl (Subs.st inferInstance)
  ·
   have p13 := h13
   try simp only [decide_eq_true_eq, decide_eq_false_iff_not, Bool.not_eq_true', Bool.not_eq_false', Option.isNone_iff_eq_none, ne_eq, Decidable.not_not, Int.not_lt, Int.not_le] at p13
   refine T_skip ?_
   refine X_then ?_
   refine T_seq ?_
   refine T_seq ?_
   refine T_region ?_
   refine TL_q (Qt_move (.slice _ _ _) rfl) rfl ?_
   refine TL_q (Qt_indexR rfl rfl (by omega) (by simp; omega)) rfl ?_
   refine TL_q (Qt_loadR (.int .u8 ((l[3]'q3).toNat : Int)) rfl (bytes_get _ _ q3)) rfl ?_
   refine TL_q (Qt_gtr rfl rfl) rfl ?_
   refine TL_q (Qt_move (.bool _) rfl) rfl ?_
   refine TL_split 21 rfl (fun h21 => ?_) (fun h21 => ?_)
   ·
    have p21 := h21
    try simp only [decide_eq_true_eq, decide_eq_false_iff_not, Bool.not_eq_true', Bool.not_eq_false', Option.isNone_iff_eq_none, ne_eq, Decidable.not_not, Int.not_lt, Int.not_le] at p21
    refine TL_pass rfl rfl h21 rfl ?_
    refine TL_pass rfl rfl h21 rfl ?_
    refine TL_pass rfl rfl h21 rfl ?_
    refine TL_pass rfl rfl h21 rfl ?_
    refine TL_pass rfl rfl h21 rfl ?_
    refine TL_pass rfl rfl h21 rfl ?_
    refine TL_q (Qt_pick_t (.bool _) rfl h21 rfl) rfl ?_
    refine TL_nil ?_
    refine X_then ?_
    refine T_cond_true rfl rfl ?_
    refine T_seq ?_
    refine T_region ?_
    refine TL_q (Qt_build [] rfl (by kernel_rfl)) rfl ?_
    refine TL_n (Ef_storeN rfl rfl (?_))
    refine TL_q (Qt_assign (.int .i64 _) rfl) rfl ?_
    refine TL_nil ?_
    refine X_then ?_
    refine T_ret ?_
    refine X_then_ret ?_
    have e : replyG l = (2, .zero) := by unfold replyG; rw [if_neg (by omega), ← hP, if_neg (by omega), getD_at q3, if_pos (by omega)]
    rw [e]
    exact X_ret () [_, _] Try.results70 ⟨⟨_, rfl, res_cellN rfl⟩, rfl, trivial⟩ rfl (Subs.st inferInstance)
   ·
    have p21 := h21
    try simp only [decide_eq_true_eq, decide_eq_false_iff_not, Bool.not_eq_true', Bool.not_eq_false', Option.isNone_iff_eq_none, ne_eq, Decidable.not_not, Int.not_lt, Int.not_le] at p21
    refine TL_take rfl rfl h21 ?_
    refine TL_q (Qt_fieldAddr 2 rfl rfl) rfl ?_
    refine TL_take rfl rfl h21 ?_
    refine TL_q (Qt_load1 rfl) rfl ?_
    refine TL_take rfl rfl h21 ?_
    first
     | refine TL_q (Qt_add rfl rfl (by omega) (by omega)) rfl ?_
     | refine TL_q (Qt_addw rfl rfl) rfl ?_
    refine TL_take rfl rfl h21 ?_
    refine TL_q (Qt_move (.slice _ _ _) rfl) rfl ?_
    refine TL_take rfl rfl h21 ?_
    refine TL_q (Qt_len_slice rfl Try.underlying37) rfl ?_
    refine TL_take rfl rfl h21 ?_
    refine TL_q (Qt_lss rfl rfl) rfl ?_
    refine TL_q (Qt_pick_f (.bool _) rfl h21 rfl) rfl ?_
    refine TL_nil ?_
    refine X_then ?_
    refine T_cond rfl (fun h28 => ?_) (fun h28 => ?_)
    ·
     have p28 := h28
     try simp only [decide_eq_true_eq, decide_eq_false_iff_not, Bool.not_eq_true', Bool.not_eq_false', Option.isNone_iff_eq_none, ne_eq, Decidable.not_not, Int.not_lt, Int.not_le] at p28
     refine T_seq ?_
     refine T_region ?_
     refine TL_q (Qt_build [] rfl (by kernel_rfl)) rfl ?_
     refine TL_n (Ef_storeN rfl rfl (?_))
     refine TL_q (Qt_assign (.int .i64 _) rfl) rfl ?_
     refine TL_nil ?_
     refine X_then ?_
     refine T_ret ?_
     refine X_then_ret ?_
     have e : replyG l = (2, .zero) := by unfold replyG; rw [if_neg (by omega), ← hP, if_neg (by omega), getD_at q3, if_pos (by omega)]
     rw [e]
     exact X_ret () [_, _] Try.results70 ⟨⟨_, rfl, res_cellN rfl⟩, rfl, trivial⟩ rfl (Subs.st inferInstance)
    ·
     have p28 := h28
     try simp only [decide_eq_true_eq, decide_eq_false_iff_not, Bool.not_eq_true', Bool.not_eq_false', Option.isNone_iff_eq_none, ne_eq, Decidable.not_not, Int.not_lt, Int.not_le] at p28
     refine T_skip ?_
     refine X_then ?_
     refine T_seq ?_
     refine T_draw (blk b4 (.cells (GotV.mk (P.2.1 : Int) ⟨none, 0, []⟩ (P.2.2 : Int) P.1).cells 199 (0, 0)) :: H) [(0, true), (1, true), (2, true), (3, true), (4, true), (5, true), (6, true), (7, true), (8, true), (9, true), (10, true), (11, true), (12, true), (13, true), (14, true), (15, true), (16, true), (17, true), (18, false), (19, true), (20, true), (21, false), (22, true)] (by kernel_rfl) (by kernel_rfl) rfl (by kernel_rfl) (Subs.st inferInstance) (fun hns1 => ?_)
     refine DL_q hns1 rfl (Qt_move (.slice _ _ _) rfl) rfl ?_
     refine DL_q hns1 rfl (Qt_indexR rfl rfl (by omega) (by simp; omega)) rfl ?_
     refine DL_q hns1 rfl (Qt_loadR (.int .u8 ((l[0]'q0).toNat : Int)) rfl (bytes_get _ _ q0)) rfl ?_
     refine DL_q hns1 rfl (Qt_conv_i64 rfl rfl Try.underlying3 (by omega) (by omega)) rfl ?_
     refine DL_q hns1 rfl (Qt_move (.slice _ _ _) rfl) rfl ?_
     refine DL_q hns1 rfl (Qt_indexR rfl rfl (by omega) (by simp; omega)) rfl ?_
     refine DL_q hns1 rfl (Qt_loadR (.int .u8 ((l[1]'q1).toNat : Int)) rfl (bytes_get _ _ q1)) rfl ?_
     refine DL_q hns1 rfl (Qt_conv_i64 rfl rfl Try.underlying3 (by omega) (by omega)) rfl ?_
     refine DL_q hns1 rfl (Qt_move (.slice _ _ _) rfl) rfl ?_
     refine DL_q hns1 rfl (Qt_indexR rfl rfl (by omega) (by simp; omega)) rfl ?_
     refine DL_q hns1 rfl (Qt_loadR (.int .u8 ((l[2]'q2).toNat : Int)) rfl (bytes_get _ _ q2)) rfl ?_
     refine DL_q hns1 rfl (Qt_conv_i64 rfl rfl Try.underlying3 (by omega) (by omega)) rfl ?_
     refine DL_q hns1 rfl (Qt_move (.slice _ _ _) rfl) rfl ?_
     refine DL_q hns1 rfl (Qt_indexR rfl rfl (by omega) (by simp; omega)) rfl ?_
     refine DL_q hns1 rfl (Qt_loadR (.int .u8 ((l[3]'q3).toNat : Int)) rfl (bytes_get _ _ q3)) rfl ?_
     refine DL_q hns1 rfl (Qt_eql rfl rfl) rfl ?_
     refine DL_q hns1 rfl (Qt_fieldAddr 0 rfl rfl) rfl ?_
     refine DL_q hns1 rfl (Qt_load1 rfl) rfl ?_
     refine DL_e rfl rfl (Ef_call (rUnfold_c hP3) rfl (fun x48 => ⟨(Subs.st inferInstance), ?_⟩))
     refine DL_q hns1 rfl (Qt_build [(0, (.bool _)), (1, (.int .i64 _))] rfl (by kernel_rfl)) rfl ?_
     refine DL_q hns1 rfl (Qt_build [(0, (.int .i64 _)), (1, (.int .i64 _)), (2, (.int .i64 _)), (3, (.agg _))] rfl (by kernel_rfl)) rfl ?_
     refine DL_n rfl (Ef_storeN rfl rfl (⟨(Subs.st inferInstance), ?_⟩))
     refine DL_q hns1 rfl (Qt_assign (.int .i64 _) rfl) rfl ?_
     refine DL_nil ?_
     refine X_then ?_
     refine T_ret ?_
     have e : replyG l = ((0 : Int), ReplyV.mk (l[0]'q0).toNat (l[1]'q1).toNat (l[2]'q2).toNat (ResV.mk (decide (((l[3]'q3).toNat : Int) = 1)) (unfoldN P.2.1))) := by unfold replyG; rw [if_neg (by omega), ← hP, if_neg (by omega), getD_at q0, getD_at q1, getD_at q2, getD_at q3, if_neg (by omega)]
     rw [e]
     exact X_ret () [_, _] Try.results70 ⟨⟨_, rfl, res_cellN rfl⟩, rfl, trivial⟩ rfl (Subs.st inferInstance)
set_option maxHeartbeats 1000000 in
theorem rRight1_c {w0 : World} {H : List SA}  :
 CT Try.prog w0 (H) 68 [.int .i64 1, .agg (OpV.mk 1 0 0 0).cells] (α := Unit) (fun _ => .bool true) (fun _ => H) := by
 refine CT_intro Try.func68 rfl Try.ntmps68 rfl ?_
 refine T_seq ?_
 refine T_region ?_
 refine TL_e rfl (Ef_boxN rfl (fun b3 => ?_))
 refine TL_q (Qt_assign (.bool _) rfl) rfl ?_
 refine TL_nil ?_
 refine X_then ?_
 refine T_seq ?_
 refine T_seq ?_
 refine T_region ?_
 refine TL_q (Qt_move (.int .i64 _) rfl) rfl ?_
 refine TL_q (Qt_eql rfl rfl) rfl ?_
 refine TL_nil ?_
 refine X_then ?_
 refine T_cond rfl (fun h6 => ?_) (fun h6 => ?_)
 ·
  have p6 := h6
  try simp only [decide_eq_true_eq, decide_eq_false_iff_not, Bool.not_eq_true', Bool.not_eq_false', Option.isNone_iff_eq_none, ne_eq, Decidable.not_not, Int.not_lt, Int.not_le] at p6
  exact absurd h6 (by decide)
 ·
  have p6 := h6
  try simp only [decide_eq_true_eq, decide_eq_false_iff_not, Bool.not_eq_true', Bool.not_eq_false', Option.isNone_iff_eq_none, ne_eq, Decidable.not_not, Int.not_lt, Int.not_le] at p6
  refine T_skip ?_
  refine X_then ?_
  refine T_seq ?_
  refine T_seq ?_
  refine T_region ?_
  refine TL_q (Qt_fieldAddr 0 rfl rfl) rfl ?_
  refine TL_q (Qt_load1 rfl) rfl ?_
  refine TL_q (Qt_lss rfl rfl) rfl ?_
  refine TL_q (Qt_move (.bool _) rfl) rfl ?_
  refine TL_split 33 rfl (fun h33 => ?_) (fun h33 => ?_)
  ·
   have p33 := h33
   try simp only [decide_eq_true_eq, decide_eq_false_iff_not, Bool.not_eq_true', Bool.not_eq_false', Option.isNone_iff_eq_none, ne_eq, Decidable.not_not, Int.not_lt, Int.not_le] at p33
   exact absurd h33 (by decide)
  ·
   have p33 := h33
   try simp only [decide_eq_true_eq, decide_eq_false_iff_not, Bool.not_eq_true', Bool.not_eq_false', Option.isNone_iff_eq_none, ne_eq, Decidable.not_not, Int.not_lt, Int.not_le] at p33
   refine TL_take rfl rfl h33 ?_
   refine TL_q (Qt_fieldAddr 0 rfl rfl) rfl ?_
   refine TL_take rfl rfl h33 ?_
   refine TL_q (Qt_load1 rfl) rfl ?_
   refine TL_take rfl rfl h33 ?_
   refine TL_q (Qt_gtr rfl rfl) rfl ?_
   refine TL_q (Qt_pick_f (.bool _) rfl h33 rfl) rfl ?_
   refine TL_q (Qt_move (.bool _) rfl) rfl ?_
   refine TL_split 38 rfl (fun h38 => ?_) (fun h38 => ?_)
   ·
    have p38 := h38
    try simp only [decide_eq_true_eq, decide_eq_false_iff_not, Bool.not_eq_true', Bool.not_eq_false', Option.isNone_iff_eq_none, ne_eq, Decidable.not_not, Int.not_lt, Int.not_le] at p38
    exact absurd h38 (by decide)
   ·
    have p38 := h38
    try simp only [decide_eq_true_eq, decide_eq_false_iff_not, Bool.not_eq_true', Bool.not_eq_false', Option.isNone_iff_eq_none, ne_eq, Decidable.not_not, Int.not_lt, Int.not_le] at p38
    refine TL_take rfl rfl h38 ?_
    refine TL_q (Qt_fieldAddr 1 rfl rfl) rfl ?_
    refine TL_take rfl rfl h38 ?_
    refine TL_q (Qt_load1 rfl) rfl ?_
    refine TL_take rfl rfl h38 ?_
    refine TL_q (Qt_lss rfl rfl) rfl ?_
    refine TL_q (Qt_pick_f (.bool _) rfl h38 rfl) rfl ?_
    refine TL_q (Qt_move (.bool _) rfl) rfl ?_
    refine TL_split 43 rfl (fun h43 => ?_) (fun h43 => ?_)
    ·
     have p43 := h43
     try simp only [decide_eq_true_eq, decide_eq_false_iff_not, Bool.not_eq_true', Bool.not_eq_false', Option.isNone_iff_eq_none, ne_eq, Decidable.not_not, Int.not_lt, Int.not_le] at p43
     exact absurd h43 (by decide)
    ·
     have p43 := h43
     try simp only [decide_eq_true_eq, decide_eq_false_iff_not, Bool.not_eq_true', Bool.not_eq_false', Option.isNone_iff_eq_none, ne_eq, Decidable.not_not, Int.not_lt, Int.not_le] at p43
     refine TL_take rfl rfl h43 ?_
     refine TL_q (Qt_fieldAddr 1 rfl rfl) rfl ?_
     refine TL_take rfl rfl h43 ?_
     refine TL_q (Qt_load1 rfl) rfl ?_
     refine TL_take rfl rfl h43 ?_
     refine TL_q (Qt_gtr rfl rfl) rfl ?_
     refine TL_q (Qt_pick_f (.bool _) rfl h43 rfl) rfl ?_
     refine TL_nil ?_
     refine X_then ?_
     refine T_cond rfl (fun h47 => ?_) (fun h47 => ?_)
     ·
      have p47 := h47
      try simp only [decide_eq_true_eq, decide_eq_false_iff_not, Bool.not_eq_true', Bool.not_eq_false', Option.isNone_iff_eq_none, ne_eq, Decidable.not_not, Int.not_lt, Int.not_le] at p47
      exact absurd h47 (by decide)
     ·
      have p47 := h47
      try simp only [decide_eq_true_eq, decide_eq_false_iff_not, Bool.not_eq_true', Bool.not_eq_false', Option.isNone_iff_eq_none, ne_eq, Decidable.not_not, Int.not_lt, Int.not_le] at p47
      refine T_skip ?_
      refine X_then ?_
      refine T_seq ?_
      refine T_seq ?_
      refine T_region ?_
      refine TL_q (Qt_fieldAddr 0 rfl rfl) rfl ?_
      refine TL_q (Qt_load1 rfl) rfl ?_
      refine TL_q (Qt_eql rfl rfl) rfl ?_
      refine TL_q (Qt_move (.bool _) rfl) rfl ?_
      refine TL_split 51 rfl (fun h51 => ?_) (fun h51 => ?_)
      ·
       have p51 := h51
       try simp only [decide_eq_true_eq, decide_eq_false_iff_not, Bool.not_eq_true', Bool.not_eq_false', Option.isNone_iff_eq_none, ne_eq, Decidable.not_not, Int.not_lt, Int.not_le] at p51
       refine TL_pass rfl rfl h51 rfl ?_
       refine TL_pass rfl rfl h51 rfl ?_
       refine TL_pass rfl rfl h51 rfl ?_
       refine TL_q (Qt_pick_t (.bool _) rfl h51 rfl) rfl ?_
       refine TL_q (Qt_move (.bool _) rfl) rfl ?_
       refine TL_take rfl rfl rfl ?_
       refine TL_q (Qt_fieldAddr 2 rfl rfl) rfl ?_
       refine TL_take rfl rfl rfl ?_
       refine TL_q (Qt_load1 rfl) rfl ?_
       refine TL_take rfl rfl rfl ?_
       refine TL_q (Qt_neq rfl rfl) rfl ?_
       refine TL_q (Qt_pick_t (.bool _) rfl rfl rfl) rfl ?_
       refine TL_nil ?_
       refine X_then ?_
       refine T_cond rfl (fun h60 => ?_) (fun h60 => ?_)
       ·
        have p60 := h60
        try simp only [decide_eq_true_eq, decide_eq_false_iff_not, Bool.not_eq_true', Bool.not_eq_false', Option.isNone_iff_eq_none, ne_eq, Decidable.not_not, Int.not_lt, Int.not_le] at p60
        exact absurd h60 (by decide)
       ·
        have p60 := h60
        try simp only [decide_eq_true_eq, decide_eq_false_iff_not, Bool.not_eq_true', Bool.not_eq_false', Option.isNone_iff_eq_none, ne_eq, Decidable.not_not, Int.not_lt, Int.not_le] at p60
        refine T_skip ?_
        refine X_then ?_
        refine T_seq ?_
        refine T_region ?_
        refine TL_q (Qt_fieldAddr 0 rfl rfl) rfl ?_
        refine TL_q (Qt_load1 rfl) rfl ?_
        refine TL_q (Qt_eql rfl rfl) rfl ?_
        refine TL_q (Qt_move (.bool _) rfl) rfl ?_
        refine TL_split 64 rfl (fun h64 => ?_) (fun h64 => ?_)
        ·
         have p64 := h64
         try simp only [decide_eq_true_eq, decide_eq_false_iff_not, Bool.not_eq_true', Bool.not_eq_false', Option.isNone_iff_eq_none, ne_eq, Decidable.not_not, Int.not_lt, Int.not_le] at p64
         exact absurd h64 (by decide)
        ·
         have p64 := h64
         try simp only [decide_eq_true_eq, decide_eq_false_iff_not, Bool.not_eq_true', Bool.not_eq_false', Option.isNone_iff_eq_none, ne_eq, Decidable.not_not, Int.not_lt, Int.not_le] at p64
         refine TL_take rfl rfl h64 ?_
         refine TL_q (Qt_fieldAddr 3 rfl rfl) rfl ?_
         refine TL_take rfl rfl h64 ?_
         refine TL_q (Qt_load1 rfl) rfl ?_
         refine TL_take rfl rfl h64 ?_
         refine TL_q (Qt_eql rfl rfl) rfl ?_
         refine TL_q (Qt_pick_f (.bool _) rfl h64 rfl) rfl ?_
         refine TL_q (Qt_assign (.bool _) rfl) rfl ?_
         refine TL_nil ?_
         refine X_then ?_
         refine T_ret ?_
         exact X_ret () [.bool true] Try.results68 ⟨congrArg Value.bool (by decide), trivial⟩ rfl (Subs.st inferInstance)
      ·
       have p51 := h51
       try simp only [decide_eq_true_eq, decide_eq_false_iff_not, Bool.not_eq_true', Bool.not_eq_false', Option.isNone_iff_eq_none, ne_eq, Decidable.not_not, Int.not_lt, Int.not_le] at p51
       exact absurd h51 (by decide)
set_option maxHeartbeats 1000000 in
theorem rAsk1_c {w0 : World} {H : List SA} {q : Nat} {need : Int} {sa : Option Addr} {sc : Nat} {ls : List BS} {rt : Sl} {ga : Option Addr} {gc : Nat} {got : List ReplyV} :
 CT Try.prog w0 (blk q (.cells (RClientV.mk (KeysV.mk ⟨sa, sc, ls⟩ rt) 1 need ⟨none, 0, 0⟩ ⟨none, (([] : List SaidV)).length, 0⟩ ⟨ga, (got).length, gc⟩ false).cells 83 (0, 0)) :: H) 33 [.pointer (some ⟨q, 0, none⟩), .agg (OpV.mk 1 0 0 0).cells] (α := AC) (fun _ => .tuple #[.agg (ReqV.mk 1 1 (OpV.mk 1 0 0 0) ⟨none, 0, []⟩).cells, .int .i64 0]) (fun y => blk q (.cells (RClientV.mk (KeysV.mk ⟨sa, sc, ls⟩ rt) 1 need ⟨y.a, 1, y.c⟩ ⟨none, (([] : List SaidV)).length, 0⟩ ⟨ga, (got).length, gc⟩ true).cells 83 (0, 0)) :: H) := by
 refine CT_intro Try.func33 rfl Try.ntmps33 rfl ?_
 refine T_seq ?_
 refine T_region ?_
 refine TL_e rfl (Ef_boxN rfl (fun b3 => ?_))
 refine TL_e rfl (Ef_allocN (fun b4 => ?_))
 refine TL_q (Qt_assign (.int .i64 _) rfl) rfl ?_
 refine TL_nil ?_
 refine X_then ?_
 refine T_seq ?_
 refine T_seq ?_
 refine T_draw (blk q (.cells (RClientV.mk (KeysV.mk ⟨sa, sc, ls⟩ rt) 1 need ⟨none, 0, 0⟩ ⟨none, (([] : List SaidV)).length, 0⟩ ⟨ga, (got).length, gc⟩ false).cells 83 (0, 0)) :: blk b3 (.cells (OpV.mk 1 0 0 0).cells 66 (0, 0)) :: H) [(0, true), (1, true), (2, true), (3, true), (4, true), (5, false), (6, true)] (by kernel_rfl) (by kernel_rfl) rfl (by kernel_rfl) (Subs.st inferInstance) (fun hns0 => ?_)
 refine DL_q hns0 rfl (Qt_move (.pointer _) rfl) rfl ?_
 refine DL_q hns0 rfl (Qt_nilCheck rfl) rfl ?_
 refine DL_q hns0 rfl (Qt_fieldAddr 2 rfl rfl) rfl ?_
 refine DL_q hns0 rfl (Qt_load1 rfl) rfl ?_
 refine DL_q hns0 rfl (Qt_loadN rfl rfl) rfl ?_
 refine DL_e rfl rfl (Ef_call (rRight1_c) rfl (fun x12 => ⟨(Subs.st inferInstance), ?_⟩))
 refine DL_q hns0 rfl (Qt_not rfl) rfl ?_
 refine DL_nil ?_
 refine X_then ?_
 refine T_cond_false rfl (by first | rfl | decide) ?_
 refine T_skip ?_
 refine X_then ?_
 refine T_seq ?_
 refine T_seq ?_
 refine T_region ?_
 refine TL_q (Qt_move (.pointer _) rfl) rfl ?_
 refine TL_q (Qt_nilCheck rfl) rfl ?_
 refine TL_q (Qt_fieldAddr 7 rfl rfl) rfl ?_
 refine TL_q (Qt_load1 rfl) rfl ?_
 refine TL_nil ?_
 refine X_then ?_
 refine T_cond_false rfl (by first | rfl | decide) ?_
 refine T_skip ?_
 refine X_then ?_
 refine T_seq ?_
 refine T_seq ?_
 refine T_region ?_
 refine TL_q (Qt_move (.pointer _) rfl) rfl ?_
 refine TL_q (Qt_nilCheck rfl) rfl ?_
 refine TL_q (Qt_fieldAddr 4 rfl rfl) rfl ?_
 refine TL_q (Qt_load1 rfl) rfl ?_
 refine TL_q (Qt_len_slice rfl Try.underlying75) rfl ?_
 refine TL_q (Qt_geq rfl rfl) rfl ?_
 refine TL_nil ?_
 refine X_then ?_
 refine T_cond_false rfl (by first | rfl | decide) ?_
 refine T_skip ?_
 refine X_then ?_
 refine T_seq ?_
 refine T_draw (blk q (.cells (RClientV.mk (KeysV.mk ⟨sa, sc, ls⟩ rt) 1 need ⟨none, 0, 0⟩ ⟨none, (([] : List SaidV)).length, 0⟩ ⟨ga, (got).length, gc⟩ false).cells 83 (0, 0)) :: blk b3 (.cells (OpV.mk 1 0 0 0).cells 66 (0, 0)) :: H) [(0, true), (1, true), (2, true), (3, true), (4, true), (5, true), (6, true), (7, true), (8, true), (9, true), (10, true), (11, true), (12, false), (13, false)] (by kernel_rfl) (by kernel_rfl) rfl (by kernel_rfl) (Subs.st inferInstance) (fun hns1 => ?_)
 refine DL_q hns1 rfl (Qt_move (.pointer _) rfl) rfl ?_
 refine DL_q hns1 rfl (Qt_nilCheck rfl) rfl ?_
 refine DL_q hns1 rfl (Qt_fieldAddr 2 rfl rfl) rfl ?_
 refine DL_q hns1 rfl (Qt_load1 rfl) rfl ?_
 refine DL_q hns1 rfl (Qt_move (.pointer _) rfl) rfl ?_
 refine DL_q hns1 rfl (Qt_nilCheck rfl) rfl ?_
 refine DL_q hns1 rfl (Qt_fieldAddr 4 rfl rfl) rfl ?_
 refine DL_q hns1 rfl (Qt_load1 rfl) rfl ?_
 refine DL_q hns1 rfl (Qt_len_slice rfl Try.underlying75) rfl ?_
 first
  | refine DL_q hns1 rfl (Qt_add rfl rfl (by omega) (by omega)) rfl ?_
  | refine DL_q hns1 rfl (Qt_addw rfl rfl) rfl ?_
 rw [show ((0 : Nat) : Int) + 1 = 1 from rfl]
 refine DL_q hns1 rfl (Qt_loadN rfl rfl) rfl ?_
 refine DL_q hns1 rfl (Qt_build [(0, (.int .i64 _)), (1, (.int .i64 _)), (2, (.agg _))] rfl (by kernel_rfl)) rfl ?_
 refine DL_e rfl rfl (Ef_allocN (fun b6 => ⟨(Subs.st inferInstance), ?_⟩))
 refine DL_n rfl (Ef_storeN rfl rfl (⟨(Subs.st inferInstance), ?_⟩))
 refine DL_nil ?_
 refine X_then ?_
 refine T_seq ?_
 refine T_drawF (blk b6 (.cells (ReqV.mk 1 1 (OpV.mk 1 0 0 0) ⟨none, 0, []⟩).cells 85 (0, 0)) :: H) (by kernel_rfl) (Subs.st inferInstance) ?_
 refine DLF_q (i := 0) (by kernel_rfl) rfl (by kernel_rfl) (by kernel_rfl) (Qt_move (.pointer _) rfl) rfl ?_
 refine DLF_q (i := 1) (by kernel_rfl) rfl (by kernel_rfl) (by kernel_rfl) (Qt_move (.pointer _) rfl) rfl ?_
 refine DLF_q (i := 2) (by kernel_rfl) rfl (by kernel_rfl) (by kernel_rfl) (Qt_nilCheck rfl) rfl ?_
 refine DLF_q (i := 3) (by kernel_rfl) rfl (by kernel_rfl) (by kernel_rfl) (Qt_fieldAddr 4 rfl rfl) rfl ?_
 refine DLF_q (i := 5) (by kernel_rfl) rfl (by kernel_rfl) (by kernel_rfl) (Qt_loadN rfl rfl) rfl ?_
 refine DLF_2 (i := 4) (j := 6) (by kernel_rfl) ?_ ?_
 ·
  refine DLS_e rfl rfl (Ef_of_Qt (Qt_load1 rfl) ⟨(Subs.st inferInstance), ?_⟩)
  refine DLF_1 (i := 6) (by kernel_rfl) ?_
  refine DLS_e rfl rfl (Ef_sliceN (m := ([(ReqV.mk 1 1 (OpV.mk 1 0 0 0) ⟨none, 0, []⟩)] : List ReqV).length) [.agg (ReqV.mk 1 1 (OpV.mk 1 0 0 0) ⟨none, 0, []⟩).cells] (([(ReqV.mk 1 1 (OpV.mk 1 0 0 0) ⟨none, 0, []⟩)] : List ReqV).flatMap ReqV.list) rfl rfl rfl (by rfl) (by simp [Value.cells, ReqV.size]) rfl rfl (fun a45 c45 => ⟨(Subs.st inferInstance), ?_⟩))
  refine DLF_1 (i := 7) (by kernel_rfl) ?_
  refine DLS_e rfl rfl (Ef_appendS ReqV.list (sv := .slice _ _ _) (xv := .slice _ _ _) (xs := ([] : List ReqV)) (ys := [(ReqV.mk 1 1 (OpV.mk 1 0 0 0) ⟨none, 0, []⟩)]) ReqV.list_len ReqV.list_one rfl rfl (by simp) rfl rfl (fun a46 c46 => ⟨(Subs.st inferInstance), ?_⟩))
  rw [show (([] : List ReqV) ++ [(ReqV.mk 1 1 (OpV.mk 1 0 0 0) ⟨none, 0, []⟩)]).length = 1 from rfl]
  refine DLF_q (i := 8) (by kernel_rfl) rfl (by kernel_rfl) (by kernel_rfl) (Qt_nilCheck rfl) rfl ?_
  refine DLF_q (i := 9) (by kernel_rfl) rfl (by kernel_rfl) (by kernel_rfl) (Qt_fieldAddr 4 rfl rfl) rfl ?_
  refine DLF_1 (i := 10) (by kernel_rfl) ?_
  refine DLS_n rfl (Ef_store1 (.slice _ _ _) rfl rfl (⟨(Subs.st inferInstance), ?_⟩))
  refine DLF_nil (by kernel_rfl) ?_
  refine X_then ?_
  refine T_seq ?_
  refine T_region ?_
  refine TL_q (Qt_move (.pointer _) rfl) rfl ?_
  refine TL_q (Qt_nilCheck rfl) rfl ?_
  refine TL_q (Qt_fieldAddr 7 rfl rfl) rfl ?_
  refine TL_n (Ef_store1 (.bool _) rfl rfl (?_))
  refine TL_nil ?_
  refine X_then ?_
  refine T_seq ?_
  refine T_region ?_
  refine TL_q (Qt_move (.pointer _) rfl) rfl ?_
  refine TL_q (Qt_nilCheck rfl) rfl ?_
  refine TL_q (Qt_fieldAddr 5 rfl rfl) rfl ?_
  refine TL_n (Ef_store1 (.slice _ _ _) rfl rfl (?_))
  refine TL_nil ?_
  refine X_then ?_
  refine T_seq ?_
  refine T_region ?_
  refine TL_q (Qt_loadN rfl rfl) rfl ?_
  refine TL_n (Ef_storeN rfl rfl (?_))
  refine TL_q (Qt_assign (.int .i64 _) rfl) rfl ?_
  refine TL_nil ?_
  refine X_then ?_
  refine T_ret ?_
  exact X_ret ⟨a46, c46⟩ [_, _] Try.results33 ⟨⟨_, rfl, res_cellN rfl⟩, rfl, trivial⟩ rfl (Subs.st inferInstance)
 ·
  refine DLS_e rfl rfl (Ef_sliceN (m := ([(ReqV.mk 1 1 (OpV.mk 1 0 0 0) ⟨none, 0, []⟩)] : List ReqV).length) [.agg (ReqV.mk 1 1 (OpV.mk 1 0 0 0) ⟨none, 0, []⟩).cells] (([(ReqV.mk 1 1 (OpV.mk 1 0 0 0) ⟨none, 0, []⟩)] : List ReqV).flatMap ReqV.list) rfl rfl rfl (by rfl) (by simp [Value.cells, ReqV.size]) rfl rfl (fun a45 c45 => ⟨(Subs.st inferInstance), ?_⟩))
  refine DLF_1 (i := 4) (by kernel_rfl) ?_
  refine DLS_e rfl rfl (Ef_of_Qt (Qt_load1 rfl) ⟨(Subs.st inferInstance), ?_⟩)
  refine DLF_1 (i := 7) (by kernel_rfl) ?_
  refine DLS_e rfl rfl (Ef_appendS ReqV.list (sv := .slice _ _ _) (xv := .slice _ _ _) (xs := ([] : List ReqV)) (ys := [(ReqV.mk 1 1 (OpV.mk 1 0 0 0) ⟨none, 0, []⟩)]) ReqV.list_len ReqV.list_one rfl rfl (by simp) rfl rfl (fun a46 c46 => ⟨(Subs.st inferInstance), ?_⟩))
  rw [show (([] : List ReqV) ++ [(ReqV.mk 1 1 (OpV.mk 1 0 0 0) ⟨none, 0, []⟩)]).length = 1 from rfl]
  refine DLF_q (i := 8) (by kernel_rfl) rfl (by kernel_rfl) (by kernel_rfl) (Qt_nilCheck rfl) rfl ?_
  refine DLF_q (i := 9) (by kernel_rfl) rfl (by kernel_rfl) (by kernel_rfl) (Qt_fieldAddr 4 rfl rfl) rfl ?_
  refine DLF_1 (i := 10) (by kernel_rfl) ?_
  refine DLS_n rfl (Ef_store1 (.slice _ _ _) rfl rfl (⟨(Subs.st inferInstance), ?_⟩))
  refine DLF_nil (by kernel_rfl) ?_
  refine X_then ?_
  refine T_seq ?_
  refine T_region ?_
  refine TL_q (Qt_move (.pointer _) rfl) rfl ?_
  refine TL_q (Qt_nilCheck rfl) rfl ?_
  refine TL_q (Qt_fieldAddr 7 rfl rfl) rfl ?_
  refine TL_n (Ef_store1 (.bool _) rfl rfl (?_))
  refine TL_nil ?_
  refine X_then ?_
  refine T_seq ?_
  refine T_region ?_
  refine TL_q (Qt_move (.pointer _) rfl) rfl ?_
  refine TL_q (Qt_nilCheck rfl) rfl ?_
  refine TL_q (Qt_fieldAddr 5 rfl rfl) rfl ?_
  refine TL_n (Ef_store1 (.slice _ _ _) rfl rfl (?_))
  refine TL_nil ?_
  refine X_then ?_
  refine T_seq ?_
  refine T_region ?_
  refine TL_q (Qt_loadN rfl rfl) rfl ?_
  refine TL_n (Ef_storeN rfl rfl (?_))
  refine TL_q (Qt_assign (.int .i64 _) rfl) rfl ?_
  refine TL_nil ?_
  refine X_then ?_
  refine T_ret ?_
  exact X_ret ⟨a46, c46⟩ [_, _] Try.results33 ⟨⟨_, rfl, res_cellN rfl⟩, rfl, trivial⟩ rfl (Subs.st inferInstance)
set_option maxHeartbeats 1000000 in
theorem rTake_c {w0 : World} {H : List SA} {q : Nat} {id need : Int} {nq : Nat} {sa : Option Addr} {sc : Nat} {ls : List BS} {rt : Sl} {qa ya ga : Option Addr} {qc yc gc : Nat} {says : List SaidV} {got : List ReplyV} {waits : Bool} [rk : RdC w0 H (.slice sa ls.length sc) 1 (ls.map BS.val)] [rke : RdE w0 H ls] (hkl : ∀ x ∈ ls, x.l.length ≤ 4294967000) (hsl : says.length ≤ 1000) (hgl : got.length ≤ 1000) {a : Option Addr} {l : List UInt8} {lc : Nat} [hr : RdB w0 H (.slice a l.length lc) l] (hl : l.length ≤ 4294960000) :
 CT Try.prog w0 (blk q (.cells (RClientV.mk (KeysV.mk ⟨sa, sc, ls⟩ rt) id need ⟨qa, nq, qc⟩ ⟨ya, (says).length, yc⟩ ⟨ga, (got).length, gc⟩ waits).cells 83 (0, 0)) :: row (.slice ya (says).length yc) 91 6 ((says).flatMap SaidV.list) :: row (.slice ga (got).length gc) 31 5 ((got).flatMap ReplyV.list) :: H) 34 [.pointer (some ⟨q, 0, none⟩), .slice a l.length lc] (α := RTk) (fun y => .tuple #[.agg y.r.cells, .int .i64 y.e]) (fun y => pu (RTakeR (ls.map BS.l) id need nq waits says got l y) :: blk q (.cells (RClientV.mk (KeysV.mk ⟨sa, sc, ls⟩ rt) id need ⟨qa, nq, qc⟩ ⟨y.ya, (y.says).length, y.yc⟩ ⟨y.ga, (y.got).length, y.gc⟩ y.waits).cells 83 (0, 0)) :: row (.slice y.ya (y.says).length y.yc) 91 6 ((y.says).flatMap SaidV.list) :: row (.slice y.ga (y.got).length y.gc) 31 5 ((y.got).flatMap ReplyV.list) :: H) := by
 refine CT_intro Try.func34 rfl Try.ntmps34 rfl ?_
 refine T_seq ?_
 refine T_region ?_
 refine TL_e rfl (Ef_allocN (fun b4 => ?_))
 refine TL_q (Qt_assign (.int .i64 _) rfl) rfl ?_
 refine TL_nil ?_
 refine X_then ?_
 refine T_seq ?_
 refine T_region ?_
 refine TL_q (Qt_move (.pointer _) rfl) rfl ?_
 refine TL_q (Qt_nilCheck rfl) rfl ?_
 refine TL_q (Qt_fieldAddr 0 rfl rfl) rfl ?_
 refine TL_q (Qt_loadN rfl rfl) rfl ?_
 refine TL_q (Qt_move (.slice _ _ _) rfl) rfl ?_
 refine TL_e rfl (Ef_call (rOpenF_c (sa := sa) (sc := sc) (ls := ls) (rt := rt) hkl hl) rfl (fun x16 => ?_))
 refine TL_pure (fun h16 => ?_)
 have hkd : x16.1.kind = (openK (ls.map BS.l) l).2.kind := congrArg MsgD.kind h16
 have hfr : x16.1.frm = (openK (ls.map BS.l) l).2.frm := congrArg MsgD.frm h16
 have hsl2 : x16.1.slot = (openK (ls.map BS.l) l).2.slot := congrArg MsgD.slot h16
 have hbd : x16.1.body.l = (openK (ls.map BS.l) l).2.body := congrArg MsgD.body h16
 have hrep : (replyG x16.1.body.l).2 = repC (ls.map BS.l) l := by unfold repC; rw [← hbd]
 refine TL_e rfl (Ef_allocN (fun b6 => ?_))
 refine TL_n (Ef_storeN rfl rfl (?_))
 refine TL_nil ?_
 refine X_then ?_
 refine T_seq ?_
 refine T_seq ?_
 refine T_region ?_
 refine TL_q (Qt_fieldAddr 39 rfl rfl) rfl ?_
 refine TL_q (Qt_load1 rfl) rfl ?_
 refine TL_q (Qt_neq rfl rfl) rfl ?_
 refine TL_nil ?_
 refine X_then ?_
 refine T_cond rfl (fun h19 => ?_) (fun h19 => ?_)
 ·
  have p19 := h19
  try simp only [decide_eq_true_eq, decide_eq_false_iff_not, Bool.not_eq_true', Bool.not_eq_false', Option.isNone_iff_eq_none, ne_eq, Decidable.not_not, Int.not_lt, Int.not_le] at p19
  refine T_seq ?_
  refine T_draw (blk b6 (.cells (MGotV.mk x16.1 (openK (ls.map BS.l) l).1).cells 147 (0, 0)) :: H) [(0, true), (1, true), (2, true), (3, false), (4, true)] (by kernel_rfl) (by kernel_rfl) rfl (by kernel_rfl) (Subs.st inferInstance) (fun hns0 => ?_)
  refine DL_q hns0 rfl (Qt_build [] rfl (by kernel_rfl)) rfl ?_
  refine DL_q hns0 rfl (Qt_fieldAddr 39 rfl rfl) rfl ?_
  refine DL_q hns0 rfl (Qt_load1 rfl) rfl ?_
  refine DL_n rfl (Ef_storeN rfl rfl (⟨(Subs.st inferInstance), ?_⟩))
  refine DL_q hns0 rfl (Qt_assign (.int .i64 _) rfl) rfl ?_
  refine DL_nil ?_
  refine X_then ?_
  refine T_ret ?_
  refine X_then_ret ?_
  have hck : chkR (ls.map BS.l) id nq waits says l = (openK (ls.map BS.l) l).1 := by
   unfold chkR; exact if_pos (by simpa using p19)
  exact X_ret (⟨(openK (ls.map BS.l) l).1, .zero, says, ya, yc, got, ga, gc, waits⟩ : RTk) [_, _] Try.results34 ⟨⟨_, rfl, res_cellN rfl⟩, rfl, trivial⟩ rfl (fun w hw => (Subs.st inferInstance w hw : St w0 (blk q (.cells (RClientV.mk (KeysV.mk ⟨sa, sc, ls⟩ rt) id need ⟨qa, nq, qc⟩ ⟨ya, (says).length, yc⟩ ⟨ga, (got).length, gc⟩ waits).cells 83 (0, 0)) :: row (.slice ya (says).length yc) 91 6 ((says).flatMap SaidV.list) :: row (.slice ga (got).length gc) 31 5 ((got).flatMap ReplyV.list) :: H) w).addPure (RTakeR.bad hck (by simpa using p19)))
 ·
  have p19 := h19
  try simp only [decide_eq_true_eq, decide_eq_false_iff_not, Bool.not_eq_true', Bool.not_eq_false', Option.isNone_iff_eq_none, ne_eq, Decidable.not_not, Int.not_lt, Int.not_le] at p19
  refine T_skip ?_
  refine X_then ?_
  refine T_seq ?_
  refine T_seq ?_
  refine T_region ?_
  refine TL_q (Qt_fieldAddr 0 rfl rfl) rfl ?_
  refine TL_q (Qt_fieldAddr 0 rfl rfl) rfl ?_
  refine TL_q (Qt_load1 rfl) rfl ?_
  refine TL_q (Qt_neq rfl rfl) rfl ?_
  refine TL_nil ?_
  refine X_then ?_
  refine T_cond rfl (fun h26 => ?_) (fun h26 => ?_)
  ·
   have p26 := h26
   try simp only [decide_eq_true_eq, decide_eq_false_iff_not, Bool.not_eq_true', Bool.not_eq_false', Option.isNone_iff_eq_none, ne_eq, Decidable.not_not, Int.not_lt, Int.not_le] at p26
   refine T_seq ?_
   refine T_region ?_
   refine TL_q (Qt_build [] rfl (by kernel_rfl)) rfl ?_
   refine TL_n (Ef_storeN rfl rfl (?_))
   refine TL_q (Qt_assign (.int .i64 _) rfl) rfl ?_
   refine TL_nil ?_
   refine X_then ?_
   refine T_ret ?_
   refine X_then_ret ?_
   have hck : chkR (ls.map BS.l) id nq waits says l = 15 := by
    unfold chkR
    rw [if_neg (by simpa using p19), if_pos (by rw [← hkd]; simpa using p26)]
   exact X_ret (⟨15, .zero, says, ya, yc, got, ga, gc, waits⟩ : RTk) [_, _] Try.results34 ⟨⟨_, rfl, res_cellN rfl⟩, rfl, trivial⟩ rfl (fun w hw => (Subs.st inferInstance w hw : St w0 (blk q (.cells (RClientV.mk (KeysV.mk ⟨sa, sc, ls⟩ rt) id need ⟨qa, nq, qc⟩ ⟨ya, (says).length, yc⟩ ⟨ga, (got).length, gc⟩ waits).cells 83 (0, 0)) :: row (.slice ya (says).length yc) 91 6 ((says).flatMap SaidV.list) :: row (.slice ga (got).length gc) 31 5 ((got).flatMap ReplyV.list) :: H) w).addPure (RTakeR.bad hck (by decide)))
  ·
   have p26 := h26
   try simp only [decide_eq_true_eq, decide_eq_false_iff_not, Bool.not_eq_true', Bool.not_eq_false', Option.isNone_iff_eq_none, ne_eq, Decidable.not_not, Int.not_lt, Int.not_le] at p26
   refine T_skip ?_
   refine X_then ?_
   refine T_seq ?_
   refine T_region ?_
   refine TL_q (Qt_fieldAddr 0 rfl rfl) rfl ?_
   refine TL_q (Qt_fieldAddr 37 rfl rfl) rfl ?_
   refine TL_q (Qt_load1 rfl) rfl ?_
   refine TL_e rfl (Ef_call (rGetReply_c (l := x16.1.body.l) (by have := openK_bodyK (ls.map BS.l) l; rw [hbd]; omega)) rfl (fun x32 => ?_))
   refine TL_q (Qt_move (.tuple _) rfl) rfl ?_
   refine TL_q (Qt_extract rfl) rfl ?_
   refine TL_q (Qt_extract rfl) rfl ?_
   refine TL_e rfl (Ef_allocN (fun b7 => ?_))
   refine TL_n (Ef_storeN rfl rfl (?_))
   refine TL_q (Qt_assign (.int .i64 _) rfl) rfl ?_
   refine TL_nil ?_
   refine X_then ?_
   refine T_seq ?_
   refine T_seq ?_
   refine T_region ?_
   refine TL_q (Qt_move (.int .i64 _) rfl) rfl ?_
   refine TL_q (Qt_neq rfl rfl) rfl ?_
   refine TL_nil ?_
   refine X_then ?_
   refine T_cond rfl (fun h36 => ?_) (fun h36 => ?_)
   ·
    have p36 := h36
    try simp only [decide_eq_true_eq, decide_eq_false_iff_not, Bool.not_eq_true', Bool.not_eq_false', Option.isNone_iff_eq_none, ne_eq, Decidable.not_not, Int.not_lt, Int.not_le] at p36
    refine T_seq ?_
    refine T_region ?_
    refine TL_q (Qt_build [] rfl (by kernel_rfl)) rfl ?_
    refine TL_q (Qt_move (.int .i64 _) rfl) rfl ?_
    refine TL_n (Ef_storeN rfl rfl (?_))
    refine TL_q (Qt_assign (.int .i64 _) rfl) rfl ?_
    refine TL_nil ?_
    refine X_then ?_
    refine T_ret ?_
    refine X_then_ret ?_
    have hck : chkR (ls.map BS.l) id nq waits says l = (replyG x16.1.body.l).1 := by
     unfold chkR
     rw [if_neg (by simpa using p19), if_neg (by rw [← hkd]; simpa using p26), if_pos (by rw [← hbd]; simpa using p36), hbd]
    exact X_ret (⟨(replyG x16.1.body.l).1, .zero, says, ya, yc, got, ga, gc, waits⟩ : RTk) [_, _] Try.results34 ⟨⟨_, rfl, res_cellN rfl⟩, rfl, trivial⟩ rfl (fun w hw => (Subs.st inferInstance w hw : St w0 (blk q (.cells (RClientV.mk (KeysV.mk ⟨sa, sc, ls⟩ rt) id need ⟨qa, nq, qc⟩ ⟨ya, (says).length, yc⟩ ⟨ga, (got).length, gc⟩ waits).cells 83 (0, 0)) :: row (.slice ya (says).length yc) 91 6 ((says).flatMap SaidV.list) :: row (.slice ga (got).length gc) 31 5 ((got).flatMap ReplyV.list) :: H) w).addPure (RTakeR.bad hck (by simpa using p36)))
   ·
    have p36 := h36
    try simp only [decide_eq_true_eq, decide_eq_false_iff_not, Bool.not_eq_true', Bool.not_eq_false', Option.isNone_iff_eq_none, ne_eq, Decidable.not_not, Int.not_lt, Int.not_le] at p36
    refine T_skip ?_
    refine X_then ?_
    refine T_seq ?_
    refine T_seq ?_
    refine T_draw _ [(0, true), (1, true), (2, true), (3, true), (4, true), (5, true), (6, true)] (by kernel_rfl) (by kernel_rfl) rfl (by kernel_rfl) (fun _ hh => hh) (fun hns1 => ?_)
    refine DL_q hns1 rfl (Qt_fieldAddr 0 rfl rfl) rfl ?_
    refine DL_q hns1 rfl (Qt_load1 rfl) rfl ?_
    refine DL_q hns1 rfl (Qt_move (.pointer _) rfl) rfl ?_
    refine DL_q hns1 rfl (Qt_nilCheck rfl) rfl ?_
    refine DL_q hns1 rfl (Qt_fieldAddr 2 rfl rfl) rfl ?_
    refine DL_q hns1 rfl (Qt_load1 rfl) rfl ?_
    refine DL_q hns1 rfl (Qt_neq rfl rfl) rfl ?_
    refine DL_nil ?_
    refine X_then ?_
    refine T_cond rfl (fun h45 => ?_) (fun h45 => ?_)
    ·
     have p45 := h45
     try simp only [decide_eq_true_eq, decide_eq_false_iff_not, Bool.not_eq_true', Bool.not_eq_false', Option.isNone_iff_eq_none, ne_eq, Decidable.not_not, Int.not_lt, Int.not_le] at p45
     refine T_seq ?_
     refine T_region ?_
     refine TL_q (Qt_build [] rfl (by kernel_rfl)) rfl ?_
     refine TL_n (Ef_storeN rfl rfl (?_))
     refine TL_q (Qt_assign (.int .i64 _) rfl) rfl ?_
     refine TL_nil ?_
     refine X_then ?_
     refine T_ret ?_
     refine X_then_ret ?_
     have hck : chkR (ls.map BS.l) id nq waits says l = 6 := by
      unfold chkR
      rw [if_neg (by simpa using p19), if_neg (by rw [← hkd]; simpa using p26), if_neg (by rw [← hbd]; simpa using p36), if_pos (by rw [← hrep]; simpa using p45)]
     exact X_ret (⟨6, .zero, says, ya, yc, got, ga, gc, waits⟩ : RTk) [_, _] Try.results34 ⟨⟨_, rfl, res_cellN rfl⟩, rfl, trivial⟩ rfl (fun w hw => (Subs.st inferInstance w hw : St w0 (blk q (.cells (RClientV.mk (KeysV.mk ⟨sa, sc, ls⟩ rt) id need ⟨qa, nq, qc⟩ ⟨ya, (says).length, yc⟩ ⟨ga, (got).length, gc⟩ waits).cells 83 (0, 0)) :: row (.slice ya (says).length yc) 91 6 ((says).flatMap SaidV.list) :: row (.slice ga (got).length gc) 31 5 ((got).flatMap ReplyV.list) :: H) w).addPure (RTakeR.bad hck (by decide)))
    ·
     have p45 := h45
     try simp only [decide_eq_true_eq, decide_eq_false_iff_not, Bool.not_eq_true', Bool.not_eq_false', Option.isNone_iff_eq_none, ne_eq, Decidable.not_not, Int.not_lt, Int.not_le] at p45
     refine T_skip ?_
     refine X_then ?_
     refine T_seq ?_
     refine T_seq ?_
     refine T_draw _ [(0, true), (1, true), (2, true), (3, true), (4, true), (5, true), (6, true), (7, true), (8, true), (9, true), (10, true), (11, true), (12, true), (13, true), (14, true)] (by kernel_rfl) (by kernel_rfl) rfl (by kernel_rfl) (fun _ hh => hh) (fun hns2 => ?_)
     refine DL_q hns2 rfl (Qt_move (.pointer _) rfl) rfl ?_
     refine DL_q hns2 rfl (Qt_nilCheck rfl) rfl ?_
     refine DL_q hns2 rfl (Qt_fieldAddr 7 rfl rfl) rfl ?_
     refine DL_q hns2 rfl (Qt_load1 rfl) rfl ?_
     refine DL_q hns2 rfl (Qt_not rfl) rfl ?_
     refine DL_q hns2 rfl (Qt_move (.bool _) rfl) rfl ?_
     refine DL_split 52 rfl (fun h52 => ?_) (fun h52 => ?_)
     ·
      have p52 := h52
      try simp only [decide_eq_true_eq, decide_eq_false_iff_not, Bool.not_eq_true', Bool.not_eq_false', Option.isNone_iff_eq_none, ne_eq, Decidable.not_not, Int.not_lt, Int.not_le] at p52
      refine DL_pass hns2 rfl rfl rfl h52 rfl ?_
      refine DL_pass hns2 rfl rfl rfl h52 rfl ?_
      refine DL_pass hns2 rfl rfl rfl h52 rfl ?_
      refine DL_pass hns2 rfl rfl rfl h52 rfl ?_
      refine DL_pass hns2 rfl rfl rfl h52 rfl ?_
      refine DL_pass hns2 rfl rfl rfl h52 rfl ?_
      refine DL_pass hns2 rfl rfl rfl h52 rfl ?_
      refine DL_pass hns2 rfl rfl rfl h52 rfl ?_
      refine DL_q hns2 rfl (Qt_pick_t (.bool _) rfl h52 rfl) rfl ?_
      refine DL_nil ?_
      refine X_then ?_
      refine T_cond_true rfl rfl ?_
      refine T_seq ?_
      refine T_region ?_
      refine TL_q (Qt_build [] rfl (by kernel_rfl)) rfl ?_
      refine TL_n (Ef_storeN rfl rfl (?_))
      refine TL_q (Qt_assign (.int .i64 _) rfl) rfl ?_
      refine TL_nil ?_
      refine X_then ?_
      refine T_ret ?_
      refine X_then_ret ?_
      have hck : chkR (ls.map BS.l) id nq waits says l = 13 := by
       unfold chkR
       rw [if_neg (by simpa using p19), if_neg (by rw [← hkd]; simpa using p26), if_neg (by rw [← hbd]; simpa using p36), if_neg (by rw [← hrep]; simpa using p45), if_pos (by rw [← hrep]; first | (simp_all; done) | (simp_all; omega))]
      exact X_ret (⟨13, .zero, says, ya, yc, got, ga, gc, waits⟩ : RTk) [_, _] Try.results34 ⟨⟨_, rfl, res_cellN rfl⟩, rfl, trivial⟩ rfl (fun w hw => (Subs.st inferInstance w hw : St w0 (blk q (.cells (RClientV.mk (KeysV.mk ⟨sa, sc, ls⟩ rt) id need ⟨qa, nq, qc⟩ ⟨ya, (says).length, yc⟩ ⟨ga, (got).length, gc⟩ waits).cells 83 (0, 0)) :: row (.slice ya (says).length yc) 91 6 ((says).flatMap SaidV.list) :: row (.slice ga (got).length gc) 31 5 ((got).flatMap ReplyV.list) :: H) w).addPure (RTakeR.bad hck (by decide)))
     ·
      have p52 := h52
      try simp only [decide_eq_true_eq, decide_eq_false_iff_not, Bool.not_eq_true', Bool.not_eq_false', Option.isNone_iff_eq_none, ne_eq, Decidable.not_not, Int.not_lt, Int.not_le] at p52
      refine DL_qg hns2 rfl rfl rfl h52 (Qt_fieldAddr 1 rfl rfl) rfl ?_
      refine DL_qg hns2 rfl rfl rfl h52 (Qt_load1 rfl) rfl ?_
      refine DL_qg hns2 rfl rfl rfl h52 (Qt_move (.pointer _) rfl) rfl ?_
      refine DL_qg hns2 rfl rfl rfl h52 (Qt_nilCheck rfl) rfl ?_
      refine DL_qg hns2 rfl rfl rfl h52 (Qt_fieldAddr 4 rfl rfl) rfl ?_
      refine DL_qg hns2 rfl rfl rfl h52 (Qt_load1 rfl) rfl ?_
      refine DL_qg hns2 rfl rfl rfl h52 (Qt_len_slice rfl Try.underlying75) rfl ?_
      refine DL_qg hns2 rfl rfl rfl h52 (Qt_neq rfl rfl) rfl ?_
      refine DL_q hns2 rfl (Qt_pick_f (.bool _) rfl h52 rfl) rfl ?_
      refine DL_nil ?_
      refine X_then ?_
      refine T_cond rfl (fun h61 => ?_) (fun h61 => ?_)
      ·
       have p61 := h61
       try simp only [decide_eq_true_eq, decide_eq_false_iff_not, Bool.not_eq_true', Bool.not_eq_false', Option.isNone_iff_eq_none, ne_eq, Decidable.not_not, Int.not_lt, Int.not_le] at p61
       refine T_seq ?_
       refine T_region ?_
       refine TL_q (Qt_build [] rfl (by kernel_rfl)) rfl ?_
       refine TL_n (Ef_storeN rfl rfl (?_))
       refine TL_q (Qt_assign (.int .i64 _) rfl) rfl ?_
       refine TL_nil ?_
       refine X_then ?_
       refine T_ret ?_
       refine X_then_ret ?_
       have hck : chkR (ls.map BS.l) id nq waits says l = 13 := by
        unfold chkR
        rw [if_neg (by simpa using p19), if_neg (by rw [← hkd]; simpa using p26), if_neg (by rw [← hbd]; simpa using p36), if_neg (by rw [← hrep]; simpa using p45), if_pos (by rw [← hrep]; first | (simp_all; done) | (simp_all; omega))]
       exact X_ret (⟨13, .zero, says, ya, yc, got, ga, gc, waits⟩ : RTk) [_, _] Try.results34 ⟨⟨_, rfl, res_cellN rfl⟩, rfl, trivial⟩ rfl (fun w hw => (Subs.st inferInstance w hw : St w0 (blk q (.cells (RClientV.mk (KeysV.mk ⟨sa, sc, ls⟩ rt) id need ⟨qa, nq, qc⟩ ⟨ya, (says).length, yc⟩ ⟨ga, (got).length, gc⟩ waits).cells 83 (0, 0)) :: row (.slice ya (says).length yc) 91 6 ((says).flatMap SaidV.list) :: row (.slice ga (got).length gc) 31 5 ((got).flatMap ReplyV.list) :: H) w).addPure (RTakeR.bad hck (by decide)))
      ·
       have p61 := h61
       try simp only [decide_eq_true_eq, decide_eq_false_iff_not, Bool.not_eq_true', Bool.not_eq_false', Option.isNone_iff_eq_none, ne_eq, Decidable.not_not, Int.not_lt, Int.not_le] at p61
       refine T_skip ?_
       refine X_then ?_
       refine T_seq ?_
       refine T_seq ?_
       refine T_region ?_
       refine TL_q (Qt_fieldAddr 2 rfl rfl) rfl ?_
       refine TL_q (Qt_load1 rfl) rfl ?_
       refine TL_q (Qt_fieldAddr 0 rfl rfl) rfl ?_
       refine TL_q (Qt_fieldAddr 4 rfl rfl) rfl ?_
       refine TL_q (Qt_load1 rfl) rfl ?_
       refine TL_q (Qt_neq rfl rfl) rfl ?_
       refine TL_nil ?_
       refine X_then ?_
       refine T_cond rfl (fun h68 => ?_) (fun h68 => ?_)
       ·
        have p68 := h68
        try simp only [decide_eq_true_eq, decide_eq_false_iff_not, Bool.not_eq_true', Bool.not_eq_false', Option.isNone_iff_eq_none, ne_eq, Decidable.not_not, Int.not_lt, Int.not_le] at p68
        refine T_seq ?_
        refine T_region ?_
        refine TL_q (Qt_build [] rfl (by kernel_rfl)) rfl ?_
        refine TL_n (Ef_storeN rfl rfl (?_))
        refine TL_q (Qt_assign (.int .i64 _) rfl) rfl ?_
        refine TL_nil ?_
        refine X_then ?_
        refine T_ret ?_
        refine X_then_ret ?_
        have hck : chkR (ls.map BS.l) id nq waits says l = 8 := by
         unfold chkR
         rw [if_neg (by simpa using p19), if_neg (by rw [← hkd]; simpa using p26), if_neg (by rw [← hbd]; simpa using p36), if_neg (by rw [← hrep]; simpa using p45), if_neg (by rw [← hrep]; first | (simp_all; done) | (simp_all; omega)), if_pos (by rw [← hrep, ← hsl2]; simpa using p68)]
        exact X_ret (⟨8, .zero, says, ya, yc, got, ga, gc, waits⟩ : RTk) [_, _] Try.results34 ⟨⟨_, rfl, res_cellN rfl⟩, rfl, trivial⟩ rfl (fun w hw => (Subs.st inferInstance w hw : St w0 (blk q (.cells (RClientV.mk (KeysV.mk ⟨sa, sc, ls⟩ rt) id need ⟨qa, nq, qc⟩ ⟨ya, (says).length, yc⟩ ⟨ga, (got).length, gc⟩ waits).cells 83 (0, 0)) :: row (.slice ya (says).length yc) 91 6 ((says).flatMap SaidV.list) :: row (.slice ga (got).length gc) 31 5 ((got).flatMap ReplyV.list) :: H) w).addPure (RTakeR.bad hck (by decide)))
       ·
        have p68 := h68
        try simp only [decide_eq_true_eq, decide_eq_false_iff_not, Bool.not_eq_true', Bool.not_eq_false', Option.isNone_iff_eq_none, ne_eq, Decidable.not_not, Int.not_lt, Int.not_le] at p68
        refine T_skip ?_
        refine X_then ?_
        refine T_seq ?_
        refine T_region ?_
        refine TL_q (Qt_assign (.int .i64 _) rfl) rfl ?_
        refine TL_nil ?_
        refine X_then ?_
        refine T_seq ?_
        refine T_seq ?_
        refine T_region ?_
        refine TL_q (Qt_assign (.int .i64 _) rfl) rfl ?_
        refine TL_nil ?_
        refine X_then ?_
        refine T_block ?_
        refine T_loop [5, 9, 10, 70, 71, 72, 73, 74, 75, 76, 77, 78, 79, 80, 81, 82, 83, 84, 85, 86, 87, 88, 89, 90, 91, 92, 93, 94, 95, 96, 97, 98, 99, 100, 101, 102, 103] [10, 9] (fun us H' => ∃ (k : Nat), us = [.int .i64 (k : Int), .int .i64 ((1 + cntS (says.take k) (replyG x16.1.body.l).2 : Nat) : Int)] ∧ blk b7 (.cells (replyG x16.1.body.l).2.cells 31 (0, 0)) :: blk b6 (.cells (MGotV.mk x16.1 (openK (ls.map BS.l) l).1).cells 147 (0, 0)) :: blk b4 (.cells ReplyV.zero.cells 31 (0, 0)) :: blk q (.cells (RClientV.mk (KeysV.mk ⟨sa, sc, ls⟩ rt) id need ⟨qa, nq, qc⟩ ⟨ya, (says).length, yc⟩ ⟨ga, (got).length, gc⟩ waits).cells 83 (0, 0)) :: row (.slice ya (says).length yc) 91 6 ((says).flatMap SaidV.list) :: row (.slice ga (got).length gc) 31 5 ((got).flatMap ReplyV.list) :: dat x16.2 (Deep.leads x16.1) :: H = H' ∧ k ≤ says.length ∧ (∀ s ∈ says.take k, s.frm ≠ x16.1.frm)) (fun us => match us with | .int _ i :: _ => says.length - i.toNat | _ => 0) ⟨0, rfl, rfl, by omega, fun s hs => by simp at hs⟩ (Subs.st inferInstance) ?_
        rintro τ0 _ _  ⟨k, rfl, rfl, hk0, hno⟩ _
        refine T_seq ?_
        refine T_seq ?_
        refine T_region ?_
        refine TL_q (Qt_move (.int .i64 _) rfl) rfl ?_
        refine TL_q (Qt_move (.pointer _) rfl) rfl ?_
        refine TL_q (Qt_nilCheck rfl) rfl ?_
        refine TL_q (Qt_fieldAddr 5 rfl rfl) rfl ?_
        refine TL_q (Qt_load1 rfl) rfl ?_
        refine TL_q (Qt_len_slice rfl Try.underlying81) rfl ?_
        refine TL_q (Qt_lss rfl rfl) rfl ?_
        refine TL_nil ?_
        refine X_then ?_
        refine T_cond rfl (fun h76 => ?_) (fun h76 => ?_)
        ·
         have p76 := h76
         try simp only [decide_eq_true_eq, decide_eq_false_iff_not, Bool.not_eq_true', Bool.not_eq_false', Option.isNone_iff_eq_none, ne_eq, Decidable.not_not, Int.not_lt, Int.not_le] at p76
         have hk : k < says.length := by omega
         have hcl := cnt_le says (replyG x16.1.body.l).2 k
         refine T_skip ?_
         refine X_then ?_
         refine T_seq ?_
         refine T_block ?_
         refine T_seq ?_
         refine T_seq ?_
         refine T_draw _ [(0, true), (1, true), (2, true), (3, true), (4, true), (5, true), (6, true), (7, true), (8, true), (9, true), (10, true), (11, true)] (by kernel_rfl) (by kernel_rfl) rfl (by kernel_rfl) (fun _ hh => hh) (fun hns3 => ?_)
         refine DL_q hns3 rfl (Qt_move (.pointer _) rfl) rfl ?_
         refine DL_q hns3 rfl (Qt_nilCheck rfl) rfl ?_
         refine DL_q hns3 rfl (Qt_fieldAddr 5 rfl rfl) rfl ?_
         refine DL_q hns3 rfl (Qt_load1 rfl) rfl ?_
         refine DL_q hns3 rfl (Qt_move (.int .i64 _) rfl) rfl ?_
         refine DL_q hns3 rfl (Qt_indexN rfl rfl (by omega) (by omega)) rfl ?_
         refine DL_q hns3 rfl (Qt_fieldR rfl 6 (by rw [flat_len SaidV.list 6 SaidV.list_len]; omega)) rfl ?_
         refine DL_q hns3 rfl (Qt_loadRs 6 (.int .i64 says[k].frm) rfl (said_get says k 0 hk (by decide) rfl)) rfl ?_
         refine DL_q hns3 rfl (Qt_fieldAddr 0 rfl rfl) rfl ?_
         refine DL_q hns3 rfl (Qt_fieldAddr 1 rfl rfl) rfl ?_
         refine DL_q hns3 rfl (Qt_load1 rfl) rfl ?_
         refine DL_q hns3 rfl (Qt_eql rfl rfl) rfl ?_
         refine DL_nil ?_
         refine X_then ?_
         refine T_cond rfl (fun h90 => ?_) (fun h90 => ?_)
         ·
          have p90 := h90
          try simp only [decide_eq_true_eq, decide_eq_false_iff_not, Bool.not_eq_true', Bool.not_eq_false', Option.isNone_iff_eq_none, ne_eq, Decidable.not_not, Int.not_lt, Int.not_le] at p90
          refine T_seq ?_
          refine T_region ?_
          refine TL_q (Qt_build [] rfl (by kernel_rfl)) rfl ?_
          refine TL_n (Ef_storeN rfl rfl (?_))
          refine TL_q (Qt_assign (.int .i64 _) rfl) rfl ?_
          refine TL_nil ?_
          refine X_then ?_
          refine T_ret ?_
          refine X_then_ret ?_
          refine X_block_ret ?_
          refine X_then_ret ?_
          refine X_loop_ret ?_
          refine X_block_ret ?_
          refine X_then_ret ?_
          have hck : chkR (ls.map BS.l) id nq waits says l = 7 := by
           unfold chkR
           rw [if_neg (by simpa using p19), if_neg (by rw [← hkd]; simpa using p26), if_neg (by rw [← hbd]; simpa using p36), if_neg (by rw [← hrep]; simpa using p45), if_neg (by rw [← hrep]; first | (simp_all; done) | (simp_all; omega)), if_neg (by rw [← hrep, ← hsl2]; simpa using p68), if_pos ⟨says[k], List.getElem_mem hk, by rw [← hfr]; simpa using p90⟩]
          exact X_ret (⟨7, .zero, says, ya, yc, got, ga, gc, waits⟩ : RTk) [_, _] Try.results34 ⟨⟨_, rfl, res_cellN rfl⟩, rfl, trivial⟩ rfl (fun w hw => (Subs.st inferInstance w hw : St w0 (blk q (.cells (RClientV.mk (KeysV.mk ⟨sa, sc, ls⟩ rt) id need ⟨qa, nq, qc⟩ ⟨ya, (says).length, yc⟩ ⟨ga, (got).length, gc⟩ waits).cells 83 (0, 0)) :: row (.slice ya (says).length yc) 91 6 ((says).flatMap SaidV.list) :: row (.slice ga (got).length gc) 31 5 ((got).flatMap ReplyV.list) :: H) w).addPure (RTakeR.bad hck (by decide)))
         ·
          have p90 := h90
          try simp only [decide_eq_true_eq, decide_eq_false_iff_not, Bool.not_eq_true', Bool.not_eq_false', Option.isNone_iff_eq_none, ne_eq, Decidable.not_not, Int.not_lt, Int.not_le] at p90
          have hno2 : ∀ s ∈ says.take (k + 1), s.frm ≠ x16.1.frm := by
           rw [List.take_add_one, List.getElem?_eq_getElem hk]
           intro s hs
           rcases List.mem_append.1 hs with h | h
           · exact hno s h
           · obtain rfl : s = says[k] := by simpa using h
             simpa using p90
          refine T_skip ?_
          refine X_then ?_
          refine T_seq ?_
          refine T_draw _ [(0, true), (1, true), (2, true), (3, true), (4, true), (5, true), (6, true), (7, true), (8, true), (9, true)] (by kernel_rfl) (by kernel_rfl) rfl (by kernel_rfl) (fun _ hh => hh) (fun hns4 => ?_)
          refine DL_q hns4 rfl (Qt_move (.pointer _) rfl) rfl ?_
          refine DL_q hns4 rfl (Qt_nilCheck rfl) rfl ?_
          refine DL_q hns4 rfl (Qt_fieldAddr 5 rfl rfl) rfl ?_
          refine DL_q hns4 rfl (Qt_load1 rfl) rfl ?_
          refine DL_q hns4 rfl (Qt_move (.int .i64 _) rfl) rfl ?_
          refine DL_q hns4 rfl (Qt_indexN rfl rfl (by omega) (by simp; omega)) rfl ?_
          refine DL_q hns4 rfl (Qt_fieldR rfl 6 (by rw [flat_len SaidV.list 6 SaidV.list_len]; omega)) rfl ?_
          refine DL_q hns4 rfl (Qt_val (Qt_loadRN 6 says[k].r.list rfl (said_r says k hk) (ReplyV.list_len _) (by decide)) (show Value.agg says[k].r.list.toArray = Value.agg says[k].r.cells from rfl)) rfl ?_
          refine DL_q hns4 rfl (Qt_loadN rfl rfl) rfl ?_
          refine DL_q hns4 rfl (Qt_agg_eql rfl rfl (by kernel_rfl)) rfl ?_
          refine DL_nil ?_
          refine X_then ?_
          refine T_cond rfl (fun h101 => ?_) (fun h101 => ?_)
          ·
           have p101 := h101
           try simp only [decide_eq_true_eq, decide_eq_false_iff_not, Bool.not_eq_true', Bool.not_eq_false', Option.isNone_iff_eq_none, ne_eq, Decidable.not_not, Int.not_lt, Int.not_le] at p101
           refine T_region ?_
           refine TL_q (Qt_move (.int .i64 _) rfl) rfl ?_
           first
            | refine TL_q (Qt_add rfl rfl (by omega) (by omega)) rfl ?_
            | refine TL_q (Qt_addw rfl rfl) rfl ?_
           refine TL_q (Qt_assign (.int .i64 _) rfl) rfl ?_
           refine TL_nil ?_
           refine X_block ?_
           refine X_then ?_
           refine T_region ?_
           refine TL_q (Qt_move (.int .i64 _) rfl) rfl ?_
           first
            | refine TL_q (Qt_add rfl rfl (by omega) (by omega)) rfl ?_
            | refine TL_q (Qt_addw rfl rfl) rfl ?_
           refine TL_q (Qt_assign (.int .i64 _) rfl) rfl ?_
           refine TL_nil ?_
           apply X_loop
           case ha => exact (by repeat (first | with_reducible exact agree_refl | refine agree_upd rfl ?_ | refine agree_mix rfl ?_ | refine agree_setAll rfl ?_))
           case hI => exact ⟨k + 1, by rw [cnt_take hk (replyG x16.1.body.l).2]; first | (rw [if_pos (by simpa using p101)]; show [Value.int .i64 ((k : Int) + 1), Value.int .i64 (((1 + cntS (says.take k) (replyG x16.1.body.l).2 : Nat) : Int) + 1)] = _; simp only [Int.natCast_add, Int.natCast_one, Int.add_assoc]) | (rw [if_neg (by simpa using p101)]; rfl), rfl, by omega, hno2⟩
           case hm => exact by show says.length - (k + 1 : Int).toNat < says.length - (k : Int).toNat; omega
           case hH => exact (Subs.st inferInstance)
          ·
           have p101 := h101
           try simp only [decide_eq_true_eq, decide_eq_false_iff_not, Bool.not_eq_true', Bool.not_eq_false', Option.isNone_iff_eq_none, ne_eq, Decidable.not_not, Int.not_lt, Int.not_le] at p101
           refine T_skip ?_
           refine X_block ?_
           refine X_then ?_
           refine T_region ?_
           refine TL_q (Qt_move (.int .i64 _) rfl) rfl ?_
           first
            | refine TL_q (Qt_add rfl rfl (by omega) (by omega)) rfl ?_
            | refine TL_q (Qt_addw rfl rfl) rfl ?_
           refine TL_q (Qt_assign (.int .i64 _) rfl) rfl ?_
           refine TL_nil ?_
           apply X_loop
           case ha => exact (by repeat (first | with_reducible exact agree_refl | refine agree_upd rfl ?_ | refine agree_mix rfl ?_ | refine agree_setAll rfl ?_))
           case hI => exact ⟨k + 1, by rw [cnt_take hk (replyG x16.1.body.l).2]; first | (rw [if_pos (by simpa using p101)]; show [Value.int .i64 ((k : Int) + 1), Value.int .i64 (((1 + cntS (says.take k) (replyG x16.1.body.l).2 : Nat) : Int) + 1)] = _; simp only [Int.natCast_add, Int.natCast_one, Int.add_assoc]) | (rw [if_neg (by simpa using p101)]; rfl), rfl, by omega, hno2⟩
           case hm => exact by show says.length - (k + 1 : Int).toNat < says.length - (k : Int).toNat; omega
           case hH => exact (Subs.st inferInstance)
        ·
         have p76 := h76
         try simp only [decide_eq_true_eq, decide_eq_false_iff_not, Bool.not_eq_true', Bool.not_eq_false', Option.isNone_iff_eq_none, ne_eq, Decidable.not_not, Int.not_lt, Int.not_le] at p76
         have hkn : k = says.length := by omega
         refine T_exit ?_
         refine X_then_exit ?_
         refine X_loop_exit ?_
         refine X_block_exit ?_
         refine X_then ?_
         refine T_seq ?_
         refine T_drawF (blk b6 (.cells (MGotV.mk x16.1 (openK (ls.map BS.l) l).1).cells 147 (0, 0)) :: blk b7 (.cells (replyG x16.1.body.l).2.cells 31 (0, 0)) :: H) (by kernel_rfl) (Subs.st inferInstance) ?_
         refine DLF_q (i := 0) (by kernel_rfl) rfl (by kernel_rfl) (by kernel_rfl) (Qt_move (.pointer _) rfl) rfl ?_
         refine DLF_q (i := 1) (by kernel_rfl) rfl (by kernel_rfl) (by kernel_rfl) (Qt_move (.pointer _) rfl) rfl ?_
         refine DLF_q (i := 2) (by kernel_rfl) rfl (by kernel_rfl) (by kernel_rfl) (Qt_nilCheck rfl) rfl ?_
         refine DLF_q (i := 3) (by kernel_rfl) rfl (by kernel_rfl) (by kernel_rfl) (Qt_fieldAddr 5 rfl rfl) rfl ?_
         refine DLF_q (i := 5) (by kernel_rfl) rfl (by kernel_rfl) (by kernel_rfl) (Qt_fieldAddr 0 rfl rfl) rfl ?_
         refine DLF_q (i := 6) (by kernel_rfl) rfl (by kernel_rfl) (by kernel_rfl) (Qt_fieldAddr 1 rfl rfl) rfl ?_
         refine DLF_q (i := 7) (by kernel_rfl) rfl (by kernel_rfl) (by kernel_rfl) (Qt_load1 rfl) rfl ?_
         refine DLF_q (i := 8) (by kernel_rfl) rfl (by kernel_rfl) (by kernel_rfl) (Qt_loadN rfl rfl) rfl ?_
         refine DLF_q (i := 9) (by kernel_rfl) rfl (by kernel_rfl) (by kernel_rfl) (Qt_build [(0, (.int .i64 _)), (1, (.agg _))] rfl (by kernel_rfl)) rfl ?_
         refine DLF_2 (i := 4) (j := 10) (by kernel_rfl) ?_ ?_
         ·
          refine DLS_e rfl rfl (Ef_of_Qt (Qt_load1 rfl) ⟨(Subs.st inferInstance), ?_⟩)
          refine DLF_1 (i := 10) (by kernel_rfl) ?_
          refine DLS_e rfl rfl (Ef_sliceN (m := ([(SaidV.mk x16.1.frm (replyG x16.1.body.l).2)] : List SaidV).length) [.agg (SaidV.mk x16.1.frm (replyG x16.1.body.l).2).cells] (([(SaidV.mk x16.1.frm (replyG x16.1.body.l).2)] : List SaidV).flatMap SaidV.list) rfl rfl rfl (by rfl) (by simp [Value.cells, SaidV.size]) rfl rfl (fun a114 c114 => ⟨(Subs.st inferInstance), ?_⟩))
          refine DLF_1 (i := 11) (by kernel_rfl) ?_
          refine DLS_e rfl rfl (Ef_appendS SaidV.list (sv := .slice _ _ _) (xv := .slice _ _ _) (xs := says) (ys := [(SaidV.mk x16.1.frm (replyG x16.1.body.l).2)]) SaidV.list_len SaidV.list_one rfl rfl (by simp; omega) rfl rfl (fun a115 c115 => ⟨(Subs.st inferInstance), ?_⟩))
          refine DLF_q (i := 12) (by kernel_rfl) rfl (by kernel_rfl) (by kernel_rfl) (Qt_nilCheck rfl) rfl ?_
          refine DLF_q (i := 13) (by kernel_rfl) rfl (by kernel_rfl) (by kernel_rfl) (Qt_fieldAddr 5 rfl rfl) rfl ?_
          refine DLF_1 (i := 14) (by kernel_rfl) ?_
          refine DLS_n rfl (Ef_store1 (.slice _ _ _) rfl rfl (⟨(Subs.st inferInstance), ?_⟩))
          refine DLF_nil (by kernel_rfl) ?_
          refine X_then ?_
          refine T_seq ?_
          refine T_seq ?_
          refine T_region ?_
          refine TL_q (Qt_move (.int .i64 _) rfl) rfl ?_
          refine TL_q (Qt_move (.pointer _) rfl) rfl ?_
          refine TL_q (Qt_nilCheck rfl) rfl ?_
          refine TL_q (Qt_fieldAddr 3 rfl rfl) rfl ?_
          refine TL_q (Qt_load1 rfl) rfl ?_
          refine TL_q (Qt_lss rfl rfl) rfl ?_
          refine TL_nil ?_
          refine X_then ?_
          refine T_cond rfl (fun h123 => ?_) (fun h123 => ?_)
          ·
           have p123 := h123
           try simp only [decide_eq_true_eq, decide_eq_false_iff_not, Bool.not_eq_true', Bool.not_eq_false', Option.isNone_iff_eq_none, ne_eq, Decidable.not_not, Int.not_lt, Int.not_le] at p123
           refine T_seq ?_
           refine T_region ?_
           refine TL_q (Qt_build [] rfl (by kernel_rfl)) rfl ?_
           refine TL_n (Ef_storeN rfl rfl (?_))
           refine TL_q (Qt_assign (.int .i64 _) rfl) rfl ?_
           refine TL_nil ?_
           refine X_then ?_
           refine T_ret ?_
           refine X_then_ret ?_
           have hck : chkR (ls.map BS.l) id nq waits says l = 0 := by
            unfold chkR
            rw [if_neg (by simpa using p19), if_neg (by rw [← hkd]; simpa using p26), if_neg (by rw [← hbd]; simpa using p36), if_neg (by rw [← hrep]; simpa using p45), if_neg (by rw [← hrep]; first | (simp_all; done) | (simp_all; omega)), if_neg (by rw [← hrep, ← hsl2]; simpa using p68), if_neg (by rintro ⟨s, hs, he⟩; exact hno s (by rw [hkn, List.take_length]; exact hs) (he.trans hfr.symm))]
           rw [hkn, List.take_length] at p123
           exact X_ret (⟨1, .zero, says ++ [(SaidV.mk x16.1.frm (replyG x16.1.body.l).2)], a115, c115, got, ga, gc, waits⟩ : RTk) [_, _] Try.results34 ⟨⟨_, rfl, res_cellN rfl⟩, rfl, trivial⟩ rfl (fun w hw => (Subs.st inferInstance w hw : St w0 (blk q (.cells (RClientV.mk (KeysV.mk ⟨sa, sc, ls⟩ rt) id need ⟨qa, nq, qc⟩ ⟨a115, (says ++ [(SaidV.mk x16.1.frm (replyG x16.1.body.l).2)]).length, c115⟩ ⟨ga, (got).length, gc⟩ waits).cells 83 (0, 0)) :: row (.slice a115 (says ++ [(SaidV.mk x16.1.frm (replyG x16.1.body.l).2)]).length c115) 91 6 ((says ++ [(SaidV.mk x16.1.frm (replyG x16.1.body.l).2)]).flatMap SaidV.list) :: row (.slice ga (got).length gc) 31 5 ((got).flatMap ReplyV.list) :: H) w).addPure ⟨fun h => absurd hck h, fun _ => ⟨by rw [← hrep, ← hfr], fun _ => rfl⟩, by simp, by simp⟩)
          ·
           have p123 := h123
           try simp only [decide_eq_true_eq, decide_eq_false_iff_not, Bool.not_eq_true', Bool.not_eq_false', Option.isNone_iff_eq_none, ne_eq, Decidable.not_not, Int.not_lt, Int.not_le] at p123
           refine T_skip ?_
           refine X_then ?_
           refine T_seq ?_
           refine T_region ?_
           refine TL_q (Qt_move (.pointer _) rfl) rfl ?_
           refine TL_q (Qt_nilCheck rfl) rfl ?_
           refine TL_q (Qt_fieldAddr 7 rfl rfl) rfl ?_
           refine TL_n (Ef_store1 (.bool _) rfl rfl (?_))
           refine TL_nil ?_
           refine X_then ?_
           refine T_seq ?_
           refine T_drawF (blk b7 (.cells (replyG x16.1.body.l).2.cells 31 (0, 0)) :: H) (by kernel_rfl) (Subs.st inferInstance) ?_
           refine DLF_q (i := 0) (by kernel_rfl) rfl (by kernel_rfl) (by kernel_rfl) (Qt_move (.pointer _) rfl) rfl ?_
           refine DLF_q (i := 1) (by kernel_rfl) rfl (by kernel_rfl) (by kernel_rfl) (Qt_move (.pointer _) rfl) rfl ?_
           refine DLF_q (i := 2) (by kernel_rfl) rfl (by kernel_rfl) (by kernel_rfl) (Qt_nilCheck rfl) rfl ?_
           refine DLF_q (i := 3) (by kernel_rfl) rfl (by kernel_rfl) (by kernel_rfl) (Qt_fieldAddr 6 rfl rfl) rfl ?_
           refine DLF_q (i := 5) (by kernel_rfl) rfl (by kernel_rfl) (by kernel_rfl) (Qt_loadN rfl rfl) rfl ?_
           refine DLF_2 (i := 4) (j := 6) (by kernel_rfl) ?_ ?_
           ·
            refine DLS_e rfl rfl (Ef_of_Qt (Qt_load1 rfl) ⟨(Subs.st inferInstance), ?_⟩)
            refine DLF_1 (i := 6) (by kernel_rfl) ?_
            refine DLS_e rfl rfl (Ef_sliceN (m := ([(replyG x16.1.body.l).2] : List ReplyV).length) [.agg (replyG x16.1.body.l).2.cells] (([(replyG x16.1.body.l).2] : List ReplyV).flatMap ReplyV.list) rfl rfl rfl (by rfl) (by simp [Value.cells, ReplyV.size]) rfl rfl (fun a134 c134 => ⟨(Subs.st inferInstance), ?_⟩))
            refine DLF_1 (i := 7) (by kernel_rfl) ?_
            refine DLS_e rfl rfl (Ef_appendS ReplyV.list (sv := .slice _ _ _) (xv := .slice _ _ _) (xs := got) (ys := [(replyG x16.1.body.l).2]) ReplyV.list_len ReplyV.list_one rfl rfl (by simp; omega) rfl rfl (fun a135 c135 => ⟨(Subs.st inferInstance), ?_⟩))
            refine DLF_q (i := 8) (by kernel_rfl) rfl (by kernel_rfl) (by kernel_rfl) (Qt_nilCheck rfl) rfl ?_
            refine DLF_q (i := 9) (by kernel_rfl) rfl (by kernel_rfl) (by kernel_rfl) (Qt_fieldAddr 6 rfl rfl) rfl ?_
            refine DLF_1 (i := 10) (by kernel_rfl) ?_
            refine DLS_n rfl (Ef_store1 (.slice _ _ _) rfl rfl (⟨(Subs.st inferInstance), ?_⟩))
            refine DLF_nil (by kernel_rfl) ?_
            refine X_then ?_
            refine T_seq ?_
            refine T_region ?_
            refine TL_q (Qt_loadN rfl rfl) rfl ?_
            refine TL_n (Ef_storeN rfl rfl (?_))
            refine TL_q (Qt_assign (.int .i64 _) rfl) rfl ?_
            refine TL_nil ?_
            refine X_then ?_
            refine T_ret ?_
            have hck : chkR (ls.map BS.l) id nq waits says l = 0 := by
             unfold chkR
             rw [if_neg (by simpa using p19), if_neg (by rw [← hkd]; simpa using p26), if_neg (by rw [← hbd]; simpa using p36), if_neg (by rw [← hrep]; simpa using p45), if_neg (by rw [← hrep]; first | (simp_all; done) | (simp_all; omega)), if_neg (by rw [← hrep, ← hsl2]; simpa using p68), if_neg (by rintro ⟨s, hs, he⟩; exact hno s (by rw [hkn, List.take_length]; exact hs) (he.trans hfr.symm))]
            rw [hkn, List.take_length] at p123
            exact X_ret (⟨0, (replyG x16.1.body.l).2, says ++ [(SaidV.mk x16.1.frm (replyG x16.1.body.l).2)], a115, c115, got ++ [(replyG x16.1.body.l).2], a135, c135, false⟩ : RTk) [_, _] Try.results34 ⟨⟨_, rfl, res_cellN rfl⟩, rfl, trivial⟩ rfl (fun w hw => (Subs.st inferInstance w hw : St w0 (blk q (.cells (RClientV.mk (KeysV.mk ⟨sa, sc, ls⟩ rt) id need ⟨qa, nq, qc⟩ ⟨a115, (says ++ [(SaidV.mk x16.1.frm (replyG x16.1.body.l).2)]).length, c115⟩ ⟨a135, (got ++ [(replyG x16.1.body.l).2]).length, c135⟩ false).cells 83 (0, 0)) :: row (.slice a115 (says ++ [(SaidV.mk x16.1.frm (replyG x16.1.body.l).2)]).length c115) 91 6 ((says ++ [(SaidV.mk x16.1.frm (replyG x16.1.body.l).2)]).flatMap SaidV.list) :: row (.slice a135 (got ++ [(replyG x16.1.body.l).2]).length c135) 31 5 ((got ++ [(replyG x16.1.body.l).2]).flatMap ReplyV.list) :: H) w).addPure ⟨fun h => absurd hck h, fun _ => ⟨by rw [← hrep, ← hfr], fun hlt => absurd hlt (by rw [← hrep]; omega)⟩, by simp, by simp⟩)
           ·
            refine DLS_e rfl rfl (Ef_sliceN (m := ([(replyG x16.1.body.l).2] : List ReplyV).length) [.agg (replyG x16.1.body.l).2.cells] (([(replyG x16.1.body.l).2] : List ReplyV).flatMap ReplyV.list) rfl rfl rfl (by rfl) (by simp [Value.cells, ReplyV.size]) rfl rfl (fun a134 c134 => ⟨(Subs.st inferInstance), ?_⟩))
            refine DLF_1 (i := 4) (by kernel_rfl) ?_
            refine DLS_e rfl rfl (Ef_of_Qt (Qt_load1 rfl) ⟨(Subs.st inferInstance), ?_⟩)
            refine DLF_1 (i := 7) (by kernel_rfl) ?_
            refine DLS_e rfl rfl (Ef_appendS ReplyV.list (sv := .slice _ _ _) (xv := .slice _ _ _) (xs := got) (ys := [(replyG x16.1.body.l).2]) ReplyV.list_len ReplyV.list_one rfl rfl (by simp; omega) rfl rfl (fun a135 c135 => ⟨(Subs.st inferInstance), ?_⟩))
            refine DLF_q (i := 8) (by kernel_rfl) rfl (by kernel_rfl) (by kernel_rfl) (Qt_nilCheck rfl) rfl ?_
            refine DLF_q (i := 9) (by kernel_rfl) rfl (by kernel_rfl) (by kernel_rfl) (Qt_fieldAddr 6 rfl rfl) rfl ?_
            refine DLF_1 (i := 10) (by kernel_rfl) ?_
            refine DLS_n rfl (Ef_store1 (.slice _ _ _) rfl rfl (⟨(Subs.st inferInstance), ?_⟩))
            refine DLF_nil (by kernel_rfl) ?_
            refine X_then ?_
            refine T_seq ?_
            refine T_region ?_
            refine TL_q (Qt_loadN rfl rfl) rfl ?_
            refine TL_n (Ef_storeN rfl rfl (?_))
            refine TL_q (Qt_assign (.int .i64 _) rfl) rfl ?_
            refine TL_nil ?_
            refine X_then ?_
            refine T_ret ?_
            have hck : chkR (ls.map BS.l) id nq waits says l = 0 := by
             unfold chkR
             rw [if_neg (by simpa using p19), if_neg (by rw [← hkd]; simpa using p26), if_neg (by rw [← hbd]; simpa using p36), if_neg (by rw [← hrep]; simpa using p45), if_neg (by rw [← hrep]; first | (simp_all; done) | (simp_all; omega)), if_neg (by rw [← hrep, ← hsl2]; simpa using p68), if_neg (by rintro ⟨s, hs, he⟩; exact hno s (by rw [hkn, List.take_length]; exact hs) (he.trans hfr.symm))]
            rw [hkn, List.take_length] at p123
            exact X_ret (⟨0, (replyG x16.1.body.l).2, says ++ [(SaidV.mk x16.1.frm (replyG x16.1.body.l).2)], a115, c115, got ++ [(replyG x16.1.body.l).2], a135, c135, false⟩ : RTk) [_, _] Try.results34 ⟨⟨_, rfl, res_cellN rfl⟩, rfl, trivial⟩ rfl (fun w hw => (Subs.st inferInstance w hw : St w0 (blk q (.cells (RClientV.mk (KeysV.mk ⟨sa, sc, ls⟩ rt) id need ⟨qa, nq, qc⟩ ⟨a115, (says ++ [(SaidV.mk x16.1.frm (replyG x16.1.body.l).2)]).length, c115⟩ ⟨a135, (got ++ [(replyG x16.1.body.l).2]).length, c135⟩ false).cells 83 (0, 0)) :: row (.slice a115 (says ++ [(SaidV.mk x16.1.frm (replyG x16.1.body.l).2)]).length c115) 91 6 ((says ++ [(SaidV.mk x16.1.frm (replyG x16.1.body.l).2)]).flatMap SaidV.list) :: row (.slice a135 (got ++ [(replyG x16.1.body.l).2]).length c135) 31 5 ((got ++ [(replyG x16.1.body.l).2]).flatMap ReplyV.list) :: H) w).addPure ⟨fun h => absurd hck h, fun _ => ⟨by rw [← hrep, ← hfr], fun hlt => absurd hlt (by rw [← hrep]; omega)⟩, by simp, by simp⟩)
         ·
          refine DLS_e rfl rfl (Ef_sliceN (m := ([(SaidV.mk x16.1.frm (replyG x16.1.body.l).2)] : List SaidV).length) [.agg (SaidV.mk x16.1.frm (replyG x16.1.body.l).2).cells] (([(SaidV.mk x16.1.frm (replyG x16.1.body.l).2)] : List SaidV).flatMap SaidV.list) rfl rfl rfl (by rfl) (by simp [Value.cells, SaidV.size]) rfl rfl (fun a114 c114 => ⟨(Subs.st inferInstance), ?_⟩))
          refine DLF_1 (i := 4) (by kernel_rfl) ?_
          refine DLS_e rfl rfl (Ef_of_Qt (Qt_load1 rfl) ⟨(Subs.st inferInstance), ?_⟩)
          refine DLF_1 (i := 11) (by kernel_rfl) ?_
          refine DLS_e rfl rfl (Ef_appendS SaidV.list (sv := .slice _ _ _) (xv := .slice _ _ _) (xs := says) (ys := [(SaidV.mk x16.1.frm (replyG x16.1.body.l).2)]) SaidV.list_len SaidV.list_one rfl rfl (by simp; omega) rfl rfl (fun a115 c115 => ⟨(Subs.st inferInstance), ?_⟩))
          refine DLF_q (i := 12) (by kernel_rfl) rfl (by kernel_rfl) (by kernel_rfl) (Qt_nilCheck rfl) rfl ?_
          refine DLF_q (i := 13) (by kernel_rfl) rfl (by kernel_rfl) (by kernel_rfl) (Qt_fieldAddr 5 rfl rfl) rfl ?_
          refine DLF_1 (i := 14) (by kernel_rfl) ?_
          refine DLS_n rfl (Ef_store1 (.slice _ _ _) rfl rfl (⟨(Subs.st inferInstance), ?_⟩))
          refine DLF_nil (by kernel_rfl) ?_
          refine X_then ?_
          refine T_seq ?_
          refine T_seq ?_
          refine T_region ?_
          refine TL_q (Qt_move (.int .i64 _) rfl) rfl ?_
          refine TL_q (Qt_move (.pointer _) rfl) rfl ?_
          refine TL_q (Qt_nilCheck rfl) rfl ?_
          refine TL_q (Qt_fieldAddr 3 rfl rfl) rfl ?_
          refine TL_q (Qt_load1 rfl) rfl ?_
          refine TL_q (Qt_lss rfl rfl) rfl ?_
          refine TL_nil ?_
          refine X_then ?_
          refine T_cond rfl (fun h123 => ?_) (fun h123 => ?_)
          ·
           have p123 := h123
           try simp only [decide_eq_true_eq, decide_eq_false_iff_not, Bool.not_eq_true', Bool.not_eq_false', Option.isNone_iff_eq_none, ne_eq, Decidable.not_not, Int.not_lt, Int.not_le] at p123
           refine T_seq ?_
           refine T_region ?_
           refine TL_q (Qt_build [] rfl (by kernel_rfl)) rfl ?_
           refine TL_n (Ef_storeN rfl rfl (?_))
           refine TL_q (Qt_assign (.int .i64 _) rfl) rfl ?_
           refine TL_nil ?_
           refine X_then ?_
           refine T_ret ?_
           refine X_then_ret ?_
           have hck : chkR (ls.map BS.l) id nq waits says l = 0 := by
            unfold chkR
            rw [if_neg (by simpa using p19), if_neg (by rw [← hkd]; simpa using p26), if_neg (by rw [← hbd]; simpa using p36), if_neg (by rw [← hrep]; simpa using p45), if_neg (by rw [← hrep]; first | (simp_all; done) | (simp_all; omega)), if_neg (by rw [← hrep, ← hsl2]; simpa using p68), if_neg (by rintro ⟨s, hs, he⟩; exact hno s (by rw [hkn, List.take_length]; exact hs) (he.trans hfr.symm))]
           rw [hkn, List.take_length] at p123
           exact X_ret (⟨1, .zero, says ++ [(SaidV.mk x16.1.frm (replyG x16.1.body.l).2)], a115, c115, got, ga, gc, waits⟩ : RTk) [_, _] Try.results34 ⟨⟨_, rfl, res_cellN rfl⟩, rfl, trivial⟩ rfl (fun w hw => (Subs.st inferInstance w hw : St w0 (blk q (.cells (RClientV.mk (KeysV.mk ⟨sa, sc, ls⟩ rt) id need ⟨qa, nq, qc⟩ ⟨a115, (says ++ [(SaidV.mk x16.1.frm (replyG x16.1.body.l).2)]).length, c115⟩ ⟨ga, (got).length, gc⟩ waits).cells 83 (0, 0)) :: row (.slice a115 (says ++ [(SaidV.mk x16.1.frm (replyG x16.1.body.l).2)]).length c115) 91 6 ((says ++ [(SaidV.mk x16.1.frm (replyG x16.1.body.l).2)]).flatMap SaidV.list) :: row (.slice ga (got).length gc) 31 5 ((got).flatMap ReplyV.list) :: H) w).addPure ⟨fun h => absurd hck h, fun _ => ⟨by rw [← hrep, ← hfr], fun _ => rfl⟩, by simp, by simp⟩)
          ·
           have p123 := h123
           try simp only [decide_eq_true_eq, decide_eq_false_iff_not, Bool.not_eq_true', Bool.not_eq_false', Option.isNone_iff_eq_none, ne_eq, Decidable.not_not, Int.not_lt, Int.not_le] at p123
           refine T_skip ?_
           refine X_then ?_
           refine T_seq ?_
           refine T_region ?_
           refine TL_q (Qt_move (.pointer _) rfl) rfl ?_
           refine TL_q (Qt_nilCheck rfl) rfl ?_
           refine TL_q (Qt_fieldAddr 7 rfl rfl) rfl ?_
           refine TL_n (Ef_store1 (.bool _) rfl rfl (?_))
           refine TL_nil ?_
           refine X_then ?_
           refine T_seq ?_
           refine T_drawF (blk b7 (.cells (replyG x16.1.body.l).2.cells 31 (0, 0)) :: H) (by kernel_rfl) (Subs.st inferInstance) ?_
           refine DLF_q (i := 0) (by kernel_rfl) rfl (by kernel_rfl) (by kernel_rfl) (Qt_move (.pointer _) rfl) rfl ?_
           refine DLF_q (i := 1) (by kernel_rfl) rfl (by kernel_rfl) (by kernel_rfl) (Qt_move (.pointer _) rfl) rfl ?_
           refine DLF_q (i := 2) (by kernel_rfl) rfl (by kernel_rfl) (by kernel_rfl) (Qt_nilCheck rfl) rfl ?_
           refine DLF_q (i := 3) (by kernel_rfl) rfl (by kernel_rfl) (by kernel_rfl) (Qt_fieldAddr 6 rfl rfl) rfl ?_
           refine DLF_q (i := 5) (by kernel_rfl) rfl (by kernel_rfl) (by kernel_rfl) (Qt_loadN rfl rfl) rfl ?_
           refine DLF_2 (i := 4) (j := 6) (by kernel_rfl) ?_ ?_
           ·
            refine DLS_e rfl rfl (Ef_of_Qt (Qt_load1 rfl) ⟨(Subs.st inferInstance), ?_⟩)
            refine DLF_1 (i := 6) (by kernel_rfl) ?_
            refine DLS_e rfl rfl (Ef_sliceN (m := ([(replyG x16.1.body.l).2] : List ReplyV).length) [.agg (replyG x16.1.body.l).2.cells] (([(replyG x16.1.body.l).2] : List ReplyV).flatMap ReplyV.list) rfl rfl rfl (by rfl) (by simp [Value.cells, ReplyV.size]) rfl rfl (fun a134 c134 => ⟨(Subs.st inferInstance), ?_⟩))
            refine DLF_1 (i := 7) (by kernel_rfl) ?_
            refine DLS_e rfl rfl (Ef_appendS ReplyV.list (sv := .slice _ _ _) (xv := .slice _ _ _) (xs := got) (ys := [(replyG x16.1.body.l).2]) ReplyV.list_len ReplyV.list_one rfl rfl (by simp; omega) rfl rfl (fun a135 c135 => ⟨(Subs.st inferInstance), ?_⟩))
            refine DLF_q (i := 8) (by kernel_rfl) rfl (by kernel_rfl) (by kernel_rfl) (Qt_nilCheck rfl) rfl ?_
            refine DLF_q (i := 9) (by kernel_rfl) rfl (by kernel_rfl) (by kernel_rfl) (Qt_fieldAddr 6 rfl rfl) rfl ?_
            refine DLF_1 (i := 10) (by kernel_rfl) ?_
            refine DLS_n rfl (Ef_store1 (.slice _ _ _) rfl rfl (⟨(Subs.st inferInstance), ?_⟩))
            refine DLF_nil (by kernel_rfl) ?_
            refine X_then ?_
            refine T_seq ?_
            refine T_region ?_
            refine TL_q (Qt_loadN rfl rfl) rfl ?_
            refine TL_n (Ef_storeN rfl rfl (?_))
            refine TL_q (Qt_assign (.int .i64 _) rfl) rfl ?_
            refine TL_nil ?_
            refine X_then ?_
            refine T_ret ?_
            have hck : chkR (ls.map BS.l) id nq waits says l = 0 := by
             unfold chkR
             rw [if_neg (by simpa using p19), if_neg (by rw [← hkd]; simpa using p26), if_neg (by rw [← hbd]; simpa using p36), if_neg (by rw [← hrep]; simpa using p45), if_neg (by rw [← hrep]; first | (simp_all; done) | (simp_all; omega)), if_neg (by rw [← hrep, ← hsl2]; simpa using p68), if_neg (by rintro ⟨s, hs, he⟩; exact hno s (by rw [hkn, List.take_length]; exact hs) (he.trans hfr.symm))]
            rw [hkn, List.take_length] at p123
            exact X_ret (⟨0, (replyG x16.1.body.l).2, says ++ [(SaidV.mk x16.1.frm (replyG x16.1.body.l).2)], a115, c115, got ++ [(replyG x16.1.body.l).2], a135, c135, false⟩ : RTk) [_, _] Try.results34 ⟨⟨_, rfl, res_cellN rfl⟩, rfl, trivial⟩ rfl (fun w hw => (Subs.st inferInstance w hw : St w0 (blk q (.cells (RClientV.mk (KeysV.mk ⟨sa, sc, ls⟩ rt) id need ⟨qa, nq, qc⟩ ⟨a115, (says ++ [(SaidV.mk x16.1.frm (replyG x16.1.body.l).2)]).length, c115⟩ ⟨a135, (got ++ [(replyG x16.1.body.l).2]).length, c135⟩ false).cells 83 (0, 0)) :: row (.slice a115 (says ++ [(SaidV.mk x16.1.frm (replyG x16.1.body.l).2)]).length c115) 91 6 ((says ++ [(SaidV.mk x16.1.frm (replyG x16.1.body.l).2)]).flatMap SaidV.list) :: row (.slice a135 (got ++ [(replyG x16.1.body.l).2]).length c135) 31 5 ((got ++ [(replyG x16.1.body.l).2]).flatMap ReplyV.list) :: H) w).addPure ⟨fun h => absurd hck h, fun _ => ⟨by rw [← hrep, ← hfr], fun hlt => absurd hlt (by rw [← hrep]; omega)⟩, by simp, by simp⟩)
           ·
            refine DLS_e rfl rfl (Ef_sliceN (m := ([(replyG x16.1.body.l).2] : List ReplyV).length) [.agg (replyG x16.1.body.l).2.cells] (([(replyG x16.1.body.l).2] : List ReplyV).flatMap ReplyV.list) rfl rfl rfl (by rfl) (by simp [Value.cells, ReplyV.size]) rfl rfl (fun a134 c134 => ⟨(Subs.st inferInstance), ?_⟩))
            refine DLF_1 (i := 4) (by kernel_rfl) ?_
            refine DLS_e rfl rfl (Ef_of_Qt (Qt_load1 rfl) ⟨(Subs.st inferInstance), ?_⟩)
            refine DLF_1 (i := 7) (by kernel_rfl) ?_
            refine DLS_e rfl rfl (Ef_appendS ReplyV.list (sv := .slice _ _ _) (xv := .slice _ _ _) (xs := got) (ys := [(replyG x16.1.body.l).2]) ReplyV.list_len ReplyV.list_one rfl rfl (by simp; omega) rfl rfl (fun a135 c135 => ⟨(Subs.st inferInstance), ?_⟩))
            refine DLF_q (i := 8) (by kernel_rfl) rfl (by kernel_rfl) (by kernel_rfl) (Qt_nilCheck rfl) rfl ?_
            refine DLF_q (i := 9) (by kernel_rfl) rfl (by kernel_rfl) (by kernel_rfl) (Qt_fieldAddr 6 rfl rfl) rfl ?_
            refine DLF_1 (i := 10) (by kernel_rfl) ?_
            refine DLS_n rfl (Ef_store1 (.slice _ _ _) rfl rfl (⟨(Subs.st inferInstance), ?_⟩))
            refine DLF_nil (by kernel_rfl) ?_
            refine X_then ?_
            refine T_seq ?_
            refine T_region ?_
            refine TL_q (Qt_loadN rfl rfl) rfl ?_
            refine TL_n (Ef_storeN rfl rfl (?_))
            refine TL_q (Qt_assign (.int .i64 _) rfl) rfl ?_
            refine TL_nil ?_
            refine X_then ?_
            refine T_ret ?_
            have hck : chkR (ls.map BS.l) id nq waits says l = 0 := by
             unfold chkR
             rw [if_neg (by simpa using p19), if_neg (by rw [← hkd]; simpa using p26), if_neg (by rw [← hbd]; simpa using p36), if_neg (by rw [← hrep]; simpa using p45), if_neg (by rw [← hrep]; first | (simp_all; done) | (simp_all; omega)), if_neg (by rw [← hrep, ← hsl2]; simpa using p68), if_neg (by rintro ⟨s, hs, he⟩; exact hno s (by rw [hkn, List.take_length]; exact hs) (he.trans hfr.symm))]
            rw [hkn, List.take_length] at p123
            exact X_ret (⟨0, (replyG x16.1.body.l).2, says ++ [(SaidV.mk x16.1.frm (replyG x16.1.body.l).2)], a115, c115, got ++ [(replyG x16.1.body.l).2], a135, c135, false⟩ : RTk) [_, _] Try.results34 ⟨⟨_, rfl, res_cellN rfl⟩, rfl, trivial⟩ rfl (fun w hw => (Subs.st inferInstance w hw : St w0 (blk q (.cells (RClientV.mk (KeysV.mk ⟨sa, sc, ls⟩ rt) id need ⟨qa, nq, qc⟩ ⟨a115, (says ++ [(SaidV.mk x16.1.frm (replyG x16.1.body.l).2)]).length, c115⟩ ⟨a135, (got ++ [(replyG x16.1.body.l).2]).length, c135⟩ false).cells 83 (0, 0)) :: row (.slice a115 (says ++ [(SaidV.mk x16.1.frm (replyG x16.1.body.l).2)]).length c115) 91 6 ((says ++ [(SaidV.mk x16.1.frm (replyG x16.1.body.l).2)]).flatMap SaidV.list) :: row (.slice a135 (got ++ [(replyG x16.1.body.l).2]).length c135) 31 5 ((got ++ [(replyG x16.1.body.l).2]).flatMap ReplyV.list) :: H) w).addPure ⟨fun h => absurd hck h, fun _ => ⟨by rw [← hrep, ← hfr], fun hlt => absurd hlt (by rw [← hrep]; omega)⟩, by simp, by simp⟩)
end
section
open Go.RowKit Go.Sx
set_option maxRecDepth 100000
set_option linter.unusedSimpArgs false
set_option linter.unusedVariables false
def needN (n : Int) : Int := 1 + n % 5
theorem needN_pos (n : Int) : 1 ≤ needN n ∧ needN n ≤ 5 := by unfold needN; omega
theorem bit_q {x f : Nat} : x / 2 ^ f % 2 ≠ 0 ↔ x.testBit f = true := by
 rw [Nat.testBit_eq_decide_div_mod_eq, decide_eq_true_eq]; omega
theorem filter_one {p : Nat → Bool} {f : Nat} : ∀ {l : List Nat}, l.Nodup → f ∈ l → p f = false → (l.filter fun i => p i || decide (f = i)).length = (l.filter p).length + 1
 | [], _, h, _ => by cases h
 | x :: l, hn, hm, hp => by
  obtain ⟨hx, hn⟩ := List.nodup_cons.1 hn
  by_cases he : f = x
  · subst he
    have hs : l.filter (fun i => p i || decide (f = i)) = l.filter p := List.filter_congr fun i hi => by
     have : f ≠ i := fun h => hx (h ▸ hi)
     simp [this]
    rw [List.filter_cons_of_pos (by simp), List.filter_cons_of_neg (by simp [hp]), hs, List.length_cons]
  · have hm2 : f ∈ l := by
     rcases List.mem_cons.1 hm with h | h
     · exact absurd h he
     · exact h
    have ih := filter_one hn hm2 hp
    by_cases hpx : p x = true
    · rw [List.filter_cons_of_pos (by simp [hpx]), List.filter_cons_of_pos hpx, List.length_cons, List.length_cons, ih]
    · rw [List.filter_cons_of_neg (by simp [he, hpx]), List.filter_cons_of_neg hpx, ih]
theorem ones_add {v f : Nat} (hv : v < 65536) (hf : f < 16) (h : ¬ v / 2 ^ f % 2 ≠ 0) : ones16 (v ||| 2 ^ f) = ones16 v + 1 := by
 have h2f : 2 ^ f < 65536 := Nat.pow_lt_pow_right (by decide) hf
 rw [ones16_mem (Nat.or_lt_two_pow (n := 16) hv h2f), ones16_mem hv]
 unfold memK
 rw [show (fun i => (v ||| 2 ^ f).testBit i) = fun i => v.testBit i || decide (f = i) from funext fun i => by rw [Nat.testBit_or, Nat.testBit_two_pow]]
 exact filter_one List.nodup_range (List.mem_range.2 hf) (by rw [bit_q] at h; simpa using h)
/-- Who said what, told by bits and told by a list. -/
structure SayInv (need : Int) (who : Nat) (es : List (Ent ReplyV Nat)) (says : List SaidV) : Prop where
 whoB : ∀ f : Nat, f < 16 → (who / 2 ^ f % 2 ≠ 0 ↔ ∃ s ∈ says, s.frm = (f : Int))
 bit : ∀ key (f : Nat), f < 16 → ((getE es key).getD 0) / 2 ^ f % 2 ≠ 0 → ∃ s ∈ says, s.frm = (f : Int)
 cnt : ∀ key, ones16 ((getE es key).getD 0) = cntS says key
 less : ∀ key, (cntS says key : Int) < need
 small : ∀ key, (getE es key).getD 0 < 65536
theorem cnt_app (says : List SaidV) (x : SaidV) (r : ReplyV) : cntS (says ++ [x]) r = cntS says r + (if x.r = r then 1 else 0) := by
 unfold cntS
 rw [List.filter_append, List.length_append]
 by_cases h : x.r = r <;> simp [h]
theorem chk_eq {K : List (List UInt8)} {id : Int} {n who : Nat} {waits : Bool} {says : List SaidV} {l : List UInt8} (h : ∀ f : Nat, f < 16 → (who / 2 ^ f % 2 ≠ 0 ↔ ∃ s ∈ says, s.frm = (f : Int))) : chkR K id n waits says l = chkC K id n waits who l := by
 unfold chkR chkC
 by_cases h0 : (openK K l).1 ≠ 0
 · rw [if_pos h0, if_pos h0]
 · rw [if_neg h0, if_neg h0]
   have hfm := (formedM_iff _).1 (openK_formed (show (openK K l).1 = 0 by omega))
   have hf : frmC K l < 16 := by unfold frmC; omega
   have he : ((frmC K l : Nat) : Int) = (openK K l).2.frm := by unfold frmC; omega
   have hb := h _ hf
   rw [he] at hb
   simp only [hb]
theorem chkC_open {K : List (List UInt8)} {id : Int} {n who : Nat} {waits : Bool} {l : List UInt8} (h : chkC K id n waits who l = 0) : (openK K l).1 = 0 ∧ ¬ who / 2 ^ frmC K l % 2 ≠ 0 := by
 unfold chkC at h
 repeat' (split at h)
 all_goals first | (exact absurd h (by decide)) | skip
 all_goals first | (rename_i h0; exact absurd h h0) | skip
 all_goals first | (rename_i h0 _; exact absurd h h0) | skip
 rename_i a b c d e f g
 exact ⟨by omega, g⟩
theorem need_step {K : List (List UInt8)} {need : Int} {who : Nat} {es : List (Ent ReplyV Nat)} {says : List SaidV} {rg : List ReplyV} {l : List UInt8} {y : TkY} {z : RTk} (hI : SayInv need who es says)
 (h : TakeC K 1 need 1 true who es [] l y) (h2 : RTakeR K 1 need 1 true says rg l z) :
 (y.e ≠ 0 → SayInv need y.who y.es z.says ∧ y.waits = true ∧ y.got = [] ∧ z.waits = true) ∧ (y.e = 0 → (cntS z.says y.r : Int) = need ∧ y.waits = false ∧ y.got.length = 1) := by
 have hce : chkR K 1 1 true says l = chkC K 1 1 true who l := chk_eq hI.whoB
 obtain ⟨hg, h1, hk⟩ := h
 obtain ⟨h21, h22, -, -⟩ := h2
 rw [hce] at h21 h22
 by_cases hc : chkC K 1 1 true who l = 0
 · obtain ⟨ho, hw⟩ := chkC_open hc
   have hfm := (formedM_iff _).1 (openK_formed ho)
   have hf : frmC K l < 16 := by unfold frmC; omega
   have he : ((frmC K l : Nat) : Int) = (openK K l).2.frm := by unfold frmC; omega
   obtain ⟨hw2, hes, ha, hb⟩ := hk hc
   obtain ⟨hs, hz⟩ := h22 hc
   have hnof : ¬ ∃ s ∈ says, s.frm = ((frmC K l : Nat) : Int) := fun hx => hw ((hI.whoB _ hf).2 hx)
   have hfresh : ∀ key, ¬ ((getE es key).getD 0) / 2 ^ frmC K l % 2 ≠ 0 := fun key hx => hnof (hI.bit key _ hf hx)
   have hone := ones_add (hI.small (repC K l)) hf (hfresh (repC K l))
   have hnew : ∀ key, ones16 ((getE y.es key).getD 0) = cntS z.says key := fun key => by
    rw [hes, hs, cnt_app]
    by_cases hke : key = repC K l
    · subst hke; rw [if_pos rfl, if_pos rfl, hone, hI.cnt]
    · rw [if_neg hke, if_neg (fun h => hke h.symm), hI.cnt]; omega
   have hcr : ((cntS z.says (repC K l) : Nat) : Int) = (cntS says (repC K l) : Int) + 1 := by rw [hs, cnt_app, if_pos rfl]; omega
   have hold : ones16 ((getE es (repC K l)).getD 0 ||| 2 ^ frmC K l) = cntS says (repC K l) + 1 := by rw [hone, hI.cnt]
   have hless := hI.less (repC K l)
   rw [hold] at ha hb
   refine ⟨fun hne => ?_, fun h0 => ?_⟩
   · by_cases hlt : ((cntS says (repC K l) + 1 : Nat) : Int) < need
     · obtain ⟨-, -, hwt, hgt⟩ := ha hlt
       refine ⟨⟨fun g hg16 => ?_, fun key g hg16 => ?_, hnew, fun key => ?_, fun key => ?_⟩, hwt, hgt, hz (by omega)⟩
       · have hwg := hI.whoB g hg16
         rw [bit_q] at hwg
         rw [hw2, bit_q, Nat.testBit_or, Nat.testBit_two_pow, Bool.or_eq_true, hwg, hs]
         simp only [List.mem_append, List.mem_singleton, decide_eq_true_eq]
         constructor
         · rintro (⟨s, h1, h2⟩ | rfl)
           · exact ⟨s, .inl h1, h2⟩
           · exact ⟨_, .inr rfl, he.symm⟩
         · rintro ⟨s, h1 | rfl, h2⟩
           · exact .inl ⟨s, h1, h2⟩
           · exact .inr (by have : ((frmC K l : Nat) : Int) = (g : Int) := he.trans h2; omega)
       · intro hb2
         rw [hes] at hb2
         rw [hs]
         by_cases hke : key = repC K l
         · rw [if_pos hke, bit_q, Nat.testBit_or, Nat.testBit_two_pow, Bool.or_eq_true, ← bit_q] at hb2
           rcases hb2 with hb2 | hb2
           · obtain ⟨s, h1, h2⟩ := hI.bit _ g hg16 hb2
             exact ⟨s, by simp [h1], h2⟩
           · have hfg : frmC K l = g := of_decide_eq_true hb2
             exact ⟨⟨(openK K l).2.frm, repC K l⟩, by simp, by rw [← hfg]; exact he.symm⟩
         · rw [if_neg hke] at hb2
           obtain ⟨s, h1, h2⟩ := hI.bit _ g hg16 hb2
           exact ⟨s, by simp [h1], h2⟩
       · by_cases hke : key = repC K l
         · subst hke; omega
         · have := hI.less key
           rw [hs, cnt_app, if_neg (fun h => hke h.symm)]; omega
       · rw [hes]
         split
         · exact Nat.or_lt_two_pow (n := 16) (hI.small _) (Nat.pow_lt_pow_right (by decide) hf)
         · exact hI.small _
     · exact absurd (hb (by omega)).1 hne
   · by_cases hlt : ((cntS says (repC K l) + 1 : Nat) : Int) < need
     · exact absurd (h0.symm.trans (ha hlt).1) (by decide)
     · obtain ⟨-, hr, hwt, hgt⟩ := hb (by omega)
       rw [hr, hgt]
       exact ⟨by omega, hwt, rfl⟩
 · obtain ⟨he, -, hwt, hwho, hes, hgt⟩ := h1 hc
   obtain ⟨hs, hz⟩ := h21 hc
   refine ⟨fun _ => ⟨?_, hwt, hgt, hz⟩, fun h0 => absurd (he.symm.trans h0) hc⟩
   rw [hwho, hes, hs]; exact hI
theorem SayInv.nil {need : Int} (h : 1 ≤ need) : SayInv need 0 [] [] := ⟨fun f _ => by simp, fun key f _ hb => by simp [getE] at hb, fun key => by
 simp only [getE, List.find?_nil, Option.map_none, Option.getD_none, cntS, List.filter_nil, List.length_nil]; decide +kernel, fun key => by simp [cntS]; omega, fun key => by simp [getE]⟩
attribute [local irreducible] openK sealK replyB chkC repC frmC ones16 replyG chkR
set_option maxHeartbeats 1000000 in
theorem waits_c {w0 : World} {H : List SA} {p m : Nat} {id : Int} {waits : Bool} {sa : Option Addr} {sc : Nat} {ls : List BS} {rt : Sl} {seed : Vector UInt8 32} {need : Int} {aa : Option Addr} {ac : Nat} {asked : List ReqV} {fs : List Nat} {ga : Option Addr} {gc : Nat} {got : List ReplyV} {who : Nat} {es : List (Ent ReplyV Nat)} {c : Nat} :
 CT Try.prog w0 (blk p (.cells (ClientV.mk (KeysV.mk ⟨sa, sc, ls⟩ rt) id seed need ⟨aa, (asked).length, ac⟩ ⟨ga, (got).length, gc⟩ waits ((who : Nat) : Int) (some m)).cells 141 (0, 0)) :: row (.slice aa (asked).length ac) 85 7 ((asked).flatMap ReqV.list) :: dat fs ⟨(asked).map ReqV.sig, [], []⟩ :: row (.slice ga (got).length gc) 31 5 ((got).flatMap ReplyV.list) :: blk m (mapO encR encW es c) :: H) 32 [.pointer (some ⟨p, 0, none⟩)] (α := Unit) (fun _ => .bool waits) (fun _ => blk p (.cells (ClientV.mk (KeysV.mk ⟨sa, sc, ls⟩ rt) id seed need ⟨aa, (asked).length, ac⟩ ⟨ga, (got).length, gc⟩ waits ((who : Nat) : Int) (some m)).cells 141 (0, 0)) :: row (.slice aa (asked).length ac) 85 7 ((asked).flatMap ReqV.list) :: dat fs ⟨(asked).map ReqV.sig, [], []⟩ :: row (.slice ga (got).length gc) 31 5 ((got).flatMap ReplyV.list) :: blk m (mapO encR encW es c) :: H) := by
 refine CT_intro Try.func32 rfl Try.ntmps32 rfl ?_
 refine T_seq ?_
 refine T_region ?_
 refine TL_q (Qt_assign (.bool _) rfl) rfl ?_
 refine TL_nil ?_
 refine X_then ?_
 refine T_seq ?_
 refine T_region ?_
 refine TL_q (Qt_move (.pointer _) rfl) rfl ?_
 refine TL_q (Qt_ptr_not_nil rfl rfl Try.underlying67) rfl ?_
 refine TL_q (Qt_move (.bool _) rfl) rfl ?_
 refine TL_split 5 rfl (fun h5 => ?_) (fun h5 => ?_)
 ·
  have p5 := h5
  try simp only [decide_eq_true_eq, decide_eq_false_iff_not, Bool.not_eq_true', Bool.not_eq_false', Option.isNone_iff_eq_none, ne_eq, Decidable.not_not, Int.not_lt, Int.not_le] at p5
  refine TL_take rfl rfl h5 ?_
  refine TL_q (Qt_move (.pointer _) rfl) rfl ?_
  refine TL_take rfl rfl h5 ?_
  refine TL_q (Qt_nilCheck rfl) rfl ?_
  refine TL_take rfl rfl h5 ?_
  refine TL_q (Qt_fieldAddr 38 rfl rfl) rfl ?_
  refine TL_take rfl rfl h5 ?_
  refine TL_q (Qt_load1 rfl) rfl ?_
  refine TL_q (Qt_pick_t (.bool _) rfl h5 rfl) rfl ?_
  refine TL_q (Qt_assign (.bool _) rfl) rfl ?_
  refine TL_nil ?_
  refine X_then ?_
  refine T_ret ?_
  exact X_ret () [_] Try.results32 ⟨rfl, trivial⟩ rfl (Subs.st inferInstance)
 ·
  have p5 := h5
  try simp only [decide_eq_true_eq, decide_eq_false_iff_not, Bool.not_eq_true', Bool.not_eq_false', Option.isNone_iff_eq_none, ne_eq, Decidable.not_not, Int.not_lt, Int.not_le] at p5
  simp at h5
theorem cells_none0 {w : World} {n c sz : Nat} {xs : List Value} (h : CellsAt w (.slice none n c) sz xs) : xs = [] := by
 obtain ⟨a', n', c', hv, -, -, -, hx⟩ := h
 obtain ⟨rfl, -, -⟩ : a' = none ∧ n' = n ∧ c' = c := by simp at hv; exact ⟨hv.1.symm, hv.2.1.symm, hv.2.2.symm⟩
 by_cases h0 : 0 < xs.length
 · obtain ⟨b, o, h1, -⟩ := hx h0; cases h1
 · exact List.eq_nil_of_length_eq_zero (by omega)
set_option maxHeartbeats 1000000 in
theorem rpclone_c {w0 : World} {H : List SA} {a : Option Addr} {l : List ReplyV} {c : Nat} [hr : RdC w0 H (.slice a l.length c) 5 (l.flatMap ReplyV.list)] (hl : l.length ≤ 1000000) :
 CT Try.prog w0 (H) 67 [.slice a l.length c] (α := AC) (fun x => .slice x.a l.length x.c) (fun x => row (.slice x.a l.length x.c) 31 5 (l.flatMap ReplyV.list) :: H) := by
 refine CT_intro Try.func67 rfl Try.ntmps67 rfl ?_
 refine T_seq ?_
 refine T_region ?_
 refine TL_q (Qt_assign (.slice _ _ _) rfl) rfl ?_
 refine TL_nil ?_
 refine X_then ?_
 refine T_seq ?_
 refine T_seq ?_
 refine T_region ?_
 refine TL_q (Qt_move (.slice _ _ _) rfl) rfl ?_
 refine TL_q (Qt_slice_nil rfl rfl Try.underlying77) rfl ?_
 refine TL_nil ?_
 refine X_then ?_
 refine T_cond rfl (fun h4 => ?_) (fun h4 => ?_)
 ·
  have p4 := h4
  try simp only [decide_eq_true_eq, decide_eq_false_iff_not, Bool.not_eq_true', Bool.not_eq_false', Option.isNone_iff_eq_none, ne_eq, Decidable.not_not, Int.not_lt, Int.not_le] at p4
  refine T_seq ?_
  refine T_region ?_
  refine TL_q (Qt_assign (.slice _ _ _) rfl) rfl ?_
  refine TL_nil ?_
  refine X_then ?_
  refine T_ret ?_
  refine X_then_ret ?_
  subst p4
  refine X_know (fun w hw => cells_none0 (hr.rd w hw)) (fun hnil => ?_)
  have hl0 : l = [] := by
   cases l with
   | nil => rfl
   | cons x l => exact absurd hnil (by simp [List.flatMap_cons, ReplyV.list])
  subst hl0
  exact X_ret ⟨none, 0⟩ [.slice none 0 0] Try.results67 ⟨rfl, trivial⟩ rfl (fun w hw => hw.addNil 31 5)
 ·
  have p4 := h4
  try simp only [decide_eq_true_eq, decide_eq_false_iff_not, Bool.not_eq_true', Bool.not_eq_false', Option.isNone_iff_eq_none, ne_eq, Decidable.not_not, Int.not_lt, Int.not_le] at p4
  refine T_skip ?_
  refine X_then ?_
  refine T_seq ?_
  refine T_region ?_
  refine TL_e rfl (Ef_slice0 (fun a5 c5 => ?_))
  refine TL_q (Qt_move (.slice _ _ _) rfl) rfl ?_
  refine TL_e rfl (Ef_appendS ReplyV.list (sv := .slice _ _ _) (xv := .slice _ _ _) (xs := []) (ys := l) ReplyV.list_len ReplyV.list_one rfl rfl (by simp; omega) rfl rfl (fun a7 c7 => ?_))
  simp only [List.nil_append]
  refine TL_q (Qt_assign (.slice _ _ _) rfl) rfl ?_
  refine TL_nil ?_
  refine X_then ?_
  refine T_ret ?_
  exact X_ret ⟨a7, c7⟩ [_] Try.results67 ⟨rfl, trivial⟩ rfl (Subs.st inferInstance)
set_option maxHeartbeats 1000000 in
theorem got_c {w0 : World} {H : List SA} {p m : Nat} {id : Int} {waits : Bool} {sa : Option Addr} {sc : Nat} {ls : List BS} {rt : Sl} {seed : Vector UInt8 32} {need : Int} {aa : Option Addr} {ac : Nat} {asked : List ReqV} {fs : List Nat} {ga : Option Addr} {gc : Nat} {got : List ReplyV} {who : Nat} {es : List (Ent ReplyV Nat)} {c : Nat} (hgl : got.length ≤ 1000) :
 CT Try.prog w0 (blk p (.cells (ClientV.mk (KeysV.mk ⟨sa, sc, ls⟩ rt) id seed need ⟨aa, (asked).length, ac⟩ ⟨ga, (got).length, gc⟩ waits ((who : Nat) : Int) (some m)).cells 141 (0, 0)) :: row (.slice aa (asked).length ac) 85 7 ((asked).flatMap ReqV.list) :: dat fs ⟨(asked).map ReqV.sig, [], []⟩ :: row (.slice ga (got).length gc) 31 5 ((got).flatMap ReplyV.list) :: blk m (mapO encR encW es c) :: H) 31 [.pointer (some ⟨p, 0, none⟩)] (α := AC) (fun y => .slice y.a got.length y.c) (fun y => row (.slice y.a got.length y.c) 31 5 (got.flatMap ReplyV.list) :: blk p (.cells (ClientV.mk (KeysV.mk ⟨sa, sc, ls⟩ rt) id seed need ⟨aa, (asked).length, ac⟩ ⟨ga, (got).length, gc⟩ waits ((who : Nat) : Int) (some m)).cells 141 (0, 0)) :: row (.slice aa (asked).length ac) 85 7 ((asked).flatMap ReqV.list) :: dat fs ⟨(asked).map ReqV.sig, [], []⟩ :: row (.slice ga (got).length gc) 31 5 ((got).flatMap ReplyV.list) :: blk m (mapO encR encW es c) :: H) := by
 refine CT_intro Try.func31 rfl Try.ntmps31 rfl ?_
 refine T_seq ?_
 refine T_region ?_
 refine TL_q (Qt_assign (.slice _ _ _) rfl) rfl ?_
 refine TL_nil ?_
 refine X_then ?_
 refine T_seq ?_
 refine T_seq ?_
 refine T_region ?_
 refine TL_q (Qt_move (.pointer _) rfl) rfl ?_
 refine TL_q (Qt_ptr_nil rfl rfl Try.underlying67) rfl ?_
 refine TL_nil ?_
 refine X_then ?_
 refine T_cond_false rfl (by first | rfl | decide) ?_
 refine T_skip ?_
 refine X_then ?_
 refine T_seq ?_
 refine T_region ?_
 refine TL_q (Qt_move (.pointer _) rfl) rfl ?_
 refine TL_q (Qt_nilCheck rfl) rfl ?_
 refine TL_q (Qt_fieldAddr 37 rfl rfl) rfl ?_
 refine TL_q (Qt_load1 rfl) rfl ?_
 refine TL_e rfl (Ef_call (rpclone_c (l := got) (by omega)) rfl (fun x9 => ?_))
 refine TL_q (Qt_assign (.slice _ _ _) rfl) rfl ?_
 refine TL_nil ?_
 refine X_then ?_
 refine T_ret ?_
 exact X_ret x9 [_] Try.results31 ⟨rfl, trivial⟩ rfl (Subs.st inferInstance)
set_option maxHeartbeats 1000000 in
theorem clientNeeds_c {w0 : World} {H : List SA} {need : Int} (hnd : 0 ≤ need ∧ need < 256) {pa : Option Addr} {pc : Nat} {ps : List BS} [pk : RdC w0 H (.slice pa ps.length pc) 1 (ps.map BS.val)] [pke : RdE w0 H ps] :
 CT Try.prog w0 (H) 7 [.int .u8 need, .slice pa ps.length pc] (α := Unit) (fun _ => .bool true) (fun _ => H) := by
 refine CT_intro Try.func7 rfl Try.ntmps7 rfl ?_
 refine T_seq ?_
 refine T_region ?_
 refine TL_q (Qt_assign (.bool _) rfl) rfl ?_
 refine TL_nil ?_
 refine X_then ?_
 refine T_seq ?_
 refine T_seq ?_
 refine T_region ?_
 refine TL_e rfl (Ef_call (wakes24_c) rfl (fun x15 => ?_))
 refine TL_q (Qt_not rfl) rfl ?_
 refine TL_nil ?_
 refine X_then ?_
 refine T_cond_false rfl (by first | rfl | decide) ?_
 refine T_skip ?_
 refine X_then ?_
 refine T_seq ?_
 refine T_seq ?_
 refine T_region ?_
 refine TL_q (Qt_move (.slice _ _ _) rfl) rfl ?_
 refine TL_q (Qt_len_slice rfl Try.underlying38) rfl ?_
 refine TL_q (Qt_gtr rfl rfl) rfl ?_
 refine TL_nil ?_
 refine X_then ?_
 refine T_cond rfl (fun h19 => ?_) (fun h19 => ?_)
 ·
  have p19 := h19
  try simp only [decide_eq_true_eq, decide_eq_false_iff_not, Bool.not_eq_true', Bool.not_eq_false', Option.isNone_iff_eq_none, ne_eq, Decidable.not_not, Int.not_lt, Int.not_le] at p19
  refine T_seq ?_
  refine T_region ?_
  refine TL_q (Qt_assign (.bool _) rfl) rfl ?_
  refine TL_nil ?_
  refine X_then ?_
  refine T_ret ?_
  refine X_then_ret ?_
  exact X_ret () [.bool true] Try.results7 ⟨rfl, trivial⟩ rfl (Subs.st inferInstance)
 ·
  have p19 := h19
  try simp only [decide_eq_true_eq, decide_eq_false_iff_not, Bool.not_eq_true', Bool.not_eq_false', Option.isNone_iff_eq_none, ne_eq, Decidable.not_not, Int.not_lt, Int.not_le] at p19
  have hp40 : ps.length ≤ 40 := by omega
  refine T_skip ?_
  refine X_then ?_
  refine T_seq ?_
  refine T_region ?_
  refine TL_q (Qt_move (.int .u8 _) rfl) rfl ?_
  refine TL_q (Qt_conv_i64 rfl rfl Try.underlying3 (by omega) (by omega)) rfl ?_
  refine TL_q (Qt_val (Qt_rem rfl rfl (by decide)) (congrArg (Value.int .i64) (show need.tmod 5 = need % 5 from Int.tmod_eq_emod_of_nonneg hnd.1))) rfl ?_
  first
   | refine TL_q (Qt_add rfl rfl (by omega) (by omega)) rfl ?_
   | refine TL_q (Qt_addw rfl rfl) rfl ?_
  rw [show (1 : Int) + need % 5 = needN need from rfl]
  have hN := needN_pos need
  refine TL_q (Qt_assign (.int .i64 _) rfl) rfl ?_
  refine TL_nil ?_
  refine X_then ?_
  refine T_seq ?_
  refine T_region ?_
  refine TL_e rfl (Ef_call (table24_c) rfl (fun x24 => ?_))
  refine TL_pure (fun h24 => ?_)
  refine TL_q (Qt_build_arr (hlist (zeroV 32)).toArray Try.underlying36 rfl rfl rfl) rfl ?_
  refine TL_q (Qt_move (.int .i64 _) rfl) rfl ?_
  refine TL_e rfl (Ef_call (cnew_c (sa := x24.1.a) (sc := x24.1.c) (ls := x24.1.ls) (rt := ⟨none, 0, 0⟩) (keyT_small h24).2 (by have := (keyT_small h24).1; omega) (seed := zeroV 32) (id := 1) (need := (needN need)) (by decide) (by omega)) rfl (fun x27 => ?_))
  refine TL_pure (fun h27 => ?_)
  refine TL_q (Qt_assign (.pointer _) rfl) rfl ?_
  refine TL_nil ?_
  refine X_then ?_
  refine T_seq ?_
  refine T_region ?_
  refine TL_q (Qt_move (.pointer _) rfl) rfl ?_
  refine TL_q (Qt_build [(0, (.int .i64 _))] rfl (by kernel_rfl)) rfl ?_
  refine TL_e rfl (Ef_call (ask1_c (asked := []) (by decide) (fun r hr => by cases hr)) rfl (fun x30 => ?_))
  refine TL_pure (fun h30 => ?_)
  refine TL_nil ?_
  refine X_then ?_
  refine T_seq ?_
  refine T_region ?_
  refine TL_e rfl (Ef_call (table24_c) rfl (fun x31 => ?_))
  refine TL_pure (fun h31 => ?_)
  refine TL_q (Qt_move (.int .i64 _) rfl) rfl ?_
  refine TL_q (Qt_build [(0, (.agg _)), (1, (.int .i64 _)), (2, (.int .i64 _))] rfl (by kernel_rfl)) rfl ?_
  refine TL_e rfl (Ef_boxN rfl (fun b34 => ?_))
  refine TL_q (Qt_assign (.pointer _) rfl) rfl ?_
  refine TL_nil ?_
  refine X_then ?_
  refine T_seq ?_
  refine T_region ?_
  refine TL_q (Qt_move (.pointer _) rfl) rfl ?_
  refine TL_q (Qt_build [(0, (.int .i64 _))] rfl (by kernel_rfl)) rfl ?_
  refine TL_frontB b34 ?_
  refine TL_e rfl (Ef_call (rAsk1_c (sa := x31.1.a) (sc := x31.1.c) (ls := x31.1.ls) (rt := ⟨none, 0, 0⟩) (ga := none) (gc := 0) (got := [])) rfl (fun x37 => ?_))
  refine TL_nil ?_
  refine X_then ?_
  refine T_seq ?_
  refine T_seq ?_
  refine T_region ?_
  refine TL_q (Qt_move (.slice _ _ _) rfl) rfl ?_
  refine TL_q (Qt_len_slice rfl Try.underlying38) rfl ?_
  refine TL_q (Qt_move (.int .i64 _) rfl) rfl ?_
  refine TL_nil ?_
  refine X_then ?_
  refine T_block ?_
  refine T_loop [4, 9, 10, 11, 12, 14, 40, 41, 42, 43, 44, 45, 46, 47, 48, 49, 50, 51, 52, 53, 54, 55, 56, 57, 58, 59, 60, 61, 62, 63, 64, 65, 66, 67, 68, 69, 70, 71, 72, 73, 74, 75, 76, 77, 78, 79, 80, 81, 82, 83, 84, 85, 86, 87, 88] [40] (fun us H' => ∃ (k : Nat) (wh : Nat) (es : List (Ent ReplyV Nat)) (c : Nat) (ga : Option Addr) (gc : Nat) (ya : Option Addr) (yc : Nat) (says : List SaidV) (ra : Option Addr) (rc : Nat) (rg : List ReplyV), us = [.int .i64 (k : Int)] ∧ blk x27.1.1 (.cells (ClientV.mk (KeysV.mk ⟨x27.2.1.a, x27.2.1.c, x27.2.1.ls⟩ ⟨none, 0, 0⟩) 1 (zeroV 32) (needN need) ⟨x30.2.1.a, (x30.2.2.1).length, x30.2.1.c⟩ ⟨ga, (([] : List ReplyV)).length, gc⟩ true ((wh : Nat) : Int) (some x27.1.2)).cells 141 (0, 0)) :: row (.slice x30.2.1.a (x30.2.2.1).length x30.2.1.c) 85 7 ((x30.2.2.1).flatMap ReqV.list) :: dat x30.2.2.2 ⟨(x30.2.2.1).map ReqV.sig, [], []⟩ :: row (.slice ga (([] : List ReplyV)).length gc) 31 5 ((([] : List ReplyV)).flatMap ReplyV.list) :: blk x27.1.2 (mapO encR encW es c) :: blk b34 (.cells (RClientV.mk (KeysV.mk ⟨x31.1.a, x31.1.c, x31.1.ls⟩ ⟨none, 0, 0⟩) 1 (needN need) ⟨x37.a, 1, x37.c⟩ ⟨ya, (says).length, yc⟩ ⟨ra, (rg).length, rc⟩ true).cells 83 (0, 0)) :: row (.slice ya (says).length yc) 91 6 ((says).flatMap SaidV.list) :: row (.slice ra (rg).length rc) 31 5 ((rg).flatMap ReplyV.list) :: dat x27.2.2 (Deep.leads (PS.mk x27.2.1.a x27.2.1.c x27.2.1.ls)) :: dat x31.2 (Deep.leads x31.1) :: H = H' ∧ k ≤ ps.length ∧ (wh < 65536) ∧ (GoodM es c) ∧ (SayInv (needN need) wh es says) ∧ (says.length ≤ k) ∧ (rg.length ≤ k)) (fun us => match us with | .int _ i :: _ => ps.length - i.toNat | _ => 0) ⟨0, 0, [], 0, none, 0, none, 0, [], none, 0, [], rfl, rfl, by omega, by decide, GoodM.nil, SayInv.nil (by omega), by simp, by simp⟩ (fun w hw => by
   have h0 : St w0 (blk x27.1.1 (.cells (ClientV.mk (KeysV.mk ⟨x27.2.1.a, x27.2.1.c, x27.2.1.ls⟩ ⟨none, 0, 0⟩) 1 (zeroV 32) (needN need) ⟨x30.2.1.a, (x30.2.2.1).length, x30.2.1.c⟩ ⟨none, (([] : List ReplyV)).length, 0⟩ true ((0 : Nat) : Int) (some x27.1.2)).cells 141 (0, 0)) :: row (.slice x30.2.1.a (x30.2.2.1).length x30.2.1.c) 85 7 ((x30.2.2.1).flatMap ReqV.list) :: dat x30.2.2.2 ⟨(x30.2.2.1).map ReqV.sig, [], []⟩ :: row (.slice none (([] : List ReplyV)).length 0) 31 5 ((([] : List ReplyV)).flatMap ReplyV.list) :: blk x27.1.2 (mapO encR encW ([] : List (Ent ReplyV Nat)) 0) :: blk b34 (.cells (RClientV.mk (KeysV.mk ⟨x31.1.a, x31.1.c, x31.1.ls⟩ ⟨none, 0, 0⟩) 1 (needN need) ⟨x37.a, 1, x37.c⟩ ⟨none, (([] : List SaidV)).length, 0⟩ ⟨none, (([] : List ReplyV)).length, 0⟩ true).cells 83 (0, 0)) :: dat x27.2.2 (Deep.leads (PS.mk x27.2.1.a x27.2.1.c x27.2.1.ls)) :: dat x31.2 (Deep.leads x31.1) :: H) w := Subs.st inferInstance w hw
   have h1 : St w0 (row (.slice none (([] : List ReplyV)).length 0) 31 5 ((([] : List ReplyV)).flatMap ReplyV.list) :: row (.slice none (([] : List SaidV)).length 0) 91 6 ((([] : List SaidV)).flatMap SaidV.list) :: blk x27.1.1 (.cells (ClientV.mk (KeysV.mk ⟨x27.2.1.a, x27.2.1.c, x27.2.1.ls⟩ ⟨none, 0, 0⟩) 1 (zeroV 32) (needN need) ⟨x30.2.1.a, (x30.2.2.1).length, x30.2.1.c⟩ ⟨none, (([] : List ReplyV)).length, 0⟩ true ((0 : Nat) : Int) (some x27.1.2)).cells 141 (0, 0)) :: row (.slice x30.2.1.a (x30.2.2.1).length x30.2.1.c) 85 7 ((x30.2.2.1).flatMap ReqV.list) :: dat x30.2.2.2 ⟨(x30.2.2.1).map ReqV.sig, [], []⟩ :: row (.slice none (([] : List ReplyV)).length 0) 31 5 ((([] : List ReplyV)).flatMap ReplyV.list) :: blk x27.1.2 (mapO encR encW ([] : List (Ent ReplyV Nat)) 0) :: blk b34 (.cells (RClientV.mk (KeysV.mk ⟨x31.1.a, x31.1.c, x31.1.ls⟩ ⟨none, 0, 0⟩) 1 (needN need) ⟨x37.a, 1, x37.c⟩ ⟨none, (([] : List SaidV)).length, 0⟩ ⟨none, (([] : List ReplyV)).length, 0⟩ true).cells 83 (0, 0)) :: dat x27.2.2 (Deep.leads (PS.mk x27.2.1.a x27.2.1.c x27.2.1.ls)) :: dat x31.2 (Deep.leads x31.1) :: H) w := (h0.addNil 91 6).addNil 31 5
   exact (Subs.st inferInstance w h1 : St w0 (blk x27.1.1 (.cells (ClientV.mk (KeysV.mk ⟨x27.2.1.a, x27.2.1.c, x27.2.1.ls⟩ ⟨none, 0, 0⟩) 1 (zeroV 32) (needN need) ⟨x30.2.1.a, (x30.2.2.1).length, x30.2.1.c⟩ ⟨none, (([] : List ReplyV)).length, 0⟩ true ((0 : Nat) : Int) (some x27.1.2)).cells 141 (0, 0)) :: row (.slice x30.2.1.a (x30.2.2.1).length x30.2.1.c) 85 7 ((x30.2.2.1).flatMap ReqV.list) :: dat x30.2.2.2 ⟨(x30.2.2.1).map ReqV.sig, [], []⟩ :: row (.slice none (([] : List ReplyV)).length 0) 31 5 ((([] : List ReplyV)).flatMap ReplyV.list) :: blk x27.1.2 (mapO encR encW ([] : List (Ent ReplyV Nat)) 0) :: blk b34 (.cells (RClientV.mk (KeysV.mk ⟨x31.1.a, x31.1.c, x31.1.ls⟩ ⟨none, 0, 0⟩) 1 (needN need) ⟨x37.a, 1, x37.c⟩ ⟨none, (([] : List SaidV)).length, 0⟩ ⟨none, (([] : List ReplyV)).length, 0⟩ true).cells 83 (0, 0)) :: row (.slice none (([] : List SaidV)).length 0) 91 6 ((([] : List SaidV)).flatMap SaidV.list) :: row (.slice none (([] : List ReplyV)).length 0) 31 5 ((([] : List ReplyV)).flatMap ReplyV.list) :: dat x27.2.2 (Deep.leads (PS.mk x27.2.1.a x27.2.1.c x27.2.1.ls)) :: dat x31.2 (Deep.leads x31.1) :: H) w)) ?_
  rintro τ0 _ _  ⟨k, wh, es, c, ga, gc, ya, yc, says, ra, rc, rg, rfl, rfl, hk0, hwh, hg, hI, hsy, hrg⟩ _
  refine T_seq ?_
  refine T_region ?_
  refine TL_q (Qt_lss rfl rfl) rfl ?_
  refine TL_nil ?_
  refine X_then ?_
  refine T_seq ?_
  refine T_cond rfl (fun h41 => ?_) (fun h41 => ?_)
  ·
   have p41 := h41
   try simp only [decide_eq_true_eq, decide_eq_false_iff_not, Bool.not_eq_true', Bool.not_eq_false', Option.isNone_iff_eq_none, ne_eq, Decidable.not_not, Int.not_lt, Int.not_le] at p41
   have hk : k < ps.length := by omega
   have : RdB w0 H (.slice ps[k].a ps[k].l.length ps[k].c) ps[k].l := pke.get (List.getElem_mem hk)
   refine T_skip ?_
   refine X_then ?_
   refine T_seq ?_
   refine T_block ?_
   refine T_seq ?_
   refine T_region ?_
   refine TL_q (Qt_indexR rfl rfl (by omega) (by simp; omega)) rfl ?_
   refine TL_q (Qt_loadR (.slice _ _ _) rfl (vals_get _ _ hk)) rfl ?_
   refine TL_q (Qt_assign (.slice _ _ _) rfl) rfl ?_
   refine TL_nil ?_
   refine X_then ?_
   refine T_seq ?_
   refine T_seq ?_
   refine T_region ?_
   refine TL_q (Qt_move (.slice _ _ _) rfl) rfl ?_
   refine TL_q (Qt_len_slice rfl Try.underlying37) rfl ?_
   refine TL_q (Qt_gtr rfl rfl) rfl ?_
   refine TL_nil ?_
   refine X_then ?_
   refine T_cond rfl (fun h46 => ?_) (fun h46 => ?_)
   ·
    have p46 := h46
    try simp only [decide_eq_true_eq, decide_eq_false_iff_not, Bool.not_eq_true', Bool.not_eq_false', Option.isNone_iff_eq_none, ne_eq, Decidable.not_not, Int.not_lt, Int.not_le] at p46
    refine T_seq ?_
    refine T_region ?_
    refine TL_q (Qt_assign (.bool _) rfl) rfl ?_
    refine TL_nil ?_
    refine X_then ?_
    refine T_ret ?_
    refine X_then_ret ?_
    refine X_block_ret ?_
    refine X_then_ret ?_
    refine X_loop_ret ?_
    refine X_block_ret ?_
    refine X_then_ret ?_
    exact X_ret () [.bool true] Try.results7 ⟨rfl, trivial⟩ rfl (Subs.st inferInstance)
   ·
    have p46 := h46
    try simp only [decide_eq_true_eq, decide_eq_false_iff_not, Bool.not_eq_true', Bool.not_eq_false', Option.isNone_iff_eq_none, ne_eq, Decidable.not_not, Int.not_lt, Int.not_le] at p46
    refine T_skip ?_
    refine X_then ?_
    refine T_seq ?_
    refine T_region ?_
    refine TL_q (Qt_move (.pointer _) rfl) rfl ?_
    refine TL_q (Qt_move (.slice _ _ _) rfl) rfl ?_
    refine TL_conv (fun w hw => (Subs.st inferInstance w hw : St w0 (blk x27.1.1 (.cells (ClientV.mk (KeysV.mk ⟨x27.2.1.a, x27.2.1.c, x27.2.1.ls⟩ ⟨none, 0, 0⟩) 1 (zeroV 32) (needN need) ⟨x30.2.1.a, (x30.2.2.1).length, x30.2.1.c⟩ ⟨ga, (([] : List ReplyV)).length, gc⟩ true ((wh : Nat) : Int) (some x27.1.2)).cells 141 (0, 0)) :: row (.slice x30.2.1.a (x30.2.2.1).length x30.2.1.c) 85 7 ((x30.2.2.1).flatMap ReqV.list) :: dat x30.2.2.2 ⟨(x30.2.2.1).map ReqV.sig, [], []⟩ :: row (.slice ga (([] : List ReplyV)).length gc) 31 5 ((([] : List ReplyV)).flatMap ReplyV.list) :: blk x27.1.2 (mapO encR encW es c) :: blk b34 (.cells (RClientV.mk (KeysV.mk ⟨x31.1.a, x31.1.c, x31.1.ls⟩ ⟨none, 0, 0⟩) 1 (needN need) ⟨x37.a, 1, x37.c⟩ ⟨ya, (says).length, yc⟩ ⟨ra, (rg).length, rc⟩ true).cells 83 (0, 0)) :: row (.slice ya (says).length yc) 91 6 ((says).flatMap SaidV.list) :: row (.slice ra (rg).length rc) 31 5 ((rg).flatMap ReplyV.list) :: dat x27.2.2 (Deep.leads (PS.mk x27.2.1.a x27.2.1.c x27.2.1.ls)) :: dat x31.2 (Deep.leads x31.1) :: H) w)) ?_
    refine TL_e rfl (Ef_call (take_c (asked := x30.2.2.1) (es := es) (c := c) (who := wh) (got := []) (fun x hx => (keyT_small (h27.trans h24)).2 x hx) hg hwh hI.small (by simp) (l := ps[k].l) (by omega)) rfl (fun x50 => ?_))
    refine TL_pure (fun h50 => ?_)
    rw [h30.1, h27.trans h24] at h50
    obtain ⟨i1, i2, i3, i4, i5⟩ := h50.inv hwh hI.small
    refine TL_q (Qt_move (.tuple _) rfl) rfl ?_
    refine TL_q (Qt_extract rfl) rfl ?_
    refine TL_q (Qt_extract rfl) rfl ?_
    refine TL_e rfl (Ef_allocN (fun b10 => ?_))
    refine TL_n (Ef_storeN rfl rfl (?_))
    refine TL_q (Qt_assign (.int .i64 _) rfl) rfl ?_
    refine TL_nil ?_
    refine X_then ?_
    refine T_seq ?_
    refine T_region ?_
    refine TL_q (Qt_move (.pointer _) rfl) rfl ?_
    refine TL_q (Qt_move (.slice _ _ _) rfl) rfl ?_
    refine TL_conv (fun w hw => (Subs.st inferInstance w hw : St w0 (blk b34 (.cells (RClientV.mk (KeysV.mk ⟨x31.1.a, x31.1.c, x31.1.ls⟩ ⟨none, 0, 0⟩) 1 (needN need) ⟨x37.a, 1, x37.c⟩ ⟨ya, (says).length, yc⟩ ⟨ra, (rg).length, rc⟩ true).cells 83 (0, 0)) :: row (.slice ya (says).length yc) 91 6 ((says).flatMap SaidV.list) :: row (.slice ra (rg).length rc) 31 5 ((rg).flatMap ReplyV.list) :: blk b10 (.cells x50.r.cells 31 (0, 0)) :: blk x27.1.1 (.cells (ClientV.mk (KeysV.mk ⟨x27.2.1.a, x27.2.1.c, x27.2.1.ls⟩ ⟨none, 0, 0⟩) 1 (zeroV 32) (needN need) ⟨x30.2.1.a, (x30.2.2.1).length, x30.2.1.c⟩ ⟨x50.ga, (x50.got).length, x50.gc⟩ x50.waits ((x50.who : Nat) : Int) (some x27.1.2)).cells 141 (0, 0)) :: row (.slice x30.2.1.a (x30.2.2.1).length x30.2.1.c) 85 7 ((x30.2.2.1).flatMap ReqV.list) :: dat x30.2.2.2 ⟨(x30.2.2.1).map ReqV.sig, [], []⟩ :: row (.slice x50.ga (x50.got).length x50.gc) 31 5 ((x50.got).flatMap ReplyV.list) :: blk x27.1.2 (mapO encR encW x50.es x50.c) :: dat x27.2.2 (Deep.leads (PS.mk x27.2.1.a x27.2.1.c x27.2.1.ls)) :: dat x31.2 (Deep.leads x31.1) :: H) w)) ?_
    refine TL_e rfl (Ef_call (rTake_c (nq := 1) (says := says) (got := rg) (fun x hx => (keyT_small h31).2 x hx) (by omega) (by omega) (l := ps[k].l) (by omega)) rfl (fun x55 => ?_))
    refine TL_pure (fun h55 => ?_)
    rw [h31] at h55
    obtain ⟨s1, s2⟩ := need_step hI h50 h55
    have hz3 := h55.2.2.1
    have hz4 := h55.2.2.2
    refine TL_nil ?_
    refine X_then ?_
    refine T_seq ?_
    refine T_seq ?_
    refine T_region ?_
    refine TL_q (Qt_move (.int .i64 _) rfl) rfl ?_
    refine TL_q (Qt_neq rfl rfl) rfl ?_
    refine TL_nil ?_
    refine X_then ?_
    refine T_cond rfl (fun h57 => ?_) (fun h57 => ?_)
    ·
     have p57 := h57
     try simp only [decide_eq_true_eq, decide_eq_false_iff_not, Bool.not_eq_true', Bool.not_eq_false', Option.isNone_iff_eq_none, ne_eq, Decidable.not_not, Int.not_lt, Int.not_le] at p57
     obtain ⟨t1, t2, t3, t4⟩ := s1 p57
     refine T_exit ?_
     refine X_then_exit ?_
     refine X_block_exit ?_
     refine X_then ?_
     refine T_region ?_
     first
      | refine TL_q (Qt_add rfl rfl (by omega) (by omega)) rfl ?_
      | refine TL_q (Qt_addw rfl rfl) rfl ?_
     refine TL_q (Qt_move (.int .i64 _) rfl) rfl ?_
     refine TL_nil ?_
     apply X_loop
     case ha => exact (by repeat (first | with_reducible exact agree_refl | refine agree_upd rfl ?_ | refine agree_mix rfl ?_ | refine agree_setAll rfl ?_))
     case hI => exact ⟨k + 1, x50.who, x50.es, x50.c, x50.ga, x50.gc, x55.ya, x55.yc, x55.says, x55.ga, x55.gc, x55.got, rfl, rfl, by omega, i1, i2, t1, by omega, by omega⟩
     case hm => exact by show ps.length - (k + 1 : Int).toNat < ps.length - (k : Int).toNat; omega
     case hH => exact fun w hw => (by have h0 : St w0 (blk x27.1.1 (.cells (ClientV.mk (KeysV.mk ⟨x27.2.1.a, x27.2.1.c, x27.2.1.ls⟩ ⟨none, 0, 0⟩) 1 (zeroV 32) (needN need) ⟨x30.2.1.a, (x30.2.2.1).length, x30.2.1.c⟩ ⟨x50.ga, (x50.got).length, x50.gc⟩ x50.waits ((x50.who : Nat) : Int) (some x27.1.2)).cells 141 (0, 0)) :: row (.slice x30.2.1.a (x30.2.2.1).length x30.2.1.c) 85 7 ((x30.2.2.1).flatMap ReqV.list) :: dat x30.2.2.2 ⟨(x30.2.2.1).map ReqV.sig, [], []⟩ :: row (.slice x50.ga (x50.got).length x50.gc) 31 5 ((x50.got).flatMap ReplyV.list) :: blk x27.1.2 (mapO encR encW x50.es x50.c) :: blk b34 (.cells (RClientV.mk (KeysV.mk ⟨x31.1.a, x31.1.c, x31.1.ls⟩ ⟨none, 0, 0⟩) 1 (needN need) ⟨x37.a, 1, x37.c⟩ ⟨x55.ya, (x55.says).length, x55.yc⟩ ⟨x55.ga, (x55.got).length, x55.gc⟩ x55.waits).cells 83 (0, 0)) :: row (.slice x55.ya (x55.says).length x55.yc) 91 6 ((x55.says).flatMap SaidV.list) :: row (.slice x55.ga (x55.got).length x55.gc) 31 5 ((x55.got).flatMap ReplyV.list) :: dat x27.2.2 (Deep.leads (PS.mk x27.2.1.a x27.2.1.c x27.2.1.ls)) :: dat x31.2 (Deep.leads x31.1) :: H) w := Subs.st inferInstance w hw; rw [t2, t3, t4] at h0; exact h0)
    ·
     have p57 := h57
     try simp only [decide_eq_true_eq, decide_eq_false_iff_not, Bool.not_eq_true', Bool.not_eq_false', Option.isNone_iff_eq_none, ne_eq, Decidable.not_not, Int.not_lt, Int.not_le] at p57
     obtain ⟨t1, t2, t3⟩ := s2 p57
     refine T_skip ?_
     refine X_then ?_
     refine T_seq ?_
     refine T_region ?_
     refine TL_q (Qt_assign (.int .i64 _) rfl) rfl ?_
     refine TL_nil ?_
     refine X_then ?_
     refine T_seq ?_
     refine T_seq ?_
     refine T_region ?_
     refine TL_q (Qt_move (.pointer _) rfl) rfl ?_
     refine TL_q (Qt_nilCheck rfl) rfl ?_
     refine TL_q (Qt_fieldAddr 5 rfl rfl) rfl ?_
     refine TL_q (Qt_load1 rfl) rfl ?_
     refine TL_q (Qt_len_slice rfl Try.underlying81) rfl ?_
     refine TL_q (Qt_move (.int .i64 _) rfl) rfl ?_
     refine TL_nil ?_
     refine X_then ?_
     refine T_block ?_
     refine T_loop [12, 14, 63, 64, 65, 66, 67, 68, 69, 70, 71, 72, 73] [63, 12] (fun us H' => ∃ (j : Nat), us = [.int .i64 (j : Int), .int .i64 ((cntS (x55.says.take j) x50.r : Nat) : Int)] ∧ blk b10 (.cells x50.r.cells 31 (0, 0)) :: blk x27.1.1 (.cells (ClientV.mk (KeysV.mk ⟨x27.2.1.a, x27.2.1.c, x27.2.1.ls⟩ ⟨none, 0, 0⟩) 1 (zeroV 32) (needN need) ⟨x30.2.1.a, (x30.2.2.1).length, x30.2.1.c⟩ ⟨x50.ga, (x50.got).length, x50.gc⟩ x50.waits ((x50.who : Nat) : Int) (some x27.1.2)).cells 141 (0, 0)) :: row (.slice x30.2.1.a (x30.2.2.1).length x30.2.1.c) 85 7 ((x30.2.2.1).flatMap ReqV.list) :: dat x30.2.2.2 ⟨(x30.2.2.1).map ReqV.sig, [], []⟩ :: row (.slice x50.ga (x50.got).length x50.gc) 31 5 ((x50.got).flatMap ReplyV.list) :: blk x27.1.2 (mapO encR encW x50.es x50.c) :: blk b34 (.cells (RClientV.mk (KeysV.mk ⟨x31.1.a, x31.1.c, x31.1.ls⟩ ⟨none, 0, 0⟩) 1 (needN need) ⟨x37.a, 1, x37.c⟩ ⟨x55.ya, (x55.says).length, x55.yc⟩ ⟨x55.ga, (x55.got).length, x55.gc⟩ x55.waits).cells 83 (0, 0)) :: row (.slice x55.ya (x55.says).length x55.yc) 91 6 ((x55.says).flatMap SaidV.list) :: row (.slice x55.ga (x55.got).length x55.gc) 31 5 ((x55.got).flatMap ReplyV.list) :: dat x27.2.2 (Deep.leads (PS.mk x27.2.1.a x27.2.1.c x27.2.1.ls)) :: dat x31.2 (Deep.leads x31.1) :: H = H' ∧ j ≤ x55.says.length) (fun us => match us with | .int _ i :: _ => x55.says.length - i.toNat | _ => 0) ⟨0, rfl, rfl, by omega⟩ (Subs.st inferInstance) ?_
     rintro τ1 _ _  ⟨j, rfl, rfl, hj0⟩ _
     refine T_seq ?_
     refine T_region ?_
     refine TL_q (Qt_lss rfl rfl) rfl ?_
     refine TL_nil ?_
     refine X_then ?_
     refine T_seq ?_
     refine T_cond rfl (fun h64 => ?_) (fun h64 => ?_)
     ·
      have p64 := h64
      try simp only [decide_eq_true_eq, decide_eq_false_iff_not, Bool.not_eq_true', Bool.not_eq_false', Option.isNone_iff_eq_none, ne_eq, Decidable.not_not, Int.not_lt, Int.not_le] at p64
      have hj : j < x55.says.length := by omega
      have hcl := cnt_le x55.says x50.r j
      refine T_skip ?_
      refine X_then ?_
      refine T_seq ?_
      refine T_block ?_
      refine T_seq ?_
      refine T_region ?_
      refine TL_q (Qt_indexN rfl rfl (by omega) (by omega)) rfl ?_
      refine TL_q (Qt_val (Qt_loadRN 6 x55.says[j].list rfl (flat_slice _ 6 SaidV.list_len _ _ hj) (SaidV.list_len _) (by decide)) (show Value.agg x55.says[j].list.toArray = Value.agg x55.says[j].cells from rfl)) rfl ?_
      refine TL_e rfl (Ef_allocN (fun b14 => ?_))
      refine TL_n (Ef_storeN rfl rfl (?_))
      refine TL_nil ?_
      refine X_then ?_
      refine T_seq ?_
      refine T_region ?_
      refine TL_q (Qt_fieldAddr 1 rfl rfl) rfl ?_
      refine TL_q (Qt_loadN rfl rfl) rfl ?_
      refine TL_q (Qt_loadN rfl rfl) rfl ?_
      refine TL_q (Qt_agg_eql rfl rfl (by kernel_rfl)) rfl ?_
      refine TL_nil ?_
      refine X_then ?_
      refine T_cond rfl (fun h70 => ?_) (fun h70 => ?_)
      ·
       have p70 := h70
       try simp only [decide_eq_true_eq, decide_eq_false_iff_not, Bool.not_eq_true', Bool.not_eq_false', Option.isNone_iff_eq_none, ne_eq, Decidable.not_not, Int.not_lt, Int.not_le] at p70
       refine T_region ?_
       refine TL_q (Qt_move (.int .i64 _) rfl) rfl ?_
       first
        | refine TL_q (Qt_add rfl rfl (by omega) (by omega)) rfl ?_
        | refine TL_q (Qt_addw rfl rfl) rfl ?_
       refine TL_q (Qt_assign (.int .i64 _) rfl) rfl ?_
       refine TL_nil ?_
       refine X_block ?_
       refine X_then ?_
       refine T_region ?_
       first
        | refine TL_q (Qt_add rfl rfl (by omega) (by omega)) rfl ?_
        | refine TL_q (Qt_addw rfl rfl) rfl ?_
       refine TL_q (Qt_move (.int .i64 _) rfl) rfl ?_
       refine TL_nil ?_
       apply X_loop
       case ha => exact (by repeat (first | with_reducible exact agree_refl | refine agree_upd rfl ?_ | refine agree_mix rfl ?_ | refine agree_setAll rfl ?_))
       case hI => exact ⟨j + 1, by rw [cnt_take hj x50.r]; first | (rw [if_pos (by simpa using p70)]; show [Value.int .i64 ((j : Int) + 1), Value.int .i64 (((cntS (x55.says.take j) x50.r : Nat) : Int) + 1)] = _; simp only [Int.natCast_add, Int.natCast_one, Int.add_assoc]) | (rw [if_neg (by simpa using p70)]; rfl), rfl, by omega⟩
       case hm => exact by show x55.says.length - (j + 1 : Int).toNat < x55.says.length - (j : Int).toNat; omega
       case hH => exact (Subs.st inferInstance)
      ·
       have p70 := h70
       try simp only [decide_eq_true_eq, decide_eq_false_iff_not, Bool.not_eq_true', Bool.not_eq_false', Option.isNone_iff_eq_none, ne_eq, Decidable.not_not, Int.not_lt, Int.not_le] at p70
       refine T_skip ?_
       refine X_block ?_
       refine X_then ?_
       refine T_region ?_
       first
        | refine TL_q (Qt_add rfl rfl (by omega) (by omega)) rfl ?_
        | refine TL_q (Qt_addw rfl rfl) rfl ?_
       refine TL_q (Qt_move (.int .i64 _) rfl) rfl ?_
       refine TL_nil ?_
       apply X_loop
       case ha => exact (by repeat (first | with_reducible exact agree_refl | refine agree_upd rfl ?_ | refine agree_mix rfl ?_ | refine agree_setAll rfl ?_))
       case hI => exact ⟨j + 1, by rw [cnt_take hj x50.r]; first | (rw [if_pos (by simpa using p70)]; show [Value.int .i64 ((j : Int) + 1), Value.int .i64 (((cntS (x55.says.take j) x50.r : Nat) : Int) + 1)] = _; simp only [Int.natCast_add, Int.natCast_one, Int.add_assoc]) | (rw [if_neg (by simpa using p70)]; rfl), rfl, by omega⟩
       case hm => exact by show x55.says.length - (j + 1 : Int).toNat < x55.says.length - (j : Int).toNat; omega
       case hH => exact (Subs.st inferInstance)
     ·
      have p64 := h64
      try simp only [decide_eq_true_eq, decide_eq_false_iff_not, Bool.not_eq_true', Bool.not_eq_false', Option.isNone_iff_eq_none, ne_eq, Decidable.not_not, Int.not_lt, Int.not_le] at p64
      have hjn : j = x55.says.length := by omega
      refine T_exit ?_
      refine X_then_exit ?_
      refine X_loop_exit ?_
      refine X_block_exit ?_
      refine X_then ?_
      refine T_seq ?_
      refine T_region ?_
      refine TL_q (Qt_move (.int .i64 _) rfl) rfl ?_
      refine TL_q (Qt_move (.int .i64 _) rfl) rfl ?_
      refine TL_q (Qt_eql rfl rfl) rfl ?_
      refine TL_q (Qt_move (.bool _) rfl) rfl ?_
      refine TL_split 77 rfl (fun h77 => ?_) (fun h77 => ?_)
      ·
       have p77 := h77
       try simp only [decide_eq_true_eq, decide_eq_false_iff_not, Bool.not_eq_true', Bool.not_eq_false', Option.isNone_iff_eq_none, ne_eq, Decidable.not_not, Int.not_lt, Int.not_le] at p77
       refine TL_take rfl rfl h77 ?_
       refine TL_q (Qt_move (.pointer _) rfl) rfl ?_
       refine TL_conv (fun w hw => (Subs.st inferInstance w hw : St w0 (blk x27.1.1 (.cells (ClientV.mk (KeysV.mk ⟨x27.2.1.a, x27.2.1.c, x27.2.1.ls⟩ ⟨none, 0, 0⟩) 1 (zeroV 32) (needN need) ⟨x30.2.1.a, (x30.2.2.1).length, x30.2.1.c⟩ ⟨x50.ga, (x50.got).length, x50.gc⟩ x50.waits ((x50.who : Nat) : Int) (some x27.1.2)).cells 141 (0, 0)) :: row (.slice x30.2.1.a (x30.2.2.1).length x30.2.1.c) 85 7 ((x30.2.2.1).flatMap ReqV.list) :: dat x30.2.2.2 ⟨(x30.2.2.1).map ReqV.sig, [], []⟩ :: row (.slice x50.ga (x50.got).length x50.gc) 31 5 ((x50.got).flatMap ReplyV.list) :: blk x27.1.2 (mapO encR encW x50.es x50.c) :: H) w)) ?_
       refine TL_take rfl rfl h77 ?_
       refine TL_e rfl (Ef_call (waits_c (id := 1) (asked := x30.2.2.1) (got := x50.got)) rfl (fun x79 => ?_))
       refine TL_take rfl rfl h77 ?_
       refine TL_q (Qt_not rfl) rfl ?_
       refine TL_q (Qt_pick_t (.bool _) rfl h77 rfl) rfl ?_
       refine TL_q (Qt_move (.bool _) rfl) rfl ?_
       refine TL_split 82 rfl (fun h82 => ?_) (fun h82 => ?_)
       ·
        have p82 := h82
        try simp only [decide_eq_true_eq, decide_eq_false_iff_not, Bool.not_eq_true', Bool.not_eq_false', Option.isNone_iff_eq_none, ne_eq, Decidable.not_not, Int.not_lt, Int.not_le] at p82
        refine TL_take rfl rfl h82 ?_
        refine TL_q (Qt_move (.pointer _) rfl) rfl ?_
        refine TL_conv (fun w hw => (Subs.st inferInstance w hw : St w0 (blk x27.1.1 (.cells (ClientV.mk (KeysV.mk ⟨x27.2.1.a, x27.2.1.c, x27.2.1.ls⟩ ⟨none, 0, 0⟩) 1 (zeroV 32) (needN need) ⟨x30.2.1.a, (x30.2.2.1).length, x30.2.1.c⟩ ⟨x50.ga, (x50.got).length, x50.gc⟩ x50.waits ((x50.who : Nat) : Int) (some x27.1.2)).cells 141 (0, 0)) :: row (.slice x30.2.1.a (x30.2.2.1).length x30.2.1.c) 85 7 ((x30.2.2.1).flatMap ReqV.list) :: dat x30.2.2.2 ⟨(x30.2.2.1).map ReqV.sig, [], []⟩ :: row (.slice x50.ga (x50.got).length x50.gc) 31 5 ((x50.got).flatMap ReplyV.list) :: blk x27.1.2 (mapO encR encW x50.es x50.c) :: H) w)) ?_
        refine TL_take rfl rfl h82 ?_
        refine TL_e rfl (Ef_call (got_c (id := 1) (asked := x30.2.2.1) (got := x50.got) (by omega)) rfl (fun x84 => ?_))
        refine TL_take rfl rfl h82 ?_
        refine TL_q (Qt_len_slice rfl Try.underlying77) rfl ?_
        refine TL_take rfl rfl h82 ?_
        refine TL_q (Qt_eql rfl rfl) rfl ?_
        refine TL_q (Qt_pick_t (.bool _) rfl h82 rfl) rfl ?_
        refine TL_q (Qt_assign (.bool _) rfl) rfl ?_
        refine TL_nil ?_
        refine X_then ?_
        refine T_ret ?_
        refine X_block_ret ?_
        refine X_then_ret ?_
        refine X_loop_ret ?_
        refine X_block_ret ?_
        refine X_then_ret ?_
        exact X_ret () [.bool true] Try.results7 ⟨congrArg Value.bool (by rw [t3]; rfl), trivial⟩ rfl (Subs.st inferInstance)
       ·
        have p82 := h82
        try simp only [decide_eq_true_eq, decide_eq_false_iff_not, Bool.not_eq_true', Bool.not_eq_false', Option.isNone_iff_eq_none, ne_eq, Decidable.not_not, Int.not_lt, Int.not_le] at p82
        exact absurd h82 (by rw [t2]; decide)
      ·
       have p77 := h77
       try simp only [decide_eq_true_eq, decide_eq_false_iff_not, Bool.not_eq_true', Bool.not_eq_false', Option.isNone_iff_eq_none, ne_eq, Decidable.not_not, Int.not_lt, Int.not_le] at p77
       exact absurd h77 (by rw [hjn, List.take_length]; simpa using t1)
  ·
   have p41 := h41
   try simp only [decide_eq_true_eq, decide_eq_false_iff_not, Bool.not_eq_true', Bool.not_eq_false', Option.isNone_iff_eq_none, ne_eq, Decidable.not_not, Int.not_lt, Int.not_le] at p41
   refine T_exit ?_
   refine X_then_exit ?_
   refine X_loop_exit ?_
   refine X_block_exit ?_
   refine X_then ?_
   refine T_seq ?_
   refine T_region ?_
   refine TL_q (Qt_move (.pointer _) rfl) rfl ?_
   refine TL_conv (fun w hw => (Subs.st inferInstance w hw : St w0 (blk x27.1.1 (.cells (ClientV.mk (KeysV.mk ⟨x27.2.1.a, x27.2.1.c, x27.2.1.ls⟩ ⟨none, 0, 0⟩) 1 (zeroV 32) (needN need) ⟨x30.2.1.a, (x30.2.2.1).length, x30.2.1.c⟩ ⟨ga, (([] : List ReplyV)).length, gc⟩ true ((wh : Nat) : Int) (some x27.1.2)).cells 141 (0, 0)) :: row (.slice x30.2.1.a (x30.2.2.1).length x30.2.1.c) 85 7 ((x30.2.2.1).flatMap ReqV.list) :: dat x30.2.2.2 ⟨(x30.2.2.1).map ReqV.sig, [], []⟩ :: row (.slice ga (([] : List ReplyV)).length gc) 31 5 ((([] : List ReplyV)).flatMap ReplyV.list) :: blk x27.1.2 (mapO encR encW es c) :: H) w)) ?_
   refine TL_e rfl (Ef_call (waits_c (id := 1) (asked := x30.2.2.1) (got := ([] : List ReplyV))) rfl (fun x90 => ?_))
   refine TL_q (Qt_move (.bool _) rfl) rfl ?_
   refine TL_split 91 rfl (fun h91 => ?_) (fun h91 => ?_)
   ·
    have p91 := h91
    try simp only [decide_eq_true_eq, decide_eq_false_iff_not, Bool.not_eq_true', Bool.not_eq_false', Option.isNone_iff_eq_none, ne_eq, Decidable.not_not, Int.not_lt, Int.not_le] at p91
    refine TL_take rfl rfl h91 ?_
    refine TL_q (Qt_move (.pointer _) rfl) rfl ?_
    refine TL_conv (fun w hw => (Subs.st inferInstance w hw : St w0 (blk x27.1.1 (.cells (ClientV.mk (KeysV.mk ⟨x27.2.1.a, x27.2.1.c, x27.2.1.ls⟩ ⟨none, 0, 0⟩) 1 (zeroV 32) (needN need) ⟨x30.2.1.a, (x30.2.2.1).length, x30.2.1.c⟩ ⟨ga, (([] : List ReplyV)).length, gc⟩ true ((wh : Nat) : Int) (some x27.1.2)).cells 141 (0, 0)) :: row (.slice x30.2.1.a (x30.2.2.1).length x30.2.1.c) 85 7 ((x30.2.2.1).flatMap ReqV.list) :: dat x30.2.2.2 ⟨(x30.2.2.1).map ReqV.sig, [], []⟩ :: row (.slice ga (([] : List ReplyV)).length gc) 31 5 ((([] : List ReplyV)).flatMap ReplyV.list) :: blk x27.1.2 (mapO encR encW es c) :: H) w)) ?_
    refine TL_take rfl rfl h91 ?_
    refine TL_e rfl (Ef_call (got_c (id := 1) (asked := x30.2.2.1) (got := ([] : List ReplyV)) (by simp)) rfl (fun x93 => ?_))
    refine TL_take rfl rfl h91 ?_
    refine TL_q (Qt_len_slice rfl Try.underlying77) rfl ?_
    refine TL_take rfl rfl h91 ?_
    refine TL_q (Qt_eql rfl rfl) rfl ?_
    refine TL_q (Qt_pick_t (.bool _) rfl h91 rfl) rfl ?_
    refine TL_q (Qt_assign (.bool _) rfl) rfl ?_
    refine TL_nil ?_
    refine X_then ?_
    refine T_ret ?_
    exact X_ret () [.bool true] Try.results7 ⟨rfl, trivial⟩ rfl (Subs.st inferInstance)
   ·
    have p91 := h91
    try simp only [decide_eq_true_eq, decide_eq_false_iff_not, Bool.not_eq_true', Bool.not_eq_false', Option.isNone_iff_eq_none, ne_eq, Decidable.not_not, Int.not_lt, Int.not_le] at p91
    exact absurd h91 (by decide)
end
end Go.Proofs.Ytpdpapcmfnhgpaa
