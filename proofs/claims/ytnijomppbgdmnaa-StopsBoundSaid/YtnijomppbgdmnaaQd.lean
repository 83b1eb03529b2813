/- Walks of package reqs: batches, their form, whether each request is its client's. -/
import Derived.Test.YtnijomppbgdmnaaQc
import Derived.Test.YtnijomppbgdmnaaSu
namespace Go.Proofs.Ytnijomppbgdmnaa
open Go.RowKit Go.Sx
set_option maxRecDepth 100000
set_option linter.unusedSimpArgs false
set_option linter.unusedVariables false
def encZ (n : Int) : Value := .int .i64 n
instance keyZ : Key Try.prog 3 encZ where
  eq x y w := equal_run (x := encZ x) (y := encZ y) (h := (inferInstance : EqV Try.prog 3 (.int .i64 x) (.int .i64 y) _)) w
  now d hd x y := by
    rw [Try.underlying3] at hd
    obtain rfl : .int .i64 = d := by simpa using hd
    right
    simp only [encZ, Instr.sameNow, if_true]
    congr 1
  there := by rw [Try.underlying3]; rfl
  check k empty w := by
    have h : ∀ n, n = 9999 + 1 → (Instr.checkKey empty n 3 (encZ k)).run Try.prog w = .ok () w := fun n hn => by
      rw [hn, Instr.checkKey]
      simp only [Sem.run_bind, run_underlying Try.underlying3, Result.andThen_ok, encZ, Sem.run_pure]
    exact h 10000 (by decide)
  same k := by
    have h : ∀ n, Instr.sameBits n (encZ k) (encZ k) = true := fun n => by cases n <;> simp [Instr.sameBits, encZ]
    exact h 10000
abbrev EZ := List (Ent Int Int)
def updF (f : Int → Int) (r : ReqD) : Int → Int := fun c => if c = r.client then r.seq else f c
def okB : (Int → Int) → List ReqD → Bool
  | _, [] => true
  | f, r :: rs => formedQ r && decide (f r.client < r.seq) && okB (updF f r) rs
/-- Is a batch formed? -/
def fbB (ls : List ReqD) : Bool := okB (fun _ => 0) ls && decide (1 ≤ ls.length ∧ ls.length ≤ 4)
theorem okB_step (f : Int → Int) (ls : List ReqD) (k : Nat) (h : k < ls.length) : okB f (ls.drop k) = (formedQ ls[k] && decide (f ls[k].client < ls[k].seq) && okB (updF f ls[k]) (ls.drop (k + 1))) := by
  rw [List.drop_eq_getElem_cons h]; rfl
/-- The requests of a batch's bytes, from where, how many are left, those that are had. -/
def itA (l : List UInt8) : Nat → Nat → List ReqD → Int × List ReqD × Nat
  | q, 0, acc => (0, acc, q)
  | q, n + 1, acc => if (rdText (l.drop q) 2000).1 ≠ 0 then ((rdText (l.drop q) 2000).1, acc, q) else if (getG (rdText (l.drop q) 2000).2.1).1 ≠ 0 then ((getG (rdText (l.drop q) 2000).2.1).1, acc, q)
    else itA l (q + (rdText (l.drop q) 2000).2.2) n (acc ++ [(getG (rdText (l.drop q) 2000).2.1).2])
def batchG (l : List UInt8) : Int × List ReqD :=
  if (rdCount l 4).1 ≠ 0 then ((rdCount l 4).1, [])
  else if (itA l (rdCount l 4).2.2 (rdCount l 4).2.1 []).1 ≠ 0 then ((itA l (rdCount l 4).2.2 (rdCount l 4).2.1 []).1, [])
  else if (itA l (rdCount l 4).2.2 (rdCount l 4).2.1 []).2.2 < l.length then (2, [])
  else if fbB (itA l (rdCount l 4).2.2 (rdCount l 4).2.1 []).2.1 = false then (15, []) else (0, (itA l (rdCount l 4).2.2 (rdCount l 4).2.1 []).2.1)
/-- Is a request its client's? -/
def chkQ (rs : List (Vector UInt8 32)) (r : ReqD) : Int :=
  if formedQ r = false then 15 else if (rs.length : Int) ≤ r.client then 6
  else if (verV (rs.getD r.client.toNat default) (textQ r) r.sig).2 ≠ 0 then (verV (rs.getD r.client.toNat default) (textQ r) r.sig).2
  else if (verV (rs.getD r.client.toNat default) (textQ r) r.sig).1 ≠ r.seq - 1 then 5 else 0
def firstE (rs : List (Vector UInt8 32)) : List ReqD → Int
  | [] => 0
  | r :: l => if chkQ rs r ≠ 0 then chkQ rs r else firstE rs l
/-- The error of a batch of bytes. -/
def cbE (rs : List (Vector UInt8 32)) (l : List UInt8) : Int := if (batchG l).1 ≠ 0 then (batchG l).1 else firstE rs (batchG l).2
theorem firstE_step (rs : List (Vector UInt8 32)) (ls : List ReqD) (k : Nat) (h : k < ls.length) : firstE rs (ls.drop k) = if chkQ rs ls[k] ≠ 0 then chkQ rs ls[k] else firstE rs (ls.drop (k + 1)) := by
  rw [List.drop_eq_getElem_cons h]; rfl
def GoodQ (r : ReqD) : Prop := Sig64 r.a ∧ Sig64 r.b
theorem itA_bad1 {l : List UInt8} {q n : Nat} {acc : List ReqD} (h : (rdText (l.drop q) 2000).1 ≠ 0) : itA l q (n + 1) acc = ((rdText (l.drop q) 2000).1, acc, q) := if_pos h
theorem itA_bad2 {l : List UInt8} {q n : Nat} {acc : List ReqD} (h : (rdText (l.drop q) 2000).1 = 0) (h2 : (getG (rdText (l.drop q) 2000).2.1).1 ≠ 0) : itA l q (n + 1) acc = ((getG (rdText (l.drop q) 2000).2.1).1, acc, q) := by
  rw [itA, if_neg (by simpa using h), if_pos h2]
theorem itA_ok {l : List UInt8} {q n : Nat} {acc : List ReqD} (h : (rdText (l.drop q) 2000).1 = 0) (h2 : (getG (rdText (l.drop q) 2000).2.1).1 = 0) : itA l q (n + 1) acc = itA l (q + (rdText (l.drop q) 2000).2.2) n (acc ++ [(getG (rdText (l.drop q) 2000).2.1).2]) := by
  rw [itA, if_neg (by simpa using h), if_neg (by simpa using h2)]
theorem formedQ_seq {r : ReqD} (h : formedQ r = true) : 1 ≤ r.seq ∧ r.seq ≤ 8 := by
  unfold formedQ at h
  exact (of_decide_eq_true h).2.1
theorem hl32 (x : Vector UInt8 32) : (hlist x).length = 32 := by simp [hlist]
theorem formedQ_client {r : ReqD} (h : formedQ r = true) : 0 ≤ r.client := by
  unfold formedQ at h
  exact (of_decide_eq_true h).1.1
attribute [local irreducible] sha verV textQ getG rdText formedQ

set_option maxHeartbeats 1000000 in
theorem formedBatchQ_c {w0 : World} {H : List SA} {a : Option Addr} {c : Nat} {ls : List ReqV} [hr : RdC w0 H (.slice a ls.length c) 7 (ls.flatMap ReqV.list)] (hn : ls.length ≤ 100) :
    CT Try.prog w0 (H) 74 [.slice a ls.length c] (α := Unit) (fun _ => .bool (fbB (ls.map ReqV.abs))) (fun _ => H) := by
  refine CT_intro Try.func74 rfl Try.ntmps74 rfl ?_
  refine T_seq ?_
  refine T_region ?_
  refine TL_q (Qt_assign (.bool _) rfl) rfl ?_
  refine TL_nil ?_
  refine X_then ?_
  refine T_seq ?_
  refine T_region ?_
  refine TL_e rfl (Ef_makeMap encZ encZ (fun r6 => ?_))
  refine TL_q (Qt_assign (.map _) rfl) rfl ?_
  refine TL_nil ?_
  refine X_then ?_
  refine T_seq ?_
  refine T_seq ?_
  refine T_region ?_
  refine TL_q (Qt_move (.slice _ _ _) rfl) rfl ?_
  refine TL_q (Qt_len_slice rfl Try.underlying67) rfl ?_
  refine TL_q (Qt_move (.int .i64 _) rfl) rfl ?_
  refine TL_nil ?_
  refine X_then ?_
  refine T_block ?_
  refine T_loop [2, 5, 9, 10, 11, 12, 13, 14, 15, 16, 17, 18, 19, 20, 21, 22, 23, 24, 25, 26, 27, 28, 29, 30] [9] (fun us H' => ∃ (k : Nat) (es : EZ) (cl : Nat), us = [.int .i64 (k : Int)] ∧ blk r6 (mapO encZ encZ es cl) :: H = H' ∧ k ≤ ls.length ∧ (okB (fun _ => 0) (ls.map ReqV.abs) = okB (fun z => (getE es z).getD 0) ((ls.map ReqV.abs).drop k))) (fun us => match us with | .int _ i :: _ => ls.length - i.toNat | _ => 0) ⟨0, [], 0, rfl, rfl, by omega, rfl⟩ (Subs.st inferInstance) ?_
  rintro τ0 _ _  ⟨k, es, cl, rfl, rfl, hk0, hi⟩ _
  refine T_seq ?_
  refine T_region ?_
  refine TL_q (Qt_lss rfl rfl) rfl ?_
  refine TL_nil ?_
  refine X_then ?_
  refine T_seq ?_
  refine T_cond rfl (fun h10 => ?_) (fun h10 => ?_)
  ·
    have p10 := h10
    try simp only [decide_eq_true_eq, decide_eq_false_iff_not, Bool.not_eq_true', Bool.not_eq_false', Option.isNone_iff_eq_none, ne_eq, Decidable.not_not, Int.not_lt, Int.not_le] at p10
    have hk : k < ls.length := by omega
    have hst := okB_step (fun z => (getE es z).getD 0) (ls.map ReqV.abs) k (by simpa using hk)
    have hgk : ((ls.map ReqV.abs)[k]'(by simpa using hk)) = ls[k].abs := by simp
    rw [hgk] at hst
    refine T_skip ?_
    refine X_then ?_
    refine T_seq ?_
    refine T_block ?_
    refine T_seq ?_
    refine T_region ?_
    refine TL_q (Qt_indexN rfl rfl (by omega) (by omega)) rfl ?_
    refine TL_q (Qt_val (Qt_loadRN 7 ls[k].list rfl (flat_slice _ 7 ReqV.list_len ls k hk) (ReqV.list_len _) (by decide)) (show Value.agg ls[k].list.toArray = Value.agg ls[k].cells from rfl)) rfl ?_
    refine TL_e rfl (Ef_allocN (fun b5 => ?_))
    refine TL_n (Ef_storeN rfl rfl (?_))
    refine TL_nil ?_
    refine X_then ?_
    refine T_seq ?_
    refine T_seq ?_
    refine T_region ?_
    refine TL_q (Qt_loadN rfl rfl) rfl ?_
    refine TL_e rfl (Ef_call (formedQ_c (r := ls[k])) rfl (fun x14 => ?_))
    refine TL_q (Qt_not rfl) rfl ?_
    refine TL_q (Qt_move (.bool _) rfl) rfl ?_
    refine TL_split 16 rfl (fun h16 => ?_) (fun h16 => ?_)
    ·
      have p16 := h16
      try simp only [decide_eq_true_eq, decide_eq_false_iff_not, Bool.not_eq_true', Bool.not_eq_false', Option.isNone_iff_eq_none, ne_eq, Decidable.not_not, Int.not_lt, Int.not_le] at p16
      refine TL_pass rfl rfl h16 rfl ?_
      refine TL_pass rfl rfl h16 rfl ?_
      refine TL_pass rfl rfl h16 rfl ?_
      refine TL_pass rfl rfl h16 rfl ?_
      refine TL_pass rfl rfl h16 rfl ?_
      refine TL_pass rfl rfl h16 rfl ?_
      refine TL_pass rfl rfl h16 rfl ?_
      refine TL_q (Qt_pick_t (.bool _) rfl h16 rfl) rfl ?_
      refine TL_nil ?_
      refine X_then ?_
      refine T_cond_true rfl rfl ?_
      refine T_seq ?_
      refine T_region ?_
      refine TL_q (Qt_assign (.bool _) rfl) rfl ?_
      refine TL_nil ?_
      refine X_then ?_
      refine T_ret ?_
      refine X_then_ret ?_
      refine X_block_ret ?_
      refine X_then_ret ?_
      refine X_loop_ret ?_
      refine X_block_ret ?_
      refine X_then_ret ?_
      have e : fbB (ls.map ReqV.abs) = false := by unfold fbB; rw [hi, hst, show formedQ ls[k].abs = false from by simpa using p16]; rfl
      rw [e]
      exact X_ret () [_] Try.results74 ⟨rfl, trivial⟩ rfl (Subs.st inferInstance)
    ·
      have p16 := h16
      try simp only [decide_eq_true_eq, decide_eq_false_iff_not, Bool.not_eq_true', Bool.not_eq_false', Option.isNone_iff_eq_none, ne_eq, Decidable.not_not, Int.not_lt, Int.not_le] at p16
      refine TL_take rfl rfl h16 ?_
      refine TL_q (Qt_fieldAddr 1 rfl rfl) rfl ?_
      refine TL_take rfl rfl h16 ?_
      refine TL_q (Qt_load1 rfl) rfl ?_
      refine TL_take rfl rfl h16 ?_
      refine TL_q (Qt_move (.map _) rfl) rfl ?_
      refine TL_take rfl rfl h16 ?_
      refine TL_q (Qt_fieldAddr 0 rfl rfl) rfl ?_
      refine TL_take rfl rfl h16 ?_
      refine TL_q (Qt_load1 rfl) rfl ?_
      refine TL_take rfl rfl h16 ?_
      refine TL_q (Qt_lookup1 (key := ls[k].client) (enc := encZ) (ev := encZ) ((0 : Int)) rfl rfl Try.underlying73 ((inferInstance : TyZ Try.prog 3 (.int .i64 0)).ok)) rfl ?_
      refine TL_take rfl rfl h16 ?_
      refine TL_q (Qt_leq rfl rfl) rfl ?_
      refine TL_q (Qt_pick_f (.bool _) rfl h16 rfl) rfl ?_
      refine TL_nil ?_
      refine X_then ?_
      refine T_cond rfl (fun h24 => ?_) (fun h24 => ?_)
      ·
        have p24 := h24
        try simp only [decide_eq_true_eq, decide_eq_false_iff_not, Bool.not_eq_true', Bool.not_eq_false', Option.isNone_iff_eq_none, ne_eq, Decidable.not_not, Int.not_lt, Int.not_le] at p24
        refine T_seq ?_
        refine T_region ?_
        refine TL_q (Qt_assign (.bool _) rfl) rfl ?_
        refine TL_nil ?_
        refine X_then ?_
        refine T_ret ?_
        refine X_then_ret ?_
        refine X_block_ret ?_
        refine X_then_ret ?_
        refine X_loop_ret ?_
        refine X_block_ret ?_
        refine X_then_ret ?_
        have hx : ¬ (getE es ls[k].abs.client).getD 0 < ls[k].abs.seq := by show ¬ (getE es ls[k].client).getD 0 < ls[k].seq; omega
        have e : fbB (ls.map ReqV.abs) = false := by unfold fbB; rw [hi, hst, decide_eq_false hx, Bool.and_false]; rfl
        rw [e]
        exact X_ret () [_] Try.results74 ⟨rfl, trivial⟩ rfl (Subs.st inferInstance)
      ·
        have p24 := h24
        try simp only [decide_eq_true_eq, decide_eq_false_iff_not, Bool.not_eq_true', Bool.not_eq_false', Option.isNone_iff_eq_none, ne_eq, Decidable.not_not, Int.not_lt, Int.not_le] at p24
        have hx : (getE es ls[k].abs.client).getD 0 < ls[k].abs.seq := by show (getE es ls[k].client).getD 0 < ls[k].seq; omega
        rw [p16, decide_eq_true hx, Bool.true_and, Bool.true_and] at hst
        refine T_skip ?_
        refine X_then ?_
        refine T_region ?_
        refine TL_q (Qt_move (.map _) rfl) rfl ?_
        refine TL_q (Qt_fieldAddr 0 rfl rfl) rfl ?_
        refine TL_q (Qt_load1 rfl) rfl ?_
        refine TL_q (Qt_fieldAddr 1 rfl rfl) rfl ?_
        refine TL_q (Qt_load1 rfl) rfl ?_
        refine TL_n (Ef_mapUpdate (key := ls[k].client) (enc := encZ) (ev := encZ) (ls[k].seq) rfl rfl rfl Try.underlying73 (?_))
        refine TL_nil ?_
        refine X_block ?_
        refine X_then ?_
        refine T_region ?_
        first
          | refine TL_q (Qt_add rfl rfl (by omega) (by omega)) rfl ?_
          | refine TL_q (Qt_addw rfl rfl) rfl ?_
        refine TL_q (Qt_move (.int .i64 _) rfl) rfl ?_
        refine TL_nil ?_
        apply X_loop
        case ha => exact (by repeat (first | with_reducible exact agree_refl | refine agree_upd rfl ?_ | refine agree_mix rfl ?_ | refine agree_setAll rfl ?_))
        case hI => exact ⟨k + 1, (putE es ls[k].client ls[k].seq cl), (clockE es ls[k].client cl), rfl, rfl, by omega, by rw [hi, hst]; exact congrArg (fun g => okB g _) (funext fun z => by
              show (if z = ls[k].client then ls[k].seq else (getE es z).getD 0) = _
              rw [getE_putK]; by_cases hz : z = ls[k].client
              · rw [if_pos hz, if_pos hz]; rfl
              · rw [if_neg hz, if_neg hz])⟩
        case hm => exact by show ls.length - (k + 1 : Int).toNat < ls.length - (k : Int).toNat; omega
        case hH => exact (Subs.st inferInstance)
  ·
    have p10 := h10
    try simp only [decide_eq_true_eq, decide_eq_false_iff_not, Bool.not_eq_true', Bool.not_eq_false', Option.isNone_iff_eq_none, ne_eq, Decidable.not_not, Int.not_lt, Int.not_le] at p10
    have hkn : k = ls.length := by omega
    subst hkn
    have hok : okB (fun _ => 0) (ls.map ReqV.abs) = true := by rw [hi, List.drop_of_length_le (by simp)]; rfl
    refine T_exit ?_
    refine X_then_exit ?_
    refine X_loop_exit ?_
    refine X_block_exit ?_
    refine X_then ?_
    refine T_seq ?_
    refine T_region ?_
    refine TL_q (Qt_move (.slice _ _ _) rfl) rfl ?_
    refine TL_q (Qt_len_slice rfl Try.underlying67) rfl ?_
    refine TL_q (Qt_geq rfl rfl) rfl ?_
    refine TL_q (Qt_move (.bool _) rfl) rfl ?_
    refine TL_split 34 rfl (fun h34 => ?_) (fun h34 => ?_)
    ·
      have p34 := h34
      try simp only [decide_eq_true_eq, decide_eq_false_iff_not, Bool.not_eq_true', Bool.not_eq_false', Option.isNone_iff_eq_none, ne_eq, Decidable.not_not, Int.not_lt, Int.not_le] at p34
      refine TL_take rfl rfl h34 ?_
      refine TL_q (Qt_move (.slice _ _ _) rfl) rfl ?_
      refine TL_take rfl rfl h34 ?_
      refine TL_q (Qt_len_slice rfl Try.underlying67) rfl ?_
      refine TL_take rfl rfl h34 ?_
      refine TL_q (Qt_leq rfl rfl) rfl ?_
      refine TL_q (Qt_pick_t (.bool _) rfl h34 rfl) rfl ?_
      refine TL_q (Qt_assign (.bool _) rfl) rfl ?_
      refine TL_nil ?_
      refine X_then ?_
      refine T_ret ?_
      have e : fbB (ls.map ReqV.abs) = decide (1 ≤ ls.length ∧ ls.length ≤ 4) := by unfold fbB; rw [hok, List.length_map]; rfl
      rw [e]
      exact X_ret () [_] Try.results74 ⟨rfl, trivial⟩ (congrArg Value.bool (by rw [Bool.eq_iff_iff]; simp only [decide_eq_true_eq, Bool.false_eq_true, false_iff]; omega)) (Subs.st inferInstance)
    ·
      have p34 := h34
      try simp only [decide_eq_true_eq, decide_eq_false_iff_not, Bool.not_eq_true', Bool.not_eq_false', Option.isNone_iff_eq_none, ne_eq, Decidable.not_not, Int.not_lt, Int.not_le] at p34
      refine TL_pass rfl rfl h34 rfl ?_
      refine TL_pass rfl rfl h34 rfl ?_
      refine TL_pass rfl rfl h34 rfl ?_
      refine TL_q (Qt_pick_f (.bool _) rfl h34 rfl) rfl ?_
      refine TL_q (Qt_assign (.bool _) rfl) rfl ?_
      refine TL_nil ?_
      refine X_then ?_
      refine T_ret ?_
      have e : fbB (ls.map ReqV.abs) = decide (1 ≤ ls.length ∧ ls.length ≤ 4) := by unfold fbB; rw [hok, List.length_map]; rfl
      rw [e]
      exact X_ret () [_] Try.results74 ⟨rfl, trivial⟩ (congrArg Value.bool (by rw [Bool.eq_iff_iff]; simp only [decide_eq_true_eq, Bool.false_eq_true, false_iff]; omega)) (Subs.st inferInstance)
set_option maxHeartbeats 1000000 in
theorem getBatch_c {w0 : World} {H : List SA} {a : Option Addr} {l : List UInt8} {c : Nat} [hr : RdB w0 H (.slice a l.length c) l] (hl : l.length ≤ 4294967296) :
    CT Try.prog w0 (H) 46 [.slice a l.length c] (α := (AC × List ReqV) × List Nat) (fun y => .tuple #[.slice y.1.1.a y.1.2.length y.1.1.c, .int .i64 (batchG l).1]) (fun y => pu (y.1.2.map ReqV.abs = (batchG l).2 ∧ (∀ x ∈ y.1.2, Sig64 x.op.a ∧ Sig64 x.op.b) ∧ y.1.2.length ≤ 4) :: row (.slice y.1.1.a (y.1.2).length y.1.1.c) 104 7 ((y.1.2).flatMap ReqV.list) :: dat y.2 ⟨(y.1.2).map ReqV.sig, [], []⟩ :: H) := by
  refine CT_intro Try.func46 rfl Try.ntmps46 rfl ?_
  refine T_seq ?_
  refine T_region ?_
  refine TL_q (Qt_assign (.slice _ _ _) rfl) rfl ?_
  refine TL_q (Qt_assign (.int .i64 _) rfl) rfl ?_
  refine TL_nil ?_
  refine X_then ?_
  refine T_seq ?_
  refine T_region ?_
  refine TL_q (Qt_move (.slice _ _ _) rfl) rfl ?_
  refine TL_e rfl (Ef_call (rnew_c hl) rfl (fun x12 => ?_))
  refine TL_pure (fun h12 => ?_)
  refine TL_q (Qt_assign (.pointer _) rfl) rfl ?_
  refine TL_nil ?_
  refine X_then ?_
  refine T_seq ?_
  refine T_region ?_
  refine TL_q (Qt_move (.pointer _) rfl) rfl ?_
  refine TL_frontB x12.1 ?_
  refine TL_e rfl (Ef_call (count_c (b := x12.2) (k := 0) (m := 4) (by omega) (by rw [h12]; omega) (by decide)) rfl (fun x15 => ?_))
  rw [List.drop_zero]
  obtain ⟨hb1, hb2, hb3⟩ := rdCount_bound x12.2.l 4
  rw [Nat.zero_add]
  refine TL_q (Qt_move (.tuple _) rfl) rfl ?_
  refine TL_q (Qt_extract rfl) rfl ?_
  refine TL_q (Qt_extract rfl) rfl ?_
  refine TL_q (Qt_assign (.int .i64 _) rfl) rfl ?_
  refine TL_q (Qt_assign (.int .i64 _) rfl) rfl ?_
  refine TL_nil ?_
  refine X_then ?_
  refine T_seq ?_
  refine T_seq ?_
  refine T_region ?_
  refine TL_q (Qt_move (.int .i64 _) rfl) rfl ?_
  refine TL_q (Qt_neq rfl rfl) rfl ?_
  refine TL_nil ?_
  refine X_then ?_
  refine T_cond rfl (fun h19 => ?_) (fun h19 => ?_)
  ·
    have p19 := h19
    try simp only [decide_eq_true_eq, decide_eq_false_iff_not, Bool.not_eq_true', Bool.not_eq_false', Option.isNone_iff_eq_none, ne_eq, Decidable.not_not, Int.not_lt, Int.not_le] at p19
    refine T_seq ?_
    refine T_region ?_
    refine TL_q (Qt_move (.int .i64 _) rfl) rfl ?_
    refine TL_q (Qt_assign (.slice _ _ _) rfl) rfl ?_
    refine TL_q (Qt_assign (.int .i64 _) rfl) rfl ?_
    refine TL_nil ?_
    refine X_then ?_
    refine T_ret ?_
    refine X_then_ret ?_
    have e : batchG l = ((rdCount x12.2.l 4).1, []) := by
      rw [← h12]; unfold batchG; rw [if_pos p19]
    simp only [e]
    exact X_ret ((⟨none, 0⟩, []), []) [_, _] Try.results46 ⟨rfl, rfl, trivial⟩ rfl (fun w hw => by
      have h0 : St w0 H w := Subs.st inferInstance w hw
      exact St.addPure (h0.datNil.addNil 104 7) ⟨rfl, fun x hx => (by cases hx), Nat.zero_le _⟩)
  ·
    have p19 := h19
    try simp only [decide_eq_true_eq, decide_eq_false_iff_not, Bool.not_eq_true', Bool.not_eq_false', Option.isNone_iff_eq_none, ne_eq, Decidable.not_not, Int.not_lt, Int.not_le] at p19
    have hc0 : (rdCount x12.2.l 4).1 = 0 := by omega
    have hc4 := (rdCount_ok hc0).2.1
    rw [← show rdCount x12.2.l 4 = rdPacked x12.2.l from (rdCount_ok hc0).1] at hc4
    refine T_skip ?_
    refine X_then ?_
    refine T_seq ?_
    refine T_region ?_
    refine TL_q (Qt_assign (.slice _ _ _) rfl) rfl ?_
    refine TL_nil ?_
    refine X_then ?_
    refine T_seq ?_
    refine T_seq ?_
    refine T_region ?_
    refine TL_q (Qt_move (.int .i64 _) rfl) rfl ?_
    refine TL_q (Qt_move (.int .i64 _) rfl) rfl ?_
    refine TL_nil ?_
    refine X_then ?_
    refine T_block ?_
    refine T_loop [2, 3, 7, 8, 9, 10, 22, 23, 24, 25, 26, 27, 28, 29, 30, 31, 32, 33, 34, 35, 36, 37, 38, 39, 40, 41, 42, 43, 44] [22, 7] (fun us H' => ∃ (k : Nat) (a7 : Option Addr) (c7 : Nat) (ls : List ReqV) (fp : List Nat) (q : Nat), us = [.int .i64 (k : Int), .slice a7 ls.length c7] ∧ row (.slice a7 (ls).length c7) 104 7 ((ls).flatMap ReqV.list) :: dat fp ⟨(ls).map ReqV.sig, [], []⟩ :: blk x12.1 (.cells (ReaderV.mk x12.2 ((q : Nat) : Int)).cells 126 (0, 0)) :: row (.slice x12.2.a x12.2.l.length x12.2.c) 5 1 (bytesV x12.2.l) :: H = H' ∧ k ≤ (rdCount x12.2.l 4).2.1 ∧ ((itA x12.2.l (rdCount x12.2.l 4).2.2 (rdCount x12.2.l 4).2.1 []) = itA x12.2.l q ((rdCount x12.2.l 4).2.1 - k) (ls.map ReqV.abs)) ∧ (ls.length = k) ∧ (q ≤ x12.2.l.length) ∧ (∀ x ∈ ls, Sig64 x.op.a ∧ Sig64 x.op.b)) (fun us => match us with | .int _ i :: _ => (rdCount x12.2.l 4).2.1 - i.toNat | _ => 0) ⟨0, none, 0, [], [], (rdCount x12.2.l 4).2.2, rfl, rfl, by omega, rfl, rfl, hb2, fun x hx => by cases hx⟩ (fun w hw => by
          have h0 : St w0 (blk x12.1 (.cells (ReaderV.mk x12.2 (((rdCount x12.2.l 4).2.2 : Nat) : Int)).cells 126 (0, 0)) :: row (.slice x12.2.a x12.2.l.length x12.2.c) 5 1 (bytesV x12.2.l) :: H) w := Subs.st inferInstance w hw
          exact (h0.datNil).addNil 104 7) ?_
    rintro τ0 _ _  ⟨k, a7, c7, ls, fp, q, rfl, rfl, hk0, hi, hll, hq, hsg⟩ _
    refine T_seq ?_
    refine T_region ?_
    refine TL_q (Qt_lss rfl rfl) rfl ?_
    refine TL_nil ?_
    refine X_then ?_
    refine T_seq ?_
    refine T_cond rfl (fun h23 => ?_) (fun h23 => ?_)
    ·
      have p23 := h23
      try simp only [decide_eq_true_eq, decide_eq_false_iff_not, Bool.not_eq_true', Bool.not_eq_false', Option.isNone_iff_eq_none, ne_eq, Decidable.not_not, Int.not_lt, Int.not_le] at p23
      have hk : k < (rdCount x12.2.l 4).2.1 := by omega
      rw [show (rdCount x12.2.l 4).2.1 - k = ((rdCount x12.2.l 4).2.1 - (k + 1)) + 1 from by omega] at hi
      refine T_skip ?_
      refine X_then ?_
      refine T_seq ?_
      refine T_block ?_
      refine T_seq ?_
      refine T_region ?_
      refine TL_q (Qt_move (.pointer _) rfl) rfl ?_
      refine TL_frontB x12.1 ?_
      refine TL_e rfl (Ef_call (text_c (b := x12.2) (k := q) (m := 2000) hq (by rw [h12]; omega) (by decide)) rfl (fun x26 => ?_))
      obtain ⟨ht1, ht2⟩ := rdText_bound (x12.2.l.drop q) 2000
      rw [List.length_drop] at ht1 ht2
      refine TL_q (Qt_move (.tuple _) rfl) rfl ?_
      refine TL_q (Qt_extract rfl) rfl ?_
      refine TL_q (Qt_extract rfl) rfl ?_
      refine TL_q (Qt_assign (.slice _ _ _) rfl) rfl ?_
      refine TL_q (Qt_assign (.int .i64 _) rfl) rfl ?_
      refine TL_nil ?_
      refine X_then ?_
      refine T_seq ?_
      refine T_seq ?_
      refine T_region ?_
      refine TL_q (Qt_move (.int .i64 _) rfl) rfl ?_
      refine TL_q (Qt_neq rfl rfl) rfl ?_
      refine TL_nil ?_
      refine X_then ?_
      refine T_cond rfl (fun h30 => ?_) (fun h30 => ?_)
      ·
        have p30 := h30
        try simp only [decide_eq_true_eq, decide_eq_false_iff_not, Bool.not_eq_true', Bool.not_eq_false', Option.isNone_iff_eq_none, ne_eq, Decidable.not_not, Int.not_lt, Int.not_le] at p30
        rw [itA_bad1 p30] at hi
        refine T_seq ?_
        refine T_region ?_
        refine TL_q (Qt_move (.int .i64 _) rfl) rfl ?_
        refine TL_q (Qt_assign (.slice _ _ _) rfl) rfl ?_
        refine TL_q (Qt_assign (.int .i64 _) rfl) rfl ?_
        refine TL_nil ?_
        refine X_then ?_
        refine T_ret ?_
        refine X_then_ret ?_
        refine X_block_ret ?_
        refine X_then_ret ?_
        refine X_loop_ret ?_
        refine X_block_ret ?_
        refine X_then_ret ?_
        have e : batchG l = ((rdText (x12.2.l.drop q) 2000).1, []) := by
          rw [← h12]; unfold batchG; rw [if_neg (by omega), if_pos (by rw [hi]; exact p30), hi]
        simp only [e]
        exact X_ret ((⟨none, 0⟩, []), []) [_, _] Try.results46 ⟨rfl, rfl, trivial⟩ rfl (fun w hw => by
          have h0 : St w0 H w := Subs.st inferInstance w hw
          exact St.addPure (h0.datNil.addNil 104 7) ⟨rfl, fun x hx => (by cases hx), Nat.zero_le _⟩)
      ·
        have p30 := h30
        try simp only [decide_eq_true_eq, decide_eq_false_iff_not, Bool.not_eq_true', Bool.not_eq_false', Option.isNone_iff_eq_none, ne_eq, Decidable.not_not, Int.not_lt, Int.not_le] at p30
        refine T_skip ?_
        refine X_then ?_
        refine T_seq ?_
        refine T_region ?_
        refine TL_q (Qt_move (.slice _ _ _) rfl) rfl ?_
        refine TL_e rfl (Ef_call (getQ_c (a := x26.a) (l := (rdText (x12.2.l.drop q) 2000).2.1) (c := x26.c) (by have := congrArg List.length h12; omega)) rfl (fun x34 => ?_))
        refine TL_pure (fun h34 => ?_)
        have hys := getG_sig (rdText (x12.2.l.drop q) 2000).2.1
        rw [← h34] at hys
        refine TL_q (Qt_move (.tuple _) rfl) rfl ?_
        refine TL_q (Qt_extract rfl) rfl ?_
        refine TL_q (Qt_extract rfl) rfl ?_
        refine TL_e rfl (Ef_allocN (fun b10 => ?_))
        refine TL_n (Ef_storeN rfl rfl (?_))
        refine TL_q (Qt_assign (.int .i64 _) rfl) rfl ?_
        refine TL_nil ?_
        refine X_then ?_
        refine T_seq ?_
        refine T_seq ?_
        refine T_region ?_
        refine TL_q (Qt_move (.int .i64 _) rfl) rfl ?_
        refine TL_q (Qt_neq rfl rfl) rfl ?_
        refine TL_nil ?_
        refine X_then ?_
        refine T_cond rfl (fun h38 => ?_) (fun h38 => ?_)
        ·
          have p38 := h38
          try simp only [decide_eq_true_eq, decide_eq_false_iff_not, Bool.not_eq_true', Bool.not_eq_false', Option.isNone_iff_eq_none, ne_eq, Decidable.not_not, Int.not_lt, Int.not_le] at p38
          rw [itA_bad2 (by omega) p38] at hi
          refine T_seq ?_
          refine T_region ?_
          refine TL_q (Qt_move (.int .i64 _) rfl) rfl ?_
          refine TL_q (Qt_assign (.slice _ _ _) rfl) rfl ?_
          refine TL_q (Qt_assign (.int .i64 _) rfl) rfl ?_
          refine TL_nil ?_
          refine X_then ?_
          refine T_ret ?_
          refine X_then_ret ?_
          refine X_block_ret ?_
          refine X_then_ret ?_
          refine X_loop_ret ?_
          refine X_block_ret ?_
          refine X_then_ret ?_
          have e : batchG l = ((getG (rdText (x12.2.l.drop q) 2000).2.1).1, []) := by
            rw [← h12]; unfold batchG; rw [if_neg (by omega), if_pos (by rw [hi]; exact p38), hi]
          simp only [e]
          exact X_ret ((⟨none, 0⟩, []), []) [_, _] Try.results46 ⟨rfl, rfl, trivial⟩ rfl (fun w hw => by
            have h0 : St w0 H w := Subs.st inferInstance w hw
            exact St.addPure (h0.datNil.addNil 104 7) ⟨rfl, fun x hx => (by cases hx), Nat.zero_le _⟩)
        ·
          have p38 := h38
          try simp only [decide_eq_true_eq, decide_eq_false_iff_not, Bool.not_eq_true', Bool.not_eq_false', Option.isNone_iff_eq_none, ne_eq, Decidable.not_not, Int.not_lt, Int.not_le] at p38
          rw [itA_ok (by omega) (by omega), ← h34] at hi
          refine T_skip ?_
          refine X_then ?_
          refine T_region ?_
          refine TL_q (Qt_move (.slice _ _ _) rfl) rfl ?_
          refine TL_q (Qt_loadN rfl rfl) rfl ?_
          refine TL_e rfl (Ef_sliceN (m := ([x34] : List ReqV).length) [.agg (x34).cells] (([x34] : List ReqV).flatMap ReqV.list) rfl rfl rfl rfl (by simp [Value.cells, ReqV.size]) rfl rfl (fun a42 c42 => ?_))
          refine TL_e rfl (Ef_appendS ReqV.list (sv := .slice _ _ _) (xv := .slice _ _ _) (xs := ls) (ys := [x34]) ReqV.list_len ReqV.list_one rfl rfl (by simp; omega) rfl rfl (fun a43 c43 => ?_))
          refine TL_q (Qt_assign (.slice _ _ _) rfl) rfl ?_
          refine TL_nil ?_
          refine X_block ?_
          refine X_then ?_
          refine T_region ?_
          first
            | refine TL_q (Qt_add rfl rfl (by omega) (by omega)) rfl ?_
            | refine TL_q (Qt_addw rfl rfl) rfl ?_
          refine TL_q (Qt_move (.int .i64 _) rfl) rfl ?_
          refine TL_nil ?_
          apply X_loop
          case ha => exact (by repeat (first | with_reducible exact agree_refl | refine agree_upd rfl ?_ | refine agree_mix rfl ?_ | refine agree_setAll rfl ?_))
          case hI => exact ⟨k + 1, a43, c43, ls ++ [x34], (fp ++ (rowFp (.slice x34.sig.a x34.sig.l.length x34.sig.c))), _, rfl, rfl, by omega, by rw [hi, List.map_append]; rfl, by simp [hll], by omega, fun x hx => by rcases List.mem_append.1 hx with h | h; exact hsg x h; rw [List.mem_singleton.1 h]; exact hys⟩
          case hm => exact by show (rdCount x12.2.l 4).2.1 - (k + 1 : Int).toNat < (rdCount x12.2.l 4).2.1 - (k : Int).toNat; omega
          case hH => exact (fun w hw => by
            have h1 : St w0 (row (.slice x34.sig.a x34.sig.l.length x34.sig.c) 5 1 (bytesV x34.sig.l) :: dat fp ⟨(ls).map ReqV.sig, [], []⟩ :: row (.slice a43 (ls ++ [x34]).length c43) 104 7 ((ls ++ [x34]).flatMap ReqV.list) :: blk x12.1 (.cells (ReaderV.mk x12.2 ((q + (rdText (x12.2.l.drop q) 2000).2.2 : Nat) : Int)).cells 126 (0, 0)) :: row (.slice x12.2.a x12.2.l.length x12.2.c) 5 1 (bytesV x12.2.l) :: H) w := Subs.st inferInstance w hw
            have h3 : St w0 (dat fp ⟨(ls).map ReqV.sig, [], []⟩ :: dat (rowFp (.slice x34.sig.a x34.sig.l.length x34.sig.c)) ⟨[x34.sig], [], []⟩ :: row (.slice a43 (ls ++ [x34]).length c43) 104 7 ((ls ++ [x34]).flatMap ReqV.list) :: blk x12.1 (.cells (ReaderV.mk x12.2 ((q + (rdText (x12.2.l.drop q) 2000).2.2 : Nat) : Int)).cells 126 (0, 0)) :: row (.slice x12.2.a x12.2.l.length x12.2.c) 5 1 (bytesV x12.2.l) :: H) w := Subs.st inferInstance w h1.datB
            have h4 : St w0 (dat (fp ++ (rowFp (.slice x34.sig.a x34.sig.l.length x34.sig.c))) ⟨(ls ++ [x34]).map ReqV.sig, [], []⟩ :: row (.slice a43 (ls ++ [x34]).length c43) 104 7 ((ls ++ [x34]).flatMap ReqV.list) :: blk x12.1 (.cells (ReaderV.mk x12.2 ((q + (rdText (x12.2.l.drop q) 2000).2.2 : Nat) : Int)).cells 126 (0, 0)) :: row (.slice x12.2.a x12.2.l.length x12.2.c) 5 1 (bytesV x12.2.l) :: H) w := by
              rw [List.map_append]; exact h3.datAdd
            exact Subs.st inferInstance w h4)
    ·
      have p23 := h23
      try simp only [decide_eq_true_eq, decide_eq_false_iff_not, Bool.not_eq_true', Bool.not_eq_false', Option.isNone_iff_eq_none, ne_eq, Decidable.not_not, Int.not_lt, Int.not_le] at p23
      have hkn : k = (rdCount x12.2.l 4).2.1 := by omega
      rw [hkn, Nat.sub_self] at hi
      have hie : (itA x12.2.l (rdCount x12.2.l 4).2.2 (rdCount x12.2.l 4).2.1 []) = (0, ls.map ReqV.abs, q) := hi
      refine T_exit ?_
      refine X_then_exit ?_
      refine X_loop_exit ?_
      refine X_block_exit ?_
      refine X_then ?_
      refine T_seq ?_
      refine T_block ?_
      refine T_seq ?_
      refine T_region ?_
      refine TL_q (Qt_move (.pointer _) rfl) rfl ?_
      refine TL_frontB x12.1 ?_
      refine TL_e rfl (Ef_call (done_c (b := x12.2) (k := q) hq (by rw [h12]; omega)) rfl (fun x47 => ?_))
      refine TL_q (Qt_neq rfl rfl) rfl ?_
      refine TL_q (Qt_assign (.bool _) rfl) rfl ?_
      refine TL_nil ?_
      refine X_then ?_
      refine T_cond rfl (fun h45 => ?_) (fun h45 => ?_)
      ·
        have p45 := h45
        try simp only [decide_eq_true_eq, decide_eq_false_iff_not, Bool.not_eq_true', Bool.not_eq_false', Option.isNone_iff_eq_none, ne_eq, Decidable.not_not, Int.not_lt, Int.not_le] at p45
        have hdn : q < x12.2.l.length := by by_cases hh : q < x12.2.l.length; exact hh; simp [hh] at h45
        refine T_seq ?_
        refine T_region ?_
        refine TL_q (Qt_assign (.slice _ _ _) rfl) rfl ?_
        refine TL_q (Qt_assign (.int .i64 _) rfl) rfl ?_
        refine TL_nil ?_
        refine X_then ?_
        refine T_ret ?_
        refine X_block_ret ?_
        refine X_then_ret ?_
        have e : batchG l = (2, []) := by
          rw [← h12]; unfold batchG; rw [if_neg (by omega), if_neg (by rw [hie]; simp), if_pos (by rw [hie]; exact hdn)]
        simp only [e]
        exact X_ret ((⟨none, 0⟩, []), []) [_, _] Try.results46 ⟨rfl, rfl, trivial⟩ rfl (fun w hw => by
          have h0 : St w0 H w := Subs.st inferInstance w hw
          exact St.addPure (h0.datNil.addNil 104 7) ⟨rfl, fun x hx => (by cases hx), Nat.zero_le _⟩)
      ·
        have p45 := h45
        try simp only [decide_eq_true_eq, decide_eq_false_iff_not, Bool.not_eq_true', Bool.not_eq_false', Option.isNone_iff_eq_none, ne_eq, Decidable.not_not, Int.not_lt, Int.not_le] at p45
        have hdn : ¬ q < x12.2.l.length := by intro hh; simp [hh] at h45
        refine T_seq ?_
        refine T_region ?_
        refine TL_q (Qt_move (.slice _ _ _) rfl) rfl ?_
        refine TL_e rfl (Ef_call (formedBatchQ_c (ls := ls) (by omega)) rfl (fun x51 => ?_))
        refine TL_q (Qt_not rfl) rfl ?_
        refine TL_q (Qt_assign (.bool _) rfl) rfl ?_
        refine TL_nil ?_
        refine X_then ?_
        refine T_cond rfl (fun h49 => ?_) (fun h49 => ?_)
        ·
          have p49 := h49
          try simp only [decide_eq_true_eq, decide_eq_false_iff_not, Bool.not_eq_true', Bool.not_eq_false', Option.isNone_iff_eq_none, ne_eq, Decidable.not_not, Int.not_lt, Int.not_le] at p49
          refine T_seq ?_
          refine T_region ?_
          refine TL_q (Qt_assign (.slice _ _ _) rfl) rfl ?_
          refine TL_q (Qt_assign (.int .i64 _) rfl) rfl ?_
          refine TL_nil ?_
          refine X_then ?_
          refine T_ret ?_
          refine X_block_ret ?_
          refine X_then_ret ?_
          have e : batchG l = (15, []) := by
            rw [← h12]; unfold batchG; rw [if_neg (by omega), if_neg (by rw [hie]; simp), if_neg (by rw [hie]; exact hdn), if_pos (by rw [hie]; simpa using h49)]
          simp only [e]
          exact X_ret ((⟨none, 0⟩, []), []) [_, _] Try.results46 ⟨rfl, rfl, trivial⟩ rfl (fun w hw => by
            have h0 : St w0 H w := Subs.st inferInstance w hw
            exact St.addPure (h0.datNil.addNil 104 7) ⟨rfl, fun x hx => (by cases hx), Nat.zero_le _⟩)
        ·
          have p49 := h49
          try simp only [decide_eq_true_eq, decide_eq_false_iff_not, Bool.not_eq_true', Bool.not_eq_false', Option.isNone_iff_eq_none, ne_eq, Decidable.not_not, Int.not_lt, Int.not_le] at p49
          refine T_skip ?_
          refine X_block ?_
          refine X_then ?_
          refine T_seq ?_
          refine T_region ?_
          refine TL_q (Qt_move (.slice _ _ _) rfl) rfl ?_
          refine TL_q (Qt_assign (.slice _ _ _) rfl) rfl ?_
          refine TL_q (Qt_assign (.int .i64 _) rfl) rfl ?_
          refine TL_nil ?_
          refine X_then ?_
          refine T_ret ?_
          have e : batchG l = (0, ls.map ReqV.abs) := by
            rw [← h12]; unfold batchG; rw [if_neg (by omega), if_neg (by rw [hie]; simp), if_neg (by rw [hie]; exact hdn), if_neg (by rw [hie]; simpa using h49), hie]
          rw [e]
          exact X_ret ((⟨a7, c7⟩, ls), fp) [_, _] Try.results46 ⟨rfl, rfl, trivial⟩ rfl (fun w hw => (Subs.st inferInstance w hw : St w0 (row (.slice a7 (ls).length c7) 104 7 ((ls).flatMap ReqV.list) :: dat fp ⟨(ls).map ReqV.sig, [], []⟩ :: H) w).addPure ⟨rfl, hsg, by show ls.length ≤ 4; omega⟩)
set_option maxHeartbeats 1000000 in
theorem chkQ_c {w0 : World} {H : List SA} {sa : Option Addr} {sc : Nat} {ks : List BS} {ra : Option Addr} {rc : Nat} {rs : List (Vector UInt8 32)} [hrr : RdC w0 H (.slice ra rs.length rc) 32 (rs.flatMap hlist)] (hrs : rs.length ≤ 1000) {r : ReqV} (ha : Sig64 r.op.a) (hb : Sig64 r.op.b) [hsg : RdB w0 H (.slice r.sig.a r.sig.l.length r.sig.c) r.sig.l] :
    CT Try.prog w0 (H) 47 [.agg (KeysV.mk ⟨sa, sc, ks⟩ ⟨ra, rs.length, rc⟩).cells, .agg r.cells] (α := Unit) (fun _ => .int .i64 (chkQ rs r.abs)) (fun _ => H) := by
  refine CT_intro Try.func47 rfl Try.ntmps47 rfl ?_
  refine T_seq ?_
  refine T_region ?_
  refine TL_e rfl (Ef_boxN rfl (fun b2 => ?_))
  refine TL_e rfl (Ef_boxN rfl (fun b3 => ?_))
  refine TL_q (Qt_assign (.int .i64 _) rfl) rfl ?_
  refine TL_nil ?_
  refine X_then ?_
  refine T_seq ?_
  refine T_block ?_
  refine T_seq ?_
  refine T_region ?_
  refine TL_q (Qt_loadN rfl rfl) rfl ?_
  refine TL_e rfl (Ef_call (formedQ_c (r := r)) rfl (fun x9 => ?_))
  refine TL_q (Qt_not rfl) rfl ?_
  refine TL_q (Qt_assign (.bool _) rfl) rfl ?_
  refine TL_nil ?_
  refine X_then ?_
  refine T_cond rfl (fun h7 => ?_) (fun h7 => ?_)
  ·
    have p7 := h7
    try simp only [decide_eq_true_eq, decide_eq_false_iff_not, Bool.not_eq_true', Bool.not_eq_false', Option.isNone_iff_eq_none, ne_eq, Decidable.not_not, Int.not_lt, Int.not_le] at p7
    refine T_seq ?_
    refine T_region ?_
    refine TL_q (Qt_assign (.int .i64 _) rfl) rfl ?_
    refine TL_nil ?_
    refine X_then ?_
    refine T_ret ?_
    refine X_block_ret ?_
    refine X_then_ret ?_
    have e : chkQ rs r.abs = 15 := by
      unfold chkQ; rw [if_pos (by simpa using h7)]
    rw [e]
    exact X_ret () [_] Try.results47 ⟨rfl, trivial⟩ rfl (Subs.st inferInstance)
  ·
    have p7 := h7
    try simp only [decide_eq_true_eq, decide_eq_false_iff_not, Bool.not_eq_true', Bool.not_eq_false', Option.isNone_iff_eq_none, ne_eq, Decidable.not_not, Int.not_lt, Int.not_le] at p7
    refine T_seq ?_
    refine T_region ?_
    refine TL_q (Qt_fieldAddr 0 rfl rfl) rfl ?_
    refine TL_q (Qt_load1 rfl) rfl ?_
    refine TL_q (Qt_fieldAddr 1 rfl rfl) rfl ?_
    refine TL_q (Qt_load1 rfl) rfl ?_
    refine TL_q (Qt_len_slice rfl Try.underlying25) rfl ?_
    refine TL_q (Qt_geq rfl rfl) rfl ?_
    refine TL_q (Qt_assign (.bool _) rfl) rfl ?_
    refine TL_nil ?_
    refine X_then ?_
    refine T_cond rfl (fun h11 => ?_) (fun h11 => ?_)
    ·
      have p11 := h11
      try simp only [decide_eq_true_eq, decide_eq_false_iff_not, Bool.not_eq_true', Bool.not_eq_false', Option.isNone_iff_eq_none, ne_eq, Decidable.not_not, Int.not_lt, Int.not_le] at p11
      refine T_seq ?_
      refine T_region ?_
      refine TL_q (Qt_assign (.int .i64 _) rfl) rfl ?_
      refine TL_nil ?_
      refine X_then ?_
      refine T_ret ?_
      refine X_block_ret ?_
      refine X_then_ret ?_
      have e : chkQ rs r.abs = 6 := by
        unfold chkQ; rw [if_neg (by simpa using h7), if_pos (by show (rs.length : Int) ≤ r.client; omega)]
      rw [e]
      exact X_ret () [_] Try.results47 ⟨rfl, trivial⟩ rfl (Subs.st inferInstance)
    ·
      have p11 := h11
      try simp only [decide_eq_true_eq, decide_eq_false_iff_not, Bool.not_eq_true', Bool.not_eq_false', Option.isNone_iff_eq_none, ne_eq, Decidable.not_not, Int.not_lt, Int.not_le] at p11
      have hfq : formedQ r.abs = true := by simpa using h7
      have hc0 := formedQ_client hfq
      have hsq : 1 ≤ r.seq ∧ r.seq ≤ 8 := formedQ_seq hfq
      have hw : IntKind.i64.wrap (r.seq - 1) = r.seq - 1 := by simp [IntKind.wrap, IntKind.bits, IntKind.signed]; omega
      obtain ⟨n, hcn⟩ := Int.eq_ofNat_of_zero_le (show 0 ≤ r.client from hc0)
      have hn : n < rs.length := by omega
      have hgd : rs.getD r.abs.client.toNat default = rs[n] := by
        show rs.getD r.client.toNat default = rs[n]
        rw [hcn, Int.toNat_natCast, List.getD_eq_getElem?_getD, List.getElem?_eq_getElem hn]; rfl
      refine T_skip ?_
      refine X_block ?_
      refine X_then ?_
      refine T_seq ?_
      refine T_draw (blk b2 (.cells (KeysV.mk ⟨sa, sc, ks⟩ ⟨ra, rs.length, rc⟩).cells 32 (0, 0)) :: blk b3 (.cells r.cells 104 (0, 0)) :: H) [(0, true), (1, true), (2, true), (3, true), (4, true), (5, true), (6, true), (8, true), (9, true), (7, false), (10, false), (11, true), (12, true), (13, true), (14, true), (15, true)] (by kernel_rfl) (by kernel_rfl) rfl (by kernel_rfl) (Subs.st inferInstance) (fun hns0 => ?_)
      refine DL_q hns0 rfl (Qt_fieldAddr 1 rfl rfl) rfl ?_
      refine DL_q hns0 rfl (Qt_load1 rfl) rfl ?_
      refine DL_q hns0 rfl (Qt_fieldAddr 0 rfl rfl) rfl ?_
      refine DL_q hns0 rfl (Qt_load1 rfl) rfl ?_
      refine DL_q hns0 rfl (Qt_indexN rfl (show Value.int .i64 r.client = .int .i64 (n : Int) from by rw [hcn]) (by omega) (by simp; omega)) rfl ?_
      refine DL_q hns0 rfl (Qt_loadRN 32 (hlist rs[n]) rfl (flat_slice _ 32 hl32 rs n hn) (hl32 _) (by decide)) rfl ?_
      refine DL_q hns0 rfl (Qt_loadN rfl rfl) rfl ?_
      refine DL_q hns0 rfl (Qt_fieldAddr 6 rfl rfl) rfl ?_
      refine DL_q hns0 rfl (Qt_load1 rfl) rfl ?_
      refine DL_e rfl rfl (Ef_call (textQ_c (r := r) ha hb) rfl (fun x26 => ⟨(Subs.st inferInstance), ?_⟩))
      refine DL_e rfl rfl (Ef_call (verify_c (root := rs[n]) (tl := textQ r.abs) (by have := textQ_len (r := r.abs) ha hb; omega) (sl := r.sig.l)) rfl (fun x29 => ⟨(Subs.st inferInstance), ?_⟩))
      refine DL_q hns0 rfl (Qt_move (.tuple _) rfl) rfl ?_
      refine DL_q hns0 rfl (Qt_extract rfl) rfl ?_
      refine DL_q hns0 rfl (Qt_extract rfl) rfl ?_
      refine DL_q hns0 rfl (Qt_assign (.int .i64 _) rfl) rfl ?_
      refine DL_q hns0 rfl (Qt_assign (.int .i64 _) rfl) rfl ?_
      refine DL_nil ?_
      refine X_then ?_
      refine T_seq ?_
      refine T_block ?_
      refine T_seq ?_
      refine T_region ?_
      refine TL_q (Qt_move (.int .i64 _) rfl) rfl ?_
      refine TL_q (Qt_neq rfl rfl) rfl ?_
      refine TL_q (Qt_assign (.bool _) rfl) rfl ?_
      refine TL_nil ?_
      refine X_then ?_
      refine T_cond rfl (fun h32 => ?_) (fun h32 => ?_)
      ·
        have p32 := h32
        try simp only [decide_eq_true_eq, decide_eq_false_iff_not, Bool.not_eq_true', Bool.not_eq_false', Option.isNone_iff_eq_none, ne_eq, Decidable.not_not, Int.not_lt, Int.not_le] at p32
        refine T_seq ?_
        refine T_region ?_
        refine TL_q (Qt_move (.int .i64 _) rfl) rfl ?_
        refine TL_q (Qt_assign (.int .i64 _) rfl) rfl ?_
        refine TL_nil ?_
        refine X_then ?_
        refine T_ret ?_
        refine X_block_ret ?_
        refine X_then_ret ?_
        have e : chkQ rs r.abs = (verV rs[n] (textQ r.abs) r.sig.l).2 := by
          unfold chkQ; rw [if_neg (by simpa using h7), if_neg (by show ¬ (rs.length : Int) ≤ r.client; omega), hgd, show r.abs.sig = r.sig.l from rfl, show r.abs.seq = r.seq from rfl, if_pos p32]
        rw [e]
        exact X_ret () [_] Try.results47 ⟨rfl, trivial⟩ rfl (Subs.st inferInstance)
      ·
        have p32 := h32
        try simp only [decide_eq_true_eq, decide_eq_false_iff_not, Bool.not_eq_true', Bool.not_eq_false', Option.isNone_iff_eq_none, ne_eq, Decidable.not_not, Int.not_lt, Int.not_le] at p32
        refine T_seq ?_
        refine T_region ?_
        refine TL_q (Qt_move (.int .i64 _) rfl) rfl ?_
        refine TL_q (Qt_fieldAddr 1 rfl rfl) rfl ?_
        refine TL_q (Qt_load1 rfl) rfl ?_
        first
          | refine TL_q (Qt_sub rfl rfl (by omega) (by omega)) rfl ?_
          | refine TL_q (Qt_subw rfl rfl) rfl ?_
        refine TL_q (Qt_neq rfl rfl) rfl ?_
        refine TL_q (Qt_assign (.bool _) rfl) rfl ?_
        refine TL_nil ?_
        refine X_then ?_
        refine T_cond rfl (fun h36 => ?_) (fun h36 => ?_)
        ·
          have p36 := h36
          try simp only [decide_eq_true_eq, decide_eq_false_iff_not, Bool.not_eq_true', Bool.not_eq_false', Option.isNone_iff_eq_none, ne_eq, Decidable.not_not, Int.not_lt, Int.not_le] at p36
          refine T_seq ?_
          refine T_region ?_
          refine TL_q (Qt_assign (.int .i64 _) rfl) rfl ?_
          refine TL_nil ?_
          refine X_then ?_
          refine T_ret ?_
          refine X_block_ret ?_
          refine X_then_ret ?_
          have e : chkQ rs r.abs = 5 := by
            unfold chkQ; rw [if_neg (by simpa using h7), if_neg (by show ¬ (rs.length : Int) ≤ r.client; omega), hgd, show r.abs.sig = r.sig.l from rfl, show r.abs.seq = r.seq from rfl, if_neg (fun hh => hh p32), if_pos p36]
          rw [e]
          exact X_ret () [_] Try.results47 ⟨rfl, trivial⟩ rfl (Subs.st inferInstance)
        ·
          have p36 := h36
          try simp only [decide_eq_true_eq, decide_eq_false_iff_not, Bool.not_eq_true', Bool.not_eq_false', Option.isNone_iff_eq_none, ne_eq, Decidable.not_not, Int.not_lt, Int.not_le] at p36
          refine T_skip ?_
          refine X_block ?_
          refine X_then ?_
          refine T_seq ?_
          refine T_region ?_
          refine TL_q (Qt_assign (.int .i64 _) rfl) rfl ?_
          refine TL_nil ?_
          refine X_then ?_
          refine T_ret ?_
          have e : chkQ rs r.abs = 0 := by
            unfold chkQ; rw [if_neg (by simpa using h7), if_neg (by show ¬ (rs.length : Int) ≤ r.client; omega), hgd, show r.abs.sig = r.sig.l from rfl, show r.abs.seq = r.seq from rfl, if_neg (fun hh => hh p32), if_neg (fun hh => hh p36)]
          rw [e]
          exact X_ret () [_] Try.results47 ⟨rfl, trivial⟩ rfl (Subs.st inferInstance)
set_option maxHeartbeats 1000000 in
theorem checkBatchE_c {w0 : World} {H : List SA} {sa : Option Addr} {sc : Nat} {ks : List BS} {ra : Option Addr} {rc : Nat} {rs : List (Vector UInt8 32)} [hrr : RdC w0 H (.slice ra rs.length rc) 32 (rs.flatMap hlist)] (hrs : rs.length ≤ 1000) {a : Option Addr} {l : List UInt8} {c : Nat} [hr : RdB w0 H (.slice a l.length c) l] (hl : l.length ≤ 4294967296) :
    CT Try.prog w0 (H) 22 [.agg (KeysV.mk ⟨sa, sc, ks⟩ ⟨ra, rs.length, rc⟩).cells, .slice a l.length c] (α := Sl) (fun y => .tuple #[.slice y.a y.n y.c, .int .i64 (cbE rs l)]) (fun _ => H) := by
  refine CT_intro Try.func22 rfl Try.ntmps22 rfl ?_
  refine T_seq ?_
  refine T_region ?_
  refine TL_e rfl (Ef_boxN rfl (fun b2 => ?_))
  refine TL_q (Qt_assign (.slice _ _ _) rfl) rfl ?_
  refine TL_q (Qt_assign (.int .i64 _) rfl) rfl ?_
  refine TL_nil ?_
  refine X_then ?_
  refine T_seq ?_
  refine T_region ?_
  refine TL_q (Qt_move (.slice _ _ _) rfl) rfl ?_
  refine TL_e rfl (Ef_call (getBatch_c hl) rfl (fun x13 => ?_))
  refine TL_pure (fun h13 => ?_)
  obtain ⟨h13, hx13, hl13⟩ := h13
  refine TL_q (Qt_move (.tuple _) rfl) rfl ?_
  refine TL_q (Qt_extract rfl) rfl ?_
  refine TL_q (Qt_extract rfl) rfl ?_
  refine TL_q (Qt_assign (.slice _ _ _) rfl) rfl ?_
  refine TL_q (Qt_assign (.int .i64 _) rfl) rfl ?_
  refine TL_nil ?_
  refine X_then ?_
  refine T_seq ?_
  refine T_seq ?_
  refine T_region ?_
  refine TL_q (Qt_move (.int .i64 _) rfl) rfl ?_
  refine TL_q (Qt_neq rfl rfl) rfl ?_
  refine TL_nil ?_
  refine X_then ?_
  refine T_cond rfl (fun h17 => ?_) (fun h17 => ?_)
  ·
    have p17 := h17
    try simp only [decide_eq_true_eq, decide_eq_false_iff_not, Bool.not_eq_true', Bool.not_eq_false', Option.isNone_iff_eq_none, ne_eq, Decidable.not_not, Int.not_lt, Int.not_le] at p17
    refine T_seq ?_
    refine T_region ?_
    refine TL_q (Qt_move (.int .i64 _) rfl) rfl ?_
    refine TL_q (Qt_assign (.slice _ _ _) rfl) rfl ?_
    refine TL_q (Qt_assign (.int .i64 _) rfl) rfl ?_
    refine TL_nil ?_
    refine X_then ?_
    refine T_ret ?_
    refine X_then_ret ?_
    have e : cbE rs l = (batchG l).1 := by
      exact if_pos p17
    rw [e]
    exact X_ret (⟨none, 0, 0⟩ : Sl) [_, _] Try.results22 ⟨rfl, rfl, trivial⟩ rfl (Subs.st inferInstance)
  ·
    have p17 := h17
    try simp only [decide_eq_true_eq, decide_eq_false_iff_not, Bool.not_eq_true', Bool.not_eq_false', Option.isNone_iff_eq_none, ne_eq, Decidable.not_not, Int.not_lt, Int.not_le] at p17
    have hb0 : (batchG l).1 = 0 := by omega
    refine T_skip ?_
    refine X_then ?_
    refine T_seq ?_
    refine T_seq ?_
    refine T_region ?_
    refine TL_q (Qt_move (.slice _ _ _) rfl) rfl ?_
    refine TL_q (Qt_len_slice rfl Try.underlying67) rfl ?_
    refine TL_q (Qt_move (.int .i64 _) rfl) rfl ?_
    refine TL_nil ?_
    refine X_then ?_
    refine T_block ?_
    refine T_loop [4, 5, 9, 10, 21, 22, 23, 24, 25, 26, 27, 28, 29, 30, 31] [21] (fun us H' => ∃ (k : Nat), us = [.int .i64 (k : Int)] ∧ row (.slice x13.1.1.a (x13.1.2).length x13.1.1.c) 104 7 ((x13.1.2).flatMap ReqV.list) :: dat x13.2 ⟨(x13.1.2).map ReqV.sig, [], []⟩ :: blk b2 (.cells (KeysV.mk ⟨sa, sc, ks⟩ ⟨ra, rs.length, rc⟩).cells 32 (0, 0)) :: H = H' ∧ k ≤ x13.1.2.length ∧ (firstE rs (x13.1.2.map ReqV.abs) = firstE rs ((x13.1.2.map ReqV.abs).drop k))) (fun us => match us with | .int _ i :: _ => x13.1.2.length - i.toNat | _ => 0) ⟨0, rfl, rfl, by omega, rfl⟩ (Subs.st inferInstance) ?_
    rintro τ0 _ _  ⟨k, rfl, rfl, hk0, hi⟩ _
    refine T_seq ?_
    refine T_region ?_
    refine TL_q (Qt_lss rfl rfl) rfl ?_
    refine TL_nil ?_
    refine X_then ?_
    refine T_seq ?_
    refine T_cond rfl (fun h22 => ?_) (fun h22 => ?_)
    ·
      have p22 := h22
      try simp only [decide_eq_true_eq, decide_eq_false_iff_not, Bool.not_eq_true', Bool.not_eq_false', Option.isNone_iff_eq_none, ne_eq, Decidable.not_not, Int.not_lt, Int.not_le] at p22
      have hk : k < x13.1.2.length := by omega
      have hst := firstE_step rs (x13.1.2.map ReqV.abs) k (by simpa using hk)
      have hgk : ((x13.1.2.map ReqV.abs)[k]'(by simpa using hk)) = x13.1.2[k].abs := by simp
      rw [hgk] at hst
      refine T_skip ?_
      refine X_then ?_
      refine T_seq ?_
      refine T_block ?_
      refine T_seq ?_
      refine T_region ?_
      refine TL_q (Qt_indexN rfl rfl (by omega) (by simp; omega)) rfl ?_
      refine TL_q (Qt_val (Qt_loadRN 7 x13.1.2[k].list rfl (flat_slice _ 7 ReqV.list_len x13.1.2 k hk) (ReqV.list_len _) (by decide)) (show Value.agg x13.1.2[k].list.toArray = Value.agg x13.1.2[k].cells from rfl)) rfl ?_
      refine TL_e rfl (Ef_allocN (fun b9 => ?_))
      refine TL_n (Ef_storeN rfl rfl (?_))
      refine TL_nil ?_
      refine X_then ?_
      refine T_seq ?_
      refine T_region ?_
      refine TL_q (Qt_loadN rfl rfl) rfl ?_
      refine TL_q (Qt_loadN rfl rfl) rfl ?_
      have : RdB w0 (dat x13.2 ⟨(x13.1.2).map ReqV.sig, [], []⟩ :: blk b2 (.cells (KeysV.mk ⟨sa, sc, ks⟩ ⟨ra, rs.length, rc⟩).cells 32 (0, 0)) :: H) (.slice x13.1.2[k].sig.a x13.1.2[k].sig.l.length x13.1.2[k].sig.c) x13.1.2[k].sig.l := (RdE.own2 : RdE w0 _ (x13.1.2.map ReqV.sig)).get (List.mem_map.2 ⟨_, List.getElem_mem hk, rfl⟩)
      refine TL_e rfl (Ef_call (chkQ_c (sa := sa) (sc := sc) (ks := ks) (rc := rc) (rs := rs) hrs (r := x13.1.2[k]) (hx13 _ (List.getElem_mem hk)).1 (hx13 _ (List.getElem_mem hk)).2) rfl (fun x27 => ?_))
      refine TL_q (Qt_assign (.int .i64 _) rfl) rfl ?_
      refine TL_nil ?_
      refine X_then ?_
      refine T_seq ?_
      refine T_region ?_
      refine TL_q (Qt_move (.int .i64 _) rfl) rfl ?_
      refine TL_q (Qt_neq rfl rfl) rfl ?_
      refine TL_nil ?_
      refine X_then ?_
      refine T_cond rfl (fun h29 => ?_) (fun h29 => ?_)
      ·
        have p29 := h29
        try simp only [decide_eq_true_eq, decide_eq_false_iff_not, Bool.not_eq_true', Bool.not_eq_false', Option.isNone_iff_eq_none, ne_eq, Decidable.not_not, Int.not_lt, Int.not_le] at p29
        rw [if_pos p29] at hst
        refine T_seq ?_
        refine T_region ?_
        refine TL_q (Qt_move (.int .i64 _) rfl) rfl ?_
        refine TL_q (Qt_assign (.slice _ _ _) rfl) rfl ?_
        refine TL_q (Qt_assign (.int .i64 _) rfl) rfl ?_
        refine TL_nil ?_
        refine X_then ?_
        refine T_ret ?_
        refine X_block_ret ?_
        refine X_then_ret ?_
        refine X_loop_ret ?_
        refine X_block_ret ?_
        refine X_then_ret ?_
        have e : cbE rs l = chkQ rs x13.1.2[k].abs := by
          unfold cbE; rw [if_neg (by omega), ← h13, hi, hst]
        rw [e]
        exact X_ret (⟨none, 0, 0⟩ : Sl) [_, _] Try.results22 ⟨rfl, rfl, trivial⟩ rfl (Subs.st inferInstance)
      ·
        have p29 := h29
        try simp only [decide_eq_true_eq, decide_eq_false_iff_not, Bool.not_eq_true', Bool.not_eq_false', Option.isNone_iff_eq_none, ne_eq, Decidable.not_not, Int.not_lt, Int.not_le] at p29
        rw [if_neg (by omega)] at hst
        refine T_skip ?_
        refine X_block ?_
        refine X_then ?_
        refine T_region ?_
        first
          | refine TL_q (Qt_add rfl rfl (by omega) (by omega)) rfl ?_
          | refine TL_q (Qt_addw rfl rfl) rfl ?_
        refine TL_q (Qt_move (.int .i64 _) rfl) rfl ?_
        refine TL_nil ?_
        apply X_loop
        case ha => exact (by repeat (first | with_reducible exact agree_refl | refine agree_upd rfl ?_ | refine agree_mix rfl ?_ | refine agree_setAll rfl ?_))
        case hI => exact ⟨k + 1, rfl, rfl, by omega, by rw [hi, hst]⟩
        case hm => exact by show x13.1.2.length - (k + 1 : Int).toNat < x13.1.2.length - (k : Int).toNat; omega
        case hH => exact (Subs.st inferInstance)
    ·
      have p22 := h22
      try simp only [decide_eq_true_eq, decide_eq_false_iff_not, Bool.not_eq_true', Bool.not_eq_false', Option.isNone_iff_eq_none, ne_eq, Decidable.not_not, Int.not_lt, Int.not_le] at p22
      have hkn : k = x13.1.2.length := by omega
      refine T_exit ?_
      refine X_then_exit ?_
      refine X_loop_exit ?_
      refine X_block_exit ?_
      refine X_then ?_
      refine T_seq ?_
      refine T_region ?_
      refine TL_q (Qt_move (.slice _ _ _) rfl) rfl ?_
      refine TL_q (Qt_assign (.slice _ _ _) rfl) rfl ?_
      refine TL_q (Qt_assign (.int .i64 _) rfl) rfl ?_
      refine TL_nil ?_
      refine X_then ?_
      refine T_ret ?_
      have e : cbE rs l = 0 := by
        unfold cbE; rw [if_neg (by omega), ← h13, hi, hkn, List.drop_of_length_le (by simp)]; rfl
      rw [e]
      exact X_ret (⟨x13.1.1.a, x13.1.2.length, x13.1.1.c⟩ : Sl) [_, _] Try.results22 ⟨rfl, rfl, trivial⟩ rfl (Subs.st inferInstance)
end Go.Proofs.Ytnijomppbgdmnaa
