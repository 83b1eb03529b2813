/- The book as data; New, Wrote, Accepted, Take. -/
import Derived.Test.YtdjbhpdfkopdgaaBm
namespace Go.Proofs.Ytdjbhpdfkopdgaa
open Go.RowKit Go.Sx
set_option maxRecDepth 100000
set_option linter.unusedSimpArgs false
set_option linter.unusedVariables false
def accP : Option (Nat × VoteV) → Option Addr
  | none => none
  | some q => some ⟨q.1, 0, none⟩
def accA : Option (Nat × VoteV) → SA
  | none => pu True
  | some q => blk q.1 (.cells q.2.cells 27 (0, 0))
/-- A book as it lies. -/
structure BkS where
  k : BookV
  r : Nat
  es : List (Ent EraV VoteV)
  c : Nat
  acc : Option (Nat × VoteV)
  fp : List Nat
  vs : List VoteV
abbrev BkS.H (y : BkS) (p : Nat) (H : List SA) : List SA := blk p (.cells y.k.cells 60 (0, 0)) :: blk y.r (mapO encE encV y.es y.c) :: accA y.acc :: datV y.fp y.vs :: H
structure BkS.Ok (y : BkS) : Prop where
  wrote : y.k.wrote = some y.r
  acc : y.k.accepted = accP y.acc
  good : GoodM y.es y.c
  there : ∀ e ∈ y.es, e.v ∈ y.vs
  last : ∀ q, y.acc = some q → q.2 ∈ y.vs
  small : ∀ v ∈ y.vs, SmallV v.abs
/-- A book as data. -/
structure BookD where
  now : EraV
  entered : Bool
  slot : Int
  wrote : List (EraV × VoteD)
  acc : Option VoteD
def BkS.abs (y : BkS) : BookD := ⟨y.k.now, y.k.entered, y.k.slot, y.es.map fun e => (e.k, e.v.abs), y.acc.map fun q => q.2.abs⟩
def BookD.get (b : BookD) (a : EraV) : Option VoteD := (b.wrote.find? fun e => decide (a = e.1)).map (·.2)
theorem BkS.get (y : BkS) (a : EraV) : y.abs.get a = (getE y.es a).map VoteV.abs := by
  simp only [BookD.get, BkS.abs, getE, List.find?_map, Option.map_map]
  rfl
def enterD (b : BookD) (a : EraV) : BookD := bif !b.entered || afterB a b.now then { b with now := a, entered := true } else b
def beginD (b : BookD) (s : Int) : BookD := if b.slot < s then { b with slot := s, wrote := [], acc := none } else b
def writeD (b : BookD) (a : EraV) (v : VoteD) : BookD := if (b.get a).isSome then b else { b with wrote := b.wrote ++ [(a, v)] }
def acceptD (b : BookD) (a : EraV) (v : VoteD) : BookD := match b.acc with | none => { b with acc := some v } | some o => if afterB a ⟨o.view, o.reg⟩ then { b with acc := some v } else b
def takeD (b : BookD) (v : VoteD) : BookD × Int :=
  if (putV v).2 ≠ 0 then (b, 15) else if v.kind = 1 then (enterD b ⟨v.view, v.reg⟩, 0) else if v.slot < b.slot then (b, 7)
  else if v.kind = 2 then (writeD (beginD b v.slot) ⟨v.view, v.reg⟩ v, 0) else (acceptD (beginD b v.slot) ⟨v.view, v.reg⟩ v, 0)
theorem begin_book (now : EraV) (en : Bool) (sl : Int) (r : Nat) (acc : Option (Nat × VoteV)) (es : List (Ent EraV VoteV)) (s : Int) (hle : ¬ s < sl) : ∃ (acc1 : Option (Nat × VoteV)) (es1 : List (Ent EraV VoteV)),
    beginK ⟨now, en, sl, some r, accP acc⟩ s = ⟨now, en, s, some r, accP acc1⟩ ∧ beginE ⟨now, en, sl, some r, accP acc⟩ es s = es1 ∧ (∀ c, GoodM es c → GoodM es1 c) ∧ (∀ e ∈ es1, e ∈ es) ∧ (∀ q, acc1 = some q → acc = some q) ∧
    (∀ (w0 w : World) (H : List SA), St w0 (accA acc :: H) w → St w0 (accA acc1 :: H) w) ∧ (∀ (c : Nat) (fp fp1 : List Nat) (vs vs1 : List VoteV), BkS.abs ⟨⟨now, en, s, some r, accP acc1⟩, r, es1, c, acc1, fp1, vs1⟩ = beginD (BkS.abs ⟨⟨now, en, sl, some r, accP acc⟩, r, es, c, acc, fp, vs⟩) s) := by
  by_cases h : sl < s
  · refine ⟨none, [], by simp [beginK, h, accP], by simp [beginE, h], fun _ hg => ⟨by simp, by simp, by simp⟩, fun _ h => by simp at h, fun _ h => by simp at h, fun w0 w H hw => hw.tail.addPure trivial, fun _ _ _ _ _ => ?_⟩
    show _ = if sl < s then _ else _
    rw [if_pos h]
    rfl
  · have e : sl = s := by omega
    subst e
    refine ⟨acc, es, by simp [beginK], by simp [beginE], fun _ hg => hg, fun _ h => h, fun _ h => h, fun _ _ _ h => h, fun _ _ _ _ _ => ?_⟩
    show _ = if sl < sl then _ else _
    rw [if_neg h]
    rfl
theorem St.accNone {w0 w : World} {H : List SA} (h : St w0 H w) : St w0 (accA none :: H) w := h.addPure trivial
theorem hasE_get (es : List (Ent EraV VoteV)) (a : EraV) (c : Nat) (k : BookV) (r : Nat) (acc : Option (Nat × VoteV)) (fp : List Nat) (vs : List VoteV) : ((BkS.abs ⟨k, r, es, c, acc, fp, vs⟩).get a).isSome = hasE es a := by
  rw [BkS.get]; simp [hasE]

def BookV.made (r : Nat) : BookV := { BookV.zero with wrote := some r }
def BkS.made (r : Nat) : BkS := ⟨BookV.made r, r, [], 0, none, [], []⟩
theorem BkS.made_ok (r : Nat) : (BkS.made r).Ok := ⟨rfl, rfl, ⟨by simp [BkS.made], by simp [BkS.made], by simp [BkS.made]⟩, by simp [BkS.made], by simp [BkS.made], by simp [BkS.made]⟩
def BookD.zero : BookD := ⟨⟨0, 0⟩, false, 0, [], none⟩
theorem BkS.made_abs (r : Nat) : (BkS.made r).abs = BookD.zero := rfl
set_option maxHeartbeats 1000000 in
theorem new_c {w0 : World} {H : List SA}  :
    CT Try.prog w0 (H) 11 [] (α := Nat × Nat) (fun y => .pointer (some ⟨y.1, 0, none⟩)) (fun y => (BkS.made y.2).H y.1 H) := by
  refine CT_intro Try.func11 rfl Try.ntmps11 rfl ?_
  refine T_seq ?_
  refine T_region ?_
  refine TL_q (Qt_assign (.pointer _) rfl) rfl ?_
  refine TL_nil ?_
  refine X_then ?_
  refine T_seq ?_
  refine T_region ?_
  refine TL_e rfl (Ef_makeMap encE encV (fun r1 => ?_))
  refine TL_q (Qt_build [(3, (.map _))] rfl (by kernel_rfl)) rfl ?_
  refine TL_e rfl (Ef_boxN rfl (fun b3 => ?_))
  refine TL_q (Qt_assign (.pointer _) rfl) rfl ?_
  refine TL_nil ?_
  refine X_then ?_
  refine T_ret ?_
  exact X_ret (b3, r1) [_] Try.results11 ⟨rfl, trivial⟩ rfl (fun w hw => by
      have h1 : St w0 (blk b3 (.cells (BookV.made r1).cells 60 (0, 0)) :: blk r1 (mapO encE encV [] 0) :: H) w := hw
      exact Subs.st (H' := blk b3 (.cells (BookV.made r1).cells 60 (0, 0)) :: blk r1 (mapO encE encV [] 0) :: accA none :: datV [] [] :: H) inferInstance w (St.accNone (St.datNil h1)))
/-- Of votes that lie there, or none. -/
theorem rd_zero {w0 : World} {H : List SA} {vs : List VoteV} [h : RdVs w0 H vs] : RdVs w0 H (VoteV.zero :: vs) :=
  ⟨fun v hv => by
    rcases List.mem_cons.1 hv with rfl | hv
    · exact ⟨fun w hw => ⟨none, 0, 0, rfl, rfl, by omega, by decide, fun h => absurd h (by simp [VoteV.zero])⟩⟩
    · exact h.b v hv, fun v hv => by
    rcases List.mem_cons.1 hv with rfl | hv
    · exact ⟨fun w hw => ⟨none, 0, 0, rfl, rfl, by omega, by decide, fun h => absurd h (by simp [VoteV.zero])⟩⟩
    · exact h.c v hv, fun v hv => by
    rcases List.mem_cons.1 hv with rfl | hv
    · exact ⟨fun x hx => by simp [VoteV.zero] at hx⟩
    · exact h.e v hv⟩
theorem getD_mem {es : List (Ent EraV VoteV)} {vs : List VoteV} (h : ∀ e ∈ es, e.v ∈ vs) (a : EraV) : (getE es a).getD VoteV.zero ∈ VoteV.zero :: vs := by
  cases hg : getE es a with
  | none => simp
  | some v => obtain ⟨e, he, _, rfl⟩ := getE_mem hg; exact List.mem_cons_of_mem _ (h e he)
theorem small_zero : SmallV VoteV.zero.abs := ⟨by simp [VoteV.zero, VoteV.abs], by simp [VoteV.zero, VoteV.abs], by simp [VoteV.zero, VoteV.abs]⟩

set_option maxHeartbeats 1000000 in
theorem wrote_c {w0 : World} {H : List SA} {p : Nat} {y : BkS} {view reg : Int} (ho : y.Ok) :
    CT Try.prog w0 (y.H p H) 14 [.pointer (some ⟨p, 0, none⟩), .int .i64 view, .int .i64 reg] (α := VoteV × List Nat) (fun z => .tuple #[.agg z.1.cells, .bool (hasE y.es ⟨view, reg⟩)]) (fun z => pu (z.1.abs = ((getE y.es ⟨view, reg⟩).getD VoteV.zero).abs) :: datV z.2 [z.1] :: y.H p H) := by
  obtain ⟨⟨now, en, sl, wr, ac⟩, r, es, c, acc, fp, vs⟩ := y
  obtain rfl : wr = some r := ho.wrote
  have hmz := getD_mem ho.there ⟨view, reg⟩
  have hsm : SmallV ((getE es ⟨view, reg⟩).getD VoteV.zero).abs := by
    rcases List.mem_cons.1 hmz with h | h
    · rw [h]; exact small_zero
    · exact ho.small _ h
  have rvs : RdVs w0 (BkS.H ⟨⟨now, en, sl, some r, ac⟩, r, es, c, acc, fp, vs⟩ p H) (VoteV.zero :: vs) := rd_zero
  have rb := rvs.b _ hmz
  have rc := rvs.c _ hmz
  have re := rvs.e _ hmz
  refine CT_intro Try.func14 rfl Try.ntmps14 rfl ?_
  refine T_seq ?_
  refine T_region ?_
  refine TL_e rfl (Ef_allocN (fun b6 => ?_))
  refine TL_q (Qt_assign (.bool _) rfl) rfl ?_
  refine TL_nil ?_
  refine X_then ?_
  refine T_seq ?_
  refine T_seq ?_
  refine T_region ?_
  refine TL_q (Qt_move (.pointer _) rfl) rfl ?_
  refine TL_q (Qt_ptr_nil rfl rfl Try.underlying31) rfl ?_
  refine TL_nil ?_
  refine X_then ?_
  refine T_cond rfl (fun h11 => ?_) (fun h11 => ?_)
  ·
    have p11 := h11
    try simp only [decide_eq_true_eq, decide_eq_false_iff_not, Bool.not_eq_true', Bool.not_eq_false', Option.isNone_iff_eq_none, ne_eq, Decidable.not_not, Int.not_lt, Int.not_le] at p11
    cases h11
  ·
    have p11 := h11
    try simp only [decide_eq_true_eq, decide_eq_false_iff_not, Bool.not_eq_true', Bool.not_eq_false', Option.isNone_iff_eq_none, ne_eq, Decidable.not_not, Int.not_lt, Int.not_le] at p11
    refine T_skip ?_
    refine X_then ?_
    refine T_seq ?_
    refine T_region ?_
    refine TL_q (Qt_move (.pointer _) rfl) rfl ?_
    refine TL_q (Qt_nilCheck rfl) rfl ?_
    refine TL_q (Qt_fieldAddr 4 rfl rfl) rfl ?_
    refine TL_q (Qt_load1 rfl) rfl ?_
    refine TL_q (Qt_move (.int .i64 _) rfl) rfl ?_
    refine TL_q (Qt_move (.int .i64 _) rfl) rfl ?_
    refine TL_q (Qt_build [(0, (.int .i64 _)), (1, (.int .i64 _))] rfl (by kernel_rfl)) rfl ?_
    refine TL_q (Qt_lookup2 (key := EraV.mk view reg) (VoteV.zero) rfl rfl Try.underlying55 vote_zero) rfl ?_
    refine TL_q (Qt_move (.tuple _) rfl) rfl ?_
    refine TL_q (Qt_extract rfl) rfl ?_
    refine TL_q (Qt_extract rfl) rfl ?_
    refine TL_e rfl (Ef_allocN (fun b8 => ?_))
    refine TL_n (Ef_storeN rfl rfl (?_))
    refine TL_q (Qt_assign (.bool _) rfl) rfl ?_
    refine TL_nil ?_
    refine X_then ?_
    refine T_seq ?_
    refine T_region ?_
    refine TL_q (Qt_loadN rfl rfl) rfl ?_
    refine TL_e rfl (Ef_call (copied_c hsm) rfl (fun x25 => ?_))
    refine TL_q (Qt_move (.bool _) rfl) rfl ?_
    refine TL_n (Ef_storeN rfl rfl (?_))
    refine TL_q (Qt_assign (.bool _) rfl) rfl ?_
    refine TL_nil ?_
    refine X_then ?_
    refine T_ret ?_
    exact X_ret x25 [_, _] Try.results14 ⟨⟨_, rfl, res_cellN rfl⟩, rfl, trivial⟩ rfl (Subs.st inferInstance)
theorem St.datZero {w0 w : World} {H : List SA} (h : St w0 H w) : St w0 (datV [] [VoteV.zero] :: H) w :=
  h.fresh rfl rfl rfl (Nat.le_refl _) (fun _ _ => rfl) (fun v hv => by
    obtain rfl : v = VoteV.zero := by simpa using hv
    exact ⟨⟨none, 0, 0, rfl, rfl, by omega, by decide, fun h => absurd h (by simp [VoteV.zero])⟩, ⟨none, 0, 0, rfl, rfl, by omega, by decide, fun h => absurd h (by simp [VoteV.zero])⟩, fun x hx => by simp [VoteV.zero] at hx⟩) (by simp [datV]) (by simp [datV])

set_option maxHeartbeats 1000000 in
theorem accepted_c {w0 : World} {H : List SA} {p : Nat} {y : BkS} (ho : y.Ok) :
    CT Try.prog w0 (y.H p H) 18 [.pointer (some ⟨p, 0, none⟩)] (α := VoteV × List Nat) (fun z => .tuple #[.agg z.1.cells, .bool y.acc.isSome]) (fun z => pu (z.1.abs = ((y.acc.map Prod.snd).getD VoteV.zero).abs) :: datV z.2 [z.1] :: y.H p H) := by
  obtain ⟨⟨now, en, sl, wr, ac⟩, r, es, c, acc, fp, vs⟩ := y
  obtain rfl : ac = accP acc := ho.acc
  refine CT_intro Try.func18 rfl Try.ntmps18 rfl ?_
  refine T_seq ?_
  refine T_region ?_
  rcases acc with _ | ⟨q, u⟩
  ·
    simp only [accP, accA, BkS.H]
    refine TL_e rfl (Ef_allocN (fun b2 => ?_))
    refine TL_q (Qt_assign (.bool _) rfl) rfl ?_
    refine TL_nil ?_
    refine X_then ?_
    refine T_seq ?_
    refine T_seq ?_
    refine T_region ?_
    refine TL_q (Qt_move (.pointer _) rfl) rfl ?_
    refine TL_q (Qt_ptr_nil rfl rfl Try.underlying31) rfl ?_
    refine TL_q (Qt_move (.bool _) rfl) rfl ?_
    refine TL_split 6 rfl (fun h6 => ?_) (fun h6 => ?_)
    ·
      have p6 := h6
      try simp only [decide_eq_true_eq, decide_eq_false_iff_not, Bool.not_eq_true', Bool.not_eq_false', Option.isNone_iff_eq_none, ne_eq, Decidable.not_not, Int.not_lt, Int.not_le] at p6
      cases h6
    ·
      have p6 := h6
      try simp only [decide_eq_true_eq, decide_eq_false_iff_not, Bool.not_eq_true', Bool.not_eq_false', Option.isNone_iff_eq_none, ne_eq, Decidable.not_not, Int.not_lt, Int.not_le] at p6
      refine TL_take rfl rfl h6 ?_
      refine TL_q (Qt_move (.pointer _) rfl) rfl ?_
      refine TL_take rfl rfl h6 ?_
      refine TL_q (Qt_nilCheck rfl) rfl ?_
      refine TL_take rfl rfl h6 ?_
      refine TL_q (Qt_fieldAddr 5 rfl rfl) rfl ?_
      refine TL_take rfl rfl h6 ?_
      refine TL_q (Qt_load1 rfl) rfl ?_
      refine TL_take rfl rfl h6 ?_
      refine TL_q (Qt_ptr_nil rfl rfl Try.underlying58) rfl ?_
      refine TL_q (Qt_pick_f (.bool _) rfl h6 rfl) rfl ?_
      refine TL_nil ?_
      refine X_then ?_
      refine T_cond rfl (fun h12 => ?_) (fun h12 => ?_)
      ·
        have p12 := h12
        try simp only [decide_eq_true_eq, decide_eq_false_iff_not, Bool.not_eq_true', Bool.not_eq_false', Option.isNone_iff_eq_none, ne_eq, Decidable.not_not, Int.not_lt, Int.not_le] at p12
        refine T_seq ?_
        refine T_region ?_
        refine TL_q (Qt_build [] rfl (by kernel_rfl)) rfl ?_
        refine TL_n (Ef_storeN rfl rfl (?_))
        refine TL_q (Qt_assign (.bool _) rfl) rfl ?_
        refine TL_nil ?_
        refine X_then ?_
        refine T_ret ?_
        refine X_then_ret ?_
        exact X_ret (VoteV.zero, []) [_, _] Try.results18 ⟨⟨_, rfl, res_cellN rfl⟩, rfl, trivial⟩ rfl (fun w hw => (St.datZero (Subs.st inferInstance w hw)).addPure rfl)
      ·
        have p12 := h12
        try simp only [decide_eq_true_eq, decide_eq_false_iff_not, Bool.not_eq_true', Bool.not_eq_false', Option.isNone_iff_eq_none, ne_eq, Decidable.not_not, Int.not_lt, Int.not_le] at p12
        cases h12
  ·
    simp only [accP, accA, BkS.H]
    refine TL_e rfl (Ef_allocN (fun b2 => ?_))
    refine TL_q (Qt_assign (.bool _) rfl) rfl ?_
    refine TL_nil ?_
    refine X_then ?_
    refine T_seq ?_
    refine T_seq ?_
    refine T_region ?_
    refine TL_q (Qt_move (.pointer _) rfl) rfl ?_
    refine TL_q (Qt_ptr_nil rfl rfl Try.underlying31) rfl ?_
    refine TL_q (Qt_move (.bool _) rfl) rfl ?_
    refine TL_split 6 rfl (fun h6 => ?_) (fun h6 => ?_)
    ·
      have p6 := h6
      try simp only [decide_eq_true_eq, decide_eq_false_iff_not, Bool.not_eq_true', Bool.not_eq_false', Option.isNone_iff_eq_none, ne_eq, Decidable.not_not, Int.not_lt, Int.not_le] at p6
      cases h6
    ·
      have p6 := h6
      try simp only [decide_eq_true_eq, decide_eq_false_iff_not, Bool.not_eq_true', Bool.not_eq_false', Option.isNone_iff_eq_none, ne_eq, Decidable.not_not, Int.not_lt, Int.not_le] at p6
      refine TL_take rfl rfl h6 ?_
      refine TL_q (Qt_move (.pointer _) rfl) rfl ?_
      refine TL_take rfl rfl h6 ?_
      refine TL_q (Qt_nilCheck rfl) rfl ?_
      refine TL_take rfl rfl h6 ?_
      refine TL_q (Qt_fieldAddr 5 rfl rfl) rfl ?_
      refine TL_take rfl rfl h6 ?_
      refine TL_q (Qt_load1 rfl) rfl ?_
      refine TL_take rfl rfl h6 ?_
      refine TL_q (Qt_ptr_nil rfl rfl Try.underlying58) rfl ?_
      refine TL_q (Qt_pick_f (.bool _) rfl h6 rfl) rfl ?_
      refine TL_nil ?_
      refine X_then ?_
      refine T_cond rfl (fun h12 => ?_) (fun h12 => ?_)
      ·
        have p12 := h12
        try simp only [decide_eq_true_eq, decide_eq_false_iff_not, Bool.not_eq_true', Bool.not_eq_false', Option.isNone_iff_eq_none, ne_eq, Decidable.not_not, Int.not_lt, Int.not_le] at p12
        cases h12
      ·
        have p12 := h12
        try simp only [decide_eq_true_eq, decide_eq_false_iff_not, Bool.not_eq_true', Bool.not_eq_false', Option.isNone_iff_eq_none, ne_eq, Decidable.not_not, Int.not_lt, Int.not_le] at p12
        refine T_skip ?_
        refine X_then ?_
        refine T_seq ?_
        refine T_region ?_
        refine TL_q (Qt_move (.pointer _) rfl) rfl ?_
        refine TL_q (Qt_nilCheck rfl) rfl ?_
        refine TL_q (Qt_fieldAddr 5 rfl rfl) rfl ?_
        refine TL_q (Qt_load1 rfl) rfl ?_
        refine TL_q (Qt_nilCheck rfl) rfl ?_
        refine TL_q (Qt_loadN rfl rfl) rfl ?_
        have hmem := ho.last _ rfl
        have hsm := ho.small _ hmem
        have rvs : RdVs w0 (datV fp vs :: H) vs := inferInstance
        have rb := rvs.b _ hmem
        have rc := rvs.c _ hmem
        have re := rvs.e _ hmem
        refine TL_e rfl (Ef_call (copied_c hsm) rfl (fun x20 => ?_))
        refine TL_n (Ef_storeN rfl rfl (?_))
        refine TL_q (Qt_assign (.bool _) rfl) rfl ?_
        refine TL_nil ?_
        refine X_then ?_
        refine T_ret ?_
        exact X_ret x20 [_, _] Try.results18 ⟨⟨_, rfl, res_cellN rfl⟩, rfl, trivial⟩ rfl (Subs.st (H' := pu (x20.1.abs = u.abs) :: datV x20.2 [x20.1] :: blk p (.cells (BookV.mk now en sl wr (some ⟨q, 0, none⟩)).cells 60 (0, 0)) :: blk r (mapO encE encV es c) :: blk q (.cells u.cells 27 (0, 0)) :: datV fp vs :: H) inferInstance)
end Go.Proofs.Ytdjbhpdfkopdgaa
