/- Walks: the references on what votes prove. -/
import Derived.Test.YtgjkgdjjolnhdaaDoorRo
import Derived.Test.YtgjkgdjjolnhdaaDoorCa
namespace Go.Proofs.YtgjkgdjjolnhdaaDoor
open Go.RowKit Go.Sx
set_option maxRecDepth 100000
set_option linter.unusedSimpArgs false
set_option linter.unusedVariables false
def cntI (K : List (List UInt8)) (num : Int) (mk : Nat) (m : MsgD) (l : List UInt8) : Int := if cntD num m (opn K mk l) = true then (opn K mk l).frm else -1
theorem cntI_eq {K : List (List UInt8)} {num : Int} {mk : Nat} {m : MsgD} {l : List UInt8} {i : Nat} : cntI K num mk m l = (i : Int) ↔ cntD num m (opn K mk l) = true ∧ (opn K mk l).frm = (i : Int) := by
 unfold cntI
 split
 · rename_i h; simp [h]
 · rename_i h
   constructor
   · intro h2; omega
   · intro h2; exact absurd h2.1 h
theorem cntI_range {K : List (List UInt8)} {num : Int} {mk : Nat} {m : MsgD} {l : List UInt8} : -1 ≤ cntI K num mk m l ∧ cntI K num mk m l < 16 := by
 have := opn_frm K mk l
 unfold cntI
 split <;> omega
def votesI (K : List (List UInt8)) (num : Int) (mk : Nat) (m : MsgD) (P : List (List UInt8)) (i : Nat) : Bool := P.any fun l => decide (cntI K num mk m l = (i : Int))
theorem votesI_bit {K : List (List UInt8)} {num : Int} {mk : Nat} {m : MsgD} {P : List (List UInt8)} {i : Nat} : votesI K num mk m P i = (setD num m (P.map (opn K mk))).testBit i := by
 rw [Bool.eq_iff_iff, setD_bit, votesI, List.any_eq_true]
 constructor
 · rintro ⟨l, hl, hc⟩
   have := cntI_eq.1 (of_decide_eq_true hc)
   exact ⟨_, List.mem_map.2 ⟨l, hl, rfl⟩, this.1, by rw [this.2]; rfl⟩
 · rintro ⟨v, hv, hc, he⟩
   obtain ⟨l, hl, rfl⟩ := List.mem_map.1 hv
   exact ⟨l, hl, decide_eq_true (cntI_eq.2 ⟨hc, by have := opn_frm K mk l; omega⟩)⟩
theorem any_succ {α : Type} (p : α → Bool) (l : List α) (k : Nat) (hk : k < l.length) : (l.take (k + 1)).any p = ((l.take k).any p || p l[k]) := by rw [List.take_succ_eq_append_getElem hk, List.any_append]; simp
theorem any_full {α : Type} (p : α → Bool) (l : List α) (k : Nat) (h : (l.take k).any p = true) : l.any p = true := by
 obtain ⟨x, hx, hp⟩ := List.any_eq_true.1 h
 exact List.any_eq_true.2 ⟨x, List.mem_of_mem_take hx, hp⟩
theorem range_step {p : Nat → Bool} {k : Nat} : (List.range (k + 1)).filter p = (List.range k).filter p ++ (if p k = true then [k] else []) := by
 rw [List.range_succ, List.filter_append]
 congr 1
 simp only [List.filter_cons, List.filter_nil]
theorem range_le (p : Nat → Bool) (k : Nat) : ((List.range k).filter p).length ≤ k := by have := List.length_filter_le p (List.range k); simpa using this
attribute [local irreducible] openOfK openK getM tagOf popB bruijn cntI

set_option maxHeartbeats 1000000 in
theorem rCounts_c {w0 : World} {H : List SA} {num : Int} {mk : Nat} (hmk : mk < 65536) {sa : Option Addr} {sc : Nat} {ls : List BS} {rt : Sl} [rk : RdC w0 H (.slice sa ls.length sc) 1 (ls.map BS.val)] [rke : RdE w0 H ls] (hkl : ∀ x ∈ ls, x.l.length ≤ 4294967000) {m : MsgV} {a : Option Addr} {l : List UInt8} {c : Nat} [hr : RdB w0 H (.slice a l.length c) l] (hl : l.length ≤ 4294960000) :
 CT Tryd.prog w0 (H) 44 [.agg (KeysV.mk ⟨sa, sc, ls⟩ rt).cells, .agg (ViewV.mk num (mk : Int)).cells, .agg m.cells, .slice a l.length c] (α := Unit) (fun _ => .int .i64 (cntI (ls.map BS.l) num mk m.abs l)) (fun _ => H) := by
 refine CT_intro Tryd.func44 rfl Tryd.ntmps44 rfl ?_
 refine T_seq ?_
 refine T_region ?_
 refine TL_e rfl (Ef_boxN rfl (fun b4 => ?_))
 refine TL_e rfl (Ef_boxN rfl (fun b5 => ?_))
 refine TL_e rfl (Ef_boxN rfl (fun b6 => ?_))
 refine TL_q (Qt_assign (.int .i64 _) rfl) rfl ?_
 refine TL_nil ?_
 refine X_then ?_
 refine T_seq ?_
 refine T_region ?_
 refine TL_q (Qt_loadN rfl rfl) rfl ?_
 refine TL_q (Qt_loadN rfl rfl) rfl ?_
 refine TL_q (Qt_move (.slice _ _ _) rfl) rfl ?_
 refine TL_e rfl (Ef_call (rOpenOf_c (num := num) hmk (sa := sa) (sc := sc) (ls := ls) (rt := rt) hkl hl) rfl (fun x14 => ?_))
 refine TL_pure (fun h14 => ?_)
 refine TL_e rfl (Ef_allocN (fun b9 => ?_))
 refine TL_n (Ef_storeN rfl rfl (?_))
 refine TL_nil ?_
 refine X_then ?_
 refine T_seq ?_
 refine T_region ?_
 refine TL_q (Qt_fieldAddr 0 rfl rfl) rfl ?_
 refine TL_q (Qt_loadN rfl rfl) rfl ?_
 refine TL_e rfl (Ef_allocN (fun b10 => ?_))
 refine TL_n (Ef_storeN rfl rfl (?_))
 refine TL_nil ?_
 refine X_then ?_
 refine T_seq ?_
 refine T_seq ?_
 refine T_region ?_
 refine TL_q (Qt_fieldAddr 39 rfl rfl) rfl ?_
 refine TL_q (Qt_load1 rfl) rfl ?_
 refine TL_q (Qt_neq rfl rfl) rfl ?_
 refine TL_q (Qt_move (.bool _) rfl) rfl ?_
 refine TL_split 20 rfl (fun h20 => ?_) (fun h20 => ?_)
 ·
  have p20 := h20
  try simp only [decide_eq_true_eq, decide_eq_false_iff_not, Bool.not_eq_true', Bool.not_eq_false', Option.isNone_iff_eq_none, ne_eq, Decidable.not_not, Int.not_lt, Int.not_le] at p20
  refine TL_pass rfl rfl h20 rfl ?_
  refine TL_pass rfl rfl h20 rfl ?_
  refine TL_pass rfl rfl h20 rfl ?_
  refine TL_pass rfl rfl h20 rfl ?_
  refine TL_pass rfl rfl h20 rfl ?_
  refine TL_q (Qt_pick_t (.bool _) rfl h20 rfl) rfl ?_
  refine TL_q (Qt_move (.bool _) rfl) rfl ?_
  refine TL_pass rfl rfl rfl rfl ?_
  refine TL_pass rfl rfl rfl rfl ?_
  refine TL_pass rfl rfl rfl rfl ?_
  refine TL_pass rfl rfl rfl rfl ?_
  refine TL_pass rfl rfl rfl rfl ?_
  refine TL_q (Qt_pick_t (.bool _) rfl rfl rfl) rfl ?_
  refine TL_q (Qt_move (.bool _) rfl) rfl ?_
  refine TL_pass rfl rfl rfl rfl ?_
  refine TL_pass rfl rfl rfl rfl ?_
  refine TL_pass rfl rfl rfl rfl ?_
  refine TL_pass rfl rfl rfl rfl ?_
  refine TL_pass rfl rfl rfl rfl ?_
  refine TL_q (Qt_pick_t (.bool _) rfl rfl rfl) rfl ?_
  refine TL_q (Qt_move (.bool _) rfl) rfl ?_
  refine TL_pass rfl rfl rfl rfl ?_
  refine TL_pass rfl rfl rfl rfl ?_
  refine TL_pass rfl rfl rfl rfl ?_
  refine TL_pass rfl rfl rfl rfl ?_
  refine TL_pass rfl rfl rfl rfl ?_
  refine TL_q (Qt_pick_t (.bool _) rfl rfl rfl) rfl ?_
  refine TL_q (Qt_move (.bool _) rfl) rfl ?_
  refine TL_pass rfl rfl rfl rfl ?_
  refine TL_pass rfl rfl rfl rfl ?_
  refine TL_pass rfl rfl rfl rfl ?_
  refine TL_pass rfl rfl rfl rfl ?_
  refine TL_pass rfl rfl rfl rfl ?_
  refine TL_q (Qt_pick_t (.bool _) rfl rfl rfl) rfl ?_
  refine TL_q (Qt_move (.bool _) rfl) rfl ?_
  refine TL_pass rfl rfl rfl rfl ?_
  refine TL_pass rfl rfl rfl rfl ?_
  refine TL_pass rfl rfl rfl rfl ?_
  refine TL_pass rfl rfl rfl rfl ?_
  refine TL_pass rfl rfl rfl rfl ?_
  refine TL_q (Qt_pick_t (.bool _) rfl rfl rfl) rfl ?_
  refine TL_nil ?_
  refine X_then ?_
  refine T_cond_true rfl rfl ?_
  refine T_seq ?_
  refine T_region ?_
  refine TL_q (Qt_assign (.int .i64 _) rfl) rfl ?_
  refine TL_nil ?_
  refine X_then ?_
  refine T_ret ?_
  refine X_then_ret ?_
  have hav : x14.1.abs = opn (ls.map BS.l) mk l := h14
  have e : cntI (ls.map BS.l) num mk m.abs l = -1 := by
   unfold cntI
   rw [if_neg]
   rw [← hav]
   intro hc
   unfold cntD at hc
   replace hc := of_decide_eq_true hc
   simp only [MsgV.abs] at hc
   have hz : (openOfK (ls.map BS.l) mk l).1 = 0 := by
    by_cases hz : (openOfK (ls.map BS.l) mk l).1 = 0
    · exact hz
    · have h0 := congrArg MsgD.kind (hav.trans (opn_zero hz))
      exact absurd h0 hc.2.1
   simp_all
  exact X_ret () [_] Tryd.results44 ⟨rfl, trivial⟩ (by rw [e]; rfl) (Subs.st inferInstance)
 ·
  have p20 := h20
  try simp only [decide_eq_true_eq, decide_eq_false_iff_not, Bool.not_eq_true', Bool.not_eq_false', Option.isNone_iff_eq_none, ne_eq, Decidable.not_not, Int.not_lt, Int.not_le] at p20
  refine TL_take rfl rfl h20 ?_
  refine TL_q (Qt_fieldAddr 2 rfl rfl) rfl ?_
  refine TL_take rfl rfl h20 ?_
  refine TL_q (Qt_load1 rfl) rfl ?_
  refine TL_take rfl rfl h20 ?_
  refine TL_q (Qt_fieldAddr 0 rfl rfl) rfl ?_
  refine TL_take rfl rfl h20 ?_
  refine TL_q (Qt_load1 rfl) rfl ?_
  refine TL_take rfl rfl h20 ?_
  refine TL_q (Qt_neq rfl rfl) rfl ?_
  refine TL_q (Qt_pick_f (.bool _) rfl h20 rfl) rfl ?_
  refine TL_q (Qt_move (.bool _) rfl) rfl ?_
  refine TL_split 27 rfl (fun h27 => ?_) (fun h27 => ?_)
  ·
   have p27 := h27
   try simp only [decide_eq_true_eq, decide_eq_false_iff_not, Bool.not_eq_true', Bool.not_eq_false', Option.isNone_iff_eq_none, ne_eq, Decidable.not_not, Int.not_lt, Int.not_le] at p27
   refine TL_pass rfl rfl h27 rfl ?_
   refine TL_pass rfl rfl h27 rfl ?_
   refine TL_pass rfl rfl h27 rfl ?_
   refine TL_pass rfl rfl h27 rfl ?_
   refine TL_pass rfl rfl h27 rfl ?_
   refine TL_q (Qt_pick_t (.bool _) rfl h27 rfl) rfl ?_
   refine TL_q (Qt_move (.bool _) rfl) rfl ?_
   refine TL_pass rfl rfl rfl rfl ?_
   refine TL_pass rfl rfl rfl rfl ?_
   refine TL_pass rfl rfl rfl rfl ?_
   refine TL_pass rfl rfl rfl rfl ?_
   refine TL_pass rfl rfl rfl rfl ?_
   refine TL_q (Qt_pick_t (.bool _) rfl rfl rfl) rfl ?_
   refine TL_q (Qt_move (.bool _) rfl) rfl ?_
   refine TL_pass rfl rfl rfl rfl ?_
   refine TL_pass rfl rfl rfl rfl ?_
   refine TL_pass rfl rfl rfl rfl ?_
   refine TL_pass rfl rfl rfl rfl ?_
   refine TL_pass rfl rfl rfl rfl ?_
   refine TL_q (Qt_pick_t (.bool _) rfl rfl rfl) rfl ?_
   refine TL_q (Qt_move (.bool _) rfl) rfl ?_
   refine TL_pass rfl rfl rfl rfl ?_
   refine TL_pass rfl rfl rfl rfl ?_
   refine TL_pass rfl rfl rfl rfl ?_
   refine TL_pass rfl rfl rfl rfl ?_
   refine TL_pass rfl rfl rfl rfl ?_
   refine TL_q (Qt_pick_t (.bool _) rfl rfl rfl) rfl ?_
   refine TL_q (Qt_move (.bool _) rfl) rfl ?_
   refine TL_pass rfl rfl rfl rfl ?_
   refine TL_pass rfl rfl rfl rfl ?_
   refine TL_pass rfl rfl rfl rfl ?_
   refine TL_pass rfl rfl rfl rfl ?_
   refine TL_pass rfl rfl rfl rfl ?_
   refine TL_q (Qt_pick_t (.bool _) rfl rfl rfl) rfl ?_
   refine TL_nil ?_
   refine X_then ?_
   refine T_cond_true rfl rfl ?_
   refine T_seq ?_
   refine T_region ?_
   refine TL_q (Qt_assign (.int .i64 _) rfl) rfl ?_
   refine TL_nil ?_
   refine X_then ?_
   refine T_ret ?_
   refine X_then_ret ?_
   have hav : x14.1.abs = opn (ls.map BS.l) mk l := h14
   have e : cntI (ls.map BS.l) num mk m.abs l = -1 := by
    unfold cntI
    rw [if_neg]
    rw [← hav]
    intro hc
    unfold cntD at hc
    replace hc := of_decide_eq_true hc
    simp only [MsgV.abs] at hc
    have hz : (openOfK (ls.map BS.l) mk l).1 = 0 := by
     by_cases hz : (openOfK (ls.map BS.l) mk l).1 = 0
     · exact hz
     · have h0 := congrArg MsgD.kind (hav.trans (opn_zero hz))
       exact absurd h0 hc.2.1
    simp_all
   exact X_ret () [_] Tryd.results44 ⟨rfl, trivial⟩ (by rw [e]; rfl) (Subs.st inferInstance)
  ·
   have p27 := h27
   try simp only [decide_eq_true_eq, decide_eq_false_iff_not, Bool.not_eq_true', Bool.not_eq_false', Option.isNone_iff_eq_none, ne_eq, Decidable.not_not, Int.not_lt, Int.not_le] at p27
   refine TL_take rfl rfl h27 ?_
   refine TL_q (Qt_fieldAddr 0 rfl rfl) rfl ?_
   refine TL_take rfl rfl h27 ?_
   refine TL_q (Qt_load1 rfl) rfl ?_
   refine TL_take rfl rfl h27 ?_
   refine TL_q (Qt_fieldAddr 0 rfl rfl) rfl ?_
   refine TL_take rfl rfl h27 ?_
   refine TL_q (Qt_load1 rfl) rfl ?_
   refine TL_take rfl rfl h27 ?_
   refine TL_q (Qt_neq rfl rfl) rfl ?_
   refine TL_q (Qt_pick_f (.bool _) rfl h27 rfl) rfl ?_
   refine TL_q (Qt_move (.bool _) rfl) rfl ?_
   refine TL_split 34 rfl (fun h34 => ?_) (fun h34 => ?_)
   ·
    have p34 := h34
    try simp only [decide_eq_true_eq, decide_eq_false_iff_not, Bool.not_eq_true', Bool.not_eq_false', Option.isNone_iff_eq_none, ne_eq, Decidable.not_not, Int.not_lt, Int.not_le] at p34
    refine TL_pass rfl rfl h34 rfl ?_
    refine TL_pass rfl rfl h34 rfl ?_
    refine TL_pass rfl rfl h34 rfl ?_
    refine TL_pass rfl rfl h34 rfl ?_
    refine TL_pass rfl rfl h34 rfl ?_
    refine TL_q (Qt_pick_t (.bool _) rfl h34 rfl) rfl ?_
    refine TL_q (Qt_move (.bool _) rfl) rfl ?_
    refine TL_pass rfl rfl rfl rfl ?_
    refine TL_pass rfl rfl rfl rfl ?_
    refine TL_pass rfl rfl rfl rfl ?_
    refine TL_pass rfl rfl rfl rfl ?_
    refine TL_pass rfl rfl rfl rfl ?_
    refine TL_q (Qt_pick_t (.bool _) rfl rfl rfl) rfl ?_
    refine TL_q (Qt_move (.bool _) rfl) rfl ?_
    refine TL_pass rfl rfl rfl rfl ?_
    refine TL_pass rfl rfl rfl rfl ?_
    refine TL_pass rfl rfl rfl rfl ?_
    refine TL_pass rfl rfl rfl rfl ?_
    refine TL_pass rfl rfl rfl rfl ?_
    refine TL_q (Qt_pick_t (.bool _) rfl rfl rfl) rfl ?_
    refine TL_q (Qt_move (.bool _) rfl) rfl ?_
    refine TL_pass rfl rfl rfl rfl ?_
    refine TL_pass rfl rfl rfl rfl ?_
    refine TL_pass rfl rfl rfl rfl ?_
    refine TL_pass rfl rfl rfl rfl ?_
    refine TL_pass rfl rfl rfl rfl ?_
    refine TL_q (Qt_pick_t (.bool _) rfl rfl rfl) rfl ?_
    refine TL_nil ?_
    refine X_then ?_
    refine T_cond_true rfl rfl ?_
    refine T_seq ?_
    refine T_region ?_
    refine TL_q (Qt_assign (.int .i64 _) rfl) rfl ?_
    refine TL_nil ?_
    refine X_then ?_
    refine T_ret ?_
    refine X_then_ret ?_
    have hav : x14.1.abs = opn (ls.map BS.l) mk l := h14
    have e : cntI (ls.map BS.l) num mk m.abs l = -1 := by
     unfold cntI
     rw [if_neg]
     rw [← hav]
     intro hc
     unfold cntD at hc
     replace hc := of_decide_eq_true hc
     simp only [MsgV.abs] at hc
     have hz : (openOfK (ls.map BS.l) mk l).1 = 0 := by
      by_cases hz : (openOfK (ls.map BS.l) mk l).1 = 0
      · exact hz
      · have h0 := congrArg MsgD.kind (hav.trans (opn_zero hz))
        exact absurd h0 hc.2.1
     simp_all
    exact X_ret () [_] Tryd.results44 ⟨rfl, trivial⟩ (by rw [e]; rfl) (Subs.st inferInstance)
   ·
    have p34 := h34
    try simp only [decide_eq_true_eq, decide_eq_false_iff_not, Bool.not_eq_true', Bool.not_eq_false', Option.isNone_iff_eq_none, ne_eq, Decidable.not_not, Int.not_lt, Int.not_le] at p34
    refine TL_take rfl rfl h34 ?_
    refine TL_q (Qt_fieldAddr 2 rfl rfl) rfl ?_
    refine TL_take rfl rfl h34 ?_
    refine TL_q (Qt_load1 rfl) rfl ?_
    refine TL_take rfl rfl h34 ?_
    refine TL_q (Qt_fieldAddr 2 rfl rfl) rfl ?_
    refine TL_take rfl rfl h34 ?_
    refine TL_q (Qt_load1 rfl) rfl ?_
    refine TL_take rfl rfl h34 ?_
    refine TL_q (Qt_neq rfl rfl) rfl ?_
    refine TL_q (Qt_pick_f (.bool _) rfl h34 rfl) rfl ?_
    refine TL_q (Qt_move (.bool _) rfl) rfl ?_
    refine TL_split 41 rfl (fun h41 => ?_) (fun h41 => ?_)
    ·
     have p41 := h41
     try simp only [decide_eq_true_eq, decide_eq_false_iff_not, Bool.not_eq_true', Bool.not_eq_false', Option.isNone_iff_eq_none, ne_eq, Decidable.not_not, Int.not_lt, Int.not_le] at p41
     refine TL_pass rfl rfl h41 rfl ?_
     refine TL_pass rfl rfl h41 rfl ?_
     refine TL_pass rfl rfl h41 rfl ?_
     refine TL_pass rfl rfl h41 rfl ?_
     refine TL_pass rfl rfl h41 rfl ?_
     refine TL_q (Qt_pick_t (.bool _) rfl h41 rfl) rfl ?_
     refine TL_q (Qt_move (.bool _) rfl) rfl ?_
     refine TL_pass rfl rfl rfl rfl ?_
     refine TL_pass rfl rfl rfl rfl ?_
     refine TL_pass rfl rfl rfl rfl ?_
     refine TL_pass rfl rfl rfl rfl ?_
     refine TL_pass rfl rfl rfl rfl ?_
     refine TL_q (Qt_pick_t (.bool _) rfl rfl rfl) rfl ?_
     refine TL_q (Qt_move (.bool _) rfl) rfl ?_
     refine TL_pass rfl rfl rfl rfl ?_
     refine TL_pass rfl rfl rfl rfl ?_
     refine TL_pass rfl rfl rfl rfl ?_
     refine TL_pass rfl rfl rfl rfl ?_
     refine TL_pass rfl rfl rfl rfl ?_
     refine TL_q (Qt_pick_t (.bool _) rfl rfl rfl) rfl ?_
     refine TL_nil ?_
     refine X_then ?_
     refine T_cond_true rfl rfl ?_
     refine T_seq ?_
     refine T_region ?_
     refine TL_q (Qt_assign (.int .i64 _) rfl) rfl ?_
     refine TL_nil ?_
     refine X_then ?_
     refine T_ret ?_
     refine X_then_ret ?_
     have hav : x14.1.abs = opn (ls.map BS.l) mk l := h14
     have e : cntI (ls.map BS.l) num mk m.abs l = -1 := by
      unfold cntI
      rw [if_neg]
      rw [← hav]
      intro hc
      unfold cntD at hc
      replace hc := of_decide_eq_true hc
      simp only [MsgV.abs] at hc
      have hz : (openOfK (ls.map BS.l) mk l).1 = 0 := by
       by_cases hz : (openOfK (ls.map BS.l) mk l).1 = 0
       · exact hz
       · have h0 := congrArg MsgD.kind (hav.trans (opn_zero hz))
         exact absurd h0 hc.2.1
      simp_all
     exact X_ret () [_] Tryd.results44 ⟨rfl, trivial⟩ (by rw [e]; rfl) (Subs.st inferInstance)
    ·
     have p41 := h41
     try simp only [decide_eq_true_eq, decide_eq_false_iff_not, Bool.not_eq_true', Bool.not_eq_false', Option.isNone_iff_eq_none, ne_eq, Decidable.not_not, Int.not_lt, Int.not_le] at p41
     refine TL_take rfl rfl h41 ?_
     refine TL_q (Qt_fieldAddr 3 rfl rfl) rfl ?_
     refine TL_take rfl rfl h41 ?_
     refine TL_q (Qt_load1 rfl) rfl ?_
     refine TL_take rfl rfl h41 ?_
     refine TL_q (Qt_fieldAddr 3 rfl rfl) rfl ?_
     refine TL_take rfl rfl h41 ?_
     refine TL_q (Qt_load1 rfl) rfl ?_
     refine TL_take rfl rfl h41 ?_
     refine TL_q (Qt_neq rfl rfl) rfl ?_
     refine TL_q (Qt_pick_f (.bool _) rfl h41 rfl) rfl ?_
     refine TL_q (Qt_move (.bool _) rfl) rfl ?_
     refine TL_split 48 rfl (fun h48 => ?_) (fun h48 => ?_)
     ·
      have p48 := h48
      try simp only [decide_eq_true_eq, decide_eq_false_iff_not, Bool.not_eq_true', Bool.not_eq_false', Option.isNone_iff_eq_none, ne_eq, Decidable.not_not, Int.not_lt, Int.not_le] at p48
      refine TL_pass rfl rfl h48 rfl ?_
      refine TL_pass rfl rfl h48 rfl ?_
      refine TL_pass rfl rfl h48 rfl ?_
      refine TL_pass rfl rfl h48 rfl ?_
      refine TL_pass rfl rfl h48 rfl ?_
      refine TL_q (Qt_pick_t (.bool _) rfl h48 rfl) rfl ?_
      refine TL_q (Qt_move (.bool _) rfl) rfl ?_
      refine TL_pass rfl rfl rfl rfl ?_
      refine TL_pass rfl rfl rfl rfl ?_
      refine TL_pass rfl rfl rfl rfl ?_
      refine TL_pass rfl rfl rfl rfl ?_
      refine TL_pass rfl rfl rfl rfl ?_
      refine TL_q (Qt_pick_t (.bool _) rfl rfl rfl) rfl ?_
      refine TL_nil ?_
      refine X_then ?_
      refine T_cond_true rfl rfl ?_
      refine T_seq ?_
      refine T_region ?_
      refine TL_q (Qt_assign (.int .i64 _) rfl) rfl ?_
      refine TL_nil ?_
      refine X_then ?_
      refine T_ret ?_
      refine X_then_ret ?_
      have hav : x14.1.abs = opn (ls.map BS.l) mk l := h14
      have e : cntI (ls.map BS.l) num mk m.abs l = -1 := by
       unfold cntI
       rw [if_neg]
       rw [← hav]
       intro hc
       unfold cntD at hc
       replace hc := of_decide_eq_true hc
       simp only [MsgV.abs] at hc
       have hz : (openOfK (ls.map BS.l) mk l).1 = 0 := by
        by_cases hz : (openOfK (ls.map BS.l) mk l).1 = 0
        · exact hz
        · have h0 := congrArg MsgD.kind (hav.trans (opn_zero hz))
          exact absurd h0 hc.2.1
       simp_all
      exact X_ret () [_] Tryd.results44 ⟨rfl, trivial⟩ (by rw [e]; rfl) (Subs.st inferInstance)
     ·
      have p48 := h48
      try simp only [decide_eq_true_eq, decide_eq_false_iff_not, Bool.not_eq_true', Bool.not_eq_false', Option.isNone_iff_eq_none, ne_eq, Decidable.not_not, Int.not_lt, Int.not_le] at p48
      refine TL_take rfl rfl h48 ?_
      refine TL_q (Qt_fieldAddr 4 rfl rfl) rfl ?_
      refine TL_take rfl rfl h48 ?_
      refine TL_q (Qt_load1 rfl) rfl ?_
      refine TL_take rfl rfl h48 ?_
      refine TL_q (Qt_fieldAddr 4 rfl rfl) rfl ?_
      refine TL_take rfl rfl h48 ?_
      refine TL_q (Qt_load1 rfl) rfl ?_
      refine TL_take rfl rfl h48 ?_
      refine TL_q (Qt_neq rfl rfl) rfl ?_
      refine TL_q (Qt_pick_f (.bool _) rfl h48 rfl) rfl ?_
      refine TL_q (Qt_move (.bool _) rfl) rfl ?_
      refine TL_split 55 rfl (fun h55 => ?_) (fun h55 => ?_)
      ·
       have p55 := h55
       try simp only [decide_eq_true_eq, decide_eq_false_iff_not, Bool.not_eq_true', Bool.not_eq_false', Option.isNone_iff_eq_none, ne_eq, Decidable.not_not, Int.not_lt, Int.not_le] at p55
       refine TL_pass rfl rfl h55 rfl ?_
       refine TL_pass rfl rfl h55 rfl ?_
       refine TL_pass rfl rfl h55 rfl ?_
       refine TL_pass rfl rfl h55 rfl ?_
       refine TL_pass rfl rfl h55 rfl ?_
       refine TL_q (Qt_pick_t (.bool _) rfl h55 rfl) rfl ?_
       refine TL_nil ?_
       refine X_then ?_
       refine T_cond_true rfl rfl ?_
       refine T_seq ?_
       refine T_region ?_
       refine TL_q (Qt_assign (.int .i64 _) rfl) rfl ?_
       refine TL_nil ?_
       refine X_then ?_
       refine T_ret ?_
       refine X_then_ret ?_
       have hav : x14.1.abs = opn (ls.map BS.l) mk l := h14
       have e : cntI (ls.map BS.l) num mk m.abs l = -1 := by
        unfold cntI
        rw [if_neg]
        rw [← hav]
        intro hc
        unfold cntD at hc
        replace hc := of_decide_eq_true hc
        simp only [MsgV.abs] at hc
        have hz : (openOfK (ls.map BS.l) mk l).1 = 0 := by
         by_cases hz : (openOfK (ls.map BS.l) mk l).1 = 0
         · exact hz
         · have h0 := congrArg MsgD.kind (hav.trans (opn_zero hz))
           exact absurd h0 hc.2.1
        simp_all
       exact X_ret () [_] Tryd.results44 ⟨rfl, trivial⟩ (by rw [e]; rfl) (Subs.st inferInstance)
      ·
       have p55 := h55
       try simp only [decide_eq_true_eq, decide_eq_false_iff_not, Bool.not_eq_true', Bool.not_eq_false', Option.isNone_iff_eq_none, ne_eq, Decidable.not_not, Int.not_lt, Int.not_le] at p55
       refine TL_take rfl rfl h55 ?_
       refine TL_q (Qt_fieldAddr 5 rfl rfl) rfl ?_
       refine TL_take rfl rfl h55 ?_
       refine TL_q (Qt_loadN rfl rfl) rfl ?_
       refine TL_take rfl rfl h55 ?_
       refine TL_q (Qt_fieldAddr 5 rfl rfl) rfl ?_
       refine TL_take rfl rfl h55 ?_
       refine TL_q (Qt_loadN rfl rfl) rfl ?_
       refine TL_take rfl rfl h55 ?_
       refine TL_q (Qt_agg_neq rfl rfl (by kernel_rfl)) rfl ?_
       refine TL_q (Qt_pick_f (.bool _) rfl h55 rfl) rfl ?_
       refine TL_nil ?_
       refine X_then ?_
       refine T_cond rfl (fun h61 => ?_) (fun h61 => ?_)
       ·
        have p61 := h61
        try simp only [decide_eq_true_eq, decide_eq_false_iff_not, Bool.not_eq_true', Bool.not_eq_false', Option.isNone_iff_eq_none, ne_eq, Decidable.not_not, Int.not_lt, Int.not_le] at p61
        refine T_seq ?_
        refine T_region ?_
        refine TL_q (Qt_assign (.int .i64 _) rfl) rfl ?_
        refine TL_nil ?_
        refine X_then ?_
        refine T_ret ?_
        refine X_then_ret ?_
        have hav : x14.1.abs = opn (ls.map BS.l) mk l := h14
        have e : cntI (ls.map BS.l) num mk m.abs l = -1 := by
         unfold cntI
         rw [if_neg]
         rw [← hav]
         intro hc
         unfold cntD at hc
         replace hc := of_decide_eq_true hc
         simp only [MsgV.abs] at hc
         have hz : (openOfK (ls.map BS.l) mk l).1 = 0 := by
          by_cases hz : (openOfK (ls.map BS.l) mk l).1 = 0
          · exact hz
          · have h0 := congrArg MsgD.kind (hav.trans (opn_zero hz))
            exact absurd h0 hc.2.1
         simp_all
        exact X_ret () [_] Tryd.results44 ⟨rfl, trivial⟩ (by rw [e]; rfl) (Subs.st inferInstance)
       ·
        have p61 := h61
        try simp only [decide_eq_true_eq, decide_eq_false_iff_not, Bool.not_eq_true', Bool.not_eq_false', Option.isNone_iff_eq_none, ne_eq, Decidable.not_not, Int.not_lt, Int.not_le] at p61
        refine T_skip ?_
        refine X_then ?_
        refine T_seq ?_
        refine T_region ?_
        refine TL_q (Qt_fieldAddr 1 rfl rfl) rfl ?_
        refine TL_q (Qt_load1 rfl) rfl ?_
        refine TL_q (Qt_assign (.int .i64 _) rfl) rfl ?_
        refine TL_nil ?_
        refine X_then ?_
        refine T_ret ?_
        have hav : x14.1.abs = opn (ls.map BS.l) mk l := h14
        have e : cntI (ls.map BS.l) num mk m.abs l = x14.1.frm := by
         have hz : (openOfK (ls.map BS.l) mk l).1 = 0 := by first | (simp_all; done) | (simp_all; omega)
         have hf := (formedM_iff _).1 (opn_ok hz).1
         unfold cntI
         rw [← hav] at hf ⊢
         rw [if_pos]
         · rfl
         · simp only [MsgV.abs] at hf
           unfold cntD
           apply decide_eq_true
           simp only [MsgV.abs]
           refine ⟨?_, by omega, ?_, ?_, ?_, ?_, ?_⟩ <;> first | omega | (simp_all; done) | (simp_all; omega)
        exact X_ret () [_] Tryd.results44 ⟨rfl, trivial⟩ (by rw [e]; rfl) (Subs.st inferInstance)
set_option maxHeartbeats 1000000 in
theorem rWho_c {w0 : World} {H : List SA} {num : Int} {mk : Nat} (hmk : mk < 65536) {sa : Option Addr} {sc : Nat} {ls : List BS} {rt : Sl} [rk : RdC w0 H (.slice sa ls.length sc) 1 (ls.map BS.val)] [rke : RdE w0 H ls] (hkl : ∀ x ∈ ls, x.l.length ≤ 4294967000) {a : Option Addr} {ps : List BS} {c : Nat} [hp : RdC w0 H (.slice a ps.length c) 1 (ps.map BS.val)] [hpe : RdE w0 H ps] (hps : ∀ x ∈ ps, x.l.length ≤ 4294960000) (hn : ps.length ≤ 1000) {m : MsgV} :
 CT Tryd.prog w0 (H) 18 [.agg (KeysV.mk ⟨sa, sc, ls⟩ rt).cells, .agg (ViewV.mk num (mk : Int)).cells, .agg m.cells, .slice a ps.length c] (α := AC) (fun y => .slice y.a (memK (setD num m.abs ((ps.map BS.l).map (opn (ls.map BS.l) mk)))).length y.c) (fun y => row (.slice y.a ((memK (setD num m.abs ((ps.map BS.l).map (opn (ls.map BS.l) mk))))).length y.c) 3 1 (((memK (setD num m.abs ((ps.map BS.l).map (opn (ls.map BS.l) mk))))).flatMap encN) :: H) := by
 refine CT_intro Tryd.func18 rfl Tryd.ntmps18 rfl ?_
 refine T_seq ?_
 refine T_region ?_
 refine TL_e rfl (Ef_boxN rfl (fun b4 => ?_))
 refine TL_e rfl (Ef_boxN rfl (fun b5 => ?_))
 refine TL_e rfl (Ef_boxN rfl (fun b6 => ?_))
 refine TL_q (Qt_assign (.slice _ _ _) rfl) rfl ?_
 refine TL_nil ?_
 refine X_then ?_
 refine T_seq ?_
 refine T_region ?_
 refine TL_q (Qt_assign (.slice _ _ _) rfl) rfl ?_
 refine TL_nil ?_
 refine X_then ?_
 refine T_seq ?_
 refine T_seq ?_
 refine T_region ?_
 refine TL_q (Qt_assign (.int .i64 _) rfl) rfl ?_
 refine TL_nil ?_
 refine X_then ?_
 refine T_block ?_
 refine T_loop [9, 10, 11, 12, 13, 14, 15, 16, 17, 18, 19, 20, 21, 22, 23, 24, 25, 26, 27, 28, 29, 30, 31, 32, 33, 34, 35, 36, 37, 38, 39, 40, 41] [10, 9] (fun us H' => ∃ (i : Nat) (a2 : Option Addr) (c2 : Nat) (out : List Nat), us = [.int .i64 (i : Int), .slice a2 out.length c2] ∧ row (.slice a2 (out).length c2) 3 1 ((out).flatMap encN) :: blk b4 (.cells (KeysV.mk ⟨sa, sc, ls⟩ rt).cells 38 (0, 0)) :: blk b5 (.cells (ViewV.mk num (mk : Int)).cells 24 (0, 0)) :: blk b6 (.cells m.cells 30 (0, 0)) :: H = H' ∧ i ≤ 16 ∧ (out = (List.range i).filter fun i => (setD num m.abs ((ps.map BS.l).map (opn (ls.map BS.l) mk))).testBit i)) (fun us => match us with | .int _ i :: _ => 16 - i.toNat | _ => 0) ⟨0, none, 0, [], rfl, rfl, by omega, rfl⟩ (fun w hw => by
  have h0 : St w0 (blk b4 (.cells (KeysV.mk ⟨sa, sc, ls⟩ rt).cells 38 (0, 0)) :: blk b5 (.cells (ViewV.mk num (mk : Int)).cells 24 (0, 0)) :: blk b6 (.cells m.cells 30 (0, 0)) :: H) w := Subs.st inferInstance w hw
  exact h0.addNil 3 1) ?_
 rintro τ0 _ _  ⟨i, a2, c2, out, rfl, rfl, hi0, ho⟩ _
 refine T_seq ?_
 refine T_seq ?_
 refine T_region ?_
 refine TL_q (Qt_move (.int .i64 _) rfl) rfl ?_
 refine TL_q (Qt_lss rfl rfl) rfl ?_
 refine TL_nil ?_
 refine X_then ?_
 refine T_cond rfl (fun h14 => ?_) (fun h14 => ?_)
 ·
  have p14 := h14
  try simp only [decide_eq_true_eq, decide_eq_false_iff_not, Bool.not_eq_true', Bool.not_eq_false', Option.isNone_iff_eq_none, ne_eq, Decidable.not_not, Int.not_lt, Int.not_le] at p14
  have hi16 : i < 16 := by omega
  refine T_skip ?_
  refine X_then ?_
  refine T_seq ?_
  refine T_block ?_
  refine T_seq ?_
  refine T_region ?_
  refine TL_q (Qt_assign (.bool _) rfl) rfl ?_
  refine TL_nil ?_
  refine X_then ?_
  refine T_seq ?_
  refine T_seq ?_
  refine T_region ?_
  refine TL_q (Qt_assign (.int .i64 _) rfl) rfl ?_
  refine TL_nil ?_
  refine X_then ?_
  refine T_block ?_
  refine T_loop [11, 12, 17, 18, 19, 20, 21, 22, 23, 24, 25, 26, 27, 28, 29, 30, 31, 32, 33, 34, 35, 36] [12, 11] (fun us H' => ∃ (j : Nat) (f : Bool), us = [.int .i64 (j : Int), .bool f] ∧ row (.slice a2 (out).length c2) 3 1 ((out).flatMap encN) :: blk b4 (.cells (KeysV.mk ⟨sa, sc, ls⟩ rt).cells 38 (0, 0)) :: blk b5 (.cells (ViewV.mk num (mk : Int)).cells 24 (0, 0)) :: blk b6 (.cells m.cells 30 (0, 0)) :: H = H' ∧ j ≤ ps.length ∧ (f = (((ps.map BS.l).take j).any fun l => decide (cntI (ls.map BS.l) num mk m.abs l = ((i : Nat) : Int))))) (fun us => match us with | .int _ i :: _ => ps.length - i.toNat | _ => 0) ⟨0, false, rfl, rfl, by omega, rfl⟩ (Subs.st inferInstance) ?_
  rintro τ1 _ _  ⟨j, f, rfl, rfl, hj0, hf⟩ _
  refine T_seq ?_
  refine T_seq ?_
  refine T_region ?_
  refine TL_q (Qt_move (.int .i64 _) rfl) rfl ?_
  refine TL_q (Qt_move (.slice _ _ _) rfl) rfl ?_
  refine TL_q (Qt_len_slice rfl Tryd.underlying28) rfl ?_
  refine TL_q (Qt_lss rfl rfl) rfl ?_
  refine TL_q (Qt_move (.bool _) rfl) rfl ?_
  refine TL_split 21 rfl (fun h21 => ?_) (fun h21 => ?_)
  ·
   have p21 := h21
   try simp only [decide_eq_true_eq, decide_eq_false_iff_not, Bool.not_eq_true', Bool.not_eq_false', Option.isNone_iff_eq_none, ne_eq, Decidable.not_not, Int.not_lt, Int.not_le] at p21
   have hj : j < ps.length := by omega
   refine TL_take rfl rfl h21 ?_
   refine TL_q (Qt_move (.bool _) rfl) rfl ?_
   refine TL_take rfl rfl h21 ?_
   refine TL_q (Qt_not rfl) rfl ?_
   refine TL_q (Qt_pick_t (.bool _) rfl h21 rfl) rfl ?_
   refine TL_nil ?_
   refine X_then ?_
   refine T_cond rfl (fun h24 => ?_) (fun h24 => ?_)
   ·
    have p24 := h24
    try simp only [decide_eq_true_eq, decide_eq_false_iff_not, Bool.not_eq_true', Bool.not_eq_false', Option.isNone_iff_eq_none, ne_eq, Decidable.not_not, Int.not_lt, Int.not_le] at p24
    have hff : f = false := by simpa using h24
    refine T_skip ?_
    refine X_then ?_
    refine T_seq ?_
    refine T_block ?_
    refine T_draw (blk b4 (.cells (KeysV.mk ⟨sa, sc, ls⟩ rt).cells 38 (0, 0)) :: blk b5 (.cells (ViewV.mk num (mk : Int)).cells 24 (0, 0)) :: blk b6 (.cells m.cells 30 (0, 0)) :: H) [(0, true), (1, true), (2, true), (3, true), (4, true), (5, true), (6, true), (8, true), (7, false), (9, true), (10, true)] (by kernel_rfl) (by kernel_rfl) rfl (by kernel_rfl) (Subs.st inferInstance) (fun hns0 => ?_)
    refine DL_q hns0 rfl (Qt_loadN rfl rfl) rfl ?_
    refine DL_q hns0 rfl (Qt_loadN rfl rfl) rfl ?_
    refine DL_q hns0 rfl (Qt_loadN rfl rfl) rfl ?_
    refine DL_q hns0 rfl (Qt_move (.slice _ _ _) rfl) rfl ?_
    refine DL_q hns0 rfl (Qt_move (.int .i64 _) rfl) rfl ?_
    refine DL_q hns0 rfl (Qt_indexR rfl rfl (by omega) (by simp; omega)) rfl ?_
    refine DL_q hns0 rfl (Qt_loadR (.slice _ _ _) rfl (vals_get _ _ hj)) rfl ?_
    refine DL_q hns0 rfl (Qt_move (.int .i64 _) rfl) rfl ?_
    have : RdB w0 H (.slice ps[j].a ps[j].l.length ps[j].c) ps[j].l := hpe.get (List.getElem_mem hj)
    refine DL_e rfl rfl (Ef_call (rCounts_c (num := num) hmk (sa := sa) (sc := sc) (ls := ls) (rt := rt) (m := m) (l := ps[j].l) hkl (hps _ (List.getElem_mem hj))) rfl (fun x34 => ⟨(Subs.st inferInstance), ?_⟩))
    refine DL_q hns0 rfl (Qt_eql rfl rfl) rfl ?_
    refine DL_q hns0 rfl (Qt_assign (.bool _) rfl) rfl ?_
    refine DL_nil ?_
    refine X_block ?_
    refine X_then ?_
    refine T_region ?_
    refine TL_q (Qt_move (.int .i64 _) rfl) rfl ?_
    first
     | refine TL_q (Qt_add rfl rfl (by omega) (by omega)) rfl ?_
     | refine TL_q (Qt_addw rfl rfl) rfl ?_
    refine TL_q (Qt_assign (.int .i64 _) rfl) rfl ?_
    refine TL_nil ?_
    apply X_loop
    case ha => exact (by repeat (first | with_reducible exact agree_refl | refine agree_upd rfl ?_ | refine agree_mix rfl ?_ | refine agree_setAll rfl ?_))
    case hI => exact ⟨j + 1, _, rfl, rfl, by omega, by rw [any_succ _ _ j (by simpa using hj), ← hf, hff, Bool.false_or]; simp⟩
    case hm => exact by show ps.length - (j + 1 : Int).toNat < ps.length - (j : Int).toNat; omega
    case hH => exact (Subs.st inferInstance)
   ·
    have p24 := h24
    try simp only [decide_eq_true_eq, decide_eq_false_iff_not, Bool.not_eq_true', Bool.not_eq_false', Option.isNone_iff_eq_none, ne_eq, Decidable.not_not, Int.not_lt, Int.not_le] at p24
    have hft : f = true := by simpa using h24
    have hany : f = votesI (ls.map BS.l) num mk m.abs (ps.map BS.l) i := by rw [votesI, hft]; exact (any_full _ _ j (by rw [← hf]; exact hft)).symm
    refine T_exit ?_
    refine X_then_exit ?_
    refine X_loop_exit ?_
    refine X_block_exit ?_
    refine X_then ?_
    refine T_seq ?_
    refine T_region ?_
    refine TL_q (Qt_move (.bool _) rfl) rfl ?_
    refine TL_nil ?_
    refine X_then ?_
    refine T_cond rfl (fun h37 => ?_) (fun h37 => ?_)
    ·
     have p37 := h37
     try simp only [decide_eq_true_eq, decide_eq_false_iff_not, Bool.not_eq_true', Bool.not_eq_false', Option.isNone_iff_eq_none, ne_eq, Decidable.not_not, Int.not_lt, Int.not_le] at p37
     have hstep := range_step (p := fun i => (setD num m.abs ((ps.map BS.l).map (opn (ls.map BS.l) mk))).testBit i) (k := i)
     rw [if_pos (by rw [← votesI_bit, ← hany]; exact h37)] at hstep
     refine T_region ?_
     refine TL_q (Qt_move (.slice _ _ _) rfl) rfl ?_
     refine TL_q (Qt_move (.int .i64 _) rfl) rfl ?_
     refine TL_e rfl (Ef_sliceN (m := ([i] : List Nat).length) [.int .i64 (i : Int)] (([i] : List Nat).flatMap encN) rfl rfl rfl rfl (by simp [Value.cells]) rfl rfl (fun a40 c40 => ?_))
     refine TL_e rfl (Ef_appendS encN (sv := .slice _ _ _) (xv := .slice _ _ _) (xs := out) (ys := ([i] : List Nat)) (fun _ => rfl) (fun _ => rfl) rfl rfl (by have : out.length ≤ i := (by rw [ho]; exact range_le _ _); simp; omega) rfl rfl (fun a41 c41 => ?_))
     refine TL_q (Qt_assign (.slice _ _ _) rfl) rfl ?_
     refine TL_nil ?_
     refine X_block ?_
     refine X_then ?_
     refine T_region ?_
     refine TL_q (Qt_move (.int .i64 _) rfl) rfl ?_
     first
      | refine TL_q (Qt_add rfl rfl (by omega) (by omega)) rfl ?_
      | refine TL_q (Qt_addw rfl rfl) rfl ?_
     refine TL_q (Qt_assign (.int .i64 _) rfl) rfl ?_
     refine TL_nil ?_
     apply X_loop
     case ha => exact (by repeat (first | with_reducible exact agree_refl | refine agree_upd rfl ?_ | refine agree_mix rfl ?_ | refine agree_setAll rfl ?_))
     case hI => exact by first | exact ⟨i + 1, a41, c41, out ++ [i], rfl, rfl, by omega, by rw [hstep, ho]⟩ | exact ⟨i + 1, a2, c2, out, rfl, rfl, by omega, by rw [hstep, ho]⟩
     case hm => exact by show 16 - (i + 1 : Int).toNat < 16 - (i : Int).toNat; omega
     case hH => exact (Subs.st inferInstance)
    ·
     have p37 := h37
     try simp only [decide_eq_true_eq, decide_eq_false_iff_not, Bool.not_eq_true', Bool.not_eq_false', Option.isNone_iff_eq_none, ne_eq, Decidable.not_not, Int.not_lt, Int.not_le] at p37
     have hstep := range_step (p := fun i => (setD num m.abs ((ps.map BS.l).map (opn (ls.map BS.l) mk))).testBit i) (k := i)
     rw [if_neg (by rw [← votesI_bit, ← hany, h37]; decide), List.append_nil] at hstep
     refine T_skip ?_
     refine X_block ?_
     refine X_then ?_
     refine T_region ?_
     refine TL_q (Qt_move (.int .i64 _) rfl) rfl ?_
     first
      | refine TL_q (Qt_add rfl rfl (by omega) (by omega)) rfl ?_
      | refine TL_q (Qt_addw rfl rfl) rfl ?_
     refine TL_q (Qt_assign (.int .i64 _) rfl) rfl ?_
     refine TL_nil ?_
     apply X_loop
     case ha => exact (by repeat (first | with_reducible exact agree_refl | refine agree_upd rfl ?_ | refine agree_mix rfl ?_ | refine agree_setAll rfl ?_))
     case hI => exact by first | exact ⟨i + 1, a41, c41, out ++ [i], rfl, rfl, by omega, by rw [hstep, ho]⟩ | exact ⟨i + 1, a2, c2, out, rfl, rfl, by omega, by rw [hstep, ho]⟩
     case hm => exact by show 16 - (i + 1 : Int).toNat < 16 - (i : Int).toNat; omega
     case hH => exact (Subs.st inferInstance)
  ·
   have p21 := h21
   try simp only [decide_eq_true_eq, decide_eq_false_iff_not, Bool.not_eq_true', Bool.not_eq_false', Option.isNone_iff_eq_none, ne_eq, Decidable.not_not, Int.not_lt, Int.not_le] at p21
   have hjl : j = ps.length := by omega
   have hany : f = votesI (ls.map BS.l) num mk m.abs (ps.map BS.l) i := by rw [hf, votesI, List.take_of_length_le (by simp; omega)]
   refine TL_pass rfl rfl h21 rfl ?_
   refine TL_pass rfl rfl h21 rfl ?_
   refine TL_q (Qt_pick_f (.bool _) rfl h21 rfl) rfl ?_
   refine TL_nil ?_
   refine X_then ?_
   refine T_cond_false rfl rfl ?_
   refine T_exit ?_
   refine X_then_exit ?_
   refine X_loop_exit ?_
   refine X_block_exit ?_
   refine X_then ?_
   refine T_seq ?_
   refine T_region ?_
   refine TL_q (Qt_move (.bool _) rfl) rfl ?_
   refine TL_nil ?_
   refine X_then ?_
   refine T_cond rfl (fun h37 => ?_) (fun h37 => ?_)
   ·
    have p37 := h37
    try simp only [decide_eq_true_eq, decide_eq_false_iff_not, Bool.not_eq_true', Bool.not_eq_false', Option.isNone_iff_eq_none, ne_eq, Decidable.not_not, Int.not_lt, Int.not_le] at p37
    have hstep := range_step (p := fun i => (setD num m.abs ((ps.map BS.l).map (opn (ls.map BS.l) mk))).testBit i) (k := i)
    rw [if_pos (by rw [← votesI_bit, ← hany]; exact h37)] at hstep
    refine T_region ?_
    refine TL_q (Qt_move (.slice _ _ _) rfl) rfl ?_
    refine TL_q (Qt_move (.int .i64 _) rfl) rfl ?_
    refine TL_e rfl (Ef_sliceN (m := ([i] : List Nat).length) [.int .i64 (i : Int)] (([i] : List Nat).flatMap encN) rfl rfl rfl rfl (by simp [Value.cells]) rfl rfl (fun a40 c40 => ?_))
    refine TL_e rfl (Ef_appendS encN (sv := .slice _ _ _) (xv := .slice _ _ _) (xs := out) (ys := ([i] : List Nat)) (fun _ => rfl) (fun _ => rfl) rfl rfl (by have : out.length ≤ i := (by rw [ho]; exact range_le _ _); simp; omega) rfl rfl (fun a41 c41 => ?_))
    refine TL_q (Qt_assign (.slice _ _ _) rfl) rfl ?_
    refine TL_nil ?_
    refine X_block ?_
    refine X_then ?_
    refine T_region ?_
    refine TL_q (Qt_move (.int .i64 _) rfl) rfl ?_
    first
     | refine TL_q (Qt_add rfl rfl (by omega) (by omega)) rfl ?_
     | refine TL_q (Qt_addw rfl rfl) rfl ?_
    refine TL_q (Qt_assign (.int .i64 _) rfl) rfl ?_
    refine TL_nil ?_
    apply X_loop
    case ha => exact (by repeat (first | with_reducible exact agree_refl | refine agree_upd rfl ?_ | refine agree_mix rfl ?_ | refine agree_setAll rfl ?_))
    case hI => exact by first | exact ⟨i + 1, a41, c41, out ++ [i], rfl, rfl, by omega, by rw [hstep, ho]⟩ | exact ⟨i + 1, a2, c2, out, rfl, rfl, by omega, by rw [hstep, ho]⟩
    case hm => exact by show 16 - (i + 1 : Int).toNat < 16 - (i : Int).toNat; omega
    case hH => exact (Subs.st inferInstance)
   ·
    have p37 := h37
    try simp only [decide_eq_true_eq, decide_eq_false_iff_not, Bool.not_eq_true', Bool.not_eq_false', Option.isNone_iff_eq_none, ne_eq, Decidable.not_not, Int.not_lt, Int.not_le] at p37
    have hstep := range_step (p := fun i => (setD num m.abs ((ps.map BS.l).map (opn (ls.map BS.l) mk))).testBit i) (k := i)
    rw [if_neg (by rw [← votesI_bit, ← hany, h37]; decide), List.append_nil] at hstep
    refine T_skip ?_
    refine X_block ?_
    refine X_then ?_
    refine T_region ?_
    refine TL_q (Qt_move (.int .i64 _) rfl) rfl ?_
    first
     | refine TL_q (Qt_add rfl rfl (by omega) (by omega)) rfl ?_
     | refine TL_q (Qt_addw rfl rfl) rfl ?_
    refine TL_q (Qt_assign (.int .i64 _) rfl) rfl ?_
    refine TL_nil ?_
    apply X_loop
    case ha => exact (by repeat (first | with_reducible exact agree_refl | refine agree_upd rfl ?_ | refine agree_mix rfl ?_ | refine agree_setAll rfl ?_))
    case hI => exact by first | exact ⟨i + 1, a41, c41, out ++ [i], rfl, rfl, by omega, by rw [hstep, ho]⟩ | exact ⟨i + 1, a2, c2, out, rfl, rfl, by omega, by rw [hstep, ho]⟩
    case hm => exact by show 16 - (i + 1 : Int).toNat < 16 - (i : Int).toNat; omega
    case hH => exact (Subs.st inferInstance)
 ·
  have p14 := h14
  try simp only [decide_eq_true_eq, decide_eq_false_iff_not, Bool.not_eq_true', Bool.not_eq_false', Option.isNone_iff_eq_none, ne_eq, Decidable.not_not, Int.not_lt, Int.not_le] at p14
  have hi16 : i = 16 := by omega
  subst hi16
  have hs2 : out = (memK (setD num m.abs ((ps.map BS.l).map (opn (ls.map BS.l) mk)))) := ho
  subst hs2
  refine T_exit ?_
  refine X_then_exit ?_
  refine X_loop_exit ?_
  refine X_block_exit ?_
  refine X_then ?_
  refine T_seq ?_
  refine T_region ?_
  refine TL_q (Qt_move (.slice _ _ _) rfl) rfl ?_
  refine TL_q (Qt_assign (.slice _ _ _) rfl) rfl ?_
  refine TL_nil ?_
  refine X_then ?_
  refine T_ret ?_
  exact X_ret ⟨a2, c2⟩ [_] Tryd.results18 ⟨rfl, trivial⟩ rfl (Subs.st inferInstance)
theorem setP_lt2 {K : List (List UInt8)} {num : Int} {mk : Nat} {m : MsgD} {P : List (List UInt8)} : setD num m (P.map (opn K mk)) < 65536 := setD_lt _ (fun v hv => by obtain ⟨l, -, rfl⟩ := List.mem_map.1 hv; exact opn_frm _ _ _)
theorem enough_len {K : List (List UInt8)} {num : Int} {mk : Nat} {m : MsgD} {P : List (List UInt8)} : enoughD num mk m (P.map (opn K mk)) = decide (quorumV num mk ≤ (memK (setD num m (P.map (opn K mk)))).length) := by rw [enoughD, ones16_mem setP_lt2]
attribute [local irreducible] setD memK
set_option maxHeartbeats 1000000 in
theorem rWritten_c {w0 : World} {H : List SA} {num : Int} {mk : Nat} (hmk : mk < 65536) {sa : Option Addr} {sc : Nat} {ls : List BS} {rt : Sl} [rk : RdC w0 H (.slice sa ls.length sc) 1 (ls.map BS.val)] [rke : RdE w0 H ls] (hkl : ∀ x ∈ ls, x.l.length ≤ 4294967000) {a : Option Addr} {ps : List BS} {c : Nat} [hp : RdC w0 H (.slice a ps.length c) 1 (ps.map BS.val)] [hpe : RdE w0 H ps] (hps : ∀ x ∈ ps, x.l.length ≤ 4294960000) (hn : ps.length ≤ 1000) {reg slot : Int} {h : Vector UInt8 32} :
 CT Tryd.prog w0 (H) 29 [.agg (KeysV.mk ⟨sa, sc, ls⟩ rt).cells, .agg (ViewV.mk num (mk : Int)).cells, .int .i64 reg, .int .i64 slot, .agg (hlist h).toArray, .slice a ps.length c] (α := Unit) (fun _ => .int .i64 (writD (ls.map BS.l) num mk reg slot h (ps.map BS.l))) (fun _ => H) := by
 refine CT_intro Tryd.func29 rfl Tryd.ntmps29 rfl ?_
 refine T_seq ?_
 refine T_region ?_
 refine TL_e rfl (Ef_boxN rfl (fun b6 => ?_))
 refine TL_e rfl (Ef_boxN rfl (fun b7 => ?_))
 refine TL_e rfl (Ef_boxN rfl (fun b10 => ?_))
 refine TL_q (Qt_assign (.int .i64 _) rfl) rfl ?_
 refine TL_nil ?_
 refine X_then ?_
 refine T_seq ?_
 refine T_seq ?_
 refine T_region ?_
 refine TL_q (Qt_loadN rfl rfl) rfl ?_
 refine TL_e rfl (Ef_call (rRight_c hmk) rfl (fun x15 => ?_))
 refine TL_q (Qt_not rfl) rfl ?_
 refine TL_q (Qt_move (.bool _) rfl) rfl ?_
 refine TL_split 17 rfl (fun h17 => ?_) (fun h17 => ?_)
 ·
  have p17 := h17
  try simp only [decide_eq_true_eq, decide_eq_false_iff_not, Bool.not_eq_true', Bool.not_eq_false', Option.isNone_iff_eq_none, ne_eq, Decidable.not_not, Int.not_lt, Int.not_le] at p17
  refine TL_pass rfl rfl h17 rfl ?_
  refine TL_pass rfl rfl h17 rfl ?_
  refine TL_pass rfl rfl h17 rfl ?_
  refine TL_q (Qt_pick_t (.bool _) rfl h17 rfl) rfl ?_
  refine TL_nil ?_
  refine X_then ?_
  refine T_cond_true rfl rfl ?_
  refine T_seq ?_
  refine T_region ?_
  refine TL_q (Qt_assign (.int .i64 _) rfl) rfl ?_
  refine TL_nil ?_
  refine X_then ?_
  refine T_ret ?_
  refine X_then_ret ?_
  have e : writD (ls.map BS.l) num mk reg slot h (ps.map BS.l) = 12 := if_neg (by rintro ⟨h1, h2, -⟩; rw [List.length_map] at h2; first | (simp_all; done) | (simp_all; omega))
  exact X_ret () [_] Tryd.results29 ⟨rfl, trivial⟩ (by rw [e]; rfl) (Subs.st inferInstance)
 ·
  have p17 := h17
  try simp only [decide_eq_true_eq, decide_eq_false_iff_not, Bool.not_eq_true', Bool.not_eq_false', Option.isNone_iff_eq_none, ne_eq, Decidable.not_not, Int.not_lt, Int.not_le] at p17
  refine TL_take rfl rfl h17 ?_
  refine TL_q (Qt_move (.slice _ _ _) rfl) rfl ?_
  refine TL_take rfl rfl h17 ?_
  refine TL_q (Qt_len_slice rfl Tryd.underlying28) rfl ?_
  refine TL_take rfl rfl h17 ?_
  refine TL_q (Qt_gtr rfl rfl) rfl ?_
  refine TL_q (Qt_pick_f (.bool _) rfl h17 rfl) rfl ?_
  refine TL_nil ?_
  refine X_then ?_
  refine T_cond rfl (fun h21 => ?_) (fun h21 => ?_)
  ·
   have p21 := h21
   try simp only [decide_eq_true_eq, decide_eq_false_iff_not, Bool.not_eq_true', Bool.not_eq_false', Option.isNone_iff_eq_none, ne_eq, Decidable.not_not, Int.not_lt, Int.not_le] at p21
   refine T_seq ?_
   refine T_region ?_
   refine TL_q (Qt_assign (.int .i64 _) rfl) rfl ?_
   refine TL_nil ?_
   refine X_then ?_
   refine T_ret ?_
   refine X_then_ret ?_
   have e : writD (ls.map BS.l) num mk reg slot h (ps.map BS.l) = 12 := if_neg (by rintro ⟨h1, h2, -⟩; rw [List.length_map] at h2; first | (simp_all; done) | (simp_all; omega))
   exact X_ret () [_] Tryd.results29 ⟨rfl, trivial⟩ (by rw [e]; rfl) (Subs.st inferInstance)
  ·
   have p21 := h21
   try simp only [decide_eq_true_eq, decide_eq_false_iff_not, Bool.not_eq_true', Bool.not_eq_false', Option.isNone_iff_eq_none, ne_eq, Decidable.not_not, Int.not_lt, Int.not_le] at p21
   refine T_skip ?_
   refine X_then ?_
   refine T_seq ?_
   refine T_region ?_
   refine TL_q (Qt_fieldAddr 0 rfl rfl) rfl ?_
   refine TL_q (Qt_load1 rfl) rfl ?_
   refine TL_q (Qt_move (.int .i64 _) rfl) rfl ?_
   refine TL_q (Qt_move (.int .i64 _) rfl) rfl ?_
   refine TL_q (Qt_loadN rfl rfl) rfl ?_
   refine TL_q (Qt_build [(0, (.int .i64 _)), (2, (.int .i64 _)), (3, (.int .i64 _)), (4, (.int .i64 _)), (5, (.agg _))] rfl (by kernel_rfl)) rfl ?_
   refine TL_e rfl (Ef_allocN (fun b13 => ?_))
   refine TL_n (Ef_storeN rfl rfl (?_))
   refine TL_nil ?_
   refine X_then ?_
   refine T_seq ?_
   refine T_seq ?_
   refine T_draw (blk b6 (.cells (KeysV.mk ⟨sa, sc, ls⟩ rt).cells 38 (0, 0)) :: blk b7 (.cells (ViewV.mk num (mk : Int)).cells 24 (0, 0)) :: blk b13 (.cells (MsgV.mk 2 0 num reg slot h ⟨none, 0, []⟩ ⟨none, 0, []⟩).cells 30 (0, 0)) :: H) [(0, true), (1, true), (2, true), (3, true), (6, true), (4, false), (5, true), (7, false), (8, true)] (by kernel_rfl) (by kernel_rfl) rfl (by kernel_rfl) (Subs.st inferInstance) (fun hns0 => ?_)
   refine DL_q hns0 rfl (Qt_loadN rfl rfl) rfl ?_
   refine DL_q hns0 rfl (Qt_loadN rfl rfl) rfl ?_
   refine DL_q hns0 rfl (Qt_loadN rfl rfl) rfl ?_
   refine DL_q hns0 rfl (Qt_move (.slice _ _ _) rfl) rfl ?_
   refine DL_q hns0 rfl (Qt_loadN rfl rfl) rfl ?_
   refine DL_e rfl rfl (Ef_call (rWho_c (num := num) hmk (sa := sa) (sc := sc) (ls := ls) (rt := rt) (ps := ps) hkl hps hn (m := ⟨2, 0, num, reg, slot, h, ⟨none, 0, []⟩, ⟨none, 0, []⟩⟩)) rfl (fun x32 => ⟨(Subs.st inferInstance), ?_⟩))
   refine DL_q hns0 rfl (Qt_len_slice rfl Tryd.underlying42) rfl ?_
   refine DL_e rfl rfl (Ef_call (rQuorum_c (num := num) hmk) rfl (fun x35 => ⟨(Subs.st inferInstance), ?_⟩))
   refine DL_q hns0 rfl (Qt_lss rfl rfl) rfl ?_
   refine DL_nil ?_
   refine X_then ?_
   refine T_cond rfl (fun h36 => ?_) (fun h36 => ?_)
   ·
    have p36 := h36
    try simp only [decide_eq_true_eq, decide_eq_false_iff_not, Bool.not_eq_true', Bool.not_eq_false', Option.isNone_iff_eq_none, ne_eq, Decidable.not_not, Int.not_lt, Int.not_le] at p36
    refine T_seq ?_
    refine T_region ?_
    refine TL_q (Qt_assign (.int .i64 _) rfl) rfl ?_
    refine TL_nil ?_
    refine X_then ?_
    refine T_ret ?_
    refine X_then_ret ?_
    have hlt : (memK (setD num (MsgV.abs ⟨2, 0, num, reg, slot, h, ⟨none, 0, []⟩, ⟨none, 0, []⟩⟩) ((ps.map BS.l).map (opn (ls.map BS.l) mk)))).length < quorumV num mk := by have := of_decide_eq_true h36; omega
    have e : writD (ls.map BS.l) num mk reg slot h (ps.map BS.l) = 12 := if_neg (by rintro ⟨-, -, h3⟩; rw [enough_len, decide_eq_true_eq] at h3; exact absurd h3 (Nat.not_le.2 hlt))
    exact X_ret () [_] Tryd.results29 ⟨rfl, trivial⟩ (by rw [e]; rfl) (Subs.st inferInstance)
   ·
    have p36 := h36
    try simp only [decide_eq_true_eq, decide_eq_false_iff_not, Bool.not_eq_true', Bool.not_eq_false', Option.isNone_iff_eq_none, ne_eq, Decidable.not_not, Int.not_lt, Int.not_le] at p36
    refine T_skip ?_
    refine X_then ?_
    refine T_seq ?_
    refine T_region ?_
    refine TL_q (Qt_assign (.int .i64 _) rfl) rfl ?_
    refine TL_nil ?_
    refine X_then ?_
    refine T_ret ?_
    have hge : quorumV num mk ≤ (memK (setD num (MsgV.abs ⟨2, 0, num, reg, slot, h, ⟨none, 0, []⟩, ⟨none, 0, []⟩⟩) ((ps.map BS.l).map (opn (ls.map BS.l) mk)))).length := by have := of_decide_eq_false h36; omega
    have e : writD (ls.map BS.l) num mk reg slot h (ps.map BS.l) = 0 := if_pos ⟨by simp_all, by rw [List.length_map]; first | omega | (simp_all; omega), by rw [enough_len, decide_eq_true_eq]; exact hge⟩
    exact X_ret () [_] Tryd.results29 ⟨rfl, trivial⟩ (by rw [e]; rfl) (Subs.st inferInstance)
set_option maxHeartbeats 1000000 in
theorem rDecided_c {w0 : World} {H : List SA} {num : Int} {mk : Nat} (hmk : mk < 65536) {sa : Option Addr} {sc : Nat} {ls : List BS} {rt : Sl} [rk : RdC w0 H (.slice sa ls.length sc) 1 (ls.map BS.val)] [rke : RdE w0 H ls] (hkl : ∀ x ∈ ls, x.l.length ≤ 4294967000) {a : Option Addr} {ps : List BS} {c : Nat} [hp : RdC w0 H (.slice a ps.length c) 1 (ps.map BS.val)] [hpe : RdE w0 H ps] (hps : ∀ x ∈ ps, x.l.length ≤ 4294960000) (hn : ps.length ≤ 1000) {slot : Int} {h : Vector UInt8 32} :
 CT Tryd.prog w0 (H) 31 [.agg (KeysV.mk ⟨sa, sc, ls⟩ rt).cells, .agg (ViewV.mk num (mk : Int)).cells, .int .i64 slot, .agg (hlist h).toArray, .slice a ps.length c] (α := Unit) (fun _ => .tuple #[.int .i64 (decidD (ls.map BS.l) num mk slot h (ps.map BS.l)).1, .int .i64 (decidD (ls.map BS.l) num mk slot h (ps.map BS.l)).2]) (fun _ => H) := by
 refine CT_intro Tryd.func31 rfl Tryd.ntmps31 rfl ?_
 refine T_seq ?_
 refine T_region ?_
 refine TL_e rfl (Ef_boxN rfl (fun b5 => ?_))
 refine TL_e rfl (Ef_boxN rfl (fun b6 => ?_))
 refine TL_e rfl (Ef_boxN rfl (fun b8 => ?_))
 refine TL_q (Qt_assign (.int .i64 _) rfl) rfl ?_
 refine TL_q (Qt_assign (.int .i64 _) rfl) rfl ?_
 refine TL_nil ?_
 refine X_then ?_
 refine T_seq ?_
 refine T_seq ?_
 refine T_region ?_
 refine TL_q (Qt_loadN rfl rfl) rfl ?_
 refine TL_e rfl (Ef_call (rRight_c hmk) rfl (fun x15 => ?_))
 refine TL_q (Qt_not rfl) rfl ?_
 refine TL_q (Qt_move (.bool _) rfl) rfl ?_
 refine TL_split 17 rfl (fun h17 => ?_) (fun h17 => ?_)
 ·
  have p17 := h17
  try simp only [decide_eq_true_eq, decide_eq_false_iff_not, Bool.not_eq_true', Bool.not_eq_false', Option.isNone_iff_eq_none, ne_eq, Decidable.not_not, Int.not_lt, Int.not_le] at p17
  refine TL_pass rfl rfl h17 rfl ?_
  refine TL_pass rfl rfl h17 rfl ?_
  refine TL_pass rfl rfl h17 rfl ?_
  refine TL_q (Qt_pick_t (.bool _) rfl h17 rfl) rfl ?_
  refine TL_nil ?_
  refine X_then ?_
  refine T_cond_true rfl rfl ?_
  refine T_seq ?_
  refine T_region ?_
  refine TL_q (Qt_assign (.int .i64 _) rfl) rfl ?_
  refine TL_q (Qt_assign (.int .i64 _) rfl) rfl ?_
  refine TL_nil ?_
  refine X_then ?_
  refine T_ret ?_
  refine X_then_ret ?_
  have e : decidD (ls.map BS.l) num mk slot h (ps.map BS.l) = (0, 12) := if_neg (by rintro ⟨h1, h2⟩; rw [List.length_map] at h2; first | (simp_all; done) | (simp_all; omega))
  exact X_ret () [_, _] Tryd.results31 ⟨rfl, rfl, trivial⟩ (by rw [e]; rfl) (Subs.st inferInstance)
 ·
  have p17 := h17
  try simp only [decide_eq_true_eq, decide_eq_false_iff_not, Bool.not_eq_true', Bool.not_eq_false', Option.isNone_iff_eq_none, ne_eq, Decidable.not_not, Int.not_lt, Int.not_le] at p17
  refine TL_take rfl rfl h17 ?_
  refine TL_q (Qt_move (.slice _ _ _) rfl) rfl ?_
  refine TL_take rfl rfl h17 ?_
  refine TL_q (Qt_len_slice rfl Tryd.underlying28) rfl ?_
  refine TL_take rfl rfl h17 ?_
  refine TL_q (Qt_gtr rfl rfl) rfl ?_
  refine TL_q (Qt_pick_f (.bool _) rfl h17 rfl) rfl ?_
  refine TL_nil ?_
  refine X_then ?_
  refine T_cond rfl (fun h21 => ?_) (fun h21 => ?_)
  ·
   have p21 := h21
   try simp only [decide_eq_true_eq, decide_eq_false_iff_not, Bool.not_eq_true', Bool.not_eq_false', Option.isNone_iff_eq_none, ne_eq, Decidable.not_not, Int.not_lt, Int.not_le] at p21
   refine T_seq ?_
   refine T_region ?_
   refine TL_q (Qt_assign (.int .i64 _) rfl) rfl ?_
   refine TL_q (Qt_assign (.int .i64 _) rfl) rfl ?_
   refine TL_nil ?_
   refine X_then ?_
   refine T_ret ?_
   refine X_then_ret ?_
   have e : decidD (ls.map BS.l) num mk slot h (ps.map BS.l) = (0, 12) := if_neg (by rintro ⟨h1, h2⟩; rw [List.length_map] at h2; first | (simp_all; done) | (simp_all; omega))
   exact X_ret () [_, _] Tryd.results31 ⟨rfl, rfl, trivial⟩ (by rw [e]; rfl) (Subs.st inferInstance)
  ·
   have p21 := h21
   try simp only [decide_eq_true_eq, decide_eq_false_iff_not, Bool.not_eq_true', Bool.not_eq_false', Option.isNone_iff_eq_none, ne_eq, Decidable.not_not, Int.not_lt, Int.not_le] at p21
   refine T_skip ?_
   refine X_then ?_
   refine T_seq ?_
   refine T_seq ?_
   refine T_region ?_
   refine TL_q (Qt_assign (.int .i64 _) rfl) rfl ?_
   refine TL_nil ?_
   refine X_then ?_
   refine T_block ?_
   refine T_loop [10, 11, 12, 13, 22, 23, 24, 25, 26, 27, 28, 29, 30, 31, 32, 33, 34, 35, 36, 37, 38, 39, 40, 41] [12] (fun us H' => ∃ (k : Nat), us = [.int .i64 (k : Int)] ∧ blk b5 (.cells (KeysV.mk ⟨sa, sc, ls⟩ rt).cells 38 (0, 0)) :: blk b6 (.cells (ViewV.mk num (mk : Int)).cells 24 (0, 0)) :: blk b8 (.cells (hlist h).toArray 26 (0, 0)) :: H = H' ∧ k ≤ 41 ∧ (∀ i < k, enoughD num mk (wMsg 3 num i slot h) ((ps.map BS.l).map (opn (ls.map BS.l) mk)) = false)) (fun us => match us with | .int _ i :: _ => 41 - i.toNat | _ => 0) ⟨0, rfl, rfl, by omega, fun i h => by omega⟩ (Subs.st inferInstance) ?_
   rintro τ0 _ _  ⟨k, rfl, rfl, hk0, hno⟩ _
   refine T_seq ?_
   refine T_seq ?_
   refine T_region ?_
   refine TL_q (Qt_move (.int .i64 _) rfl) rfl ?_
   refine TL_q (Qt_leq rfl rfl) rfl ?_
   refine TL_nil ?_
   refine X_then ?_
   refine T_cond rfl (fun h23 => ?_) (fun h23 => ?_)
   ·
    have p23 := h23
    try simp only [decide_eq_true_eq, decide_eq_false_iff_not, Bool.not_eq_true', Bool.not_eq_false', Option.isNone_iff_eq_none, ne_eq, Decidable.not_not, Int.not_lt, Int.not_le] at p23
    refine T_skip ?_
    refine X_then ?_
    refine T_seq ?_
    refine T_block ?_
    refine T_seq ?_
    refine T_region ?_
    refine TL_q (Qt_fieldAddr 0 rfl rfl) rfl ?_
    refine TL_q (Qt_load1 rfl) rfl ?_
    refine TL_q (Qt_move (.int .i64 _) rfl) rfl ?_
    refine TL_q (Qt_move (.int .i64 _) rfl) rfl ?_
    refine TL_q (Qt_loadN rfl rfl) rfl ?_
    refine TL_q (Qt_build [(0, (.int .i64 _)), (2, (.int .i64 _)), (3, (.int .i64 _)), (4, (.int .i64 _)), (5, (.agg _))] rfl (by kernel_rfl)) rfl ?_
    refine TL_e rfl (Ef_allocN (fun b13 => ?_))
    refine TL_n (Ef_storeN rfl rfl (?_))
    refine TL_nil ?_
    refine X_then ?_
    refine T_seq ?_
    refine T_draw (blk b5 (.cells (KeysV.mk ⟨sa, sc, ls⟩ rt).cells 38 (0, 0)) :: blk b6 (.cells (ViewV.mk num (mk : Int)).cells 24 (0, 0)) :: blk b8 (.cells (hlist h).toArray 26 (0, 0)) :: blk b13 (.cells (MsgV.mk 3 0 num (k : Int) slot h ⟨none, 0, []⟩ ⟨none, 0, []⟩).cells 30 (0, 0)) :: H) [(0, true), (1, true), (2, true), (3, true), (6, true), (4, false), (5, true), (7, false), (8, true)] (by kernel_rfl) (by kernel_rfl) rfl (by kernel_rfl) (Subs.st inferInstance) (fun hns0 => ?_)
    refine DL_q hns0 rfl (Qt_loadN rfl rfl) rfl ?_
    refine DL_q hns0 rfl (Qt_loadN rfl rfl) rfl ?_
    refine DL_q hns0 rfl (Qt_loadN rfl rfl) rfl ?_
    refine DL_q hns0 rfl (Qt_move (.slice _ _ _) rfl) rfl ?_
    refine DL_q hns0 rfl (Qt_loadN rfl rfl) rfl ?_
    refine DL_e rfl rfl (Ef_call (rWho_c (num := num) hmk (sa := sa) (sc := sc) (ls := ls) (rt := rt) (ps := ps) hkl hps hn (m := ⟨3, 0, num, (k : Int), slot, h, ⟨none, 0, []⟩, ⟨none, 0, []⟩⟩)) rfl (fun x36 => ⟨(Subs.st inferInstance), ?_⟩))
    refine DL_q hns0 rfl (Qt_len_slice rfl Tryd.underlying42) rfl ?_
    refine DL_e rfl rfl (Ef_call (rQuorum_c (num := num) hmk) rfl (fun x39 => ⟨(Subs.st inferInstance), ?_⟩))
    refine DL_q hns0 rfl (Qt_geq rfl rfl) rfl ?_
    refine DL_nil ?_
    refine X_then ?_
    refine T_cond rfl (fun h40 => ?_) (fun h40 => ?_)
    ·
     have p40 := h40
     try simp only [decide_eq_true_eq, decide_eq_false_iff_not, Bool.not_eq_true', Bool.not_eq_false', Option.isNone_iff_eq_none, ne_eq, Decidable.not_not, Int.not_lt, Int.not_le] at p40
     have hen : enoughD num mk (wMsg 3 num k slot h) ((ps.map BS.l).map (opn (ls.map BS.l) mk)) = true := by rw [enough_len, decide_eq_true_eq]; have h2 : quorumV num mk ≤ (memK (setD num (MsgV.abs ⟨3, 0, num, (k : Int), slot, h, ⟨none, 0, []⟩, ⟨none, 0, []⟩⟩) ((ps.map BS.l).map (opn (ls.map BS.l) mk)))).length := (by have := of_decide_eq_true h40; omega); exact h2
     refine T_seq ?_
     refine T_region ?_
     refine TL_q (Qt_move (.int .i64 _) rfl) rfl ?_
     refine TL_q (Qt_assign (.int .i64 _) rfl) rfl ?_
     refine TL_q (Qt_assign (.int .i64 _) rfl) rfl ?_
     refine TL_nil ?_
     refine X_then ?_
     refine T_ret ?_
     refine X_block_ret ?_
     refine X_then_ret ?_
     refine X_loop_ret ?_
     refine X_block_ret ?_
     refine X_then_ret ?_
     have e : decidD (ls.map BS.l) num mk slot h (ps.map BS.l) = ((k : Int), 0) := by rw [decidD, if_pos ⟨by simp_all, by rw [List.length_map]; first | omega | (simp_all; omega)⟩, find_range (k := k) (by omega) hno hen]
     exact X_ret () [_, _] Tryd.results31 ⟨rfl, rfl, trivial⟩ (by rw [e]; rfl) (Subs.st inferInstance)
    ·
     have p40 := h40
     try simp only [decide_eq_true_eq, decide_eq_false_iff_not, Bool.not_eq_true', Bool.not_eq_false', Option.isNone_iff_eq_none, ne_eq, Decidable.not_not, Int.not_lt, Int.not_le] at p40
     have hen : enoughD num mk (wMsg 3 num k slot h) ((ps.map BS.l).map (opn (ls.map BS.l) mk)) = false := by rw [enough_len, decide_eq_false_iff_not]; have h2 : ¬ quorumV num mk ≤ (memK (setD num (MsgV.abs ⟨3, 0, num, (k : Int), slot, h, ⟨none, 0, []⟩, ⟨none, 0, []⟩⟩) ((ps.map BS.l).map (opn (ls.map BS.l) mk)))).length := (by have := of_decide_eq_false h40; omega); exact h2
     refine T_skip ?_
     refine X_block ?_
     refine X_then ?_
     refine T_region ?_
     refine TL_q (Qt_move (.int .i64 _) rfl) rfl ?_
     first
      | refine TL_q (Qt_add rfl rfl (by omega) (by omega)) rfl ?_
      | refine TL_q (Qt_addw rfl rfl) rfl ?_
     refine TL_q (Qt_assign (.int .i64 _) rfl) rfl ?_
     refine TL_nil ?_
     apply X_loop
     case ha => exact (by repeat (first | with_reducible exact agree_refl | refine agree_upd rfl ?_ | refine agree_mix rfl ?_ | refine agree_setAll rfl ?_))
     case hI => exact ⟨k + 1, rfl, rfl, by omega, fun i h => by rcases Nat.lt_or_ge i k with h1 | h1; exact hno i h1; obtain rfl : i = k := (by omega); exact hen⟩
     case hm => exact by show 41 - (k + 1 : Int).toNat < 41 - (k : Int).toNat; omega
     case hH => exact (Subs.st inferInstance)
   ·
    have p23 := h23
    try simp only [decide_eq_true_eq, decide_eq_false_iff_not, Bool.not_eq_true', Bool.not_eq_false', Option.isNone_iff_eq_none, ne_eq, Decidable.not_not, Int.not_lt, Int.not_le] at p23
    refine T_exit ?_
    refine X_then_exit ?_
    refine X_loop_exit ?_
    refine X_block_exit ?_
    refine X_then ?_
    refine T_seq ?_
    refine T_region ?_
    refine TL_q (Qt_assign (.int .i64 _) rfl) rfl ?_
    refine TL_q (Qt_assign (.int .i64 _) rfl) rfl ?_
    refine TL_nil ?_
    refine X_then ?_
    refine T_ret ?_
    have e : decidD (ls.map BS.l) num mk slot h (ps.map BS.l) = (0, 12) := by rw [decidD, if_pos ⟨by simp_all, by rw [List.length_map]; first | omega | (simp_all; omega)⟩, find_range_none (fun i h => hno i (by omega))]
    exact X_ret () [_, _] Tryd.results31 ⟨rfl, rfl, trivial⟩ (by rw [e]; rfl) (Subs.st inferInstance)
end Go.Proofs.YtgjkgdjjolnhdaaDoor
