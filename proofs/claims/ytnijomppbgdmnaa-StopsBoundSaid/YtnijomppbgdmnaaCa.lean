/- Walks: package certs: votes that open, who votes for a message, whether a quorum does. -/
import Derived.Test.YtnijomppbgdmnaaMb
import Derived.Test.YtnijomppbgdmnaaOo
namespace Go.Proofs.Ytnijomppbgdmnaa
open Go.RowKit Go.Sx
set_option maxRecDepth 100000
set_option linter.unusedSimpArgs false
set_option linter.unusedVariables false
/-- The message that a part opens to: none is one of zeros. -/
def opn (K : List (List UInt8)) (mk : Nat) (l : List UInt8) : MsgD := (openOfK K mk l).2
theorem openK_zero {K : List (List UInt8)} {l : List UInt8} (h : (openK K l).1 ≠ 0) : (openK K l).2 = .zero := by
  unfold openK at h ⊢
  split
  · rfl
  · split
    · rfl
    · split
      · rfl
      · split
        · rfl
        · rename_i h1 h2 h3 h4; rw [if_neg h1, if_neg h2, if_neg h3, if_neg h4] at h; exact absurd rfl h
theorem opn_zero {K : List (List UInt8)} {mk : Nat} {l : List UInt8} (h : (openOfK K mk l).1 ≠ 0) : opn K mk l = .zero := by
  unfold opn openOfK at *
  split
  · rfl
  · rename_i h1; rw [if_neg h1] at h; exact openK_zero h
theorem openK_formed {K : List (List UInt8)} {l : List UInt8} (h : (openK K l).1 = 0) : formedM (openK K l).2 = true := by
  unfold openK at h ⊢
  split at h
  · cases h
  · rename_i h1
    rw [if_neg h1]
    split at h
    · rename_i h2; exact absurd h h2
    · rename_i h2
      rw [if_neg h2]
      split at h
      · cases h
      · rename_i h3
        rw [if_neg h3]
        split at h
        · cases h
        · rename_i h4; rw [if_neg h4]; exact getM_formed (by simpa using h2)
theorem opn_ok {K : List (List UInt8)} {mk : Nat} {l : List UInt8} (h : (openOfK K mk l).1 = 0) : formedM (opn K mk l) = true ∧ hasV mk (opn K mk l).frm = true := by
  unfold opn openOfK at *
  split at h
  · cases h
  · rename_i h1
    rw [if_neg h1]
    exact ⟨openK_formed h, by simpa [h] using h1⟩
theorem opn_frm (K : List (List UInt8)) (mk : Nat) (l : List UInt8) : 0 ≤ (opn K mk l).frm ∧ (opn K mk l).frm < 16 := by
  by_cases h : (openOfK K mk l).1 = 0
  · have := (opn_ok h).1
    have := frm_range this
    omega
  · rw [opn_zero h]; exact ⟨Int.le_refl _, by decide⟩
theorem opn_has {K : List (List UInt8)} {mk : Nat} {l : List UInt8} (h : (opn K mk l).kind ≠ 0) : (opn K mk l).frm.toNat ∈ memK mk := by
  by_cases h1 : (openOfK K mk l).1 = 0
  · obtain ⟨h2, h3⟩ := opn_ok h1
    have h4 := frm_range h2
    obtain ⟨n, hn⟩ := Int.eq_ofNat_of_zero_le h4.1
    rw [hn] at h3 ⊢
    exact hasV_nat.1 h3
  · rw [opn_zero h1] at h; exact absurd rfl h
def cntD (num : Int) (m v : MsgD) : Bool := decide (v.kind = m.kind ∧ v.kind ≠ 0 ∧ v.view = num ∧ m.view = num ∧ v.reg = m.reg ∧ v.slot = m.slot ∧ v.hash = m.hash)
def setD (num : Int) (m : MsgD) (L : List MsgD) : Nat := L.foldl (fun s v => if cntD num m v = true then s ||| 2 ^ v.frm.toNat else s) 0
theorem setD_snoc (num : Int) (m : MsgD) (L : List MsgD) (v : MsgD) : setD num m (L ++ [v]) = if cntD num m v = true then setD num m L ||| 2 ^ v.frm.toNat else setD num m L := by simp [setD, List.foldl_append]
theorem setD_take (num : Int) (m : MsgD) (L : List MsgD) (k : Nat) (h : k < L.length) : setD num m (L.take (k + 1)) = if cntD num m L[k] = true then setD num m (L.take k) ||| 2 ^ L[k].frm.toNat else setD num m (L.take k) := by
  rw [List.take_succ_eq_append_getElem h, setD_snoc]
theorem setD_bit {num : Int} {m : MsgD} {L : List MsgD} {i : Nat} : (setD num m L).testBit i = true ↔ ∃ v ∈ L, cntD num m v = true ∧ v.frm.toNat = i := by
  suffices h : ∀ (L : List MsgD) (s : Nat), (L.foldl (fun s v => if cntD num m v = true then s ||| 2 ^ v.frm.toNat else s) s).testBit i = true ↔ s.testBit i = true ∨ ∃ v ∈ L, cntD num m v = true ∧ v.frm.toNat = i by
    rw [setD, h]; simp
  intro L
  induction L with
  | nil => intro s; simp
  | cons v L ih =>
    intro s
    rw [List.foldl_cons, ih]
    by_cases hc : cntD num m v = true
    · rw [if_pos hc, Nat.testBit_or, Nat.testBit_two_pow]
      simp only [Bool.or_eq_true, decide_eq_true_eq, List.mem_cons, exists_eq_or_imp, hc, true_and, or_assoc]
    · simp [hc]
theorem setD_mem {num : Int} {m : MsgD} {L : List MsgD} {i : Nat} (hL : ∀ v ∈ L, 0 ≤ v.frm ∧ v.frm < 16) : i ∈ memK (setD num m L) ↔ ∃ v ∈ L, cntD num m v = true ∧ v.frm = (i : Int) := by
  rw [mem_memK, setD_bit]
  constructor
  · rintro ⟨_, v, hv, hc, he⟩; exact ⟨v, hv, hc, by have := hL v hv; omega⟩
  · rintro ⟨v, hv, hc, he⟩; exact ⟨by have := hL v hv; omega, v, hv, hc, by omega⟩
theorem or_lt {s f : Nat} (hs : s < 65536) (hf : f < 16) : s ||| 2 ^ f < 65536 := Nat.or_lt_two_pow (n := 16) hs (Nat.pow_lt_pow_right (by decide) hf)
theorem setD_lt {num : Int} {m : MsgD} (L : List MsgD) (hL : ∀ v ∈ L, 0 ≤ v.frm ∧ v.frm < 16) : setD num m L < 65536 := by
  suffices h : ∀ (L : List MsgD) (s : Nat), (∀ v ∈ L, 0 ≤ v.frm ∧ v.frm < 16) → s < 65536 → L.foldl (fun s v => if cntD num m v = true then s ||| 2 ^ v.frm.toNat else s) s < 65536 from h L 0 hL (by decide)
  intro L
  induction L with
  | nil => intro s _ h; exact h
  | cons v L ih =>
    intro s hL hs
    rw [List.foldl_cons]
    refine ih _ (fun v hv => hL v (List.mem_cons_of_mem _ hv)) ?_
    split
    · exact or_lt hs (by have := hL v (List.mem_cons_self ..); omega)
    · exact hs
def enoughD (num : Int) (mk : Nat) (m : MsgD) (L : List MsgD) : Bool := decide (quorumV num mk ≤ ones16 (setD num m L))
def wMsg (kind num reg slot : Int) (h : Vector UInt8 32) : MsgD := ⟨kind, 0, num, reg, slot, h, [], []⟩
def writD (K : List (List UInt8)) (num : Int) (mk : Nat) (reg slot : Int) (h : Vector UInt8 32) (P : List (List UInt8)) : Int :=
  if rightV num mk = true ∧ P.length ≤ 16 ∧ enoughD num mk (wMsg 2 num reg slot h) (P.map (opn K mk)) = true then 0 else 12
def decidD (K : List (List UInt8)) (num : Int) (mk : Nat) (slot : Int) (h : Vector UInt8 32) (P : List (List UInt8)) : Int × Int :=
  if rightV num mk = true ∧ P.length ≤ 16 then match (List.range 41).find? fun r : Nat => enoughD num mk (wMsg 3 num (r : Int) slot h) (P.map (opn K mk)) with | some r => ((r : Int), 0) | none => (0, 12) else (0, 12)
theorem find_range {p : Nat → Bool} {n k : Nat} (hn : k < n) (h : ∀ i < k, p i = false) (hk : p k = true) : (List.range n).find? p = some k := by
  rw [List.find?_eq_some_iff_getElem]
  exact ⟨hk, k, by simpa using hn, by simp, fun j hj => by simp [h j hj]⟩
theorem find_range_none {p : Nat → Bool} {n : Nat} (h : ∀ i < n, p i = false) : (List.range n).find? p = none := by
  rw [List.find?_eq_none]; intro x hx; simp [h x (by simpa using hx)]
theorem frm_map {ms : List MsgV} {K : List (List UInt8)} {mk : Nat} {P : List (List UInt8)} (h : ms.map MsgV.abs = P.map (opn K mk)) : ∀ v ∈ ms, 0 ≤ v.frm ∧ v.frm < 16 := fun v hv => by
  have : v.abs ∈ P.map (opn K mk) := by rw [← h]; exact List.mem_map.2 ⟨v, hv, rfl⟩
  obtain ⟨l, -, hl⟩ := List.mem_map.1 this
  have := opn_frm K mk l
  rw [hl] at this
  exact this
theorem frm_abs {ms : List MsgV} (h : ∀ v ∈ ms, 0 ≤ v.frm ∧ v.frm < 16) : ∀ v ∈ ms.map MsgV.abs, 0 ≤ v.frm ∧ v.frm < 16 := fun v hv => by
  obtain ⟨u, hu, rfl⟩ := List.mem_map.1 hv
  exact h u hu
attribute [local irreducible] openOfK openK getM tagOf popB bruijn

set_option maxHeartbeats 1000000 in
theorem counts_c {w0 : World} {H : List SA} {num : Int} {mk : Nat} {m v : MsgV} :
    CT Try.prog w0 (H) 86 [.agg (ViewV.mk num (mk : Int)).cells, .agg m.cells, .agg v.cells] (α := Unit) (fun _ => .bool (cntD num m.abs v.abs)) (fun _ => H) := by
  refine CT_intro Try.func86 rfl Try.ntmps86 rfl ?_
  refine T_seq ?_
  refine T_region ?_
  refine TL_e rfl (Ef_boxN rfl (fun b3 => ?_))
  refine TL_e rfl (Ef_boxN rfl (fun b4 => ?_))
  refine TL_e rfl (Ef_boxN rfl (fun b5 => ?_))
  refine TL_q (Qt_assign (.bool _) rfl) rfl ?_
  refine TL_nil ?_
  refine X_then ?_
  refine T_seq ?_
  refine T_region ?_
  refine TL_q (Qt_fieldAddr 0 rfl rfl) rfl ?_
  refine TL_q (Qt_load1 rfl) rfl ?_
  refine TL_q (Qt_fieldAddr 0 rfl rfl) rfl ?_
  refine TL_q (Qt_load1 rfl) rfl ?_
  refine TL_q (Qt_eql rfl rfl) rfl ?_
  refine TL_q (Qt_move (.bool _) rfl) rfl ?_
  refine TL_split 12 rfl (fun h12 => ?_) (fun h12 => ?_)
  ·
    have p12 := h12
    try simp only [decide_eq_true_eq, decide_eq_false_iff_not, Bool.not_eq_true', Bool.not_eq_false', Option.isNone_iff_eq_none, ne_eq, Decidable.not_not, Int.not_lt, Int.not_le] at p12
    refine TL_take rfl rfl h12 ?_
    refine TL_q (Qt_fieldAddr 0 rfl rfl) rfl ?_
    refine TL_take rfl rfl h12 ?_
    refine TL_q (Qt_load1 rfl) rfl ?_
    refine TL_take rfl rfl h12 ?_
    refine TL_q (Qt_neq rfl rfl) rfl ?_
    refine TL_q (Qt_pick_t (.bool _) rfl h12 rfl) rfl ?_
    refine TL_q (Qt_move (.bool _) rfl) rfl ?_
    refine TL_split 17 rfl (fun h17 => ?_) (fun h17 => ?_)
    ·
      have p17 := h17
      try simp only [decide_eq_true_eq, decide_eq_false_iff_not, Bool.not_eq_true', Bool.not_eq_false', Option.isNone_iff_eq_none, ne_eq, Decidable.not_not, Int.not_lt, Int.not_le] at p17
      refine TL_take rfl rfl h17 ?_
      refine TL_q (Qt_fieldAddr 2 rfl rfl) rfl ?_
      refine TL_take rfl rfl h17 ?_
      refine TL_q (Qt_load1 rfl) rfl ?_
      refine TL_take rfl rfl h17 ?_
      refine TL_q (Qt_fieldAddr 0 rfl rfl) rfl ?_
      refine TL_take rfl rfl h17 ?_
      refine TL_q (Qt_load1 rfl) rfl ?_
      refine TL_take rfl rfl h17 ?_
      refine TL_q (Qt_eql rfl rfl) rfl ?_
      refine TL_q (Qt_pick_t (.bool _) rfl h17 rfl) rfl ?_
      refine TL_q (Qt_move (.bool _) rfl) rfl ?_
      refine TL_split 24 rfl (fun h24 => ?_) (fun h24 => ?_)
      ·
        have p24 := h24
        try simp only [decide_eq_true_eq, decide_eq_false_iff_not, Bool.not_eq_true', Bool.not_eq_false', Option.isNone_iff_eq_none, ne_eq, Decidable.not_not, Int.not_lt, Int.not_le] at p24
        refine TL_take rfl rfl h24 ?_
        refine TL_q (Qt_fieldAddr 2 rfl rfl) rfl ?_
        refine TL_take rfl rfl h24 ?_
        refine TL_q (Qt_load1 rfl) rfl ?_
        refine TL_take rfl rfl h24 ?_
        refine TL_q (Qt_fieldAddr 0 rfl rfl) rfl ?_
        refine TL_take rfl rfl h24 ?_
        refine TL_q (Qt_load1 rfl) rfl ?_
        refine TL_take rfl rfl h24 ?_
        refine TL_q (Qt_eql rfl rfl) rfl ?_
        refine TL_q (Qt_pick_t (.bool _) rfl h24 rfl) rfl ?_
        refine TL_q (Qt_move (.bool _) rfl) rfl ?_
        refine TL_split 31 rfl (fun h31 => ?_) (fun h31 => ?_)
        ·
          have p31 := h31
          try simp only [decide_eq_true_eq, decide_eq_false_iff_not, Bool.not_eq_true', Bool.not_eq_false', Option.isNone_iff_eq_none, ne_eq, Decidable.not_not, Int.not_lt, Int.not_le] at p31
          refine TL_take rfl rfl h31 ?_
          refine TL_q (Qt_fieldAddr 3 rfl rfl) rfl ?_
          refine TL_take rfl rfl h31 ?_
          refine TL_q (Qt_load1 rfl) rfl ?_
          refine TL_take rfl rfl h31 ?_
          refine TL_q (Qt_fieldAddr 3 rfl rfl) rfl ?_
          refine TL_take rfl rfl h31 ?_
          refine TL_q (Qt_load1 rfl) rfl ?_
          refine TL_take rfl rfl h31 ?_
          refine TL_q (Qt_eql rfl rfl) rfl ?_
          refine TL_q (Qt_pick_t (.bool _) rfl h31 rfl) rfl ?_
          refine TL_q (Qt_move (.bool _) rfl) rfl ?_
          refine TL_split 38 rfl (fun h38 => ?_) (fun h38 => ?_)
          ·
            have p38 := h38
            try simp only [decide_eq_true_eq, decide_eq_false_iff_not, Bool.not_eq_true', Bool.not_eq_false', Option.isNone_iff_eq_none, ne_eq, Decidable.not_not, Int.not_lt, Int.not_le] at p38
            refine TL_take rfl rfl h38 ?_
            refine TL_q (Qt_fieldAddr 4 rfl rfl) rfl ?_
            refine TL_take rfl rfl h38 ?_
            refine TL_q (Qt_load1 rfl) rfl ?_
            refine TL_take rfl rfl h38 ?_
            refine TL_q (Qt_fieldAddr 4 rfl rfl) rfl ?_
            refine TL_take rfl rfl h38 ?_
            refine TL_q (Qt_load1 rfl) rfl ?_
            refine TL_take rfl rfl h38 ?_
            refine TL_q (Qt_eql rfl rfl) rfl ?_
            refine TL_q (Qt_pick_t (.bool _) rfl h38 rfl) rfl ?_
            refine TL_q (Qt_move (.bool _) rfl) rfl ?_
            refine TL_split 45 rfl (fun h45 => ?_) (fun h45 => ?_)
            ·
              have p45 := h45
              try simp only [decide_eq_true_eq, decide_eq_false_iff_not, Bool.not_eq_true', Bool.not_eq_false', Option.isNone_iff_eq_none, ne_eq, Decidable.not_not, Int.not_lt, Int.not_le] at p45
              refine TL_take rfl rfl h45 ?_
              refine TL_q (Qt_fieldAddr 5 rfl rfl) rfl ?_
              refine TL_take rfl rfl h45 ?_
              refine TL_q (Qt_loadN rfl rfl) rfl ?_
              refine TL_take rfl rfl h45 ?_
              refine TL_q (Qt_fieldAddr 5 rfl rfl) rfl ?_
              refine TL_take rfl rfl h45 ?_
              refine TL_q (Qt_loadN rfl rfl) rfl ?_
              refine TL_take rfl rfl h45 ?_
              refine TL_q (Qt_agg_eql rfl rfl (by kernel_rfl)) rfl ?_
              refine TL_q (Qt_pick_t (.bool _) rfl h45 rfl) rfl ?_
              refine TL_q (Qt_assign (.bool _) rfl) rfl ?_
              refine TL_nil ?_
              refine X_then ?_
              refine T_ret ?_
              refine X_ret () [.bool (cntD num m.abs v.abs)] Try.results86 ⟨?_, trivial⟩ rfl (Subs.st inferInstance)
              refine congrArg Value.bool ?_
              rw [Bool.eq_iff_iff]
              simp only [cntD, MsgV.abs, decide_eq_true_eq, Bool.false_eq_true, false_iff]
              first | (simp_all; done) | (simp_all; omega)
            ·
              have p45 := h45
              try simp only [decide_eq_true_eq, decide_eq_false_iff_not, Bool.not_eq_true', Bool.not_eq_false', Option.isNone_iff_eq_none, ne_eq, Decidable.not_not, Int.not_lt, Int.not_le] at p45
              refine TL_pass rfl rfl h45 rfl ?_
              refine TL_pass rfl rfl h45 rfl ?_
              refine TL_pass rfl rfl h45 rfl ?_
              refine TL_pass rfl rfl h45 rfl ?_
              refine TL_pass rfl rfl h45 rfl ?_
              refine TL_q (Qt_pick_f (.bool _) rfl h45 rfl) rfl ?_
              refine TL_q (Qt_assign (.bool _) rfl) rfl ?_
              refine TL_nil ?_
              refine X_then ?_
              refine T_ret ?_
              refine X_ret () [.bool (cntD num m.abs v.abs)] Try.results86 ⟨?_, trivial⟩ rfl (Subs.st inferInstance)
              refine congrArg Value.bool ?_
              rw [Bool.eq_iff_iff]
              simp only [cntD, MsgV.abs, decide_eq_true_eq, Bool.false_eq_true, false_iff]
              first | (simp_all; done) | (simp_all; omega)
          ·
            have p38 := h38
            try simp only [decide_eq_true_eq, decide_eq_false_iff_not, Bool.not_eq_true', Bool.not_eq_false', Option.isNone_iff_eq_none, ne_eq, Decidable.not_not, Int.not_lt, Int.not_le] at p38
            refine TL_pass rfl rfl h38 rfl ?_
            refine TL_pass rfl rfl h38 rfl ?_
            refine TL_pass rfl rfl h38 rfl ?_
            refine TL_pass rfl rfl h38 rfl ?_
            refine TL_pass rfl rfl h38 rfl ?_
            refine TL_q (Qt_pick_f (.bool _) rfl h38 rfl) rfl ?_
            refine TL_q (Qt_move (.bool _) rfl) rfl ?_
            refine TL_pass rfl rfl rfl rfl ?_
            refine TL_pass rfl rfl rfl rfl ?_
            refine TL_pass rfl rfl rfl rfl ?_
            refine TL_pass rfl rfl rfl rfl ?_
            refine TL_pass rfl rfl rfl rfl ?_
            refine TL_q (Qt_pick_f (.bool _) rfl rfl rfl) rfl ?_
            refine TL_q (Qt_assign (.bool _) rfl) rfl ?_
            refine TL_nil ?_
            refine X_then ?_
            refine T_ret ?_
            refine X_ret () [.bool (cntD num m.abs v.abs)] Try.results86 ⟨?_, trivial⟩ rfl (Subs.st inferInstance)
            refine congrArg Value.bool ?_
            rw [Bool.eq_iff_iff]
            simp only [cntD, MsgV.abs, decide_eq_true_eq, Bool.false_eq_true, false_iff]
            first | (simp_all; done) | (simp_all; omega)
        ·
          have p31 := h31
          try simp only [decide_eq_true_eq, decide_eq_false_iff_not, Bool.not_eq_true', Bool.not_eq_false', Option.isNone_iff_eq_none, ne_eq, Decidable.not_not, Int.not_lt, Int.not_le] at p31
          refine TL_pass rfl rfl h31 rfl ?_
          refine TL_pass rfl rfl h31 rfl ?_
          refine TL_pass rfl rfl h31 rfl ?_
          refine TL_pass rfl rfl h31 rfl ?_
          refine TL_pass rfl rfl h31 rfl ?_
          refine TL_q (Qt_pick_f (.bool _) rfl h31 rfl) rfl ?_
          refine TL_q (Qt_move (.bool _) rfl) rfl ?_
          refine TL_pass rfl rfl rfl rfl ?_
          refine TL_pass rfl rfl rfl rfl ?_
          refine TL_pass rfl rfl rfl rfl ?_
          refine TL_pass rfl rfl rfl rfl ?_
          refine TL_pass rfl rfl rfl rfl ?_
          refine TL_q (Qt_pick_f (.bool _) rfl rfl rfl) rfl ?_
          refine TL_q (Qt_move (.bool _) rfl) rfl ?_
          refine TL_pass rfl rfl rfl rfl ?_
          refine TL_pass rfl rfl rfl rfl ?_
          refine TL_pass rfl rfl rfl rfl ?_
          refine TL_pass rfl rfl rfl rfl ?_
          refine TL_pass rfl rfl rfl rfl ?_
          refine TL_q (Qt_pick_f (.bool _) rfl rfl rfl) rfl ?_
          refine TL_q (Qt_assign (.bool _) rfl) rfl ?_
          refine TL_nil ?_
          refine X_then ?_
          refine T_ret ?_
          refine X_ret () [.bool (cntD num m.abs v.abs)] Try.results86 ⟨?_, trivial⟩ rfl (Subs.st inferInstance)
          refine congrArg Value.bool ?_
          rw [Bool.eq_iff_iff]
          simp only [cntD, MsgV.abs, decide_eq_true_eq, Bool.false_eq_true, false_iff]
          first | (simp_all; done) | (simp_all; omega)
      ·
        have p24 := h24
        try simp only [decide_eq_true_eq, decide_eq_false_iff_not, Bool.not_eq_true', Bool.not_eq_false', Option.isNone_iff_eq_none, ne_eq, Decidable.not_not, Int.not_lt, Int.not_le] at p24
        refine TL_pass rfl rfl h24 rfl ?_
        refine TL_pass rfl rfl h24 rfl ?_
        refine TL_pass rfl rfl h24 rfl ?_
        refine TL_pass rfl rfl h24 rfl ?_
        refine TL_pass rfl rfl h24 rfl ?_
        refine TL_q (Qt_pick_f (.bool _) rfl h24 rfl) rfl ?_
        refine TL_q (Qt_move (.bool _) rfl) rfl ?_
        refine TL_pass rfl rfl rfl rfl ?_
        refine TL_pass rfl rfl rfl rfl ?_
        refine TL_pass rfl rfl rfl rfl ?_
        refine TL_pass rfl rfl rfl rfl ?_
        refine TL_pass rfl rfl rfl rfl ?_
        refine TL_q (Qt_pick_f (.bool _) rfl rfl rfl) rfl ?_
        refine TL_q (Qt_move (.bool _) rfl) rfl ?_
        refine TL_pass rfl rfl rfl rfl ?_
        refine TL_pass rfl rfl rfl rfl ?_
        refine TL_pass rfl rfl rfl rfl ?_
        refine TL_pass rfl rfl rfl rfl ?_
        refine TL_pass rfl rfl rfl rfl ?_
        refine TL_q (Qt_pick_f (.bool _) rfl rfl rfl) rfl ?_
        refine TL_q (Qt_move (.bool _) rfl) rfl ?_
        refine TL_pass rfl rfl rfl rfl ?_
        refine TL_pass rfl rfl rfl rfl ?_
        refine TL_pass rfl rfl rfl rfl ?_
        refine TL_pass rfl rfl rfl rfl ?_
        refine TL_pass rfl rfl rfl rfl ?_
        refine TL_q (Qt_pick_f (.bool _) rfl rfl rfl) rfl ?_
        refine TL_q (Qt_assign (.bool _) rfl) rfl ?_
        refine TL_nil ?_
        refine X_then ?_
        refine T_ret ?_
        refine X_ret () [.bool (cntD num m.abs v.abs)] Try.results86 ⟨?_, trivial⟩ rfl (Subs.st inferInstance)
        refine congrArg Value.bool ?_
        rw [Bool.eq_iff_iff]
        simp only [cntD, MsgV.abs, decide_eq_true_eq, Bool.false_eq_true, false_iff]
        first | (simp_all; done) | (simp_all; omega)
    ·
      have p17 := h17
      try simp only [decide_eq_true_eq, decide_eq_false_iff_not, Bool.not_eq_true', Bool.not_eq_false', Option.isNone_iff_eq_none, ne_eq, Decidable.not_not, Int.not_lt, Int.not_le] at p17
      refine TL_pass rfl rfl h17 rfl ?_
      refine TL_pass rfl rfl h17 rfl ?_
      refine TL_pass rfl rfl h17 rfl ?_
      refine TL_pass rfl rfl h17 rfl ?_
      refine TL_pass rfl rfl h17 rfl ?_
      refine TL_q (Qt_pick_f (.bool _) rfl h17 rfl) rfl ?_
      refine TL_q (Qt_move (.bool _) rfl) rfl ?_
      refine TL_pass rfl rfl rfl rfl ?_
      refine TL_pass rfl rfl rfl rfl ?_
      refine TL_pass rfl rfl rfl rfl ?_
      refine TL_pass rfl rfl rfl rfl ?_
      refine TL_pass rfl rfl rfl rfl ?_
      refine TL_q (Qt_pick_f (.bool _) rfl rfl rfl) rfl ?_
      refine TL_q (Qt_move (.bool _) rfl) rfl ?_
      refine TL_pass rfl rfl rfl rfl ?_
      refine TL_pass rfl rfl rfl rfl ?_
      refine TL_pass rfl rfl rfl rfl ?_
      refine TL_pass rfl rfl rfl rfl ?_
      refine TL_pass rfl rfl rfl rfl ?_
      refine TL_q (Qt_pick_f (.bool _) rfl rfl rfl) rfl ?_
      refine TL_q (Qt_move (.bool _) rfl) rfl ?_
      refine TL_pass rfl rfl rfl rfl ?_
      refine TL_pass rfl rfl rfl rfl ?_
      refine TL_pass rfl rfl rfl rfl ?_
      refine TL_pass rfl rfl rfl rfl ?_
      refine TL_pass rfl rfl rfl rfl ?_
      refine TL_q (Qt_pick_f (.bool _) rfl rfl rfl) rfl ?_
      refine TL_q (Qt_move (.bool _) rfl) rfl ?_
      refine TL_pass rfl rfl rfl rfl ?_
      refine TL_pass rfl rfl rfl rfl ?_
      refine TL_pass rfl rfl rfl rfl ?_
      refine TL_pass rfl rfl rfl rfl ?_
      refine TL_pass rfl rfl rfl rfl ?_
      refine TL_q (Qt_pick_f (.bool _) rfl rfl rfl) rfl ?_
      refine TL_q (Qt_assign (.bool _) rfl) rfl ?_
      refine TL_nil ?_
      refine X_then ?_
      refine T_ret ?_
      refine X_ret () [.bool (cntD num m.abs v.abs)] Try.results86 ⟨?_, trivial⟩ rfl (Subs.st inferInstance)
      refine congrArg Value.bool ?_
      rw [Bool.eq_iff_iff]
      simp only [cntD, MsgV.abs, decide_eq_true_eq, Bool.false_eq_true, false_iff]
      first | (simp_all; done) | (simp_all; omega)
  ·
    have p12 := h12
    try simp only [decide_eq_true_eq, decide_eq_false_iff_not, Bool.not_eq_true', Bool.not_eq_false', Option.isNone_iff_eq_none, ne_eq, Decidable.not_not, Int.not_lt, Int.not_le] at p12
    refine TL_pass rfl rfl h12 rfl ?_
    refine TL_pass rfl rfl h12 rfl ?_
    refine TL_pass rfl rfl h12 rfl ?_
    refine TL_q (Qt_pick_f (.bool _) rfl h12 rfl) rfl ?_
    refine TL_q (Qt_move (.bool _) rfl) rfl ?_
    refine TL_pass rfl rfl rfl rfl ?_
    refine TL_pass rfl rfl rfl rfl ?_
    refine TL_pass rfl rfl rfl rfl ?_
    refine TL_pass rfl rfl rfl rfl ?_
    refine TL_pass rfl rfl rfl rfl ?_
    refine TL_q (Qt_pick_f (.bool _) rfl rfl rfl) rfl ?_
    refine TL_q (Qt_move (.bool _) rfl) rfl ?_
    refine TL_pass rfl rfl rfl rfl ?_
    refine TL_pass rfl rfl rfl rfl ?_
    refine TL_pass rfl rfl rfl rfl ?_
    refine TL_pass rfl rfl rfl rfl ?_
    refine TL_pass rfl rfl rfl rfl ?_
    refine TL_q (Qt_pick_f (.bool _) rfl rfl rfl) rfl ?_
    refine TL_q (Qt_move (.bool _) rfl) rfl ?_
    refine TL_pass rfl rfl rfl rfl ?_
    refine TL_pass rfl rfl rfl rfl ?_
    refine TL_pass rfl rfl rfl rfl ?_
    refine TL_pass rfl rfl rfl rfl ?_
    refine TL_pass rfl rfl rfl rfl ?_
    refine TL_q (Qt_pick_f (.bool _) rfl rfl rfl) rfl ?_
    refine TL_q (Qt_move (.bool _) rfl) rfl ?_
    refine TL_pass rfl rfl rfl rfl ?_
    refine TL_pass rfl rfl rfl rfl ?_
    refine TL_pass rfl rfl rfl rfl ?_
    refine TL_pass rfl rfl rfl rfl ?_
    refine TL_pass rfl rfl rfl rfl ?_
    refine TL_q (Qt_pick_f (.bool _) rfl rfl rfl) rfl ?_
    refine TL_q (Qt_move (.bool _) rfl) rfl ?_
    refine TL_pass rfl rfl rfl rfl ?_
    refine TL_pass rfl rfl rfl rfl ?_
    refine TL_pass rfl rfl rfl rfl ?_
    refine TL_pass rfl rfl rfl rfl ?_
    refine TL_pass rfl rfl rfl rfl ?_
    refine TL_q (Qt_pick_f (.bool _) rfl rfl rfl) rfl ?_
    refine TL_q (Qt_assign (.bool _) rfl) rfl ?_
    refine TL_nil ?_
    refine X_then ?_
    refine T_ret ?_
    refine X_ret () [.bool (cntD num m.abs v.abs)] Try.results86 ⟨?_, trivial⟩ rfl (Subs.st inferInstance)
    refine congrArg Value.bool ?_
    rw [Bool.eq_iff_iff]
    simp only [cntD, MsgV.abs, decide_eq_true_eq, Bool.false_eq_true, false_iff]
    first | (simp_all; done) | (simp_all; omega)
set_option maxHeartbeats 1000000 in
theorem set_c {w0 : World} {H : List SA} {num : Int} {mk : Nat} {m : MsgV} {a : Option Addr} {ms : List MsgV} {c : Nat} [hr : RdC w0 H (.slice a ms.length c) 39 (ms.flatMap MsgV.list)] (hf : ∀ v ∈ ms, 0 ≤ v.frm ∧ v.frm < 16) (hn : ms.length ≤ 1000) :
    CT Try.prog w0 (H) 69 [.agg (ViewV.mk num (mk : Int)).cells, .agg m.cells, .slice a ms.length c] (α := Unit) (fun _ => .int .u16 (setD num m.abs (ms.map MsgV.abs) : Int)) (fun _ => H) := by
  refine CT_intro Try.func69 rfl Try.ntmps69 rfl ?_
  refine T_seq ?_
  refine T_region ?_
  refine TL_e rfl (Ef_boxN rfl (fun b3 => ?_))
  refine TL_e rfl (Ef_boxN rfl (fun b4 => ?_))
  refine TL_q (Qt_assign (.int .u16 _) rfl) rfl ?_
  refine TL_nil ?_
  refine X_then ?_
  refine T_seq ?_
  refine T_region ?_
  refine TL_q (Qt_assign (.int .u16 _) rfl) rfl ?_
  refine TL_nil ?_
  refine X_then ?_
  refine T_seq ?_
  refine T_seq ?_
  refine T_region ?_
  refine TL_q (Qt_move (.slice _ _ _) rfl) rfl ?_
  refine TL_q (Qt_len_slice rfl Try.underlying97) rfl ?_
  refine TL_q (Qt_move (.int .i64 _) rfl) rfl ?_
  refine TL_nil ?_
  refine X_then ?_
  refine T_block ?_
  refine T_loop [7, 9, 12, 13, 14, 15, 16, 17, 18, 19, 20, 21, 22, 23, 24, 25] [12, 7] (fun us H' => ∃ (k : Nat) (s : Nat), us = [.int .i64 (k : Int), .int .u16 (s : Int)] ∧ blk b3 (.cells (ViewV.mk num (mk : Int)).cells 24 (0, 0)) :: blk b4 (.cells m.cells 43 (0, 0)) :: H = H' ∧ k ≤ ms.length ∧ (s = setD num m.abs ((ms.map MsgV.abs).take k)) ∧ (s < 65536)) (fun us => match us with | .int _ i :: _ => ms.length - i.toNat | _ => 0) ⟨0, 0, rfl, rfl, by omega, rfl, by decide⟩ (Subs.st inferInstance) ?_
  rintro τ0 _ _  ⟨k, s, rfl, rfl, hk0, hs, hlt⟩ _
  refine T_seq ?_
  refine T_region ?_
  refine TL_q (Qt_lss rfl rfl) rfl ?_
  refine TL_nil ?_
  refine X_then ?_
  refine T_seq ?_
  refine T_cond rfl (fun h13 => ?_) (fun h13 => ?_)
  ·
    have p13 := h13
    try simp only [decide_eq_true_eq, decide_eq_false_iff_not, Bool.not_eq_true', Bool.not_eq_false', Option.isNone_iff_eq_none, ne_eq, Decidable.not_not, Int.not_lt, Int.not_le] at p13
    have hk : k < ms.length := by omega
    refine T_skip ?_
    refine X_then ?_
    refine T_seq ?_
    refine T_block ?_
    refine T_seq ?_
    refine T_region ?_
    refine TL_q (Qt_indexN rfl rfl (by omega) (by omega)) rfl ?_
    refine TL_q (Qt_val (Qt_loadRN 39 ms[k].list rfl (flat_slice _ 39 MsgV.list_len ms k hk) (MsgV.list_len _) (by decide)) (show Value.agg ms[k].list.toArray = Value.agg ms[k].cells from rfl)) rfl ?_
    refine TL_e rfl (Ef_allocN (fun b9 => ?_))
    refine TL_n (Ef_storeN rfl rfl (?_))
    refine TL_nil ?_
    refine X_then ?_
    refine T_seq ?_
    refine T_region ?_
    refine TL_q (Qt_loadN rfl rfl) rfl ?_
    refine TL_q (Qt_loadN rfl rfl) rfl ?_
    refine TL_q (Qt_loadN rfl rfl) rfl ?_
    refine TL_e rfl (Ef_call (counts_c (num := num) (mk := mk) (m := m) (v := ms[k])) rfl (fun x19 => ?_))
    refine TL_nil ?_
    refine X_then ?_
    refine T_cond rfl (fun h19 => ?_) (fun h19 => ?_)
    ·
      have p19 := h19
      try simp only [decide_eq_true_eq, decide_eq_false_iff_not, Bool.not_eq_true', Bool.not_eq_false', Option.isNone_iff_eq_none, ne_eq, Decidable.not_not, Int.not_lt, Int.not_le] at p19
      have hst := setD_take num m.abs (ms.map MsgV.abs) k (by simpa using hk)
      rw [if_pos (by simpa using h19)] at hst
      have hft : ((ms.map MsgV.abs)[k]'(by simpa using hk)).frm = ms[k].frm := by simp [MsgV.abs]
      rw [hft] at hst
      refine T_region ?_
      obtain ⟨f, hfe⟩ := Int.eq_ofNat_of_zero_le (hf ms[k] (List.getElem_mem hk)).1
      have hf16 : f < 16 := by have := (hf ms[k] (List.getElem_mem hk)).2; omega
      have h2f : 2 ^ f < 65536 := Nat.pow_lt_pow_right (by decide) hf16
      refine TL_q (Qt_move (.int .u16 _) rfl) rfl ?_
      refine TL_q (Qt_fieldAddr 1 rfl rfl) rfl ?_
      refine TL_q (Qt_load1 rfl) rfl ?_
      refine TL_q (Qt_shlN (k := .u16) (a := 1) (m := f) rfl (show Value.int .i64 ms[k].frm = Value.int .i64 (f : Int) from by rw [hfe]) (by show f ≤ 16; omega) (by show 1 * 2 ^ f < 2 ^ 16; omega) rfl) rfl ?_
      refine TL_q (Qt_orN rfl rfl rfl (by show _ < 2 ^ 16; omega) (by show _ < 2 ^ 16; omega)) rfl ?_
      rw [Nat.one_mul]
      refine TL_q (Qt_assign (.int .u16 _) rfl) rfl ?_
      refine TL_nil ?_
      refine X_block ?_
      refine X_then ?_
      refine T_region ?_
      first
        | refine TL_q (Qt_add rfl rfl (by omega) (by omega)) rfl ?_
        | refine TL_q (Qt_addw rfl rfl) rfl ?_
      refine TL_q (Qt_move (.int .i64 _) rfl) rfl ?_
      refine TL_nil ?_
      apply X_loop
      case ha => exact (by repeat (first | with_reducible exact agree_refl | refine agree_upd rfl ?_ | refine agree_mix rfl ?_ | refine agree_setAll rfl ?_))
      case hI => exact by first | exact ⟨k + 1, s ||| 2 ^ f, rfl, rfl, by omega, by rw [hst, ← hs, hfe, Int.toNat_natCast], or_lt hlt hf16⟩ | exact ⟨k + 1, s, rfl, rfl, by omega, by rw [hst, ← hs], hlt⟩
      case hm => exact by show ms.length - (k + 1 : Int).toNat < ms.length - (k : Int).toNat; omega
      case hH => exact (Subs.st inferInstance)
    ·
      have p19 := h19
      try simp only [decide_eq_true_eq, decide_eq_false_iff_not, Bool.not_eq_true', Bool.not_eq_false', Option.isNone_iff_eq_none, ne_eq, Decidable.not_not, Int.not_lt, Int.not_le] at p19
      have hst := setD_take num m.abs (ms.map MsgV.abs) k (by simpa using hk)
      rw [if_neg (by simpa using h19)] at hst
      refine T_skip ?_
      refine X_block ?_
      refine X_then ?_
      refine T_region ?_
      first
        | refine TL_q (Qt_add rfl rfl (by omega) (by omega)) rfl ?_
        | refine TL_q (Qt_addw rfl rfl) rfl ?_
      refine TL_q (Qt_move (.int .i64 _) rfl) rfl ?_
      refine TL_nil ?_
      apply X_loop
      case ha => exact (by repeat (first | with_reducible exact agree_refl | refine agree_upd rfl ?_ | refine agree_mix rfl ?_ | refine agree_setAll rfl ?_))
      case hI => exact by first | exact ⟨k + 1, s ||| 2 ^ f, rfl, rfl, by omega, by rw [hst, ← hs, hfe, Int.toNat_natCast], or_lt hlt hf16⟩ | exact ⟨k + 1, s, rfl, rfl, by omega, by rw [hst, ← hs], hlt⟩
      case hm => exact by show ms.length - (k + 1 : Int).toNat < ms.length - (k : Int).toNat; omega
      case hH => exact (Subs.st inferInstance)
  ·
    have p13 := h13
    try simp only [decide_eq_true_eq, decide_eq_false_iff_not, Bool.not_eq_true', Bool.not_eq_false', Option.isNone_iff_eq_none, ne_eq, Decidable.not_not, Int.not_lt, Int.not_le] at p13
    have et : (ms.map MsgV.abs).take k = ms.map MsgV.abs := List.take_of_length_le (by simp; omega)
    rw [et] at hs
    subst hs
    refine T_exit ?_
    refine X_then_exit ?_
    refine X_loop_exit ?_
    refine X_block_exit ?_
    refine X_then ?_
    refine T_seq ?_
    refine T_region ?_
    refine TL_q (Qt_move (.int .u16 _) rfl) rfl ?_
    refine TL_q (Qt_assign (.int .u16 _) rfl) rfl ?_
    refine TL_nil ?_
    refine X_then ?_
    refine T_ret ?_
    exact X_ret () [_] Try.results69 ⟨rfl, trivial⟩ (rfl) (Subs.st inferInstance)
set_option maxHeartbeats 1000000 in
theorem enough_c {w0 : World} {H : List SA} {num : Int} {mk : Nat} (hmk : mk < 65536) {m : MsgV} {a : Option Addr} {ms : List MsgV} {c : Nat} [hr : RdC w0 H (.slice a ms.length c) 39 (ms.flatMap MsgV.list)] (hf : ∀ v ∈ ms, 0 ≤ v.frm ∧ v.frm < 16) (hn : ms.length ≤ 1000) :
    CT Try.prog w0 (H) 45 [.agg (ViewV.mk num (mk : Int)).cells, .agg m.cells, .slice a ms.length c] (α := Unit) (fun _ => .bool (enoughD num mk m.abs (ms.map MsgV.abs))) (fun _ => H) := by
  refine CT_intro Try.func45 rfl Try.ntmps45 rfl ?_
  refine T_seq ?_
  refine T_region ?_
  refine TL_e rfl (Ef_boxN rfl (fun b3 => ?_))
  refine TL_e rfl (Ef_boxN rfl (fun b4 => ?_))
  refine TL_q (Qt_assign (.bool _) rfl) rfl ?_
  refine TL_nil ?_
  refine X_then ?_
  refine T_seq ?_
  refine T_draw (blk b3 (.cells (ViewV.mk num (mk : Int)).cells 24 (0, 0)) :: blk b4 (.cells m.cells 43 (0, 0)) :: H) [(0, true), (1, true), (2, true), (5, true), (3, false), (4, false), (6, false), (7, true), (8, true)] (by kernel_rfl) (by kernel_rfl) rfl (by kernel_rfl) (Subs.st inferInstance) (fun hns0 => ?_)
  refine DL_q hns0 rfl (Qt_loadN rfl rfl) rfl ?_
  refine DL_q hns0 rfl (Qt_loadN rfl rfl) rfl ?_
  refine DL_q hns0 rfl (Qt_move (.slice _ _ _) rfl) rfl ?_
  refine DL_q hns0 rfl (Qt_loadN rfl rfl) rfl ?_
  refine DL_e rfl rfl (Ef_call (set_c (num := num) (mk := mk) (m := m) (ms := ms) hf hn) rfl (fun x10 => ⟨(Subs.st inferInstance), ?_⟩))
  refine DL_e rfl rfl (Ef_call (ones_c (setD_lt _ (frm_abs hf))) rfl (fun x11 => ⟨(Subs.st inferInstance), ?_⟩))
  refine DL_e rfl rfl (Ef_call (quorum_v hmk) rfl (fun x13 => ⟨(Subs.st inferInstance), ?_⟩))
  refine DL_q hns0 rfl (Qt_geq rfl rfl) rfl ?_
  refine DL_q hns0 rfl (Qt_assign (.bool _) rfl) rfl ?_
  refine DL_nil ?_
  refine X_then ?_
  refine T_ret ?_
  exact X_ret () [_] Try.results45 ⟨rfl, trivial⟩ (congrArg Value.bool (decide_eq_decide.2 (by omega))) (Subs.st inferInstance)
set_option maxHeartbeats 1000000 in
theorem opened_c {w0 : World} {H : List SA} {num : Int} {mk : Nat} (hmk : mk < 65536) {sa : Option Addr} {sc : Nat} {ls : List BS} {rt : Sl} [rk : RdC w0 H (.slice sa ls.length sc) 1 (ls.map BS.val)] [rke : RdE w0 H ls] (hkl : ∀ x ∈ ls, x.l.length ≤ 4294967000) {a : Option Addr} {ps : List BS} {c : Nat} [hp : RdC w0 H (.slice a ps.length c) 1 (ps.map BS.val)] [hpe : RdE w0 H ps] (hps : ∀ x ∈ ps, x.l.length ≤ 4294960000) (hn : ps.length ≤ 1000) :
    CT Try.prog w0 (H) 44 [.agg (KeysV.mk ⟨sa, sc, ls⟩ rt).cells, .agg (ViewV.mk num (mk : Int)).cells, .slice a ps.length c] (α := AC × List MsgV) (fun y => .slice y.1.a y.2.length y.1.c) (fun y => pu (y.2.map MsgV.abs = ((ps.map BS.l).map (opn (ls.map BS.l) mk))) :: row (.slice y.1.a (y.2).length y.1.c) 43 39 ((y.2).flatMap MsgV.list) :: H) := by
  refine CT_intro Try.func44 rfl Try.ntmps44 rfl ?_
  refine T_seq ?_
  refine T_region ?_
  refine TL_e rfl (Ef_boxN rfl (fun b3 => ?_))
  refine TL_e rfl (Ef_boxN rfl (fun b4 => ?_))
  refine TL_q (Qt_assign (.slice _ _ _) rfl) rfl ?_
  refine TL_nil ?_
  refine X_then ?_
  refine T_seq ?_
  refine T_region ?_
  refine TL_q (Qt_assign (.slice _ _ _) rfl) rfl ?_
  refine TL_nil ?_
  refine X_then ?_
  refine T_seq ?_
  refine T_seq ?_
  refine T_region ?_
  refine TL_q (Qt_move (.slice _ _ _) rfl) rfl ?_
  refine TL_q (Qt_len_slice rfl Try.underlying28) rfl ?_
  refine TL_q (Qt_move (.int .i64 _) rfl) rfl ?_
  refine TL_nil ?_
  refine X_then ?_
  refine T_block ?_
  refine T_loop [7, 9, 10, 11, 14, 15, 16, 17, 18, 19, 20, 21, 22, 23, 24, 25, 26, 27, 28, 29, 30, 31, 32] [14, 7] (fun us H' => ∃ (k : Nat) (a7 : Option Addr) (c7 : Nat) (ms : List MsgV), us = [.int .i64 (k : Int), .slice a7 ms.length c7] ∧ row (.slice a7 (ms).length c7) 43 39 ((ms).flatMap MsgV.list) :: blk b3 (.cells (KeysV.mk ⟨sa, sc, ls⟩ rt).cells 32 (0, 0)) :: blk b4 (.cells (ViewV.mk num (mk : Int)).cells 24 (0, 0)) :: H = H' ∧ k ≤ ps.length ∧ (ms.map MsgV.abs = ((ps.map BS.l).take k).map (opn (ls.map BS.l) mk)) ∧ (ms.length = k)) (fun us => match us with | .int _ i :: _ => ps.length - i.toNat | _ => 0) ⟨0, none, 0, [], rfl, rfl, by omega, rfl, rfl⟩ (fun w hw => by
        have h0 : St w0 (blk b3 (.cells (KeysV.mk ⟨sa, sc, ls⟩ rt).cells 32 (0, 0)) :: blk b4 (.cells (ViewV.mk num (mk : Int)).cells 24 (0, 0)) :: H) w := Subs.st inferInstance w hw
        exact h0.addNil 43 39) ?_
  rintro τ0 _ _  ⟨k, a7, c7, ms, rfl, rfl, hk0, hms, hml⟩ _
  refine T_seq ?_
  refine T_region ?_
  refine TL_q (Qt_lss rfl rfl) rfl ?_
  refine TL_nil ?_
  refine X_then ?_
  refine T_seq ?_
  refine T_cond rfl (fun h15 => ?_) (fun h15 => ?_)
  ·
    have p15 := h15
    try simp only [decide_eq_true_eq, decide_eq_false_iff_not, Bool.not_eq_true', Bool.not_eq_false', Option.isNone_iff_eq_none, ne_eq, Decidable.not_not, Int.not_lt, Int.not_le] at p15
    have hk : k < ps.length := by omega
    refine T_skip ?_
    refine X_then ?_
    refine T_seq ?_
    refine T_block ?_
    refine T_seq ?_
    refine T_region ?_
    refine TL_q (Qt_indexR rfl rfl (by omega) (by simp; omega)) rfl ?_
    refine TL_q (Qt_loadR (.slice _ _ _) rfl (vals_get _ _ hk)) rfl ?_
    refine TL_q (Qt_assign (.slice _ _ _) rfl) rfl ?_
    refine TL_nil ?_
    refine X_then ?_
    refine T_seq ?_
    refine T_region ?_
    refine TL_q (Qt_loadN rfl rfl) rfl ?_
    refine TL_q (Qt_loadN rfl rfl) rfl ?_
    refine TL_q (Qt_move (.slice _ _ _) rfl) rfl ?_
    have : RdB w0 H (.slice ps[k].a ps[k].l.length ps[k].c) ps[k].l := hpe.get (List.getElem_mem hk)
    refine TL_e rfl (Ef_call (openOf_c hmk (num := num) (sa := sa) (sc := sc) (ls := ls) (rt := rt) (l := ps[k].l) hkl (hps _ (List.getElem_mem hk))) rfl (fun x22 => ?_))
    refine TL_pure (fun h22 => ?_)
    refine TL_q (Qt_move (.tuple _) rfl) rfl ?_
    refine TL_q (Qt_extract rfl) rfl ?_
    refine TL_q (Qt_extract rfl) rfl ?_
    refine TL_e rfl (Ef_allocN (fun b10 => ?_))
    refine TL_n (Ef_storeN rfl rfl (?_))
    refine TL_q (Qt_assign (.int .i64 _) rfl) rfl ?_
    refine TL_nil ?_
    refine X_then ?_
    refine T_seq ?_
    refine T_seq ?_
    refine T_region ?_
    refine TL_q (Qt_move (.int .i64 _) rfl) rfl ?_
    refine TL_q (Qt_neq rfl rfl) rfl ?_
    refine TL_nil ?_
    refine X_then ?_
    refine T_cond rfl (fun h26 => ?_) (fun h26 => ?_)
    ·
      have p26 := h26
      try simp only [decide_eq_true_eq, decide_eq_false_iff_not, Bool.not_eq_true', Bool.not_eq_false', Option.isNone_iff_eq_none, ne_eq, Decidable.not_not, Int.not_lt, Int.not_le] at p26
      have hx : MsgV.zero.abs = opn (ls.map BS.l) mk ps[k].l := (opn_zero (by simpa using h26)).symm
      refine T_region ?_
      refine TL_q (Qt_build [] rfl (by kernel_rfl)) rfl ?_
      refine TL_n (Ef_storeN rfl rfl (?_))
      refine TL_nil ?_
      refine X_then ?_
      refine T_region ?_
      refine TL_q (Qt_move (.slice _ _ _) rfl) rfl ?_
      refine TL_q (Qt_loadN rfl rfl) rfl ?_
      refine TL_e rfl (Ef_sliceN (m := ([MsgV.zero] : List MsgV).length) [.agg (MsgV.zero).cells] (([MsgV.zero] : List MsgV).flatMap MsgV.list) rfl rfl rfl rfl (by simp [Value.cells, MsgV.size]) rfl rfl (fun a30 c30 => ?_))
      refine TL_e rfl (Ef_appendS MsgV.list (sv := .slice _ _ _) (xv := .slice _ _ _) (xs := ms) (ys := [MsgV.zero]) MsgV.list_len MsgV.list_one rfl rfl (by simp; omega) rfl rfl (fun a31 c31 => ?_))
      refine TL_q (Qt_assign (.slice _ _ _) rfl) rfl ?_
      refine TL_nil ?_
      refine X_block ?_
      refine X_then ?_
      refine T_region ?_
      first
        | refine TL_q (Qt_add rfl rfl (by omega) (by omega)) rfl ?_
        | refine TL_q (Qt_addw rfl rfl) rfl ?_
      refine TL_q (Qt_move (.int .i64 _) rfl) rfl ?_
      refine TL_nil ?_
      apply X_loop
      case ha => exact (by repeat (first | with_reducible exact agree_refl | refine agree_upd rfl ?_ | refine agree_mix rfl ?_ | refine agree_setAll rfl ?_))
      case hI => exact by first | exact ⟨k + 1, a31, c31, ms ++ [x22.1], rfl, rfl, by omega, by rw [List.map_append, hms, take_get _ _ (by simpa using hk), List.map_append]; simp [hx], by simp [hml]⟩ | exact ⟨k + 1, a31, c31, ms ++ [MsgV.zero], rfl, rfl, by omega, by rw [List.map_append, hms, take_get _ _ (by simpa using hk), List.map_append]; simp [hx], by simp [hml]⟩
      case hm => exact by show ps.length - (k + 1 : Int).toNat < ps.length - (k : Int).toNat; omega
      case hH => exact (Subs.st inferInstance)
    ·
      have p26 := h26
      try simp only [decide_eq_true_eq, decide_eq_false_iff_not, Bool.not_eq_true', Bool.not_eq_false', Option.isNone_iff_eq_none, ne_eq, Decidable.not_not, Int.not_lt, Int.not_le] at p26
      have hx : x22.1.abs = opn (ls.map BS.l) mk ps[k].l := h22
      refine T_skip ?_
      refine X_then ?_
      refine T_region ?_
      refine TL_q (Qt_move (.slice _ _ _) rfl) rfl ?_
      refine TL_q (Qt_loadN rfl rfl) rfl ?_
      refine TL_e rfl (Ef_sliceN (m := ([x22.1] : List MsgV).length) [.agg (x22.1).cells] (([x22.1] : List MsgV).flatMap MsgV.list) rfl rfl rfl rfl (by simp [Value.cells, MsgV.size]) rfl rfl (fun a30 c30 => ?_))
      refine TL_e rfl (Ef_appendS MsgV.list (sv := .slice _ _ _) (xv := .slice _ _ _) (xs := ms) (ys := [x22.1]) MsgV.list_len MsgV.list_one rfl rfl (by simp; omega) rfl rfl (fun a31 c31 => ?_))
      refine TL_q (Qt_assign (.slice _ _ _) rfl) rfl ?_
      refine TL_nil ?_
      refine X_block ?_
      refine X_then ?_
      refine T_region ?_
      first
        | refine TL_q (Qt_add rfl rfl (by omega) (by omega)) rfl ?_
        | refine TL_q (Qt_addw rfl rfl) rfl ?_
      refine TL_q (Qt_move (.int .i64 _) rfl) rfl ?_
      refine TL_nil ?_
      apply X_loop
      case ha => exact (by repeat (first | with_reducible exact agree_refl | refine agree_upd rfl ?_ | refine agree_mix rfl ?_ | refine agree_setAll rfl ?_))
      case hI => exact by first | exact ⟨k + 1, a31, c31, ms ++ [x22.1], rfl, rfl, by omega, by rw [List.map_append, hms, take_get _ _ (by simpa using hk), List.map_append]; simp [hx], by simp [hml]⟩ | exact ⟨k + 1, a31, c31, ms ++ [MsgV.zero], rfl, rfl, by omega, by rw [List.map_append, hms, take_get _ _ (by simpa using hk), List.map_append]; simp [hx], by simp [hml]⟩
      case hm => exact by show ps.length - (k + 1 : Int).toNat < ps.length - (k : Int).toNat; omega
      case hH => exact (Subs.st inferInstance)
  ·
    have p15 := h15
    try simp only [decide_eq_true_eq, decide_eq_false_iff_not, Bool.not_eq_true', Bool.not_eq_false', Option.isNone_iff_eq_none, ne_eq, Decidable.not_not, Int.not_lt, Int.not_le] at p15
    have et : ((ps.map BS.l).take k) = (ps.map BS.l) := List.take_of_length_le (by simp; omega)
    rw [et] at hms
    refine T_exit ?_
    refine X_then_exit ?_
    refine X_loop_exit ?_
    refine X_block_exit ?_
    refine X_then ?_
    refine T_seq ?_
    refine T_region ?_
    refine TL_q (Qt_move (.slice _ _ _) rfl) rfl ?_
    refine TL_q (Qt_assign (.slice _ _ _) rfl) rfl ?_
    refine TL_nil ?_
    refine X_then ?_
    refine T_ret ?_
    exact X_ret (⟨a7, c7⟩, ms) [_] Try.results44 ⟨rfl, trivial⟩ rfl (fun w hw => (Subs.st inferInstance w hw : St w0 (row (.slice a7 (ms).length c7) 43 39 ((ms).flatMap MsgV.list) :: H) w).addPure hms)
set_option maxHeartbeats 1000000 in
theorem written_c {w0 : World} {H : List SA} {num : Int} {mk : Nat} (hmk : mk < 65536) {sa : Option Addr} {sc : Nat} {ls : List BS} {rt : Sl} [rk : RdC w0 H (.slice sa ls.length sc) 1 (ls.map BS.val)] [rke : RdE w0 H ls] (hkl : ∀ x ∈ ls, x.l.length ≤ 4294967000) {a : Option Addr} {ps : List BS} {c : Nat} [hp : RdC w0 H (.slice a ps.length c) 1 (ps.map BS.val)] [hpe : RdE w0 H ps] (hps : ∀ x ∈ ps, x.l.length ≤ 4294960000) (hn : ps.length ≤ 1000) {reg slot : Int} {h : Vector UInt8 32} :
    CT Try.prog w0 (H) 53 [.agg (KeysV.mk ⟨sa, sc, ls⟩ rt).cells, .agg (ViewV.mk num (mk : Int)).cells, .int .i64 reg, .int .i64 slot, .agg (hlist h).toArray, .slice a ps.length c] (α := Unit) (fun _ => .int .i64 (writD (ls.map BS.l) num mk reg slot h (ps.map BS.l))) (fun _ => H) := by
  refine CT_intro Try.func53 rfl Try.ntmps53 rfl ?_
  refine T_seq ?_
  refine T_region ?_
  refine TL_e rfl (Ef_boxN rfl (fun b6 => ?_))
  refine TL_e rfl (Ef_boxN rfl (fun b7 => ?_))
  refine TL_e rfl (Ef_boxN rfl (fun b10 => ?_))
  refine TL_q (Qt_assign (.int .i64 _) rfl) rfl ?_
  refine TL_nil ?_
  refine X_then ?_
  refine T_seq ?_
  refine T_seq ?_
  refine T_region ?_
  refine TL_q (Qt_loadN rfl rfl) rfl ?_
  refine TL_e rfl (Ef_call (right_v hmk) rfl (fun x14 => ?_))
  refine TL_q (Qt_not rfl) rfl ?_
  refine TL_q (Qt_move (.bool _) rfl) rfl ?_
  refine TL_split 16 rfl (fun h16 => ?_) (fun h16 => ?_)
  ·
    have p16 := h16
    try simp only [decide_eq_true_eq, decide_eq_false_iff_not, Bool.not_eq_true', Bool.not_eq_false', Option.isNone_iff_eq_none, ne_eq, Decidable.not_not, Int.not_lt, Int.not_le] at p16
    refine TL_pass rfl rfl h16 rfl ?_
    refine TL_pass rfl rfl h16 rfl ?_
    refine TL_pass rfl rfl h16 rfl ?_
    refine TL_q (Qt_pick_t (.bool _) rfl h16 rfl) rfl ?_
    refine TL_nil ?_
    refine X_then ?_
    refine T_cond_true rfl rfl ?_
    refine T_seq ?_
    refine T_region ?_
    refine TL_q (Qt_assign (.int .i64 _) rfl) rfl ?_
    refine TL_nil ?_
    refine X_then ?_
    refine T_ret ?_
    refine X_then_ret ?_
    have e : writD (ls.map BS.l) num mk reg slot h (ps.map BS.l) = 12 := if_neg (by rintro ⟨h1, h2, -⟩; rw [List.length_map] at h2; first | (simp_all; done) | (simp_all; omega))
    exact X_ret () [_] Try.results53 ⟨rfl, trivial⟩ (by rw [e]; rfl) (Subs.st inferInstance)
  ·
    have p16 := h16
    try simp only [decide_eq_true_eq, decide_eq_false_iff_not, Bool.not_eq_true', Bool.not_eq_false', Option.isNone_iff_eq_none, ne_eq, Decidable.not_not, Int.not_lt, Int.not_le] at p16
    refine TL_take rfl rfl h16 ?_
    refine TL_q (Qt_move (.slice _ _ _) rfl) rfl ?_
    refine TL_take rfl rfl h16 ?_
    refine TL_q (Qt_len_slice rfl Try.underlying28) rfl ?_
    refine TL_take rfl rfl h16 ?_
    refine TL_q (Qt_gtr rfl rfl) rfl ?_
    refine TL_q (Qt_pick_f (.bool _) rfl h16 rfl) rfl ?_
    refine TL_nil ?_
    refine X_then ?_
    refine T_cond rfl (fun h20 => ?_) (fun h20 => ?_)
    ·
      have p20 := h20
      try simp only [decide_eq_true_eq, decide_eq_false_iff_not, Bool.not_eq_true', Bool.not_eq_false', Option.isNone_iff_eq_none, ne_eq, Decidable.not_not, Int.not_lt, Int.not_le] at p20
      refine T_seq ?_
      refine T_region ?_
      refine TL_q (Qt_assign (.int .i64 _) rfl) rfl ?_
      refine TL_nil ?_
      refine X_then ?_
      refine T_ret ?_
      refine X_then_ret ?_
      have e : writD (ls.map BS.l) num mk reg slot h (ps.map BS.l) = 12 := if_neg (by rintro ⟨h1, h2, -⟩; rw [List.length_map] at h2; first | (simp_all; done) | (simp_all; omega))
      exact X_ret () [_] Try.results53 ⟨rfl, trivial⟩ (by rw [e]; rfl) (Subs.st inferInstance)
    ·
      have p20 := h20
      try simp only [decide_eq_true_eq, decide_eq_false_iff_not, Bool.not_eq_true', Bool.not_eq_false', Option.isNone_iff_eq_none, ne_eq, Decidable.not_not, Int.not_lt, Int.not_le] at p20
      refine T_skip ?_
      refine X_then ?_
      refine T_seq ?_
      refine T_seq ?_
      refine T_draw (blk b6 (.cells (KeysV.mk ⟨sa, sc, ls⟩ rt).cells 32 (0, 0)) :: blk b7 (.cells (ViewV.mk num (mk : Int)).cells 24 (0, 0)) :: blk b10 (.cells (hlist h).toArray 35 (0, 0)) :: H) [(0, true), (1, true), (2, true), (3, true), (4, true), (5, true), (6, true), (7, true), (8, true), (9, true), (10, false), (11, false), (12, true)] (by kernel_rfl) (by kernel_rfl) rfl (by kernel_rfl) (Subs.st inferInstance) (fun hns0 => ?_)
      refine DL_q hns0 rfl (Qt_loadN rfl rfl) rfl ?_
      refine DL_q hns0 rfl (Qt_fieldAddr 0 rfl rfl) rfl ?_
      refine DL_q hns0 rfl (Qt_load1 rfl) rfl ?_
      refine DL_q hns0 rfl (Qt_move (.int .i64 _) rfl) rfl ?_
      refine DL_q hns0 rfl (Qt_move (.int .i64 _) rfl) rfl ?_
      refine DL_q hns0 rfl (Qt_loadN rfl rfl) rfl ?_
      refine DL_q hns0 rfl (Qt_build [(0, (.int .i64 _)), (2, (.int .i64 _)), (3, (.int .i64 _)), (4, (.int .i64 _)), (5, (.agg _))] rfl (by kernel_rfl)) rfl ?_
      refine DL_q hns0 rfl (Qt_loadN rfl rfl) rfl ?_
      refine DL_q hns0 rfl (Qt_loadN rfl rfl) rfl ?_
      refine DL_q hns0 rfl (Qt_move (.slice _ _ _) rfl) rfl ?_
      refine DL_e rfl rfl (Ef_call (opened_c (num := num) hmk (sa := sa) (sc := sc) (ls := ls) (rt := rt) (ps := ps) hkl hps hn) rfl (fun x31 => ⟨(Subs.st inferInstance), ?_⟩))
      refine DL_pure (fun h31 => ?_)
      refine DL_e rfl rfl (Ef_call (enough_c (num := num) hmk (m := ⟨2, 0, num, reg, slot, h, ⟨none, 0, []⟩, ⟨none, 0, []⟩⟩) (ms := x31.2) (frm_map h31) (by have := congrArg List.length h31; simp at this; omega)) rfl (fun x32 => ⟨(Subs.st inferInstance), ?_⟩))
      rw [h31]
      refine DL_q hns0 rfl (Qt_not rfl) rfl ?_
      refine DL_nil ?_
      refine X_then ?_
      refine T_cond rfl (fun h33 => ?_) (fun h33 => ?_)
      ·
        have p33 := h33
        try simp only [decide_eq_true_eq, decide_eq_false_iff_not, Bool.not_eq_true', Bool.not_eq_false', Option.isNone_iff_eq_none, ne_eq, Decidable.not_not, Int.not_lt, Int.not_le] at p33
        refine T_seq ?_
        refine T_region ?_
        refine TL_q (Qt_assign (.int .i64 _) rfl) rfl ?_
        refine TL_nil ?_
        refine X_then ?_
        refine T_ret ?_
        refine X_then_ret ?_
        have e : writD (ls.map BS.l) num mk reg slot h (ps.map BS.l) = 12 := if_neg (by rintro ⟨-, -, h3⟩; simp_all [wMsg, MsgV.abs])
        exact X_ret () [_] Try.results53 ⟨rfl, trivial⟩ (by rw [e]; rfl) (Subs.st inferInstance)
      ·
        have p33 := h33
        try simp only [decide_eq_true_eq, decide_eq_false_iff_not, Bool.not_eq_true', Bool.not_eq_false', Option.isNone_iff_eq_none, ne_eq, Decidable.not_not, Int.not_lt, Int.not_le] at p33
        refine T_skip ?_
        refine X_then ?_
        refine T_seq ?_
        refine T_region ?_
        refine TL_q (Qt_assign (.int .i64 _) rfl) rfl ?_
        refine TL_nil ?_
        refine X_then ?_
        refine T_ret ?_
        have e : writD (ls.map BS.l) num mk reg slot h (ps.map BS.l) = 0 := if_pos ⟨by simp_all, by rw [List.length_map]; first | omega | (simp_all; omega), by simp_all [wMsg, MsgV.abs]⟩
        exact X_ret () [_] Try.results53 ⟨rfl, trivial⟩ (by rw [e]; rfl) (Subs.st inferInstance)
set_option maxHeartbeats 1000000 in
theorem decided_c {w0 : World} {H : List SA} {num : Int} {mk : Nat} (hmk : mk < 65536) {sa : Option Addr} {sc : Nat} {ls : List BS} {rt : Sl} [rk : RdC w0 H (.slice sa ls.length sc) 1 (ls.map BS.val)] [rke : RdE w0 H ls] (hkl : ∀ x ∈ ls, x.l.length ≤ 4294967000) {a : Option Addr} {ps : List BS} {c : Nat} [hp : RdC w0 H (.slice a ps.length c) 1 (ps.map BS.val)] [hpe : RdE w0 H ps] (hps : ∀ x ∈ ps, x.l.length ≤ 4294960000) (hn : ps.length ≤ 1000) {slot : Int} {h : Vector UInt8 32} :
    CT Try.prog w0 (H) 21 [.agg (KeysV.mk ⟨sa, sc, ls⟩ rt).cells, .agg (ViewV.mk num (mk : Int)).cells, .int .i64 slot, .agg (hlist h).toArray, .slice a ps.length c] (α := Unit) (fun _ => .tuple #[.int .i64 (decidD (ls.map BS.l) num mk slot h (ps.map BS.l)).1, .int .i64 (decidD (ls.map BS.l) num mk slot h (ps.map BS.l)).2]) (fun _ => H) := by
  refine CT_intro Try.func21 rfl Try.ntmps21 rfl ?_
  refine T_seq ?_
  refine T_region ?_
  refine TL_e rfl (Ef_boxN rfl (fun b5 => ?_))
  refine TL_e rfl (Ef_boxN rfl (fun b6 => ?_))
  refine TL_e rfl (Ef_boxN rfl (fun b8 => ?_))
  refine TL_q (Qt_assign (.int .i64 _) rfl) rfl ?_
  refine TL_q (Qt_assign (.int .i64 _) rfl) rfl ?_
  refine TL_nil ?_
  refine X_then ?_
  refine T_seq ?_
  refine T_seq ?_
  refine T_region ?_
  refine TL_q (Qt_loadN rfl rfl) rfl ?_
  refine TL_e rfl (Ef_call (right_v hmk) rfl (fun x15 => ?_))
  refine TL_q (Qt_not rfl) rfl ?_
  refine TL_q (Qt_move (.bool _) rfl) rfl ?_
  refine TL_split 17 rfl (fun h17 => ?_) (fun h17 => ?_)
  ·
    have p17 := h17
    try simp only [decide_eq_true_eq, decide_eq_false_iff_not, Bool.not_eq_true', Bool.not_eq_false', Option.isNone_iff_eq_none, ne_eq, Decidable.not_not, Int.not_lt, Int.not_le] at p17
    refine TL_pass rfl rfl h17 rfl ?_
    refine TL_pass rfl rfl h17 rfl ?_
    refine TL_pass rfl rfl h17 rfl ?_
    refine TL_q (Qt_pick_t (.bool _) rfl h17 rfl) rfl ?_
    refine TL_nil ?_
    refine X_then ?_
    refine T_cond_true rfl rfl ?_
    refine T_seq ?_
    refine T_region ?_
    refine TL_q (Qt_assign (.int .i64 _) rfl) rfl ?_
    refine TL_q (Qt_assign (.int .i64 _) rfl) rfl ?_
    refine TL_nil ?_
    refine X_then ?_
    refine T_ret ?_
    refine X_then_ret ?_
    have e : decidD (ls.map BS.l) num mk slot h (ps.map BS.l) = (0, 12) := if_neg (by rintro ⟨h1, h2⟩; rw [List.length_map] at h2; first | (simp_all; done) | (simp_all; omega))
    exact X_ret () [_, _] Try.results21 ⟨rfl, rfl, trivial⟩ (by rw [e]; rfl) (Subs.st inferInstance)
  ·
    have p17 := h17
    try simp only [decide_eq_true_eq, decide_eq_false_iff_not, Bool.not_eq_true', Bool.not_eq_false', Option.isNone_iff_eq_none, ne_eq, Decidable.not_not, Int.not_lt, Int.not_le] at p17
    refine TL_take rfl rfl h17 ?_
    refine TL_q (Qt_move (.slice _ _ _) rfl) rfl ?_
    refine TL_take rfl rfl h17 ?_
    refine TL_q (Qt_len_slice rfl Try.underlying28) rfl ?_
    refine TL_take rfl rfl h17 ?_
    refine TL_q (Qt_gtr rfl rfl) rfl ?_
    refine TL_q (Qt_pick_f (.bool _) rfl h17 rfl) rfl ?_
    refine TL_nil ?_
    refine X_then ?_
    refine T_cond rfl (fun h21 => ?_) (fun h21 => ?_)
    ·
      have p21 := h21
      try simp only [decide_eq_true_eq, decide_eq_false_iff_not, Bool.not_eq_true', Bool.not_eq_false', Option.isNone_iff_eq_none, ne_eq, Decidable.not_not, Int.not_lt, Int.not_le] at p21
      refine T_seq ?_
      refine T_region ?_
      refine TL_q (Qt_assign (.int .i64 _) rfl) rfl ?_
      refine TL_q (Qt_assign (.int .i64 _) rfl) rfl ?_
      refine TL_nil ?_
      refine X_then ?_
      refine T_ret ?_
      refine X_then_ret ?_
      have e : decidD (ls.map BS.l) num mk slot h (ps.map BS.l) = (0, 12) := if_neg (by rintro ⟨h1, h2⟩; rw [List.length_map] at h2; first | (simp_all; done) | (simp_all; omega))
      exact X_ret () [_, _] Try.results21 ⟨rfl, rfl, trivial⟩ (by rw [e]; rfl) (Subs.st inferInstance)
    ·
      have p21 := h21
      try simp only [decide_eq_true_eq, decide_eq_false_iff_not, Bool.not_eq_true', Bool.not_eq_false', Option.isNone_iff_eq_none, ne_eq, Decidable.not_not, Int.not_lt, Int.not_le] at p21
      refine T_skip ?_
      refine X_then ?_
      refine T_seq ?_
      refine T_region ?_
      refine TL_q (Qt_loadN rfl rfl) rfl ?_
      refine TL_q (Qt_loadN rfl rfl) rfl ?_
      refine TL_q (Qt_move (.slice _ _ _) rfl) rfl ?_
      refine TL_e rfl (Ef_call (opened_c (num := num) hmk (sa := sa) (sc := sc) (ls := ls) (rt := rt) (ps := ps) hkl hps hn) rfl (fun x25 => ?_))
      refine TL_pure (fun h25 => ?_)
      refine TL_q (Qt_assign (.slice _ _ _) rfl) rfl ?_
      refine TL_nil ?_
      refine X_then ?_
      refine T_seq ?_
      refine T_seq ?_
      refine T_region ?_
      refine TL_q (Qt_move (.int .i64 _) rfl) rfl ?_
      refine TL_nil ?_
      refine X_then ?_
      refine T_block ?_
      refine T_loop [10, 11, 13, 26, 27, 28, 29, 30, 31, 32, 33, 34, 35, 36, 37, 38, 39] [26] (fun us H' => ∃ (k : Nat), us = [.int .i64 (k : Int)] ∧ row (.slice x25.1.a (x25.2).length x25.1.c) 43 39 ((x25.2).flatMap MsgV.list) :: blk b5 (.cells (KeysV.mk ⟨sa, sc, ls⟩ rt).cells 32 (0, 0)) :: blk b6 (.cells (ViewV.mk num (mk : Int)).cells 24 (0, 0)) :: blk b8 (.cells (hlist h).toArray 35 (0, 0)) :: H = H' ∧ k ≤ 41 ∧ (∀ i < k, enoughD num mk (wMsg 3 num i slot h) ((ps.map BS.l).map (opn (ls.map BS.l) mk)) = false)) (fun us => match us with | .int _ i :: _ => 41 - i.toNat | _ => 0) ⟨0, rfl, rfl, by omega, fun i h => by omega⟩ (Subs.st inferInstance) ?_
      rintro τ0 _ _  ⟨k, rfl, rfl, hk0, hno⟩ _
      refine T_seq ?_
      refine T_region ?_
      refine TL_q (Qt_lss rfl rfl) rfl ?_
      refine TL_nil ?_
      refine X_then ?_
      refine T_seq ?_
      refine T_cond rfl (fun h27 => ?_) (fun h27 => ?_)
      ·
        have p27 := h27
        try simp only [decide_eq_true_eq, decide_eq_false_iff_not, Bool.not_eq_true', Bool.not_eq_false', Option.isNone_iff_eq_none, ne_eq, Decidable.not_not, Int.not_lt, Int.not_le] at p27
        refine T_skip ?_
        refine X_then ?_
        refine T_seq ?_
        refine T_block ?_
        refine T_seq ?_
        refine T_region ?_
        refine TL_q (Qt_move (.int .i64 _) rfl) rfl ?_
        refine TL_q (Qt_assign (.int .i64 _) rfl) rfl ?_
        refine TL_nil ?_
        refine X_then ?_
        refine T_seq ?_
        refine T_region ?_
        refine TL_q (Qt_loadN rfl rfl) rfl ?_
        refine TL_q (Qt_fieldAddr 0 rfl rfl) rfl ?_
        refine TL_q (Qt_load1 rfl) rfl ?_
        refine TL_q (Qt_move (.int .i64 _) rfl) rfl ?_
        refine TL_q (Qt_move (.int .i64 _) rfl) rfl ?_
        refine TL_q (Qt_loadN rfl rfl) rfl ?_
        refine TL_q (Qt_build [(0, (.int .i64 _)), (2, (.int .i64 _)), (3, (.int .i64 _)), (4, (.int .i64 _)), (5, (.agg _))] rfl (by kernel_rfl)) rfl ?_
        refine TL_q (Qt_move (.slice _ _ _) rfl) rfl ?_
        refine TL_e rfl (Ef_call (enough_c (num := num) hmk (m := ⟨3, 0, num, k, slot, h, ⟨none, 0, []⟩, ⟨none, 0, []⟩⟩) (ms := x25.2) (frm_map h25) (by have := congrArg List.length h25; simp at this; omega)) rfl (fun x37 => ?_))
        rw [h25]
        refine TL_nil ?_
        refine X_then ?_
        refine T_cond rfl (fun h37 => ?_) (fun h37 => ?_)
        ·
          have p37 := h37
          try simp only [decide_eq_true_eq, decide_eq_false_iff_not, Bool.not_eq_true', Bool.not_eq_false', Option.isNone_iff_eq_none, ne_eq, Decidable.not_not, Int.not_lt, Int.not_le] at p37
          refine T_seq ?_
          refine T_region ?_
          refine TL_q (Qt_move (.int .i64 _) rfl) rfl ?_
          refine TL_q (Qt_assign (.int .i64 _) rfl) rfl ?_
          refine TL_q (Qt_assign (.int .i64 _) rfl) rfl ?_
          refine TL_nil ?_
          refine X_then ?_
          refine T_ret ?_
          refine X_block_ret ?_
          refine X_then_ret ?_
          refine X_loop_ret ?_
          refine X_block_ret ?_
          refine X_then_ret ?_
          have e : decidD (ls.map BS.l) num mk slot h (ps.map BS.l) = ((k : Int), 0) := by rw [decidD, if_pos ⟨by simp_all, by rw [List.length_map]; first | omega | (simp_all; omega)⟩, find_range (k := k) (by omega) hno h37]
          exact X_ret () [_, _] Try.results21 ⟨rfl, rfl, trivial⟩ (by rw [e]; rfl) (Subs.st inferInstance)
        ·
          have p37 := h37
          try simp only [decide_eq_true_eq, decide_eq_false_iff_not, Bool.not_eq_true', Bool.not_eq_false', Option.isNone_iff_eq_none, ne_eq, Decidable.not_not, Int.not_lt, Int.not_le] at p37
          refine T_skip ?_
          refine X_block ?_
          refine X_then ?_
          refine T_region ?_
          first
            | refine TL_q (Qt_add rfl rfl (by omega) (by omega)) rfl ?_
            | refine TL_q (Qt_addw rfl rfl) rfl ?_
          refine TL_q (Qt_move (.int .i64 _) rfl) rfl ?_
          refine TL_nil ?_
          apply X_loop
          case ha => exact (by repeat (first | with_reducible exact agree_refl | refine agree_upd rfl ?_ | refine agree_mix rfl ?_ | refine agree_setAll rfl ?_))
          case hI => exact ⟨k + 1, rfl, rfl, by omega, fun i h => by rcases Nat.lt_or_ge i k with h1 | h1; exact hno i h1; obtain rfl : i = k := (by omega); exact h37⟩
          case hm => exact by show 41 - (k + 1 : Int).toNat < 41 - (k : Int).toNat; omega
          case hH => exact (Subs.st inferInstance)
      ·
        have p27 := h27
        try simp only [decide_eq_true_eq, decide_eq_false_iff_not, Bool.not_eq_true', Bool.not_eq_false', Option.isNone_iff_eq_none, ne_eq, Decidable.not_not, Int.not_lt, Int.not_le] at p27
        refine T_exit ?_
        refine X_then_exit ?_
        refine X_loop_exit ?_
        refine X_block_exit ?_
        refine X_then ?_
        refine T_seq ?_
        refine T_region ?_
        refine TL_q (Qt_assign (.int .i64 _) rfl) rfl ?_
        refine TL_q (Qt_assign (.int .i64 _) rfl) rfl ?_
        refine TL_nil ?_
        refine X_then ?_
        refine T_ret ?_
        have e : decidD (ls.map BS.l) num mk slot h (ps.map BS.l) = (0, 12) := by rw [decidD, if_pos ⟨by simp_all, by rw [List.length_map]; first | omega | (simp_all; omega)⟩, find_range_none (fun i h => hno i (by omega))]
        exact X_ret () [_, _] Try.results21 ⟨rfl, rfl, trivial⟩ (by rw [e]; rfl) (Subs.st inferInstance)
end Go.Proofs.Ytnijomppbgdmnaa
