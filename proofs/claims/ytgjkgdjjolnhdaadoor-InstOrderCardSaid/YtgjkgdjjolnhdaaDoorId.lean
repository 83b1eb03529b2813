/- Votes of one slot: what holds of those that are kept; the laws InstNil, InstStays. -/
import Derived.Test.YtgjkgdjjolnhdaaDoorIc
namespace Go.Proofs.YtgjkgdjjolnhdaaDoor
open Go.RowKit Go.Sx
set_option maxRecDepth 100000
set_option linter.unusedSimpArgs false
set_option linter.unusedVariables false
structure AL where
  a : Option Addr
  c : Nat
  ls : List ActV
structure TwoA where
  p : AL
  q : AL
def TwoA.list (v : TwoA) : List Value := [.slice v.p.a v.p.ls.length v.p.c, .slice v.q.a v.q.ls.length v.q.c]
def TwoA.cells (v : TwoA) : Array Value := v.list.toArray
instance twoA0 {v : TwoA} : Cells v.cells 2 := Cells.list rfl rfl
instance twoA1 {v : TwoA} : CellAt v.cells 0 (.slice v.p.a v.p.ls.length v.p.c) := ⟨rfl⟩
instance twoA2 {v : TwoA} : CellAt v.cells 1 (.slice v.q.a v.q.ls.length v.q.c) := ⟨rfl⟩
structure SOk (K : List (List UInt8)) (num : Int) (mk : Nat) (slot : Int) (V : List VD) : Prop where
  nd : (V.map fun v => balD v.1).Nodup
  ok : ∀ v ∈ V, (v.1.kind = 2 ∨ v.1.kind = 3) ∧ v.1.view = num ∧ v.1.slot = slot ∧ 0 ≤ v.1.frm ∧ v.1.frm < 16 ∧ v.1.frm.toNat ∈ memK mk ∧ openOfK K mk v.2 = (0, v.1)
theorem SOk.nil {K : List (List UInt8)} {num : Int} {mk : Nat} {slot : Int} : SOk K num mk slot [] := ⟨by simp, fun _ h => by cases h⟩
theorem getP_none {V : List VD} {k : BalV} (h : (getP V k).isSome = false) : k ∉ V.map fun v => balD v.1 := fun hm => by
  obtain ⟨v, hv, he⟩ := List.mem_map.1 hm
  have : (V.find? fun v => decide (k = balD v.1)).isSome = true := List.find?_isSome.2 ⟨v, hv, by simp [he]⟩
  rw [getP, Option.isSome_map, this] at h
  cases h
theorem takeI_cases (K : List (List UInt8)) (num : Int) (mk : Nat) (slot : Int) (V : List VD) (l : List UInt8) :
    ((takeI K num mk slot V l).2 = V ∧ (takeI K num mk slot V l).1 ≠ 0) ∨ ((takeI K num mk slot V l) = (0, V ++ [((openOfK K mk l).2, l)]) ∧ (openOfK K mk l).1 = 0 ∧ ((openOfK K mk l).2.kind = 2 ∨ (openOfK K mk l).2.kind = 3) ∧ (openOfK K mk l).2.view = num ∧ (openOfK K mk l).2.slot = slot ∧ (getP V (balD (openOfK K mk l).2)).isSome = false) := by
  unfold takeI
  split
  · rename_i h; exact .inl ⟨rfl, h⟩
  · rename_i h0
    split
    · exact .inl ⟨rfl, by simp⟩
    · split
      · exact .inl ⟨rfl, by simp⟩
      · split
        · exact .inl ⟨rfl, by simp⟩
        · split
          · exact .inl ⟨rfl, by simp⟩
          · rename_i h1 h2 h3 h4
            exact .inr ⟨rfl, by simpa using h0, by omega, by simpa using h2, by simpa using h3, by simpa using h4⟩
theorem takeI_ok {K : List (List UInt8)} {num : Int} {mk : Nat} {slot : Int} {V : List VD} (h : SOk K num mk slot V) (l : List UInt8) : SOk K num mk slot (takeI K num mk slot V l).2 ∧ ∀ v ∈ V, v ∈ (takeI K num mk slot V l).2 := by
  rcases takeI_cases K num mk slot V l with ⟨h1, -⟩ | ⟨h1, h2, h3, h4, h5, h6⟩
  · rw [h1]; exact ⟨h, fun _ h => h⟩
  · rw [h1]
    refine ⟨⟨?_, fun v hv => ?_⟩, fun v hv => List.mem_append_left _ hv⟩
    · show ((V ++ [((openOfK K mk l).2, l)]).map fun v => balD v.1).Nodup
      rw [List.map_append, List.nodup_append]
      refine ⟨h.nd, by simp, fun a ha b hb => ?_⟩
      obtain rfl : b = balD (openOfK K mk l).2 := by simpa using hb
      rintro rfl
      exact getP_none h6 ha
    · rcases List.mem_append.1 hv with hv | hv
      · exact h.ok v hv
      · obtain rfl : v = ((openOfK K mk l).2, l) := by simpa using hv
        have hf := opn_frm K mk l
        exact ⟨h3, h4, h5, hf.1, hf.2, opn_has (K := K) (mk := mk) (l := l) (by show (openOfK K mk l).2.kind ≠ 0; omega), by rw [← h2]⟩
theorem SOk.frm {K : List (List UInt8)} {num : Int} {mk : Nat} {slot : Int} {V : List VD} (h : SOk K num mk slot V) : ∀ v ∈ V.map (·.1), 0 ≤ v.frm ∧ v.frm < 16 := fun v hv => by
  obtain ⟨u, hu, rfl⟩ := List.mem_map.1 hv
  have := h.ok u hu
  exact ⟨this.2.2.2.1, this.2.2.2.2.1⟩
theorem msk_mem {K : List (List UInt8)} {num : Int} {mk : Nat} {slot : Int} {V : List VD} (h : SOk K num mk slot V) {t : TalV} {i : Nat} : i ∈ memK (mskI num slot V t) ↔ ∃ v ∈ V, v.1.kind = t.kind ∧ v.1.reg = t.reg ∧ v.1.hash = t.hash ∧ v.1.frm = (i : Int) := by
  unfold mskI
  rw [setD_mem h.frm]
  constructor
  · rintro ⟨m, hm, hc, hf⟩
    obtain ⟨v, hv, rfl⟩ := List.mem_map.1 hm
    simp only [cntD, wMsg, decide_eq_true_eq] at hc
    exact ⟨v, hv, hc.1, hc.2.2.2.2.1, hc.2.2.2.2.2.2, hf⟩
  · rintro ⟨v, hv, h1, h2, h3, hf⟩
    have := h.ok v hv
    exact ⟨v.1, List.mem_map.2 ⟨v, hv, rfl⟩, by simp only [cntD, wMsg, decide_eq_true_eq]; exact ⟨h1, by omega, this.2.1, trivial, h2, this.2.2.1, h3⟩, hf⟩
theorem msk_sub {K : List (List UInt8)} {num : Int} {mk : Nat} {slot : Int} {V : List VD} (h : SOk K num mk slot V) {t : TalV} {i : Nat} (hi : i ∈ memK (mskI num slot V t)) : i ∈ memK mk := by
  obtain ⟨v, hv, -, -, -, hf⟩ := (msk_mem h).1 hi
  have := (h.ok v hv).2.2.2.2.2.1
  rwa [hf, Int.toNat_natCast] at this
theorem msk_lt {K : List (List UInt8)} {num : Int} {mk : Nat} {slot : Int} {V : List VD} (h : SOk K num mk slot V) (t : TalV) : mskI num slot V t < 65536 := setD_lt _ h.frm
theorem nodupI {α : Type} [DecidableEq α] : ∀ {l m : List α}, l.Nodup → (∀ x ∈ l, x ∈ m) → l.length ≤ m.length
  | [], _, _, _ => Nat.zero_le _
  | a :: l, m, hl, hs => by
    have ha : a ∈ m := hs a (List.mem_cons_self ..)
    have h1 := nodupI (l := l) (m := m.erase a) (List.nodup_cons.1 hl).2 fun x hx => (List.mem_erase_of_ne (fun e : x = a => (List.nodup_cons.1 hl).1 (e ▸ hx))).2 (hs x (List.mem_cons_of_mem _ hx))
    have h2 : 0 < m.length := List.length_pos_of_mem ha
    rw [List.length_erase_of_mem ha] at h1
    simp; omega
theorem nodup_inj {α β : Type} {f : α → β} : ∀ {l : List α}, (l.map f).Nodup → ∀ {x y : α}, x ∈ l → y ∈ l → f x = f y → x = y
  | a :: l, h, x, y, hx, hy, he => by
    rw [List.map_cons, List.nodup_cons] at h
    rcases List.mem_cons.1 hx with hxa | hx
    · rcases List.mem_cons.1 hy with hya | hy
      · rw [hxa, hya]
      · exact absurd (List.mem_map.2 ⟨y, hy, by rw [← he, hxa]⟩) h.1
    · rcases List.mem_cons.1 hy with hya | hy
      · exact absurd (List.mem_map.2 ⟨x, hx, by rw [he, hya]⟩) h.1
      · exact nodup_inj h.2 hx hy he
theorem qual_len {K : List (List UInt8)} {num : Int} {mk : Nat} {slot : Int} {V : List VD} (h : SOk K num mk slot V) {t : TalV} : qualI num mk slot V t = true ↔ quorumV num mk ≠ 0 ∧ quorumV num mk ≤ (memK (mskI num slot V t)).length := by
  rw [qualI, decide_eq_true_eq, ones16_mem (msk_lt h t)]
/-- A quorum votes for one digest at most. -/
theorem qual_one {K : List (List UInt8)} {num : Int} {mk : Nat} {slot : Int} {V : List VD} (hmk : mk < 65536) (h : SOk K num mk slot V) {kind reg : Int} {h1 h2 : Vector UInt8 32} (q1 : qualI num mk slot V ⟨kind, reg, h1⟩ = true) (q2 : qualI num mk slot V ⟨kind, reg, h2⟩ = true) : h1 = h2 := by
  rw [qual_len h] at q1 q2
  by_cases he : h1 = h2
  · exact he
  · exfalso
    have hsz : sizeV num mk ≠ 0 := fun e => q1.1 (if_pos e)
    have hr : rightV num mk = true := by
      by_cases hr : rightV num mk = true
      · exact hr
      · exact absurd (if_neg hr) hsz
    have hs : sizeV num mk = (memK mk).length := by rw [sizeV, if_pos hr, ones16_mem hmk]
    have hq : quorumV num mk = (sizeV num mk + faultsV num mk) / 2 + 1 := if_neg hsz
    have hu : (memK (mskI num slot V ⟨kind, reg, h1⟩) ++ memK (mskI num slot V ⟨kind, reg, h2⟩)).length ≤ (memK mk).length := by
      refine nodupI (List.nodup_append.2 ⟨memK_nodup _, memK_nodup _, fun a ha b hb e => ?_⟩) fun i hi => ?_
      · subst e
        obtain ⟨v, hv, k1, r1, hh1, f1⟩ := (msk_mem h).1 ha
        obtain ⟨u, hu, k2, r2, hh2, f2⟩ := (msk_mem h).1 hb
        have : v = u := nodup_inj h.nd hv hu (by simp only [balD]; rw [k1, k2, r1, r2, f1, f2])
        subst this
        exact he (hh1.symm.trans hh2)
      · rcases List.mem_append.1 hi with hi | hi
        · exact msk_sub h hi
        · exact msk_sub h hi
    rw [List.length_append] at hu
    omega
theorem listI_len {K : List (List UInt8)} {num : Int} {mk : Nat} {slot : Int} {V : List VD} (h : SOk K num mk slot V) (t : TalV) : (listI num slot V t).length = (memK (mskI num slot V t)).length := by rw [listI, List.length_map]
theorem msk_mono {K : List (List UInt8)} {num : Int} {mk : Nat} {slot : Int} {V U : List VD} (h : SOk K num mk slot V) (h' : SOk K num mk slot U) (hs : ∀ v ∈ V, v ∈ U) (t : TalV) : (memK (mskI num slot V t)).length ≤ (memK (mskI num slot U t)).length :=
  nodupI (memK_nodup _) fun i hi => by
    obtain ⟨v, hv, h1⟩ := (msk_mem h).1 hi
    exact (msk_mem h').2 ⟨v, hs v hv, h1⟩
/-- What a quorum votes for it votes for behind more votes. -/
theorem stays_law {K : List (List UInt8)} {num : Int} {mk : Nat} {slot : Int} {V U : List VD} (hmk : mk < 65536) (h : SOk K num mk slot V) (h' : SOk K num mk slot U) (hs : ∀ v ∈ V, v ∈ U) {kind reg : Int} {y z : Option (Vector UInt8 32)} {L M : List (List UInt8)}
    (hy : QrI num mk slot V kind reg y L) (hz : QrI num mk slot U kind reg z M) : ∀ hh, y = some hh → z = some hh ∧ L.length ≤ M.length := by
  rintro hh rfl
  obtain ⟨q, rfl⟩ := hy
  have hm := msk_mono h h' hs ⟨kind, reg, hh⟩
  have q' : qualI num mk slot U ⟨kind, reg, hh⟩ = true := by
    rw [qual_len h] at q; rw [qual_len h']; omega
  cases z with
  | none => have := hz.1 hh; rw [q'] at this; cases this
  | some g =>
    obtain ⟨qg, rfl⟩ := hz
    obtain rfl := qual_one hmk h' qg q'
    exact ⟨rfl, by rw [listI_len h, listI_len h']; exact hm⟩
attribute [local irreducible] openOfK openK getM tagOf popB bruijn sealK keyT takeI listI mskI qualI memK ones16 quorumV

set_option maxHeartbeats 1000000 in
theorem instNil_c {w0 : World} {H : List SA} [G : Glob w0] {a : Option Addr} {n c : Nat} :
    CT Tryd.prog w0 (H) 10 [.slice a n c] (α := Unit) (fun _ => .bool true) (fun _ => H) := by
  refine CT_intro Tryd.func10 rfl Tryd.ntmps10 rfl ?_
  refine T_seq ?_
  refine T_region ?_
  refine TL_q (Qt_assign (.bool _) rfl) rfl ?_
  refine TL_nil ?_
  refine X_then ?_
  refine T_seq ?_
  refine T_region ?_
  refine TL_q (Qt_assign (.pointer _) rfl) rfl ?_
  refine TL_nil ?_
  refine X_then ?_
  refine T_seq ?_
  refine T_seq ?_
  refine T_region ?_
  refine TL_e rfl (Ef_call (wakes18_c) rfl (fun x13 => ?_))
  refine TL_q (Qt_not rfl) rfl ?_
  refine TL_nil ?_
  refine X_then ?_
  refine T_cond rfl (fun h14 => ?_) (fun h14 => ?_)
  ·
    have p14 := h14
    try simp only [decide_eq_true_eq, decide_eq_false_iff_not, Bool.not_eq_true', Bool.not_eq_false', Option.isNone_iff_eq_none, ne_eq, Decidable.not_not, Int.not_lt, Int.not_le] at p14
    cases h14
  ·
    have p14 := h14
    try simp only [decide_eq_true_eq, decide_eq_false_iff_not, Bool.not_eq_true', Bool.not_eq_false', Option.isNone_iff_eq_none, ne_eq, Decidable.not_not, Int.not_lt, Int.not_le] at p14
    refine T_skip ?_
    refine X_then ?_
    refine T_seq ?_
    refine T_region ?_
    refine TL_q (Qt_move (.pointer _) rfl) rfl ?_
    refine TL_q (Qt_build_arr (hlist (zeroV 32)).toArray Tryd.underlying26 rfl rfl rfl) rfl ?_
    refine TL_e rfl (Ef_call (batchNil_c (h := zeroV 32)) rfl (fun x18 => ?_))
    refine TL_q (Qt_move (.tuple _) rfl) rfl ?_
    refine TL_q (Qt_extract rfl) rfl ?_
    refine TL_q (Qt_extract rfl) rfl ?_
    refine TL_q (Qt_assign (.slice _ _ _) rfl) rfl ?_
    refine TL_q (Qt_assign (.bool _) rfl) rfl ?_
    refine TL_nil ?_
    refine X_then ?_
    refine T_seq ?_
    refine T_region ?_
    refine TL_q (Qt_move (.pointer _) rfl) rfl ?_
    refine TL_e rfl (Ef_call (iwrittenNil_c) rfl (fun x23 => ?_))
    refine TL_q (Qt_move (.tuple _) rfl) rfl ?_
    refine TL_q (Qt_extract rfl) rfl ?_
    refine TL_q (Qt_extract rfl) rfl ?_
    refine TL_q (Qt_extract rfl) rfl ?_
    refine TL_e rfl (Ef_allocN (fun b6 => ?_))
    refine TL_n (Ef_storeN rfl rfl (?_))
    refine TL_q (Qt_assign (.slice _ _ _) rfl) rfl ?_
    refine TL_q (Qt_assign (.bool _) rfl) rfl ?_
    refine TL_nil ?_
    refine X_then ?_
    refine T_seq ?_
    refine T_region ?_
    refine TL_q (Qt_move (.pointer _) rfl) rfl ?_
    refine TL_e rfl (Ef_call (acceptedNil_c) rfl (fun x29 => ?_))
    refine TL_q (Qt_move (.tuple _) rfl) rfl ?_
    refine TL_q (Qt_extract rfl) rfl ?_
    refine TL_q (Qt_extract rfl) rfl ?_
    refine TL_q (Qt_extract rfl) rfl ?_
    refine TL_q (Qt_extract rfl) rfl ?_
    refine TL_e rfl (Ef_allocN (fun b10 => ?_))
    refine TL_q (Qt_assign (.int .i64 _) rfl) rfl ?_
    refine TL_n (Ef_storeN rfl rfl (?_))
    refine TL_q (Qt_assign (.slice _ _ _) rfl) rfl ?_
    refine TL_q (Qt_assign (.bool _) rfl) rfl ?_
    refine TL_nil ?_
    refine X_then ?_
    refine T_seq ?_
    refine T_region ?_
    refine TL_q (Qt_move (.pointer _) rfl) rfl ?_
    refine TL_q (Qt_move (.slice _ _ _) rfl) rfl ?_
    refine TL_e rfl (Ef_call (takeNil_c) rfl (fun x36 => ?_))
    refine TL_q (Qt_eql rfl rfl) rfl ?_
    refine TL_q (Qt_move (.bool _) rfl) rfl ?_
    refine TL_split 38 rfl (fun h38 => ?_) (fun h38 => ?_)
    ·
      have p38 := h38
      try simp only [decide_eq_true_eq, decide_eq_false_iff_not, Bool.not_eq_true', Bool.not_eq_false', Option.isNone_iff_eq_none, ne_eq, Decidable.not_not, Int.not_lt, Int.not_le] at p38
      refine TL_take rfl rfl h38 ?_
      refine TL_q (Qt_move (.bool _) rfl) rfl ?_
      refine TL_take rfl rfl h38 ?_
      refine TL_q (Qt_not rfl) rfl ?_
      refine TL_q (Qt_pick_t (.bool _) rfl h38 rfl) rfl ?_
      refine TL_q (Qt_move (.bool _) rfl) rfl ?_
      refine TL_split 42 rfl (fun h42 => ?_) (fun h42 => ?_)
      ·
        have p42 := h42
        try simp only [decide_eq_true_eq, decide_eq_false_iff_not, Bool.not_eq_true', Bool.not_eq_false', Option.isNone_iff_eq_none, ne_eq, Decidable.not_not, Int.not_lt, Int.not_le] at p42
        refine TL_take rfl rfl h42 ?_
        refine TL_q (Qt_move (.bool _) rfl) rfl ?_
        refine TL_take rfl rfl h42 ?_
        refine TL_q (Qt_not rfl) rfl ?_
        refine TL_q (Qt_pick_t (.bool _) rfl h42 rfl) rfl ?_
        refine TL_q (Qt_move (.bool _) rfl) rfl ?_
        refine TL_split 46 rfl (fun h46 => ?_) (fun h46 => ?_)
        ·
          have p46 := h46
          try simp only [decide_eq_true_eq, decide_eq_false_iff_not, Bool.not_eq_true', Bool.not_eq_false', Option.isNone_iff_eq_none, ne_eq, Decidable.not_not, Int.not_lt, Int.not_le] at p46
          refine TL_take rfl rfl h46 ?_
          refine TL_q (Qt_move (.bool _) rfl) rfl ?_
          refine TL_take rfl rfl h46 ?_
          refine TL_q (Qt_not rfl) rfl ?_
          refine TL_q (Qt_pick_t (.bool _) rfl h46 rfl) rfl ?_
          refine TL_q (Qt_assign (.bool _) rfl) rfl ?_
          refine TL_nil ?_
          refine X_then ?_
          refine T_ret ?_
          exact X_ret () [.bool true] Tryd.results10 ⟨by refine congrArg Value.bool ?_; decide, trivial⟩ rfl (Subs.st inferInstance)
        ·
          have p46 := h46
          try simp only [decide_eq_true_eq, decide_eq_false_iff_not, Bool.not_eq_true', Bool.not_eq_false', Option.isNone_iff_eq_none, ne_eq, Decidable.not_not, Int.not_lt, Int.not_le] at p46
          exact absurd h46 (by decide)
      ·
        have p42 := h42
        try simp only [decide_eq_true_eq, decide_eq_false_iff_not, Bool.not_eq_true', Bool.not_eq_false', Option.isNone_iff_eq_none, ne_eq, Decidable.not_not, Int.not_lt, Int.not_le] at p42
        exact absurd h42 (by decide)
    ·
      have p38 := h38
      try simp only [decide_eq_true_eq, decide_eq_false_iff_not, Bool.not_eq_true', Bool.not_eq_false', Option.isNone_iff_eq_none, ne_eq, Decidable.not_not, Int.not_lt, Int.not_le] at p38
      exact absurd h38 (by decide)
set_option maxHeartbeats 1000000 in
theorem instStays_c {w0 : World} {H : List SA} [G : Glob w0] {num : Int} {mk : Nat} (hmk : mk < 65536) {slot : Int} {tv : TwoA} [hp1 : RdC w0 H (.slice tv.p.a tv.p.ls.length tv.p.c) 2 (tv.p.ls.flatMap ActV.list)] (rp : ∀ x ∈ tv.p.ls, RdB w0 H (.slice x.b.a x.b.l.length x.b.c) x.b.l) [hq1 : RdC w0 H (.slice tv.q.a tv.q.ls.length tv.q.c) 2 (tv.q.ls.flatMap ActV.list)] (rq : ∀ x ∈ tv.q.ls, RdB w0 H (.slice x.b.a x.b.l.length x.b.c) x.b.l) :
    CT Tryd.prog w0 (H) 7 [.agg (ViewV.mk num (mk : Int)).cells, .int .i64 slot, .agg tv.cells] (α := Unit) (fun _ => .bool true) (fun _ => H) := by
  refine CT_intro Tryd.func7 rfl Tryd.ntmps7 rfl ?_
  refine T_seq ?_
  refine T_region ?_
  refine TL_e rfl (Ef_boxN rfl (fun b3 => ?_))
  refine TL_e rfl (Ef_boxN rfl (fun b5 => ?_))
  refine TL_q (Qt_assign (.bool _) rfl) rfl ?_
  refine TL_nil ?_
  refine X_then ?_
  refine T_seq ?_
  refine T_seq ?_
  refine T_region ?_
  refine TL_e rfl (Ef_call (wakes18_c) rfl (fun x18 => ?_))
  refine TL_q (Qt_not rfl) rfl ?_
  refine TL_nil ?_
  refine X_then ?_
  refine T_cond rfl (fun h19 => ?_) (fun h19 => ?_)
  ·
    have p19 := h19
    try simp only [decide_eq_true_eq, decide_eq_false_iff_not, Bool.not_eq_true', Bool.not_eq_false', Option.isNone_iff_eq_none, ne_eq, Decidable.not_not, Int.not_lt, Int.not_le] at p19
    cases h19
  ·
    have p19 := h19
    try simp only [decide_eq_true_eq, decide_eq_false_iff_not, Bool.not_eq_true', Bool.not_eq_false', Option.isNone_iff_eq_none, ne_eq, Decidable.not_not, Int.not_lt, Int.not_le] at p19
    refine T_skip ?_
    refine X_then ?_
    refine T_seq ?_
    refine T_seq ?_
    refine T_region ?_
    refine TL_q (Qt_indexAddr_arrC (sz := 1) 0 0 rfl rfl Tryd.underlying53 rfl rfl rfl rfl) rfl ?_
    refine TL_q (Qt_load1 rfl) rfl ?_
    refine TL_e rfl (Ef_call (long18_c (l := tv.p.ls)) rfl (fun x22 => ?_))
    refine TL_pure (fun h22 => ?_)
    refine TL_q (Qt_move (.bool _) rfl) rfl ?_
    refine TL_split 23 rfl (fun h23 => ?_) (fun h23 => ?_)
    ·
      have p23 := h23
      try simp only [decide_eq_true_eq, decide_eq_false_iff_not, Bool.not_eq_true', Bool.not_eq_false', Option.isNone_iff_eq_none, ne_eq, Decidable.not_not, Int.not_lt, Int.not_le] at p23
      refine TL_pass rfl rfl h23 rfl ?_
      refine TL_pass rfl rfl h23 rfl ?_
      refine TL_pass rfl rfl h23 rfl ?_
      refine TL_q (Qt_pick_t (.bool _) rfl h23 rfl) rfl ?_
      refine TL_nil ?_
      refine X_then ?_
      refine T_cond_true rfl rfl ?_
      refine T_seq ?_
      refine T_region ?_
      refine TL_q (Qt_assign (.bool _) rfl) rfl ?_
      refine TL_nil ?_
      refine X_then ?_
      refine T_ret ?_
      refine X_then_ret ?_
      exact X_ret () [_] Tryd.results7 ⟨rfl, trivial⟩ rfl (Subs.st inferInstance)
    ·
      have p23 := h23
      try simp only [decide_eq_true_eq, decide_eq_false_iff_not, Bool.not_eq_true', Bool.not_eq_false', Option.isNone_iff_eq_none, ne_eq, Decidable.not_not, Int.not_lt, Int.not_le] at p23
      have hsp : ShortI tv.p.ls := h22 h23
      have hp60 := hsp.1
      refine TL_take rfl rfl h23 ?_
      refine TL_q (Qt_indexAddr_arrC (sz := 1) 1 1 rfl rfl Tryd.underlying53 rfl rfl rfl rfl) rfl ?_
      refine TL_take rfl rfl h23 ?_
      refine TL_q (Qt_load1 rfl) rfl ?_
      refine TL_take rfl rfl h23 ?_
      refine TL_e rfl (Ef_call (long18_c (l := tv.q.ls)) rfl (fun x26 => ?_))
      refine TL_pure (fun h26 => ?_)
      refine TL_q (Qt_pick_f (.bool _) rfl h23 rfl) rfl ?_
      refine TL_nil ?_
      refine X_then ?_
      refine T_cond rfl (fun h27 => ?_) (fun h27 => ?_)
      ·
        have p27 := h27
        try simp only [decide_eq_true_eq, decide_eq_false_iff_not, Bool.not_eq_true', Bool.not_eq_false', Option.isNone_iff_eq_none, ne_eq, Decidable.not_not, Int.not_lt, Int.not_le] at p27
        refine T_seq ?_
        refine T_region ?_
        refine TL_q (Qt_assign (.bool _) rfl) rfl ?_
        refine TL_nil ?_
        refine X_then ?_
        refine T_ret ?_
        refine X_then_ret ?_
        exact X_ret () [_] Tryd.results7 ⟨rfl, trivial⟩ rfl (Subs.st inferInstance)
      ·
        have p27 := h27
        try simp only [decide_eq_true_eq, decide_eq_false_iff_not, Bool.not_eq_true', Bool.not_eq_false', Option.isNone_iff_eq_none, ne_eq, Decidable.not_not, Int.not_lt, Int.not_le] at p27
        have hsq : ShortI tv.q.ls := h26 h27
        have hq60 := hsq.1
        refine T_skip ?_
        refine X_then ?_
        refine T_seq ?_
        refine T_draw (blk b3 (.cells (ViewV.mk num (mk : Int)).cells 24 (0, 0)) :: H) [(1, true), (2, true), (0, false), (3, false), (4, true)] (by kernel_rfl) (by kernel_rfl) rfl (by kernel_rfl) (Subs.st inferInstance) (fun hns0 => ?_)
        refine DL_q hns0 rfl (Qt_loadN rfl rfl) rfl ?_
        refine DL_q hns0 rfl (Qt_move (.int .i64 _) rfl) rfl ?_
        refine DL_e rfl rfl (Ef_call (table18_c) rfl (fun x28 => ⟨(Subs.st inferInstance), ?_⟩))
        refine DL_pure (fun hk28 => ?_)
        refine DL_e rfl rfl (Ef_call (instNew_c (sa := x28.1.a) (sc := x28.1.c) (ls := x28.1.ls) (num := num) (mk := mk) (slot := slot) (keyT_small hk28).2 (by have := (keyT_small hk28).1; omega)) rfl (fun x31 => ⟨(Subs.st inferInstance), ?_⟩))
        refine DL_pure (fun h31 => ?_)
        refine DL_q hns0 rfl (Qt_assign (.pointer _) rfl) rfl ?_
        refine DL_nil ?_
        refine X_then ?_
        refine T_seq ?_
        refine T_seq ?_
        refine T_region ?_
        refine TL_q (Qt_indexAddr_arrC (sz := 1) 0 0 rfl rfl Tryd.underlying53 rfl rfl rfl rfl) rfl ?_
        refine TL_q (Qt_load1 rfl) rfl ?_
        refine TL_q (Qt_len_slice rfl Tryd.underlying52) rfl ?_
        refine TL_q (Qt_move (.int .i64 _) rfl) rfl ?_
        refine TL_nil ?_
        refine X_then ?_
        refine T_block ?_
        refine T_loop [9, 35, 36, 37, 38, 39, 40, 41, 42, 43] [35] (fun us H' => ∃ (k : Nat) (st : IS) (V : List VD), us = [.int .i64 (k : Int)] ∧ blk x31.1.1 (.cells (InstV.mk (KeysV.mk ⟨x31.2.1.a, x31.2.1.c, x31.2.1.ls⟩ ⟨none, 0, 0⟩) (ViewV.mk num (mk : Int)) slot (some x31.1.2.1) (some x31.1.2.2.1) (some x31.1.2.2.2)).cells 91 (0, 0)) :: blk x31.1.2.2.1 (mapO encB BS.val st.ps st.c) :: blk x31.1.2.2.2 (mapO encT encM st.ts st.d) :: eachA st.fp ((st.ps : PMI).map (·.v)) :: blk b3 (.cells (ViewV.mk num (mk : Int)).cells 24 (0, 0)) :: blk b5 (.cells tv.cells 53 (0, 0)) :: dat x31.2.2 (Deep.leads (PS.mk x31.2.1.a x31.2.1.c x31.2.1.ls)) :: H = H' ∧ k ≤ tv.p.ls.length ∧ (IsI num slot V st.ps st.c st.ts st.d) ∧ (SOk (x31.2.1.ls.map BS.l) num mk slot V)) (fun us => match us with | .int _ i :: _ => tv.p.ls.length - i.toNat | _ => 0) ⟨0, ⟨[], 0, [], 0, []⟩, [], rfl, rfl, by omega, IsI.nil _ _, SOk.nil⟩ (Subs.st inferInstance) ?_
        rintro τ0 _ _  ⟨k, st, V, rfl, rfl, hk0, hIV, hokV⟩ _
        refine T_seq ?_
        refine T_region ?_
        refine TL_q (Qt_lss rfl rfl) rfl ?_
        refine TL_nil ?_
        refine X_then ?_
        refine T_seq ?_
        refine T_cond rfl (fun h36 => ?_) (fun h36 => ?_)
        ·
          have p36 := h36
          try simp only [decide_eq_true_eq, decide_eq_false_iff_not, Bool.not_eq_true', Bool.not_eq_false', Option.isNone_iff_eq_none, ne_eq, Decidable.not_not, Int.not_lt, Int.not_le] at p36
          have hk : k < tv.p.ls.length := by omega
          refine T_skip ?_
          refine X_then ?_
          refine T_seq ?_
          refine T_block ?_
          refine T_seq ?_
          refine T_region ?_
          refine TL_q (Qt_indexN rfl rfl (by omega) (by omega)) rfl ?_
          refine TL_q (Qt_val (Qt_loadRN 2 tv.p.ls[k].list rfl (flat_slice _ 2 ActV.list_len tv.p.ls k hk) (ActV.list_len _) (by decide)) (show Value.agg tv.p.ls[k].list.toArray = Value.agg tv.p.ls[k].cells from rfl)) rfl ?_
          refine TL_e rfl (Ef_allocN (fun b9 => ?_))
          refine TL_n (Ef_storeN rfl rfl (?_))
          refine TL_nil ?_
          refine X_then ?_
          refine T_region ?_
          refine TL_q (Qt_move (.pointer _) rfl) rfl ?_
          refine TL_q (Qt_fieldAddr 1 rfl rfl) rfl ?_
          refine TL_q (Qt_load1 rfl) rfl ?_
          have := rp tv.p.ls[k] (List.getElem_mem hk)
          refine TL_conv (fun w hw => (Subs.st inferInstance w hw : St w0 (blk x31.1.1 (.cells (InstV.mk (KeysV.mk ⟨x31.2.1.a, x31.2.1.c, x31.2.1.ls⟩ ⟨none, 0, 0⟩) (ViewV.mk num (mk : Int)) slot (some x31.1.2.1) (some x31.1.2.2.1) (some x31.1.2.2.2)).cells 91 (0, 0)) :: blk x31.1.2.2.1 (mapO encB BS.val st.ps st.c) :: blk x31.1.2.2.2 (mapO encT encM st.ts st.d) :: eachA st.fp ((st.ps : PMI).map (·.v)) :: blk b9 (.cells tv.p.ls[k].cells 58 (0, 0)) :: blk b3 (.cells (ViewV.mk num (mk : Int)).cells 24 (0, 0)) :: blk b5 (.cells tv.cells 53 (0, 0)) :: dat x31.2.2 (Deep.leads (PS.mk x31.2.1.a x31.2.1.c x31.2.1.ls)) :: H) w)) ?_
          refine TL_e rfl (Ef_call (take_c (p := x31.1.1) (r3 := x31.1.2.1) (r4 := x31.1.2.2.1) (r5 := x31.1.2.2.2) (sa := x31.2.1.a) (sc := x31.2.1.c) (ls := x31.2.1.ls) (rt := ⟨none, 0, 0⟩) (num := num) (mk := mk) (slot := slot) (V := V) (ps := st.ps) (c := st.c) (ts := st.ts) (d := st.d) (fp := st.fp) (l := tv.p.ls[k].b.l) hIV hmk (fun x hx => (keyT_small (h31.trans hk28)).2 x hx) (by have := hsp.2 tv.p.ls[k] (List.getElem_mem hk); omega)) rfl (fun x42 => ?_))
          refine TL_pure (fun h42 => ?_)
          refine TL_nil ?_
          refine X_block ?_
          refine X_then ?_
          refine T_region ?_
          first
            | refine TL_q (Qt_add rfl rfl (by omega) (by omega)) rfl ?_
            | refine TL_q (Qt_addw rfl rfl) rfl ?_
          refine TL_q (Qt_move (.int .i64 _) rfl) rfl ?_
          refine TL_nil ?_
          apply X_loop
          case ha => exact (by repeat (first | with_reducible exact agree_refl | refine agree_upd rfl ?_ | refine agree_mix rfl ?_ | refine agree_setAll rfl ?_))
          case hI => exact ⟨k + 1, x42, (takeI (x31.2.1.ls.map BS.l) num mk slot V tv.p.ls[k].b.l).2, rfl, rfl, by omega, h42, (takeI_ok hokV _).1⟩
          case hm => exact by show tv.p.ls.length - (k + 1 : Int).toNat < tv.p.ls.length - (k : Int).toNat; omega
          case hH => exact (Subs.st inferInstance)
        ·
          have p36 := h36
          try simp only [decide_eq_true_eq, decide_eq_false_iff_not, Bool.not_eq_true', Bool.not_eq_false', Option.isNone_iff_eq_none, ne_eq, Decidable.not_not, Int.not_lt, Int.not_le] at p36
          refine T_exit ?_
          refine X_then_exit ?_
          refine X_loop_exit ?_
          refine X_block_exit ?_
          refine X_then ?_
          refine T_seq ?_
          refine T_region ?_
          refine TL_q (Qt_move (.pointer _) rfl) rfl ?_
          refine TL_conv (fun w hw => (Subs.st inferInstance w hw : St w0 (blk x31.1.1 (.cells (InstV.mk (KeysV.mk ⟨x31.2.1.a, x31.2.1.c, x31.2.1.ls⟩ ⟨none, 0, 0⟩) (ViewV.mk num (mk : Int)) slot (some x31.1.2.1) (some x31.1.2.2.1) (some x31.1.2.2.2)).cells 91 (0, 0)) :: blk x31.1.2.2.1 (mapO encB BS.val st.ps st.c) :: blk x31.1.2.2.2 (mapO encT encM st.ts st.d) :: eachA st.fp ((st.ps : PMI).map (·.v)) :: blk b3 (.cells (ViewV.mk num (mk : Int)).cells 24 (0, 0)) :: blk b5 (.cells tv.cells 53 (0, 0)) :: dat x31.2.2 (Deep.leads (PS.mk x31.2.1.a x31.2.1.c x31.2.1.ls)) :: H) w)) ?_
          refine TL_e rfl (Ef_call (iwritten_c (p := x31.1.1) (r3 := x31.1.2.1) (r4 := x31.1.2.2.1) (r5 := x31.1.2.2.2) (sa := x31.2.1.a) (sc := x31.2.1.c) (ls := x31.2.1.ls) (rt := ⟨none, 0, 0⟩) (num := num) (mk := mk) (slot := slot) (V := V) (ps := st.ps) (c := st.c) (ts := st.ts) (d := st.d) (fp := st.fp) hIV hmk (reg := 0)) rfl (fun x46 => ?_))
          refine TL_pure (fun h46 => ?_)
          refine TL_q (Qt_move (.tuple _) rfl) rfl ?_
          refine TL_q (Qt_extract rfl) rfl ?_
          refine TL_q (Qt_extract rfl) rfl ?_
          refine TL_q (Qt_extract rfl) rfl ?_
          refine TL_e rfl (Ef_allocN (fun b10 => ?_))
          refine TL_n (Ef_storeN rfl rfl (?_))
          refine TL_q (Qt_assign (.slice _ _ _) rfl) rfl ?_
          refine TL_q (Qt_assign (.bool _) rfl) rfl ?_
          refine TL_nil ?_
          refine X_then ?_
          refine T_seq ?_
          refine T_seq ?_
          refine T_region ?_
          refine TL_q (Qt_indexAddr_arrC (sz := 1) 1 1 rfl rfl Tryd.underlying53 rfl rfl rfl rfl) rfl ?_
          refine TL_q (Qt_load1 rfl) rfl ?_
          refine TL_q (Qt_len_slice rfl Tryd.underlying52) rfl ?_
          refine TL_q (Qt_move (.int .i64 _) rfl) rfl ?_
          refine TL_nil ?_
          refine X_then ?_
          refine T_block ?_
          refine T_loop [14, 53, 54, 55, 56, 57, 58, 59, 60, 61] [53] (fun us H' => ∃ (j : Nat) (su : IS) (U : List VD), us = [.int .i64 (j : Int)] ∧ blk x31.1.1 (.cells (InstV.mk (KeysV.mk ⟨x31.2.1.a, x31.2.1.c, x31.2.1.ls⟩ ⟨none, 0, 0⟩) (ViewV.mk num (mk : Int)) slot (some x31.1.2.1) (some x31.1.2.2.1) (some x31.1.2.2.2)).cells 91 (0, 0)) :: blk x31.1.2.2.1 (mapO encB BS.val su.ps su.c) :: blk x31.1.2.2.2 (mapO encT encM su.ts su.d) :: eachA su.fp ((su.ps : PMI).map (·.v)) :: blk b10 (.cells (hlist (x46.1.1.getD (zeroV 32))).toArray 26 (0, 0)) :: blk b3 (.cells (ViewV.mk num (mk : Int)).cells 24 (0, 0)) :: blk b5 (.cells tv.cells 53 (0, 0)) :: dat x31.2.2 (Deep.leads (PS.mk x31.2.1.a x31.2.1.c x31.2.1.ls)) :: H = H' ∧ j ≤ tv.q.ls.length ∧ (IsI num slot U su.ps su.c su.ts su.d) ∧ (SOk (x31.2.1.ls.map BS.l) num mk slot U) ∧ (∀ v ∈ V, v ∈ U)) (fun us => match us with | .int _ i :: _ => tv.q.ls.length - i.toNat | _ => 0) ⟨0, st, V, rfl, rfl, by omega, hIV, hokV, fun _ h => h⟩ (Subs.st inferInstance) ?_
          rintro τ1 _ _  ⟨j, su, U, rfl, rfl, hj0, hIU, hokU, hsub⟩ _
          refine T_seq ?_
          refine T_region ?_
          refine TL_q (Qt_lss rfl rfl) rfl ?_
          refine TL_nil ?_
          refine X_then ?_
          refine T_seq ?_
          refine T_cond rfl (fun h54 => ?_) (fun h54 => ?_)
          ·
            have p54 := h54
            try simp only [decide_eq_true_eq, decide_eq_false_iff_not, Bool.not_eq_true', Bool.not_eq_false', Option.isNone_iff_eq_none, ne_eq, Decidable.not_not, Int.not_lt, Int.not_le] at p54
            have hk : j < tv.q.ls.length := by omega
            refine T_skip ?_
            refine X_then ?_
            refine T_seq ?_
            refine T_block ?_
            refine T_seq ?_
            refine T_region ?_
            refine TL_q (Qt_indexN rfl rfl (by omega) (by omega)) rfl ?_
            refine TL_q (Qt_val (Qt_loadRN 2 tv.q.ls[j].list rfl (flat_slice _ 2 ActV.list_len tv.q.ls j hk) (ActV.list_len _) (by decide)) (show Value.agg tv.q.ls[j].list.toArray = Value.agg tv.q.ls[j].cells from rfl)) rfl ?_
            refine TL_e rfl (Ef_allocN (fun b14 => ?_))
            refine TL_n (Ef_storeN rfl rfl (?_))
            refine TL_nil ?_
            refine X_then ?_
            refine T_region ?_
            refine TL_q (Qt_move (.pointer _) rfl) rfl ?_
            refine TL_q (Qt_fieldAddr 1 rfl rfl) rfl ?_
            refine TL_q (Qt_load1 rfl) rfl ?_
            have := rq tv.q.ls[j] (List.getElem_mem hk)
            refine TL_conv (fun w hw => (Subs.st inferInstance w hw : St w0 (blk x31.1.1 (.cells (InstV.mk (KeysV.mk ⟨x31.2.1.a, x31.2.1.c, x31.2.1.ls⟩ ⟨none, 0, 0⟩) (ViewV.mk num (mk : Int)) slot (some x31.1.2.1) (some x31.1.2.2.1) (some x31.1.2.2.2)).cells 91 (0, 0)) :: blk x31.1.2.2.1 (mapO encB BS.val su.ps su.c) :: blk x31.1.2.2.2 (mapO encT encM su.ts su.d) :: eachA su.fp ((su.ps : PMI).map (·.v)) :: blk b14 (.cells tv.q.ls[j].cells 58 (0, 0)) :: blk b10 (.cells (hlist (x46.1.1.getD (zeroV 32))).toArray 26 (0, 0)) :: blk b3 (.cells (ViewV.mk num (mk : Int)).cells 24 (0, 0)) :: blk b5 (.cells tv.cells 53 (0, 0)) :: dat x31.2.2 (Deep.leads (PS.mk x31.2.1.a x31.2.1.c x31.2.1.ls)) :: H) w)) ?_
            refine TL_e rfl (Ef_call (take_c (p := x31.1.1) (r3 := x31.1.2.1) (r4 := x31.1.2.2.1) (r5 := x31.1.2.2.2) (sa := x31.2.1.a) (sc := x31.2.1.c) (ls := x31.2.1.ls) (rt := ⟨none, 0, 0⟩) (num := num) (mk := mk) (slot := slot) (V := U) (ps := su.ps) (c := su.c) (ts := su.ts) (d := su.d) (fp := su.fp) (l := tv.q.ls[j].b.l) hIU hmk (fun x hx => (keyT_small (h31.trans hk28)).2 x hx) (by have := hsq.2 tv.q.ls[j] (List.getElem_mem hk); omega)) rfl (fun x60 => ?_))
            refine TL_pure (fun h60 => ?_)
            refine TL_nil ?_
            refine X_block ?_
            refine X_then ?_
            refine T_region ?_
            first
              | refine TL_q (Qt_add rfl rfl (by omega) (by omega)) rfl ?_
              | refine TL_q (Qt_addw rfl rfl) rfl ?_
            refine TL_q (Qt_move (.int .i64 _) rfl) rfl ?_
            refine TL_nil ?_
            apply X_loop
            case ha => exact (by repeat (first | with_reducible exact agree_refl | refine agree_upd rfl ?_ | refine agree_mix rfl ?_ | refine agree_setAll rfl ?_))
            case hI => exact ⟨j + 1, x60, (takeI (x31.2.1.ls.map BS.l) num mk slot U tv.q.ls[j].b.l).2, rfl, rfl, by omega, h60, (takeI_ok hokU _).1, fun v hv => (takeI_ok hokU _).2 v (hsub v hv)⟩
            case hm => exact by show tv.q.ls.length - (j + 1 : Int).toNat < tv.q.ls.length - (j : Int).toNat; omega
            case hH => exact (Subs.st inferInstance)
          ·
            have p54 := h54
            try simp only [decide_eq_true_eq, decide_eq_false_iff_not, Bool.not_eq_true', Bool.not_eq_false', Option.isNone_iff_eq_none, ne_eq, Decidable.not_not, Int.not_lt, Int.not_le] at p54
            refine T_exit ?_
            refine X_then_exit ?_
            refine X_loop_exit ?_
            refine X_block_exit ?_
            refine X_then ?_
            refine T_seq ?_
            refine T_region ?_
            refine TL_q (Qt_move (.pointer _) rfl) rfl ?_
            refine TL_conv (fun w hw => (Subs.st inferInstance w hw : St w0 (blk x31.1.1 (.cells (InstV.mk (KeysV.mk ⟨x31.2.1.a, x31.2.1.c, x31.2.1.ls⟩ ⟨none, 0, 0⟩) (ViewV.mk num (mk : Int)) slot (some x31.1.2.1) (some x31.1.2.2.1) (some x31.1.2.2.2)).cells 91 (0, 0)) :: blk x31.1.2.2.1 (mapO encB BS.val su.ps su.c) :: blk x31.1.2.2.2 (mapO encT encM su.ts su.d) :: eachA su.fp ((su.ps : PMI).map (·.v)) :: blk b10 (.cells (hlist (x46.1.1.getD (zeroV 32))).toArray 26 (0, 0)) :: blk b3 (.cells (ViewV.mk num (mk : Int)).cells 24 (0, 0)) :: blk b5 (.cells tv.cells 53 (0, 0)) :: dat x31.2.2 (Deep.leads (PS.mk x31.2.1.a x31.2.1.c x31.2.1.ls)) :: H) w)) ?_
            refine TL_e rfl (Ef_call (iwritten_c (p := x31.1.1) (r3 := x31.1.2.1) (r4 := x31.1.2.2.1) (r5 := x31.1.2.2.2) (sa := x31.2.1.a) (sc := x31.2.1.c) (ls := x31.2.1.ls) (rt := ⟨none, 0, 0⟩) (num := num) (mk := mk) (slot := slot) (V := U) (ps := su.ps) (c := su.c) (ts := su.ts) (d := su.d) (fp := su.fp) hIU hmk (reg := 0)) rfl (fun x64 => ?_))
            refine TL_pure (fun h64 => ?_)
            have hstay := stays_law hmk hokV hokU hsub h46 h64
            refine TL_q (Qt_move (.tuple _) rfl) rfl ?_
            refine TL_q (Qt_extract rfl) rfl ?_
            refine TL_q (Qt_extract rfl) rfl ?_
            refine TL_q (Qt_extract rfl) rfl ?_
            refine TL_e rfl (Ef_allocN (fun b15 => ?_))
            refine TL_n (Ef_storeN rfl rfl (?_))
            refine TL_q (Qt_assign (.slice _ _ _) rfl) rfl ?_
            refine TL_q (Qt_assign (.bool _) rfl) rfl ?_
            refine TL_nil ?_
            refine X_then ?_
            refine T_seq ?_
            refine T_region ?_
            refine TL_q (Qt_move (.bool _) rfl) rfl ?_
            refine TL_q (Qt_not rfl) rfl ?_
            refine TL_q (Qt_move (.bool _) rfl) rfl ?_
            refine TL_split 70 rfl (fun h70 => ?_) (fun h70 => ?_)
            ·
              have p70 := h70
              try simp only [decide_eq_true_eq, decide_eq_false_iff_not, Bool.not_eq_true', Bool.not_eq_false', Option.isNone_iff_eq_none, ne_eq, Decidable.not_not, Int.not_lt, Int.not_le] at p70
              refine TL_pass rfl rfl h70 rfl ?_
              refine TL_pass rfl rfl h70 rfl ?_
              refine TL_passU rfl rfl rfl ?_
              refine TL_passU rfl rfl rfl ?_
              refine TL_passU rfl rfl rfl ?_
              refine TL_pass rfl rfl h70 rfl ?_
              refine TL_pass rfl rfl h70 rfl ?_
              refine TL_passU rfl rfl rfl ?_
              refine TL_passU rfl rfl rfl ?_
              refine TL_passU rfl rfl rfl ?_
              refine TL_passU rfl rfl rfl ?_
              refine TL_passU rfl rfl rfl ?_
              refine TL_pass rfl rfl h70 rfl ?_
              refine TL_q (Qt_pick_t (.bool _) rfl h70 rfl) rfl ?_
              refine TL_q (Qt_assign (.bool _) rfl) rfl ?_
              refine TL_nil ?_
              refine X_then ?_
              refine T_ret ?_
              refine X_ret () [.bool true] Tryd.results7 ⟨congrArg Value.bool ?_, trivial⟩ rfl (Subs.st inferInstance)
              cases hy : x46.1.1 with
              | none => simp_all
              | some hh =>
                obtain ⟨e1, e2⟩ := hstay hh hy
                first | (simp_all; done) | (simp_all; omega)
            ·
              have p70 := h70
              try simp only [decide_eq_true_eq, decide_eq_false_iff_not, Bool.not_eq_true', Bool.not_eq_false', Option.isNone_iff_eq_none, ne_eq, Decidable.not_not, Int.not_lt, Int.not_le] at p70
              refine TL_take rfl rfl h70 ?_
              refine TL_q (Qt_move (.bool _) rfl) rfl ?_
              refine TL_take rfl rfl h70 ?_
              refine TL_q (Qt_move (.bool _) rfl) rfl ?_
              refine TL_split 72 rfl (fun h72 => ?_) (fun h72 => ?_)
              ·
                have p72 := h72
                try simp only [decide_eq_true_eq, decide_eq_false_iff_not, Bool.not_eq_true', Bool.not_eq_false', Option.isNone_iff_eq_none, ne_eq, Decidable.not_not, Int.not_lt, Int.not_le] at p72
                refine TL_take rfl rfl h72 ?_
                refine TL_q (Qt_loadN rfl rfl) rfl ?_
                refine TL_take rfl rfl h72 ?_
                refine TL_q (Qt_loadN rfl rfl) rfl ?_
                refine TL_take rfl rfl h72 ?_
                refine TL_q (Qt_agg_eql rfl rfl (by kernel_rfl)) rfl ?_
                refine TL_take rfl rfl h70 ?_
                refine TL_q (Qt_pick_t (.bool _) rfl h72 rfl) rfl ?_
                refine TL_take rfl rfl h70 ?_
                refine TL_q (Qt_move (.bool _) rfl) rfl ?_
                refine TL_split 77 rfl (fun h77 => ?_) (fun h77 => ?_)
                ·
                  have p77 := h77
                  try simp only [decide_eq_true_eq, decide_eq_false_iff_not, Bool.not_eq_true', Bool.not_eq_false', Option.isNone_iff_eq_none, ne_eq, Decidable.not_not, Int.not_lt, Int.not_le] at p77
                  refine TL_take rfl rfl h77 ?_
                  refine TL_q (Qt_move (.slice _ _ _) rfl) rfl ?_
                  refine TL_take rfl rfl h77 ?_
                  refine TL_q (Qt_len_slice rfl Tryd.underlying28) rfl ?_
                  refine TL_take rfl rfl h77 ?_
                  refine TL_q (Qt_move (.slice _ _ _) rfl) rfl ?_
                  refine TL_take rfl rfl h77 ?_
                  refine TL_q (Qt_len_slice rfl Tryd.underlying28) rfl ?_
                  refine TL_take rfl rfl h77 ?_
                  refine TL_q (Qt_geq rfl rfl) rfl ?_
                  refine TL_take rfl rfl h70 ?_
                  refine TL_q (Qt_pick_t (.bool _) rfl h77 rfl) rfl ?_
                  refine TL_q (Qt_pick_f (.bool _) rfl h70 rfl) rfl ?_
                  refine TL_q (Qt_assign (.bool _) rfl) rfl ?_
                  refine TL_nil ?_
                  refine X_then ?_
                  refine T_ret ?_
                  refine X_ret () [.bool true] Tryd.results7 ⟨congrArg Value.bool ?_, trivial⟩ rfl (Subs.st inferInstance)
                  cases hy : x46.1.1 with
                  | none => simp_all
                  | some hh =>
                    obtain ⟨e1, e2⟩ := hstay hh hy
                    first | (simp_all; done) | (simp_all; omega)
                ·
                  have p77 := h77
                  try simp only [decide_eq_true_eq, decide_eq_false_iff_not, Bool.not_eq_true', Bool.not_eq_false', Option.isNone_iff_eq_none, ne_eq, Decidable.not_not, Int.not_lt, Int.not_le] at p77
                  refine TL_pass rfl rfl h77 rfl ?_
                  refine TL_pass rfl rfl h77 rfl ?_
                  refine TL_pass rfl rfl h77 rfl ?_
                  refine TL_pass rfl rfl h77 rfl ?_
                  refine TL_pass rfl rfl h77 rfl ?_
                  refine TL_take rfl rfl h70 ?_
                  refine TL_q (Qt_pick_f (.bool _) rfl h77 rfl) rfl ?_
                  refine TL_q (Qt_pick_f (.bool _) rfl h70 rfl) rfl ?_
                  refine TL_q (Qt_assign (.bool _) rfl) rfl ?_
                  refine TL_nil ?_
                  refine X_then ?_
                  refine T_ret ?_
                  refine X_ret () [.bool true] Tryd.results7 ⟨congrArg Value.bool ?_, trivial⟩ rfl (Subs.st inferInstance)
                  cases hy : x46.1.1 with
                  | none => simp_all
                  | some hh =>
                    obtain ⟨e1, e2⟩ := hstay hh hy
                    first | (simp_all; done) | (simp_all; omega)
              ·
                have p72 := h72
                try simp only [decide_eq_true_eq, decide_eq_false_iff_not, Bool.not_eq_true', Bool.not_eq_false', Option.isNone_iff_eq_none, ne_eq, Decidable.not_not, Int.not_lt, Int.not_le] at p72
                refine TL_pass rfl rfl h72 rfl ?_
                refine TL_pass rfl rfl h72 rfl ?_
                refine TL_pass rfl rfl h72 rfl ?_
                refine TL_take rfl rfl h70 ?_
                refine TL_q (Qt_pick_f (.bool _) rfl h72 rfl) rfl ?_
                refine TL_take rfl rfl h70 ?_
                refine TL_q (Qt_move (.bool _) rfl) rfl ?_
                refine TL_pass rfl rfl rfl rfl ?_
                refine TL_pass rfl rfl rfl rfl ?_
                refine TL_pass rfl rfl rfl rfl ?_
                refine TL_pass rfl rfl rfl rfl ?_
                refine TL_pass rfl rfl rfl rfl ?_
                refine TL_take rfl rfl h70 ?_
                refine TL_q (Qt_pick_f (.bool _) rfl rfl rfl) rfl ?_
                refine TL_q (Qt_pick_f (.bool _) rfl h70 rfl) rfl ?_
                refine TL_q (Qt_assign (.bool _) rfl) rfl ?_
                refine TL_nil ?_
                refine X_then ?_
                refine T_ret ?_
                refine X_ret () [.bool true] Tryd.results7 ⟨congrArg Value.bool ?_, trivial⟩ rfl (Subs.st inferInstance)
                cases hy : x46.1.1 with
                | none => simp_all
                | some hh =>
                  obtain ⟨e1, e2⟩ := hstay hh hy
                  first | (simp_all; done) | (simp_all; omega)
end Go.Proofs.YtgjkgdjjolnhdaaDoor
