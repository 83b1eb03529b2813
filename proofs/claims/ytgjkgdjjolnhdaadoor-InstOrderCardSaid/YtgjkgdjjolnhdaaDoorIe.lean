/- Votes of one slot: the order in which they come; the law InstOrder. -/
import Derived.Test.YtgjkgdjjolnhdaaDoorId
namespace Go.Proofs.YtgjkgdjjolnhdaaDoor
open Go.RowKit Go.Sx
set_option maxRecDepth 100000
set_option linter.unusedSimpArgs false
set_option linter.unusedVariables false
theorem getP_of {K : List (List UInt8)} {num : Int} {mk : Nat} {slot : Int} {V : List VD} (h : SOk K num mk slot V) {v : VD} (hv : v ∈ V) : getP V (balD v.1) = some v.2 := by
  cases hg : getP V (balD v.1) with
  | none => exact absurd (List.mem_map.2 ⟨v, hv, rfl⟩) (getP_none (by rw [hg]; rfl))
  | some l =>
    obtain ⟨u, hu, hb, rfl⟩ := getP_mem hg
    rw [nodup_inj h.nd hu hv hb]
theorem SOk.sub {K : List (List UInt8)} {num : Int} {mk : Nat} {slot : Int} {V U : List VD} (h : SOk K num mk slot V) (hs : ∀ v ∈ U, v ∈ V) (hn : (U.map fun v => balD v.1).Nodup) : SOk K num mk slot U := ⟨hn, fun v hv => h.ok v (hs v hv)⟩
theorem SOk.drop {K : List (List UInt8)} {num : Int} {mk : Nat} {slot : Int} {V : List VD} (h : SOk K num mk slot V) (n : Nat) : SOk K num mk slot ((V.drop n).reverse) := by
  refine h.sub (fun v hv => List.mem_of_mem_drop (List.mem_reverse.1 hv)) ?_
  rw [List.map_reverse, List.map_drop]
  exact List.pairwise_reverse.2 ((h.nd.sublist (List.drop_sublist ..)).imp fun h => h.symm)
theorem drop_rev (V : List VD) (m : Nat) (hm : m < V.length) : (V.drop m).reverse = (V.drop (m + 1)).reverse ++ [V[m]] := by
  rw [List.drop_eq_getElem_cons hm, List.reverse_cons]
theorem take_back {K : List (List UInt8)} {num : Int} {mk : Nat} {slot : Int} {V : List VD} (h : SOk K num mk slot V) {m : Nat} (hm : m < V.length) : takeI K num mk slot ((V.drop (m + 1)).reverse) V[m].2 = (0, (V.drop m).reverse) := by
  have hv := h.ok V[m] (List.getElem_mem hm)
  obtain ⟨h1, h2, h3, h4, h5, h6, h7⟩ := hv
  have hno : (getP ((V.drop (m + 1)).reverse) (balD V[m].1)).isSome = false := by
    rw [Bool.eq_false_iff]
    intro hs
    obtain ⟨l, hl⟩ := Option.isSome_iff_exists.1 hs
    obtain ⟨u, hu, hb, -⟩ := getP_mem hl
    have hu2 : u ∈ V.drop (m + 1) := List.mem_reverse.1 hu
    have hd := h.drop m
    rw [drop_rev V m hm] at hd
    have hn := hd.nd
    rw [List.map_append, List.nodup_append] at hn
    exact hn.2.2 _ (List.mem_map.2 ⟨u, hu, rfl⟩) (balD V[m].1) (by simp) hb
  unfold takeI
  rw [h7, if_neg (fun h => h rfl), if_neg (by simp only; omega), if_neg (fun h => h h2), if_neg (fun h => h h3), if_neg (by rw [hno]; decide), drop_rev V m hm]
theorem take_zero {K : List (List UInt8)} {num : Int} {mk : Nat} {slot : Int} {V : List VD} {l : List UInt8} (h : (takeI K num mk slot V l).1 = 0) : (takeI K num mk slot V l).2.map (·.2) = V.map (·.2) ++ [l] := by
  rcases takeI_cases K num mk slot V l with ⟨-, h1⟩ | ⟨h1, -⟩
  · exact absurd h h1
  · rw [h1]; simp
theorem take_more {K : List (List UInt8)} {num : Int} {mk : Nat} {slot : Int} {V : List VD} {l : List UInt8} (h : ¬ (takeI K num mk slot V l).1 = 0) : (takeI K num mk slot V l).2 = V := by
  rcases takeI_cases K num mk slot V l with ⟨h1, -⟩ | ⟨h1, -⟩
  · exact h1
  · rw [h1] at h; exact absurd rfl h
section
variable {K : List (List UInt8)} {num : Int} {mk : Nat} {slot : Int} {V U : List VD} (h : SOk K num mk slot V) (h' : SOk K num mk slot U) (hs : ∀ v, v ∈ V ↔ v ∈ U)
include h h' hs
omit h h' in
theorem msk_same (t : TalV) : mskI num slot V t = mskI num slot U t := by
  apply Nat.eq_of_testBit_eq
  intro i
  unfold mskI
  rw [Bool.eq_iff_iff, setD_bit, setD_bit]
  constructor
  · rintro ⟨m, hm, hc⟩
    obtain ⟨v, hv, rfl⟩ := List.mem_map.1 hm
    exact ⟨v.1, List.mem_map.2 ⟨v, (hs v).1 hv, rfl⟩, hc⟩
  · rintro ⟨m, hm, hc⟩
    obtain ⟨v, hv, rfl⟩ := List.mem_map.1 hm
    exact ⟨v.1, List.mem_map.2 ⟨v, (hs v).2 hv, rfl⟩, hc⟩
theorem getP_same (k : BalV) : getP V k = getP U k := by
  cases hg : getP V k with
  | some l =>
    obtain ⟨v, hv, rfl, rfl⟩ := getP_mem hg
    exact (getP_of h' ((hs v).1 hv)).symm
  | none =>
    cases hg' : getP U k with
    | none => rfl
    | some l =>
      obtain ⟨v, hv, rfl, rfl⟩ := getP_mem hg'
      rw [getP_of h ((hs v).2 hv)] at hg; cases hg
omit h h' in
theorem qual_same (t : TalV) : qualI num mk slot V t = qualI num mk slot U t := by rw [qualI, qualI, msk_same hs]
theorem list_same (t : TalV) : listI num slot V t = listI num slot U t := by
  rw [listI, listI, msk_same hs]
  exact List.map_congr_left fun i _ => by rw [partI, partI, getP_same h h' hs]
/-- What is told doesn't hang on the order. -/
theorem order_law (hmk : mk < 65536) {kind reg : Int} {y z : Option (Vector UInt8 32)} {L M : List (List UInt8)} (hy : QrI num mk slot V kind reg y L) (hz : QrI num mk slot U kind reg z M) : y = z ∧ L = M := by
  cases y with
  | none =>
    obtain ⟨h1, rfl⟩ := hy
    cases z with
    | none => exact ⟨rfl, hz.2.symm⟩
    | some g => have := h1 g; rw [qual_same hs, hz.1] at this; cases this
  | some g =>
    obtain ⟨h1, rfl⟩ := hy
    cases z with
    | none => have := hz.1 g; rw [← qual_same hs, h1] at this; cases this
    | some g' =>
      obtain ⟨h2, rfl⟩ := hz
      rw [← qual_same hs] at h2
      obtain rfl := qual_one hmk h h1 h2
      exact ⟨rfl, list_same h h' hs _⟩
theorem order_acc (hmk : mk < 65536) {r s : Nat} {y z : Option (Vector UInt8 32)} {L M : List (List UInt8)} (hy : AcI num mk slot V r y L) (hz : AcI num mk slot U s z M) : r = s ∧ y = z ∧ L = M := by
  have hq : ∀ {V : List VD} {r : Nat} {y : Option (Vector UInt8 32)} {L : List (List UInt8)}, y.isSome = true → QrI num mk slot V 3 (r : Int) y L → ∃ g, qualI num mk slot V ⟨3, (r : Int), g⟩ = true := by
    intro V r y L hs hq
    cases y with
    | none => cases hs
    | some g => exact ⟨g, hq.1⟩
  rcases hy with ⟨y1, y2, y3, y4⟩ | ⟨rfl, rfl, rfl, y4⟩
  · obtain ⟨g, hg⟩ := hq y1 y3
    rcases hz with ⟨z1, z2, z3, z4⟩ | ⟨rfl, rfl, rfl, z4⟩
    · obtain ⟨g', hg'⟩ := hq z1 z3
      obtain rfl : r = s := by
        rcases Nat.lt_trichotomy r s with hl | hl | hl
        · have := z4 r hl g; rw [← qual_same hs, hg] at this; cases this
        · exact hl
        · have := y4 s hl g'; rw [qual_same hs, hg'] at this; cases this
      exact ⟨rfl, order_law h h' hs hmk y3 z3⟩
    · have := z4 r y2 g; rw [← qual_same hs, hg] at this; cases this
  · rcases hz with ⟨z1, z2, z3, z4⟩ | ⟨rfl, rfl, rfl, z4⟩
    · obtain ⟨g', hg'⟩ := hq z1 z3
      have := y4 s z2 g'; rw [qual_same hs, hg'] at this; cases this
    · exact ⟨rfl, rfl, rfl⟩
end
theorem listI_le {V : List VD} {num slot : Int} {t : TalV} (h : ∀ v ∈ V, v.2.length ≤ 4294960000) : (listI num slot V t).length ≤ 16 ∧ ∀ x ∈ listI num slot V t, x.length ≤ 4294960000 := by
  rw [listI]
  refine ⟨by rw [List.length_map]; exact memK_len _, fun x hx => ?_⟩
  obtain ⟨i, -, rfl⟩ := List.mem_map.1 hx
  exact partI_le h
theorem Qr_le {V : List VD} {num slot : Int} {mk : Nat} {kind reg : Int} {y : Option (Vector UInt8 32)} {ls : List BS} (h : QrI num mk slot V kind reg y (ls.map BS.l)) (hb : ∀ v ∈ V, v.2.length ≤ 4294960000) : ls.length ≤ 16 ∧ ∀ x ∈ ls, x.l.length ≤ 4294960000 := by
  suffices hh : (ls.map BS.l).length ≤ 16 ∧ ∀ x ∈ ls.map BS.l, x.length ≤ 4294960000 from ⟨by simpa using hh.1, fun x hx => hh.2 _ (List.mem_map.2 ⟨x, hx, rfl⟩)⟩
  cases y with
  | none => rw [h.2]; simp
  | some g => rw [h.2]; exact listI_le hb
theorem Ac_le {V : List VD} {num slot : Int} {mk : Nat} {r : Nat} {y : Option (Vector UInt8 32)} {ls : List BS} (h : AcI num mk slot V r y (ls.map BS.l)) (hb : ∀ v ∈ V, v.2.length ≤ 4294960000) : ls.length ≤ 16 ∧ ∀ x ∈ ls, x.l.length ≤ 4294960000 := by
  rcases h with ⟨-, -, h, -⟩ | ⟨-, -, h, -⟩
  · exact Qr_le h hb
  · obtain rfl : ls = [] := by simpa using h
    simp
attribute [local irreducible] openOfK openK getM tagOf popB bruijn sealK keyT takeI listI mskI qualI memK ones16 quorumV

set_option maxHeartbeats 1000000 in
theorem instOrder_c {w0 : World} {H : List SA} [G : Glob w0] {num : Int} {mk : Nat} (hmk : mk < 65536) {slot : Int} {a : Option Addr} {l : List ActV} {c : Nat} [hr : RdC w0 H (.slice a l.length c) 2 (l.flatMap ActV.list)] (rl : ∀ x ∈ l, RdB w0 H (.slice x.b.a x.b.l.length x.b.c) x.b.l) :
    CT Tryd.prog w0 (H) 9 [.agg (ViewV.mk num (mk : Int)).cells, .int .i64 slot, .slice a l.length c] (α := Unit) (fun _ => .bool true) (fun _ => H) := by
  refine CT_intro Tryd.func9 rfl Tryd.ntmps9 rfl ?_
  refine T_seq ?_
  refine T_region ?_
  refine TL_e rfl (Ef_boxN rfl (fun b3 => ?_))
  refine TL_q (Qt_assign (.bool _) rfl) rfl ?_
  refine TL_nil ?_
  refine X_then ?_
  refine T_seq ?_
  refine T_seq ?_
  refine T_region ?_
  refine TL_e rfl (Ef_call (wakes18_c) rfl (fun x28 => ?_))
  refine TL_q (Qt_not rfl) rfl ?_
  refine TL_nil ?_
  refine X_then ?_
  refine T_cond rfl (fun h29 => ?_) (fun h29 => ?_)
  ·
    have p29 := h29
    try simp only [decide_eq_true_eq, decide_eq_false_iff_not, Bool.not_eq_true', Bool.not_eq_false', Option.isNone_iff_eq_none, ne_eq, Decidable.not_not, Int.not_lt, Int.not_le] at p29
    cases h29
  ·
    have p29 := h29
    try simp only [decide_eq_true_eq, decide_eq_false_iff_not, Bool.not_eq_true', Bool.not_eq_false', Option.isNone_iff_eq_none, ne_eq, Decidable.not_not, Int.not_lt, Int.not_le] at p29
    refine T_skip ?_
    refine X_then ?_
    refine T_seq ?_
    refine T_seq ?_
    refine T_region ?_
    refine TL_q (Qt_move (.slice _ _ _) rfl) rfl ?_
    refine TL_e rfl (Ef_call (long18_c (l := l)) rfl (fun x31 => ?_))
    refine TL_pure (fun hs31 => ?_)
    refine TL_nil ?_
    refine X_then ?_
    refine T_cond rfl (fun h31 => ?_) (fun h31 => ?_)
    ·
      have p31 := h31
      try simp only [decide_eq_true_eq, decide_eq_false_iff_not, Bool.not_eq_true', Bool.not_eq_false', Option.isNone_iff_eq_none, ne_eq, Decidable.not_not, Int.not_lt, Int.not_le] at p31
      refine T_seq ?_
      refine T_region ?_
      refine TL_q (Qt_assign (.bool _) rfl) rfl ?_
      refine TL_nil ?_
      refine X_then ?_
      refine T_ret ?_
      refine X_then_ret ?_
      exact X_ret () [_] Tryd.results9 ⟨rfl, trivial⟩ rfl (Subs.st inferInstance)
    ·
      have p31 := h31
      try simp only [decide_eq_true_eq, decide_eq_false_iff_not, Bool.not_eq_true', Bool.not_eq_false', Option.isNone_iff_eq_none, ne_eq, Decidable.not_not, Int.not_lt, Int.not_le] at p31
      have hsl : ShortI l := hs31 h31
      have hl60 := hsl.1
      refine T_skip ?_
      refine X_then ?_
      refine T_seq ?_
      refine T_draw (blk b3 (.cells (ViewV.mk num (mk : Int)).cells 24 (0, 0)) :: H) [(1, true), (2, true), (5, true), (6, true), (0, false), (3, false), (4, false), (7, false), (8, true), (9, true)] (by kernel_rfl) (by kernel_rfl) rfl (by kernel_rfl) (Subs.st inferInstance) (fun hns0 => ?_)
      refine DL_q hns0 rfl (Qt_loadN rfl rfl) rfl ?_
      refine DL_q hns0 rfl (Qt_move (.int .i64 _) rfl) rfl ?_
      refine DL_q hns0 rfl (Qt_loadN rfl rfl) rfl ?_
      refine DL_q hns0 rfl (Qt_move (.int .i64 _) rfl) rfl ?_
      refine DL_e rfl rfl (Ef_call (table18_c) rfl (fun x32 => ⟨(Subs.st inferInstance), ?_⟩))
      refine DL_pure (fun hkx32 => ?_)
      refine DL_e rfl rfl (Ef_call (instNew_c (sa := x32.1.a) (sc := x32.1.c) (ls := x32.1.ls) (num := num) (mk := mk) (slot := slot) (keyT_small hkx32).2 (by have := (keyT_small hkx32).1; omega)) rfl (fun x35 => ⟨(Subs.st inferInstance), ?_⟩))
      refine DL_pure (fun h35 => ?_)
      have hKx : x35.2.1.ls.map BS.l = keyT 16 := h35.trans hkx32
      refine DL_e rfl rfl (Ef_call (table18_c) rfl (fun x36 => ⟨(Subs.st inferInstance), ?_⟩))
      refine DL_pure (fun hkx36 => ?_)
      refine DL_e rfl rfl (Ef_call (instNew_c (sa := x36.1.a) (sc := x36.1.c) (ls := x36.1.ls) (num := num) (mk := mk) (slot := slot) (keyT_small hkx36).2 (by have := (keyT_small hkx36).1; omega)) rfl (fun x39 => ⟨(Subs.st inferInstance), ?_⟩))
      refine DL_pure (fun h39 => ?_)
      have hKy : x39.2.1.ls.map BS.l = keyT 16 := h39.trans hkx36
      refine DL_q hns0 rfl (Qt_assign (.pointer _) rfl) rfl ?_
      refine DL_q hns0 rfl (Qt_assign (.pointer _) rfl) rfl ?_
      refine DL_nil ?_
      refine X_then ?_
      refine T_seq ?_
      refine T_region ?_
      refine TL_q (Qt_assign (.slice _ _ _) rfl) rfl ?_
      refine TL_nil ?_
      refine X_then ?_
      refine T_seq ?_
      refine T_seq ?_
      refine T_region ?_
      refine TL_q (Qt_move (.slice _ _ _) rfl) rfl ?_
      refine TL_q (Qt_len_slice rfl Tryd.underlying52) rfl ?_
      refine TL_q (Qt_move (.int .i64 _) rfl) rfl ?_
      refine TL_nil ?_
      refine X_then ?_
      refine T_block ?_
      refine T_loop [9, 11, 42, 43, 44, 45, 46, 47, 48, 49, 50, 51, 52, 53, 54, 55, 56] [42, 9] (fun us H' => ∃ (k : Nat) (st : IS) (V : List VD) (a2 : Option Addr) (c2 : Nat) (ks : List BS), us = [.int .i64 (k : Int), .slice a2 ks.length c2] ∧ blk x35.1.1 (.cells (InstV.mk (KeysV.mk ⟨x35.2.1.a, x35.2.1.c, x35.2.1.ls⟩ ⟨none, 0, 0⟩) (ViewV.mk num (mk : Int)) slot (some x35.1.2.1) (some x35.1.2.2.1) (some x35.1.2.2.2)).cells 91 (0, 0)) :: blk x35.1.2.2.1 (mapO encB BS.val st.ps st.c) :: blk x35.1.2.2.2 (mapO encT encM st.ts st.d) :: eachA st.fp ((st.ps : PMI).map (·.v)) :: row (.slice a2 (ks).length c2) 27 1 ((ks).map BS.val) :: blk x39.1.1 (.cells (InstV.mk (KeysV.mk ⟨x39.2.1.a, x39.2.1.c, x39.2.1.ls⟩ ⟨none, 0, 0⟩) (ViewV.mk num (mk : Int)) slot (some x39.1.2.1) (some x39.1.2.2.1) (some x39.1.2.2.2)).cells 91 (0, 0)) :: blk x39.1.2.2.1 (mapO encB BS.val [] 0) :: blk x39.1.2.2.2 (mapO encT encM [] 0) :: eachA [] (([] : PMI).map (·.v)) :: blk b3 (.cells (ViewV.mk num (mk : Int)).cells 24 (0, 0)) :: dat x35.2.2 (Deep.leads (PS.mk x35.2.1.a x35.2.1.c x35.2.1.ls)) :: dat x39.2.2 (Deep.leads (PS.mk x39.2.1.a x39.2.1.c x39.2.1.ls)) :: H = H' ∧ k ≤ l.length ∧ (IsI num slot V st.ps st.c st.ts st.d) ∧ (SOk (keyT 16) num mk slot V) ∧ (ks.map BS.l = V.map (·.2)) ∧ (∀ x ∈ ks, ∃ y ∈ l, x = y.b) ∧ (ks.length ≤ k)) (fun us => match us with | .int _ i :: _ => l.length - i.toNat | _ => 0) ⟨0, ⟨[], 0, [], 0, []⟩, [], none, 0, [], rfl, rfl, by omega, IsI.nil _ _, SOk.nil, rfl, (fun x h => by cases h), Nat.le_refl _⟩ (fun w hw => by
            have h0 : St w0 (blk x35.1.1 (.cells (InstV.mk (KeysV.mk ⟨x35.2.1.a, x35.2.1.c, x35.2.1.ls⟩ ⟨none, 0, 0⟩) (ViewV.mk num (mk : Int)) slot (some x35.1.2.1) (some x35.1.2.2.1) (some x35.1.2.2.2)).cells 91 (0, 0)) :: blk x35.1.2.2.1 (mapO encB BS.val [] 0) :: blk x35.1.2.2.2 (mapO encT encM [] 0) :: eachA [] (([] : PMI).map (·.v)) :: blk x39.1.1 (.cells (InstV.mk (KeysV.mk ⟨x39.2.1.a, x39.2.1.c, x39.2.1.ls⟩ ⟨none, 0, 0⟩) (ViewV.mk num (mk : Int)) slot (some x39.1.2.1) (some x39.1.2.2.1) (some x39.1.2.2.2)).cells 91 (0, 0)) :: blk x39.1.2.2.1 (mapO encB BS.val [] 0) :: blk x39.1.2.2.2 (mapO encT encM [] 0) :: eachA [] (([] : PMI).map (·.v)) :: blk b3 (.cells (ViewV.mk num (mk : Int)).cells 24 (0, 0)) :: dat x35.2.2 (Deep.leads (PS.mk x35.2.1.a x35.2.1.c x35.2.1.ls)) :: dat x39.2.2 (Deep.leads (PS.mk x39.2.1.a x39.2.1.c x39.2.1.ls)) :: H) w := Subs.st inferInstance w hw
            have h1 : St w0 (row (.slice none ([] : List BS).length 0) 27 1 (([] : List BS).map BS.val) :: blk x35.1.1 (.cells (InstV.mk (KeysV.mk ⟨x35.2.1.a, x35.2.1.c, x35.2.1.ls⟩ ⟨none, 0, 0⟩) (ViewV.mk num (mk : Int)) slot (some x35.1.2.1) (some x35.1.2.2.1) (some x35.1.2.2.2)).cells 91 (0, 0)) :: blk x35.1.2.2.1 (mapO encB BS.val [] 0) :: blk x35.1.2.2.2 (mapO encT encM [] 0) :: eachA [] (([] : PMI).map (·.v)) :: blk x39.1.1 (.cells (InstV.mk (KeysV.mk ⟨x39.2.1.a, x39.2.1.c, x39.2.1.ls⟩ ⟨none, 0, 0⟩) (ViewV.mk num (mk : Int)) slot (some x39.1.2.1) (some x39.1.2.2.1) (some x39.1.2.2.2)).cells 91 (0, 0)) :: blk x39.1.2.2.1 (mapO encB BS.val [] 0) :: blk x39.1.2.2.2 (mapO encT encM [] 0) :: eachA [] (([] : PMI).map (·.v)) :: blk b3 (.cells (ViewV.mk num (mk : Int)).cells 24 (0, 0)) :: dat x35.2.2 (Deep.leads (PS.mk x35.2.1.a x35.2.1.c x35.2.1.ls)) :: dat x39.2.2 (Deep.leads (PS.mk x39.2.1.a x39.2.1.c x39.2.1.ls)) :: H) w := h0.addNil 27 1
            exact (Subs.st inferInstance w h1 : St w0 (blk x35.1.1 (.cells (InstV.mk (KeysV.mk ⟨x35.2.1.a, x35.2.1.c, x35.2.1.ls⟩ ⟨none, 0, 0⟩) (ViewV.mk num (mk : Int)) slot (some x35.1.2.1) (some x35.1.2.2.1) (some x35.1.2.2.2)).cells 91 (0, 0)) :: blk x35.1.2.2.1 (mapO encB BS.val [] 0) :: blk x35.1.2.2.2 (mapO encT encM [] 0) :: eachA [] (([] : PMI).map (·.v)) :: row (.slice none ([] : List BS).length 0) 27 1 (([] : List BS).map BS.val) :: blk x39.1.1 (.cells (InstV.mk (KeysV.mk ⟨x39.2.1.a, x39.2.1.c, x39.2.1.ls⟩ ⟨none, 0, 0⟩) (ViewV.mk num (mk : Int)) slot (some x39.1.2.1) (some x39.1.2.2.1) (some x39.1.2.2.2)).cells 91 (0, 0)) :: blk x39.1.2.2.1 (mapO encB BS.val [] 0) :: blk x39.1.2.2.2 (mapO encT encM [] 0) :: eachA [] (([] : PMI).map (·.v)) :: blk b3 (.cells (ViewV.mk num (mk : Int)).cells 24 (0, 0)) :: dat x35.2.2 (Deep.leads (PS.mk x35.2.1.a x35.2.1.c x35.2.1.ls)) :: dat x39.2.2 (Deep.leads (PS.mk x39.2.1.a x39.2.1.c x39.2.1.ls)) :: H) w)) ?_
      rintro τ0 _ _  ⟨k, st, V, a2, c2, ks, rfl, rfl, hk0, hI, hok, hks, hkr, hkn⟩ _
      refine T_seq ?_
      refine T_region ?_
      refine TL_q (Qt_lss rfl rfl) rfl ?_
      refine TL_nil ?_
      refine X_then ?_
      refine T_seq ?_
      refine T_cond rfl (fun h43 => ?_) (fun h43 => ?_)
      ·
        have p43 := h43
        try simp only [decide_eq_true_eq, decide_eq_false_iff_not, Bool.not_eq_true', Bool.not_eq_false', Option.isNone_iff_eq_none, ne_eq, Decidable.not_not, Int.not_lt, Int.not_le] at p43
        have hk : k < l.length := by omega
        refine T_skip ?_
        refine X_then ?_
        refine T_seq ?_
        refine T_block ?_
        refine T_seq ?_
        refine T_region ?_
        refine TL_q (Qt_indexN rfl rfl (by omega) (by omega)) rfl ?_
        refine TL_q (Qt_val (Qt_loadRN 2 l[k].list rfl (flat_slice _ 2 ActV.list_len l k hk) (ActV.list_len _) (by decide)) (show Value.agg l[k].list.toArray = Value.agg l[k].cells from rfl)) rfl ?_
        refine TL_e rfl (Ef_allocN (fun b11 => ?_))
        refine TL_n (Ef_storeN rfl rfl (?_))
        refine TL_nil ?_
        refine X_then ?_
        refine T_seq ?_
        refine T_region ?_
        refine TL_q (Qt_move (.pointer _) rfl) rfl ?_
        refine TL_q (Qt_fieldAddr 1 rfl rfl) rfl ?_
        refine TL_q (Qt_load1 rfl) rfl ?_
        have := rl l[k] (List.getElem_mem hk)
        refine TL_conv (fun w hw => (Subs.st inferInstance w hw : St w0 (blk x35.1.1 (.cells (InstV.mk (KeysV.mk ⟨x35.2.1.a, x35.2.1.c, x35.2.1.ls⟩ ⟨none, 0, 0⟩) (ViewV.mk num (mk : Int)) slot (some x35.1.2.1) (some x35.1.2.2.1) (some x35.1.2.2.2)).cells 91 (0, 0)) :: blk x35.1.2.2.1 (mapO encB BS.val st.ps st.c) :: blk x35.1.2.2.2 (mapO encT encM st.ts st.d) :: eachA st.fp ((st.ps : PMI).map (·.v)) :: blk b11 (.cells l[k].cells 58 (0, 0)) :: row (.slice a2 (ks).length c2) 27 1 ((ks).map BS.val) :: blk x39.1.1 (.cells (InstV.mk (KeysV.mk ⟨x39.2.1.a, x39.2.1.c, x39.2.1.ls⟩ ⟨none, 0, 0⟩) (ViewV.mk num (mk : Int)) slot (some x39.1.2.1) (some x39.1.2.2.1) (some x39.1.2.2.2)).cells 91 (0, 0)) :: blk x39.1.2.2.1 (mapO encB BS.val [] 0) :: blk x39.1.2.2.2 (mapO encT encM [] 0) :: eachA [] (([] : PMI).map (·.v)) :: blk b3 (.cells (ViewV.mk num (mk : Int)).cells 24 (0, 0)) :: dat x35.2.2 (Deep.leads (PS.mk x35.2.1.a x35.2.1.c x35.2.1.ls)) :: dat x39.2.2 (Deep.leads (PS.mk x39.2.1.a x39.2.1.c x39.2.1.ls)) :: H) w)) ?_
        refine TL_e rfl (Ef_call (take_c (p := x35.1.1) (r3 := x35.1.2.1) (r4 := x35.1.2.2.1) (r5 := x35.1.2.2.2) (sa := x35.2.1.a) (sc := x35.2.1.c) (ls := x35.2.1.ls) (rt := ⟨none, 0, 0⟩) (num := num) (mk := mk) (slot := slot) (V := V) (ps := st.ps) (c := st.c) (ts := st.ts) (d := st.d) (fp := st.fp) (l := l[k].b.l) hI hmk (fun x hx => (keyT_small hKx).2 x hx) (by have := hsl.2 l[k] (List.getElem_mem hk); omega)) rfl (fun x49 => ?_))
        rw [hKx]
        refine TL_pure (fun h49 => ?_)
        refine TL_q (Qt_eql rfl rfl) rfl ?_
        refine TL_nil ?_
        refine X_then ?_
        refine T_cond rfl (fun h50 => ?_) (fun h50 => ?_)
        ·
          have p50 := h50
          try simp only [decide_eq_true_eq, decide_eq_false_iff_not, Bool.not_eq_true', Bool.not_eq_false', Option.isNone_iff_eq_none, ne_eq, Decidable.not_not, Int.not_lt, Int.not_le] at p50
          have hz : (takeI (keyT 16) num mk slot V l[k].b.l).1 = 0 := by simpa using h50
          have htz := take_zero hz
          refine T_region ?_
          refine TL_q (Qt_move (.slice _ _ _) rfl) rfl ?_
          refine TL_q (Qt_fieldAddr 1 rfl rfl) rfl ?_
          refine TL_q (Qt_load1 rfl) rfl ?_
          refine TL_e rfl (Ef_slice1 (v := .slice _ _ _) rfl (fun a54 c54 => ?_))
          refine TL_e rfl (Ef_appendP (sv := .slice _ _ _) (xv := .slice _ _ _) l[k].b rfl rfl (by omega) rfl (fun a55 c55 => ?_))
          refine TL_q (Qt_assign (.slice _ _ _) rfl) rfl ?_
          refine TL_nil ?_
          refine X_block ?_
          refine X_then ?_
          refine T_region ?_
          first
            | refine TL_q (Qt_add rfl rfl (by omega) (by omega)) rfl ?_
            | refine TL_q (Qt_addw rfl rfl) rfl ?_
          refine TL_q (Qt_move (.int .i64 _) rfl) rfl ?_
          refine TL_nil ?_
          apply X_loop
          case ha => exact (by repeat (first | with_reducible exact agree_refl | refine agree_upd rfl ?_ | refine agree_mix rfl ?_ | refine agree_setAll rfl ?_))
          case hI => exact by first | exact ⟨k + 1, x49, (takeI (keyT 16) num mk slot V l[k].b.l).2, a55, c55, ks ++ [l[k].b], rfl, rfl, by omega, h49, (takeI_ok hok _).1, by rw [htz, List.map_append, hks]; rfl, fun x hx => by rcases List.mem_append.1 hx with h | h; exact hkr x h; exact ⟨l[k], List.getElem_mem hk, by simpa using h⟩, by simp; omega⟩ | exact ⟨k + 1, x49, (takeI (keyT 16) num mk slot V l[k].b.l).2, a2, c2, ks, rfl, rfl, by omega, h49, (takeI_ok hok _).1, by rw [htz]; exact hks, hkr, by omega⟩
          case hm => exact by show l.length - (k + 1 : Int).toNat < l.length - (k : Int).toNat; omega
          case hH => exact (Subs.st inferInstance)
        ·
          have p50 := h50
          try simp only [decide_eq_true_eq, decide_eq_false_iff_not, Bool.not_eq_true', Bool.not_eq_false', Option.isNone_iff_eq_none, ne_eq, Decidable.not_not, Int.not_lt, Int.not_le] at p50
          have hz : ¬ (takeI (keyT 16) num mk slot V l[k].b.l).1 = 0 := by simpa using h50
          have htz := take_more hz
          refine T_skip ?_
          refine X_block ?_
          refine X_then ?_
          refine T_region ?_
          first
            | refine TL_q (Qt_add rfl rfl (by omega) (by omega)) rfl ?_
            | refine TL_q (Qt_addw rfl rfl) rfl ?_
          refine TL_q (Qt_move (.int .i64 _) rfl) rfl ?_
          refine TL_nil ?_
          apply X_loop
          case ha => exact (by repeat (first | with_reducible exact agree_refl | refine agree_upd rfl ?_ | refine agree_mix rfl ?_ | refine agree_setAll rfl ?_))
          case hI => exact by first | exact ⟨k + 1, x49, (takeI (keyT 16) num mk slot V l[k].b.l).2, a55, c55, ks ++ [l[k].b], rfl, rfl, by omega, h49, (takeI_ok hok _).1, by rw [htz, List.map_append, hks]; rfl, fun x hx => by rcases List.mem_append.1 hx with h | h; exact hkr x h; exact ⟨l[k], List.getElem_mem hk, by simpa using h⟩, by simp; omega⟩ | exact ⟨k + 1, x49, (takeI (keyT 16) num mk slot V l[k].b.l).2, a2, c2, ks, rfl, rfl, by omega, h49, (takeI_ok hok _).1, by rw [htz]; exact hks, hkr, by omega⟩
          case hm => exact by show l.length - (k + 1 : Int).toNat < l.length - (k : Int).toNat; omega
          case hH => exact (Subs.st inferInstance)
      ·
        have p43 := h43
        try simp only [decide_eq_true_eq, decide_eq_false_iff_not, Bool.not_eq_true', Bool.not_eq_false', Option.isNone_iff_eq_none, ne_eq, Decidable.not_not, Int.not_lt, Int.not_le] at p43
        have hkl2 : ks.length = V.length := by have := congrArg List.length hks; simpa using this
        have hkl : ∀ (i : Nat) (hi : i < ks.length), ks[i].l = (V[i]'(by omega)).2 := fun i hi => by
          have h1 : (ks.map BS.l)[i]? = (V.map (·.2))[i]? := by rw [hks]
          rw [List.getElem?_map, List.getElem?_map, List.getElem?_eq_getElem hi, List.getElem?_eq_getElem (by omega)] at h1
          simpa using h1
        have hkb : ∀ x ∈ ks, x.l.length ≤ 500 := fun x hx => by obtain ⟨y, hy, rfl⟩ := hkr x hx; exact hsl.2 y hy
        have hVb : ∀ v ∈ V, v.2.length ≤ 4294960000 := fun v hv => (hI.bnd v hv).2.2
        refine T_exit ?_
        refine X_then_exit ?_
        refine X_loop_exit ?_
        refine X_block_exit ?_
        refine X_then ?_
        refine T_seq ?_
        refine T_seq ?_
        refine T_region ?_
        refine TL_q (Qt_move (.slice _ _ _) rfl) rfl ?_
        refine TL_q (Qt_len_slice rfl Tryd.underlying28) rfl ?_
        first
          | refine TL_q (Qt_sub rfl rfl (by omega) (by omega)) rfl ?_
          | refine TL_q (Qt_subw rfl rfl) rfl ?_
        refine TL_q (Qt_assign (.int .i64 _) rfl) rfl ?_
        refine TL_nil ?_
        refine X_then ?_
        refine T_block ?_
        refine T_loop [6, 12, 60, 61, 62, 63, 64, 65, 66, 67, 68, 69, 70] [12] (fun us H' => ∃ (n : Nat) (su : IS), us = [.int .i64 ((n : Int) - 1)] ∧ blk x39.1.1 (.cells (InstV.mk (KeysV.mk ⟨x39.2.1.a, x39.2.1.c, x39.2.1.ls⟩ ⟨none, 0, 0⟩) (ViewV.mk num (mk : Int)) slot (some x39.1.2.1) (some x39.1.2.2.1) (some x39.1.2.2.2)).cells 91 (0, 0)) :: blk x39.1.2.2.1 (mapO encB BS.val su.ps su.c) :: blk x39.1.2.2.2 (mapO encT encM su.ts su.d) :: eachA su.fp ((su.ps : PMI).map (·.v)) :: blk x35.1.1 (.cells (InstV.mk (KeysV.mk ⟨x35.2.1.a, x35.2.1.c, x35.2.1.ls⟩ ⟨none, 0, 0⟩) (ViewV.mk num (mk : Int)) slot (some x35.1.2.1) (some x35.1.2.2.1) (some x35.1.2.2.2)).cells 91 (0, 0)) :: blk x35.1.2.2.1 (mapO encB BS.val st.ps st.c) :: blk x35.1.2.2.2 (mapO encT encM st.ts st.d) :: eachA st.fp ((st.ps : PMI).map (·.v)) :: row (.slice a2 (ks).length c2) 27 1 ((ks).map BS.val) :: blk b3 (.cells (ViewV.mk num (mk : Int)).cells 24 (0, 0)) :: dat x35.2.2 (Deep.leads (PS.mk x35.2.1.a x35.2.1.c x35.2.1.ls)) :: dat x39.2.2 (Deep.leads (PS.mk x39.2.1.a x39.2.1.c x39.2.1.ls)) :: H = H' ∧ n ≤ ks.length ∧ (IsI num slot ((V.drop n).reverse) su.ps su.c su.ts su.d)) (fun us => match us with | .int _ i :: _ => (i + 1).toNat | _ => 0) ⟨ks.length, ⟨[], 0, [], 0, []⟩, rfl, rfl, Nat.le_refl _, by rw [hkl2, List.drop_length]; exact IsI.nil _ _⟩ (Subs.st inferInstance) ?_
        rintro τ1 _ _  ⟨n, su, rfl, rfl, hn, hU⟩ _
        refine T_seq ?_
        refine T_seq ?_
        refine T_region ?_
        refine TL_q (Qt_move (.int .i64 _) rfl) rfl ?_
        refine TL_q (Qt_geq rfl rfl) rfl ?_
        refine TL_nil ?_
        refine X_then ?_
        refine T_cond rfl (fun h61 => ?_) (fun h61 => ?_)
        ·
          have p61 := h61
          try simp only [decide_eq_true_eq, decide_eq_false_iff_not, Bool.not_eq_true', Bool.not_eq_false', Option.isNone_iff_eq_none, ne_eq, Decidable.not_not, Int.not_lt, Int.not_le] at p61
          obtain ⟨m, rfl⟩ : ∃ m, n = m + 1 := ⟨n - 1, by omega⟩
          rw [show (((m + 1 : Nat) : Int) - 1) = ((m : Nat) : Int) from by omega]
          have hm : m < ks.length := by omega
          refine T_skip ?_
          refine X_then ?_
          refine T_seq ?_
          refine T_block ?_
          refine T_seq ?_
          refine T_region ?_
          refine TL_q (Qt_move (.pointer _) rfl) rfl ?_
          refine TL_q (Qt_move (.slice _ _ _) rfl) rfl ?_
          refine TL_q (Qt_move (.int .i64 _) rfl) rfl ?_
          refine TL_q (Qt_indexR rfl rfl (by omega) (by simp; omega)) rfl ?_
          refine TL_q (Qt_loadR (.slice _ _ _) rfl (vals_get _ _ hm)) rfl ?_
          have hrk : RdB w0 H (.slice ks[m].a ks[m].l.length ks[m].c) ks[m].l := by obtain ⟨y, hy, he⟩ := hkr ks[m] (List.getElem_mem hm); rw [he]; exact rl y hy
          refine TL_conv (fun w hw => (Subs.st inferInstance w hw : St w0 (blk x39.1.1 (.cells (InstV.mk (KeysV.mk ⟨x39.2.1.a, x39.2.1.c, x39.2.1.ls⟩ ⟨none, 0, 0⟩) (ViewV.mk num (mk : Int)) slot (some x39.1.2.1) (some x39.1.2.2.1) (some x39.1.2.2.2)).cells 91 (0, 0)) :: blk x39.1.2.2.1 (mapO encB BS.val su.ps su.c) :: blk x39.1.2.2.2 (mapO encT encM su.ts su.d) :: eachA su.fp ((su.ps : PMI).map (·.v)) :: blk x35.1.1 (.cells (InstV.mk (KeysV.mk ⟨x35.2.1.a, x35.2.1.c, x35.2.1.ls⟩ ⟨none, 0, 0⟩) (ViewV.mk num (mk : Int)) slot (some x35.1.2.1) (some x35.1.2.2.1) (some x35.1.2.2.2)).cells 91 (0, 0)) :: blk x35.1.2.2.1 (mapO encB BS.val st.ps st.c) :: blk x35.1.2.2.2 (mapO encT encM st.ts st.d) :: eachA st.fp ((st.ps : PMI).map (·.v)) :: row (.slice a2 (ks).length c2) 27 1 ((ks).map BS.val) :: blk b3 (.cells (ViewV.mk num (mk : Int)).cells 24 (0, 0)) :: dat x35.2.2 (Deep.leads (PS.mk x35.2.1.a x35.2.1.c x35.2.1.ls)) :: dat x39.2.2 (Deep.leads (PS.mk x39.2.1.a x39.2.1.c x39.2.1.ls)) :: H) w)) ?_
          refine TL_e rfl (Ef_call (take_c (p := x39.1.1) (r3 := x39.1.2.1) (r4 := x39.1.2.2.1) (r5 := x39.1.2.2.2) (sa := x39.2.1.a) (sc := x39.2.1.c) (ls := x39.2.1.ls) (rt := ⟨none, 0, 0⟩) (num := num) (mk := mk) (slot := slot) (V := ((V.drop (m + 1)).reverse)) (ps := su.ps) (c := su.c) (ts := su.ts) (d := su.d) (fp := su.fp) (l := ks[m].l) hU hmk (fun x hx => (keyT_small hKy).2 x hx) (by have := hkb ks[m] (List.getElem_mem hm); omega)) rfl (fun x69 => ?_))
          rw [hKy, hkl m hm, take_back hok (by omega)]
          refine TL_pure (fun h69 => ?_)
          refine TL_q (Qt_neq rfl rfl) rfl ?_
          refine TL_nil ?_
          refine X_then ?_
          refine T_cond_false rfl (by first | rfl | decide) ?_
          refine T_skip ?_
          refine X_block ?_
          refine X_then ?_
          refine T_region ?_
          refine TL_q (Qt_move (.int .i64 _) rfl) rfl ?_
          first
            | refine TL_q (Qt_sub rfl rfl (by omega) (by omega)) rfl ?_
            | refine TL_q (Qt_subw rfl rfl) rfl ?_
          refine TL_q (Qt_assign (.int .i64 _) rfl) rfl ?_
          refine TL_nil ?_
          apply X_loop
          case ha => exact (by repeat (first | with_reducible exact agree_refl | refine agree_upd rfl ?_ | refine agree_mix rfl ?_ | refine agree_setAll rfl ?_))
          case hI => exact ⟨m, x69, rfl, rfl, by omega, h69⟩
          case hm => exact by show ((m : Int) - 1 + 1).toNat < ((m : Int) + 1).toNat; omega
          case hH => exact (Subs.st inferInstance)
        ·
          have p61 := h61
          try simp only [decide_eq_true_eq, decide_eq_false_iff_not, Bool.not_eq_true', Bool.not_eq_false', Option.isNone_iff_eq_none, ne_eq, Decidable.not_not, Int.not_lt, Int.not_le] at p61
          have hn0 : n = 0 := by omega
          have hU0 : IsI num slot ((V.drop 0).reverse) su.ps su.c su.ts su.d := by rw [← hn0]; exact hU
          have hokU : SOk (keyT 16) num mk slot ((V.drop 0).reverse) := hok.drop 0
          have hsame : ∀ v, v ∈ V ↔ v ∈ ((V.drop 0).reverse) := fun v => by simp
          refine T_exit ?_
          refine X_then_exit ?_
          refine X_loop_exit ?_
          refine X_block_exit ?_
          refine X_then ?_
          refine T_seq ?_
          refine T_seq ?_
          refine T_region ?_
          refine TL_q (Qt_move (.int .i64 _) rfl) rfl ?_
          refine TL_nil ?_
          refine X_then ?_
          refine T_block ?_
          refine T_loop [6, 13, 14, 15, 16, 17, 18, 19, 71, 72, 73, 74, 75, 76, 77, 78, 79, 80, 81, 82, 83, 84, 85, 86, 87, 88, 89, 90, 91, 92, 93, 94, 95, 96, 97, 98, 99, 100, 101, 102] [71] (fun us H' => ∃ (q : Nat), us = [.int .i64 (q : Int)] ∧ blk x35.1.1 (.cells (InstV.mk (KeysV.mk ⟨x35.2.1.a, x35.2.1.c, x35.2.1.ls⟩ ⟨none, 0, 0⟩) (ViewV.mk num (mk : Int)) slot (some x35.1.2.1) (some x35.1.2.2.1) (some x35.1.2.2.2)).cells 91 (0, 0)) :: blk x35.1.2.2.1 (mapO encB BS.val st.ps st.c) :: blk x35.1.2.2.2 (mapO encT encM st.ts st.d) :: eachA st.fp ((st.ps : PMI).map (·.v)) :: blk x39.1.1 (.cells (InstV.mk (KeysV.mk ⟨x39.2.1.a, x39.2.1.c, x39.2.1.ls⟩ ⟨none, 0, 0⟩) (ViewV.mk num (mk : Int)) slot (some x39.1.2.1) (some x39.1.2.2.1) (some x39.1.2.2.2)).cells 91 (0, 0)) :: blk x39.1.2.2.1 (mapO encB BS.val su.ps su.c) :: blk x39.1.2.2.2 (mapO encT encM su.ts su.d) :: eachA su.fp ((su.ps : PMI).map (·.v)) :: blk b3 (.cells (ViewV.mk num (mk : Int)).cells 24 (0, 0)) :: dat x35.2.2 (Deep.leads (PS.mk x35.2.1.a x35.2.1.c x35.2.1.ls)) :: dat x39.2.2 (Deep.leads (PS.mk x39.2.1.a x39.2.1.c x39.2.1.ls)) :: H = H' ∧ q ≤ 4) (fun us => match us with | .int _ i :: _ => 4 - i.toNat | _ => 0) ⟨0, rfl, rfl, by omega⟩ (Subs.st inferInstance) ?_
          rintro τ2 _ _  ⟨q, rfl, rfl, hq0⟩ _
          refine T_seq ?_
          refine T_region ?_
          refine TL_q (Qt_lss rfl rfl) rfl ?_
          refine TL_nil ?_
          refine X_then ?_
          refine T_seq ?_
          refine T_cond rfl (fun h72 => ?_) (fun h72 => ?_)
          ·
            have p72 := h72
            try simp only [decide_eq_true_eq, decide_eq_false_iff_not, Bool.not_eq_true', Bool.not_eq_false', Option.isNone_iff_eq_none, ne_eq, Decidable.not_not, Int.not_lt, Int.not_le] at p72
            refine T_skip ?_
            refine X_then ?_
            refine T_seq ?_
            refine T_block ?_
            refine T_seq ?_
            refine T_region ?_
            refine TL_q (Qt_move (.int .i64 _) rfl) rfl ?_
            refine TL_q (Qt_assign (.int .i64 _) rfl) rfl ?_
            refine TL_nil ?_
            refine X_then ?_
            refine T_seq ?_
            refine T_region ?_
            refine TL_q (Qt_move (.pointer _) rfl) rfl ?_
            refine TL_q (Qt_move (.int .i64 _) rfl) rfl ?_
            refine TL_conv (fun w hw => (Subs.st inferInstance w hw : St w0 (blk x35.1.1 (.cells (InstV.mk (KeysV.mk ⟨x35.2.1.a, x35.2.1.c, x35.2.1.ls⟩ ⟨none, 0, 0⟩) (ViewV.mk num (mk : Int)) slot (some x35.1.2.1) (some x35.1.2.2.1) (some x35.1.2.2.2)).cells 91 (0, 0)) :: blk x35.1.2.2.1 (mapO encB BS.val st.ps st.c) :: blk x35.1.2.2.2 (mapO encT encM st.ts st.d) :: eachA st.fp ((st.ps : PMI).map (·.v)) :: blk x39.1.1 (.cells (InstV.mk (KeysV.mk ⟨x39.2.1.a, x39.2.1.c, x39.2.1.ls⟩ ⟨none, 0, 0⟩) (ViewV.mk num (mk : Int)) slot (some x39.1.2.1) (some x39.1.2.2.1) (some x39.1.2.2.2)).cells 91 (0, 0)) :: blk x39.1.2.2.1 (mapO encB BS.val su.ps su.c) :: blk x39.1.2.2.2 (mapO encT encM su.ts su.d) :: eachA su.fp ((su.ps : PMI).map (·.v)) :: blk b3 (.cells (ViewV.mk num (mk : Int)).cells 24 (0, 0)) :: dat x35.2.2 (Deep.leads (PS.mk x35.2.1.a x35.2.1.c x35.2.1.ls)) :: dat x39.2.2 (Deep.leads (PS.mk x39.2.1.a x39.2.1.c x39.2.1.ls)) :: H) w)) ?_
            refine TL_e rfl (Ef_call (iwritten_c (p := x35.1.1) (r3 := x35.1.2.1) (r4 := x35.1.2.2.1) (r5 := x35.1.2.2.2) (sa := x35.2.1.a) (sc := x35.2.1.c) (ls := x35.2.1.ls) (rt := ⟨none, 0, 0⟩) (num := num) (mk := mk) (slot := slot) (V := V) (ps := st.ps) (c := st.c) (ts := st.ts) (d := st.d) (fp := st.fp) hI hmk (reg := (q : Int))) rfl (fun x77 => ?_))
            refine TL_pure (fun h77 => ?_)
            refine TL_q (Qt_move (.tuple _) rfl) rfl ?_
            refine TL_q (Qt_extract rfl) rfl ?_
            refine TL_q (Qt_extract rfl) rfl ?_
            refine TL_q (Qt_extract rfl) rfl ?_
            refine TL_e rfl (Ef_allocN (fun b14 => ?_))
            refine TL_n (Ef_storeN rfl rfl (?_))
            refine TL_q (Qt_assign (.slice _ _ _) rfl) rfl ?_
            refine TL_q (Qt_assign (.bool _) rfl) rfl ?_
            refine TL_nil ?_
            refine X_then ?_
            refine T_seq ?_
            refine T_region ?_
            refine TL_q (Qt_move (.pointer _) rfl) rfl ?_
            refine TL_q (Qt_move (.int .i64 _) rfl) rfl ?_
            refine TL_conv (fun w hw => (Subs.st inferInstance w hw : St w0 (blk x39.1.1 (.cells (InstV.mk (KeysV.mk ⟨x39.2.1.a, x39.2.1.c, x39.2.1.ls⟩ ⟨none, 0, 0⟩) (ViewV.mk num (mk : Int)) slot (some x39.1.2.1) (some x39.1.2.2.1) (some x39.1.2.2.2)).cells 91 (0, 0)) :: blk x39.1.2.2.1 (mapO encB BS.val su.ps su.c) :: blk x39.1.2.2.2 (mapO encT encM su.ts su.d) :: eachA su.fp ((su.ps : PMI).map (·.v)) :: blk b14 (.cells (hlist (x77.1.1.getD (zeroV 32))).toArray 26 (0, 0)) :: row (.slice x77.1.2.a (x77.2.1).length x77.1.2.c) 27 1 ((x77.2.1).map BS.val) :: eachA x77.2.2 x77.2.1 :: blk x35.1.1 (.cells (InstV.mk (KeysV.mk ⟨x35.2.1.a, x35.2.1.c, x35.2.1.ls⟩ ⟨none, 0, 0⟩) (ViewV.mk num (mk : Int)) slot (some x35.1.2.1) (some x35.1.2.2.1) (some x35.1.2.2.2)).cells 91 (0, 0)) :: blk x35.1.2.2.1 (mapO encB BS.val st.ps st.c) :: blk x35.1.2.2.2 (mapO encT encM st.ts st.d) :: eachA st.fp ((st.ps : PMI).map (·.v)) :: blk b3 (.cells (ViewV.mk num (mk : Int)).cells 24 (0, 0)) :: dat x35.2.2 (Deep.leads (PS.mk x35.2.1.a x35.2.1.c x35.2.1.ls)) :: dat x39.2.2 (Deep.leads (PS.mk x39.2.1.a x39.2.1.c x39.2.1.ls)) :: H) w)) ?_
            refine TL_e rfl (Ef_call (iwritten_c (p := x39.1.1) (r3 := x39.1.2.1) (r4 := x39.1.2.2.1) (r5 := x39.1.2.2.2) (sa := x39.2.1.a) (sc := x39.2.1.c) (ls := x39.2.1.ls) (rt := ⟨none, 0, 0⟩) (num := num) (mk := mk) (slot := slot) (V := ((V.drop 0).reverse)) (ps := su.ps) (c := su.c) (ts := su.ts) (d := su.d) (fp := su.fp) hU0 hmk (reg := (q : Int))) rfl (fun x84 => ?_))
            refine TL_pure (fun h84 => ?_)
            obtain ⟨e1, e2⟩ := order_law hok hokU hsame hmk h77 h84
            refine TL_q (Qt_move (.tuple _) rfl) rfl ?_
            refine TL_q (Qt_extract rfl) rfl ?_
            refine TL_q (Qt_extract rfl) rfl ?_
            refine TL_q (Qt_extract rfl) rfl ?_
            refine TL_e rfl (Ef_allocN (fun b17 => ?_))
            refine TL_n (Ef_storeN rfl rfl (?_))
            refine TL_q (Qt_assign (.slice _ _ _) rfl) rfl ?_
            refine TL_q (Qt_assign (.bool _) rfl) rfl ?_
            refine TL_nil ?_
            refine X_then ?_
            refine T_seq ?_
            refine T_region ?_
            refine TL_q (Qt_loadN rfl rfl) rfl ?_
            refine TL_q (Qt_loadN rfl rfl) rfl ?_
            refine TL_q (Qt_agg_neq rfl rfl (by kernel_rfl)) rfl ?_
            refine TL_q (Qt_move (.bool _) rfl) rfl ?_
            refine TL_split 91 rfl (fun h91 => ?_) (fun h91 => ?_)
            ·
              have p91 := h91
              try simp only [decide_eq_true_eq, decide_eq_false_iff_not, Bool.not_eq_true', Bool.not_eq_false', Option.isNone_iff_eq_none, ne_eq, Decidable.not_not, Int.not_lt, Int.not_le] at p91
              exact absurd h91 (by simp [e1])
            ·
              have p91 := h91
              try simp only [decide_eq_true_eq, decide_eq_false_iff_not, Bool.not_eq_true', Bool.not_eq_false', Option.isNone_iff_eq_none, ne_eq, Decidable.not_not, Int.not_lt, Int.not_le] at p91
              refine TL_take rfl rfl h91 ?_
              refine TL_q (Qt_move (.bool _) rfl) rfl ?_
              refine TL_take rfl rfl h91 ?_
              refine TL_q (Qt_move (.bool _) rfl) rfl ?_
              refine TL_take rfl rfl h91 ?_
              refine TL_q (Qt_bool_neq rfl rfl Tryd.underlying4) rfl ?_
              refine TL_q (Qt_pick_f (.bool _) rfl h91 rfl) rfl ?_
              refine TL_q (Qt_move (.bool _) rfl) rfl ?_
              refine TL_split 96 rfl (fun h96 => ?_) (fun h96 => ?_)
              ·
                have p96 := h96
                try simp only [decide_eq_true_eq, decide_eq_false_iff_not, Bool.not_eq_true', Bool.not_eq_false', Option.isNone_iff_eq_none, ne_eq, Decidable.not_not, Int.not_lt, Int.not_le] at p96
                exact absurd h96 (by simp [e1])
              ·
                have p96 := h96
                try simp only [decide_eq_true_eq, decide_eq_false_iff_not, Bool.not_eq_true', Bool.not_eq_false', Option.isNone_iff_eq_none, ne_eq, Decidable.not_not, Int.not_lt, Int.not_le] at p96
                refine TL_take rfl rfl h96 ?_
                refine TL_q (Qt_move (.slice _ _ _) rfl) rfl ?_
                refine TL_take rfl rfl h96 ?_
                refine TL_q (Qt_move (.slice _ _ _) rfl) rfl ?_
                refine TL_take rfl rfl h96 ?_
                refine TL_e rfl (Ef_call (sameParts_c (by have := (Qr_le h77 hVb).1; omega) (fun x hx => by have := (Qr_le h77 hVb).2 x hx; omega)) rfl (fun x99 => ?_))
                refine TL_take rfl rfl h96 ?_
                refine TL_q (Qt_not rfl) rfl ?_
                refine TL_q (Qt_pick_f (.bool _) rfl h96 rfl) rfl ?_
                refine TL_nil ?_
                refine X_then ?_
                refine T_cond rfl (fun h101 => ?_) (fun h101 => ?_)
                ·
                  have p101 := h101
                  try simp only [decide_eq_true_eq, decide_eq_false_iff_not, Bool.not_eq_true', Bool.not_eq_false', Option.isNone_iff_eq_none, ne_eq, Decidable.not_not, Int.not_lt, Int.not_le] at p101
                  exact absurd h101 (by simp [e2])
                ·
                  have p101 := h101
                  try simp only [decide_eq_true_eq, decide_eq_false_iff_not, Bool.not_eq_true', Bool.not_eq_false', Option.isNone_iff_eq_none, ne_eq, Decidable.not_not, Int.not_lt, Int.not_le] at p101
                  refine T_skip ?_
                  refine X_block ?_
                  refine X_then ?_
                  refine T_region ?_
                  first
                    | refine TL_q (Qt_add rfl rfl (by omega) (by omega)) rfl ?_
                    | refine TL_q (Qt_addw rfl rfl) rfl ?_
                  refine TL_q (Qt_move (.int .i64 _) rfl) rfl ?_
                  refine TL_nil ?_
                  apply X_loop
                  case ha => exact (by repeat (first | with_reducible exact agree_refl | refine agree_upd rfl ?_ | refine agree_mix rfl ?_ | refine agree_setAll rfl ?_))
                  case hI => exact ⟨q + 1, rfl, rfl, by omega⟩
                  case hm => exact by show 4 - (q + 1 : Int).toNat < 4 - (q : Int).toNat; omega
                  case hH => exact (Subs.st inferInstance)
          ·
            have p72 := h72
            try simp only [decide_eq_true_eq, decide_eq_false_iff_not, Bool.not_eq_true', Bool.not_eq_false', Option.isNone_iff_eq_none, ne_eq, Decidable.not_not, Int.not_lt, Int.not_le] at p72
            refine T_exit ?_
            refine X_then_exit ?_
            refine X_loop_exit ?_
            refine X_block_exit ?_
            refine X_then ?_
            refine T_seq ?_
            refine T_region ?_
            refine TL_q (Qt_move (.pointer _) rfl) rfl ?_
            refine TL_conv (fun w hw => (Subs.st inferInstance w hw : St w0 (blk x35.1.1 (.cells (InstV.mk (KeysV.mk ⟨x35.2.1.a, x35.2.1.c, x35.2.1.ls⟩ ⟨none, 0, 0⟩) (ViewV.mk num (mk : Int)) slot (some x35.1.2.1) (some x35.1.2.2.1) (some x35.1.2.2.2)).cells 91 (0, 0)) :: blk x35.1.2.2.1 (mapO encB BS.val st.ps st.c) :: blk x35.1.2.2.2 (mapO encT encM st.ts st.d) :: eachA st.fp ((st.ps : PMI).map (·.v)) :: blk x39.1.1 (.cells (InstV.mk (KeysV.mk ⟨x39.2.1.a, x39.2.1.c, x39.2.1.ls⟩ ⟨none, 0, 0⟩) (ViewV.mk num (mk : Int)) slot (some x39.1.2.1) (some x39.1.2.2.1) (some x39.1.2.2.2)).cells 91 (0, 0)) :: blk x39.1.2.2.1 (mapO encB BS.val su.ps su.c) :: blk x39.1.2.2.2 (mapO encT encM su.ts su.d) :: eachA su.fp ((su.ps : PMI).map (·.v)) :: blk b3 (.cells (ViewV.mk num (mk : Int)).cells 24 (0, 0)) :: dat x35.2.2 (Deep.leads (PS.mk x35.2.1.a x35.2.1.c x35.2.1.ls)) :: dat x39.2.2 (Deep.leads (PS.mk x39.2.1.a x39.2.1.c x39.2.1.ls)) :: H) w)) ?_
            refine TL_e rfl (Ef_call (accepted_c (p := x35.1.1) (r3 := x35.1.2.1) (r4 := x35.1.2.2.1) (r5 := x35.1.2.2.2) (sa := x35.2.1.a) (sc := x35.2.1.c) (ls := x35.2.1.ls) (rt := ⟨none, 0, 0⟩) (num := num) (mk := mk) (slot := slot) (V := V) (ps := st.ps) (c := st.c) (ts := st.ts) (d := st.d) (fp := st.fp) hI hmk) rfl (fun x105 => ?_))
            refine TL_pure (fun h105 => ?_)
            refine TL_q (Qt_move (.tuple _) rfl) rfl ?_
            refine TL_q (Qt_extract rfl) rfl ?_
            refine TL_q (Qt_extract rfl) rfl ?_
            refine TL_q (Qt_extract rfl) rfl ?_
            refine TL_q (Qt_extract rfl) rfl ?_
            refine TL_e rfl (Ef_allocN (fun b21 => ?_))
            refine TL_q (Qt_assign (.int .i64 _) rfl) rfl ?_
            refine TL_n (Ef_storeN rfl rfl (?_))
            refine TL_q (Qt_assign (.slice _ _ _) rfl) rfl ?_
            refine TL_q (Qt_assign (.bool _) rfl) rfl ?_
            refine TL_nil ?_
            refine X_then ?_
            refine T_seq ?_
            refine T_region ?_
            refine TL_q (Qt_move (.pointer _) rfl) rfl ?_
            refine TL_conv (fun w hw => (Subs.st inferInstance w hw : St w0 (blk x39.1.1 (.cells (InstV.mk (KeysV.mk ⟨x39.2.1.a, x39.2.1.c, x39.2.1.ls⟩ ⟨none, 0, 0⟩) (ViewV.mk num (mk : Int)) slot (some x39.1.2.1) (some x39.1.2.2.1) (some x39.1.2.2.2)).cells 91 (0, 0)) :: blk x39.1.2.2.1 (mapO encB BS.val su.ps su.c) :: blk x39.1.2.2.2 (mapO encT encM su.ts su.d) :: eachA su.fp ((su.ps : PMI).map (·.v)) :: blk b21 (.cells (hlist (x105.2.1.1.getD (zeroV 32))).toArray 26 (0, 0)) :: row (.slice x105.2.1.2.a (x105.2.2.1).length x105.2.1.2.c) 27 1 ((x105.2.2.1).map BS.val) :: eachA x105.2.2.2 x105.2.2.1 :: blk x35.1.1 (.cells (InstV.mk (KeysV.mk ⟨x35.2.1.a, x35.2.1.c, x35.2.1.ls⟩ ⟨none, 0, 0⟩) (ViewV.mk num (mk : Int)) slot (some x35.1.2.1) (some x35.1.2.2.1) (some x35.1.2.2.2)).cells 91 (0, 0)) :: blk x35.1.2.2.1 (mapO encB BS.val st.ps st.c) :: blk x35.1.2.2.2 (mapO encT encM st.ts st.d) :: eachA st.fp ((st.ps : PMI).map (·.v)) :: blk b3 (.cells (ViewV.mk num (mk : Int)).cells 24 (0, 0)) :: dat x35.2.2 (Deep.leads (PS.mk x35.2.1.a x35.2.1.c x35.2.1.ls)) :: dat x39.2.2 (Deep.leads (PS.mk x39.2.1.a x39.2.1.c x39.2.1.ls)) :: H) w)) ?_
            refine TL_e rfl (Ef_call (accepted_c (p := x39.1.1) (r3 := x39.1.2.1) (r4 := x39.1.2.2.1) (r5 := x39.1.2.2.2) (sa := x39.2.1.a) (sc := x39.2.1.c) (ls := x39.2.1.ls) (rt := ⟨none, 0, 0⟩) (num := num) (mk := mk) (slot := slot) (V := ((V.drop 0).reverse)) (ps := su.ps) (c := su.c) (ts := su.ts) (d := su.d) (fp := su.fp) hU0 hmk) rfl (fun x112 => ?_))
            refine TL_pure (fun h112 => ?_)
            obtain ⟨e1, e2, e3⟩ := order_acc hok hokU hsame hmk h105 h112
            refine TL_q (Qt_move (.tuple _) rfl) rfl ?_
            refine TL_q (Qt_extract rfl) rfl ?_
            refine TL_q (Qt_extract rfl) rfl ?_
            refine TL_q (Qt_extract rfl) rfl ?_
            refine TL_q (Qt_extract rfl) rfl ?_
            refine TL_e rfl (Ef_allocN (fun b25 => ?_))
            refine TL_q (Qt_assign (.int .i64 _) rfl) rfl ?_
            refine TL_n (Ef_storeN rfl rfl (?_))
            refine TL_q (Qt_assign (.slice _ _ _) rfl) rfl ?_
            refine TL_q (Qt_assign (.bool _) rfl) rfl ?_
            refine TL_nil ?_
            refine X_then ?_
            refine T_seq ?_
            refine T_region ?_
            refine TL_q (Qt_move (.int .i64 _) rfl) rfl ?_
            refine TL_q (Qt_move (.int .i64 _) rfl) rfl ?_
            refine TL_q (Qt_eql rfl rfl) rfl ?_
            refine TL_q (Qt_move (.bool _) rfl) rfl ?_
            refine TL_split 120 rfl (fun h120 => ?_) (fun h120 => ?_)
            ·
              have p120 := h120
              try simp only [decide_eq_true_eq, decide_eq_false_iff_not, Bool.not_eq_true', Bool.not_eq_false', Option.isNone_iff_eq_none, ne_eq, Decidable.not_not, Int.not_lt, Int.not_le] at p120
              refine TL_take rfl rfl h120 ?_
              refine TL_q (Qt_loadN rfl rfl) rfl ?_
              refine TL_take rfl rfl h120 ?_
              refine TL_q (Qt_loadN rfl rfl) rfl ?_
              refine TL_take rfl rfl h120 ?_
              refine TL_q (Qt_agg_eql rfl rfl (by kernel_rfl)) rfl ?_
              refine TL_q (Qt_pick_t (.bool _) rfl h120 rfl) rfl ?_
              refine TL_q (Qt_move (.bool _) rfl) rfl ?_
              refine TL_split 125 rfl (fun h125 => ?_) (fun h125 => ?_)
              ·
                have p125 := h125
                try simp only [decide_eq_true_eq, decide_eq_false_iff_not, Bool.not_eq_true', Bool.not_eq_false', Option.isNone_iff_eq_none, ne_eq, Decidable.not_not, Int.not_lt, Int.not_le] at p125
                refine TL_take rfl rfl h125 ?_
                refine TL_q (Qt_move (.bool _) rfl) rfl ?_
                refine TL_take rfl rfl h125 ?_
                refine TL_q (Qt_move (.bool _) rfl) rfl ?_
                refine TL_take rfl rfl h125 ?_
                refine TL_q (Qt_bool_eql rfl rfl Tryd.underlying4) rfl ?_
                refine TL_q (Qt_pick_t (.bool _) rfl h125 rfl) rfl ?_
                refine TL_q (Qt_move (.bool _) rfl) rfl ?_
                refine TL_split 130 rfl (fun h130 => ?_) (fun h130 => ?_)
                ·
                  have p130 := h130
                  try simp only [decide_eq_true_eq, decide_eq_false_iff_not, Bool.not_eq_true', Bool.not_eq_false', Option.isNone_iff_eq_none, ne_eq, Decidable.not_not, Int.not_lt, Int.not_le] at p130
                  refine TL_take rfl rfl h130 ?_
                  refine TL_q (Qt_move (.slice _ _ _) rfl) rfl ?_
                  refine TL_take rfl rfl h130 ?_
                  refine TL_q (Qt_move (.slice _ _ _) rfl) rfl ?_
                  refine TL_take rfl rfl h130 ?_
                  refine TL_e rfl (Ef_call (sameParts_c (by have := (Ac_le h105 hVb).1; omega) (fun x hx => by have := (Ac_le h105 hVb).2 x hx; omega)) rfl (fun x133 => ?_))
                  refine TL_q (Qt_pick_t (.bool _) rfl h130 rfl) rfl ?_
                  refine TL_q (Qt_assign (.bool _) rfl) rfl ?_
                  refine TL_nil ?_
                  refine X_then ?_
                  refine T_ret ?_
                  refine X_ret () [.bool true] Tryd.results9 ⟨congrArg Value.bool ?_, trivial⟩ rfl (Subs.st inferInstance)
                  simp [e1, e2, e3]
                ·
                  have p130 := h130
                  try simp only [decide_eq_true_eq, decide_eq_false_iff_not, Bool.not_eq_true', Bool.not_eq_false', Option.isNone_iff_eq_none, ne_eq, Decidable.not_not, Int.not_lt, Int.not_le] at p130
                  exact absurd h130 (by simp [e2])
              ·
                have p125 := h125
                try simp only [decide_eq_true_eq, decide_eq_false_iff_not, Bool.not_eq_true', Bool.not_eq_false', Option.isNone_iff_eq_none, ne_eq, Decidable.not_not, Int.not_lt, Int.not_le] at p125
                exact absurd h125 (by simp [e2])
            ·
              have p120 := h120
              try simp only [decide_eq_true_eq, decide_eq_false_iff_not, Bool.not_eq_true', Bool.not_eq_false', Option.isNone_iff_eq_none, ne_eq, Decidable.not_not, Int.not_lt, Int.not_le] at p120
              exact absurd h120 (by simp [e1])
end Go.Proofs.YtgjkgdjjolnhdaaDoor
