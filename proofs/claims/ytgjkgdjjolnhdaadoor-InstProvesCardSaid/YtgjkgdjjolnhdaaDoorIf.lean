/- Votes of one slot: what is told is proved; the law InstProves. -/
import Derived.Test.YtgjkgdjjolnhdaaDoorId
import Derived.Test.YtgjkgdjjolnhdaaDoorRw
namespace Go.Proofs.YtgjkgdjjolnhdaaDoor
open Go.RowKit Go.Sx
set_option maxRecDepth 100000
set_option linter.unusedSimpArgs false
set_option linter.unusedVariables false
theorem getP_of6 {K : List (List UInt8)} {num : Int} {mk : Nat} {slot : Int} {V : List VD} (h : SOk K num mk slot V) {v : VD} (hv : v ∈ V) : getP V (balD v.1) = some v.2 := by
 cases hg : getP V (balD v.1) with
 | none => exact absurd (List.mem_map.2 ⟨v, hv, rfl⟩) (getP_none (by rw [hg]; rfl))
 | some l =>
  obtain ⟨u, hu, hb, rfl⟩ := getP_mem hg
  rw [nodup_inj h.nd hu hv hb]
theorem list_opn {K : List (List UInt8)} {num : Int} {mk : Nat} {slot : Int} {V : List VD} (h : SOk K num mk slot V) {t : TalV} {i : Nat} (hi : i ∈ memK (mskI num slot V t)) : ∃ v ∈ V, v.1.kind = t.kind ∧ v.1.reg = t.reg ∧ v.1.hash = t.hash ∧ v.1.frm = (i : Int) ∧ partI V t.kind t.reg i = v.2 ∧ opn K mk v.2 = v.1 := by
 obtain ⟨v, hv, h1, h2, h3, h4⟩ := (msk_mem h).1 hi
 have hb : balD v.1 = ⟨(i : Int), t.kind, t.reg⟩ := by simp only [balD]; rw [h1, h2, h4]
 refine ⟨v, hv, h1, h2, h3, h4, ?_, ?_⟩
 · rw [partI, ← hb, getP_of6 h hv]; rfl
 · have := (h.ok v hv).2.2.2.2.2.2
   rw [opn, this]
theorem prove_enough {K : List (List UInt8)} {num : Int} {mk : Nat} {slot : Int} {V : List VD} (h : SOk K num mk slot V) {t : TalV} (ht : t.kind ≠ 0) (hq : qualI num mk slot V t = true) : enoughD num mk (wMsg t.kind num t.reg slot t.hash) ((listI num slot V t).map (opn K mk)) = true := by
 have hb : ∀ v ∈ (listI num slot V t).map (opn K mk), 0 ≤ v.frm ∧ v.frm < 16 := fun v hv => by
  obtain ⟨l, -, rfl⟩ := List.mem_map.1 hv; exact opn_frm _ _ _
 rw [enoughD, decide_eq_true_eq, ones16_mem (setD_lt _ hb)]
 refine Nat.le_trans ((qual_len h).1 hq).2 (nodupI (memK_nodup _) fun i hi => ?_)
 obtain ⟨v, hv, h1, h2, h3, h4, h5, h6⟩ := list_opn h hi
 rw [setD_mem hb]
 refine ⟨v.1, List.mem_map.2 ⟨v.2, ?_, h6⟩, ?_, h4⟩
 · rw [listI]; exact List.mem_map.2 ⟨i, hi, h5⟩
 · have := h.ok v hv
   simp only [cntD, wMsg, decide_eq_true_eq]
   exact ⟨h1, by omega, this.2.1, trivial, h2, this.2.2.1, h3⟩
theorem prove_not {K : List (List UInt8)} {num : Int} {mk : Nat} {slot : Int} {V : List VD} (h : SOk K num mk slot V) {t : TalV} (hq : quorumV num mk ≠ 0) {kind reg : Int} (hr : reg ≠ t.reg) (hh : Vector UInt8 32) : enoughD num mk (wMsg kind num reg slot hh) ((listI num slot V t).map (opn K mk)) = false := by
 have hb : ∀ v ∈ (listI num slot V t).map (opn K mk), 0 ≤ v.frm ∧ v.frm < 16 := fun v hv => by
  obtain ⟨l, -, rfl⟩ := List.mem_map.1 hv; exact opn_frm _ _ _
 rw [enoughD, decide_eq_false_iff_not, ones16_mem (setD_lt _ hb)]
 have hn : memK (setD num (wMsg kind num reg slot hh) ((listI num slot V t).map (opn K mk))) = [] := by
  rw [List.eq_nil_iff_forall_not_mem]
  intro i hi
  obtain ⟨m, hm, hc, -⟩ := (setD_mem hb).1 hi
  obtain ⟨l, hl, rfl⟩ := List.mem_map.1 hm
  rw [listI] at hl
  obtain ⟨j, hj, rfl⟩ := List.mem_map.1 hl
  obtain ⟨v, hv, h1, h2, h3, h4, h5, h6⟩ := list_opn h hj
  rw [h5, h6] at hc
  simp only [cntD, wMsg, decide_eq_true_eq] at hc
  exact hr (hc.2.2.2.2.1.symm.trans h2)
 rw [hn]; simp only [List.length_nil]; omega
theorem qual_right {num : Int} {mk : Nat} {slot : Int} {V : List VD} {t : TalV} (hq : qualI num mk slot V t = true) : rightV num mk = true ∧ quorumV num mk ≠ 0 := by
 have h0 : quorumV num mk ≠ 0 := by rw [qualI, decide_eq_true_eq] at hq; exact hq.1
 refine ⟨?_, h0⟩
 by_cases hr : rightV num mk = true
 · exact hr
 · exact absurd (if_pos (if_neg hr)) h0
theorem prove_writ {K : List (List UInt8)} {num : Int} {mk : Nat} {slot : Int} {V : List VD} (h : SOk K num mk slot V) {reg : Int} {y : Option (Vector UInt8 32)} {L : List (List UInt8)} (hy : QrI num mk slot V 2 reg y L) (hs : y.isSome = true) : writD K num mk reg slot (y.getD (zeroV 32)) L = 0 := by
 cases y with
 | none => cases hs
 | some g =>
  obtain ⟨h1, rfl⟩ := hy
  exact if_pos ⟨(qual_right h1).1, by rw [listI_len h]; exact memK_len _, prove_enough h (t := ⟨2, reg, g⟩) (by show (2 : Int) ≠ 0; decide) h1⟩
theorem prove_dec {K : List (List UInt8)} {num : Int} {mk : Nat} {slot : Int} {V : List VD} (h : SOk K num mk slot V) {r : Nat} {y : Option (Vector UInt8 32)} {L : List (List UInt8)} (hy : AcI num mk slot V r y L) (hs : y.isSome = true) : decidD K num mk slot (y.getD (zeroV 32)) L = ((r : Int), 0) := by
 rcases hy with ⟨-, hr, hq, -⟩ | ⟨rfl, -⟩
 · cases y with
   | none => cases hs
   | some g =>
    obtain ⟨h1, rfl⟩ := hq
    have hrt := qual_right h1
    have hf := find_range (p := fun i : Nat => enoughD num mk (wMsg 3 num (i : Int) slot g) ((listI num slot V ⟨3, (r : Int), g⟩).map (opn K mk))) (n := 41) (k := r) hr (fun i hi => prove_not h hrt.2 (t := ⟨3, (r : Int), g⟩) (kind := 3) (reg := (i : Int)) (by show (i : Int) ≠ (r : Int); omega) g) (prove_enough h (t := ⟨3, (r : Int), g⟩) (by show (3 : Int) ≠ 0; decide) h1)
    rw [decidD, if_pos ⟨hrt.1, by rw [listI_len h]; exact memK_len _⟩]
    show (match (List.range 41).find? (fun i : Nat => enoughD num mk (wMsg 3 num (i : Int) slot g) ((listI num slot V ⟨3, (r : Int), g⟩).map (opn K mk))) with | some r => ((r : Int), (0 : Int)) | none => (0, 12)) = _
    rw [hf]
 · cases hs
theorem prove_nil {num : Int} {mk : Nat} {slot : Int} {V : List VD} {r : Nat} {y : Option (Vector UInt8 32)} {ls : List BS} (hy : AcI num mk slot V r y (ls.map BS.l)) (hs : y.isSome = false) : ls.length = 0 := by
 rcases hy with ⟨h, -⟩ | ⟨-, -, h, -⟩
 · rw [h] at hs; cases hs
 · simpa using h
theorem listI_le6 {V : List VD} {num slot : Int} {t : TalV} (h : ∀ v ∈ V, v.2.length ≤ 4294960000) : (listI num slot V t).length ≤ 16 ∧ ∀ x ∈ listI num slot V t, x.length ≤ 4294960000 := by
 rw [listI]
 refine ⟨by rw [List.length_map]; exact memK_len _, fun x hx => ?_⟩
 obtain ⟨i, -, rfl⟩ := List.mem_map.1 hx
 exact partI_le h
theorem Qr_le6 {V : List VD} {num slot : Int} {mk : Nat} {kind reg : Int} {y : Option (Vector UInt8 32)} {ls : List BS} (h : QrI num mk slot V kind reg y (ls.map BS.l)) (hb : ∀ v ∈ V, v.2.length ≤ 4294960000) : ls.length ≤ 16 ∧ ∀ x ∈ ls, x.l.length ≤ 4294960000 := by
 suffices hh : (ls.map BS.l).length ≤ 16 ∧ ∀ x ∈ ls.map BS.l, x.length ≤ 4294960000 from ⟨by simpa using hh.1, fun x hx => hh.2 _ (List.mem_map.2 ⟨x, hx, rfl⟩)⟩
 cases y with
 | none => rw [h.2]; simp
 | some g => rw [h.2]; exact listI_le6 hb
theorem Ac_le6 {V : List VD} {num slot : Int} {mk : Nat} {r : Nat} {y : Option (Vector UInt8 32)} {ls : List BS} (h : AcI num mk slot V r y (ls.map BS.l)) (hb : ∀ v ∈ V, v.2.length ≤ 4294960000) : ls.length ≤ 16 ∧ ∀ x ∈ ls, x.l.length ≤ 4294960000 := by
 rcases h with ⟨-, -, h, -⟩ | ⟨-, -, h, -⟩
 · exact Qr_le6 h hb
 · obtain rfl : ls = [] := by simpa using h
   simp
attribute [local irreducible] openOfK openK getM tagOf popB bruijn sealK keyT takeI listI mskI qualI memK ones16 quorumV writD decidD opn setD

set_option maxHeartbeats 1000000 in
theorem instProves_c {w0 : World} {H : List SA} [G : Glob w0] {num : Int} {mk : Nat} (hmk : mk < 65536) {slot : Int} {a : Option Addr} {l : List ActV} {c : Nat} [hr : RdC w0 H (.slice a l.length c) 2 (l.flatMap ActV.list)] (rl : ∀ x ∈ l, RdB w0 H (.slice x.b.a x.b.l.length x.b.c) x.b.l) :
 CT Tryd.prog w0 (H) 8 [.agg (ViewV.mk num (mk : Int)).cells, .int .i64 slot, .slice a l.length c] (α := Unit) (fun _ => .bool true) (fun _ => H) := by
 refine CT_intro Tryd.func8 rfl Tryd.ntmps8 rfl ?_
 refine T_seq ?_
 refine T_region ?_
 refine TL_e rfl (Ef_boxN rfl (fun b3 => ?_))
 refine TL_q (Qt_assign (.bool _) rfl) rfl ?_
 refine TL_nil ?_
 refine X_then ?_
 refine T_seq ?_
 refine T_seq ?_
 refine T_region ?_
 refine TL_e rfl (Ef_call (wakes18_c) rfl (fun x20 => ?_))
 refine TL_q (Qt_not rfl) rfl ?_
 refine TL_nil ?_
 refine X_then ?_
 refine T_cond rfl (fun h21 => ?_) (fun h21 => ?_)
 ·
  have p21 := h21
  try simp only [decide_eq_true_eq, decide_eq_false_iff_not, Bool.not_eq_true', Bool.not_eq_false', Option.isNone_iff_eq_none, ne_eq, Decidable.not_not, Int.not_lt, Int.not_le] at p21
  cases h21
 ·
  have p21 := h21
  try simp only [decide_eq_true_eq, decide_eq_false_iff_not, Bool.not_eq_true', Bool.not_eq_false', Option.isNone_iff_eq_none, ne_eq, Decidable.not_not, Int.not_lt, Int.not_le] at p21
  refine T_skip ?_
  refine X_then ?_
  refine T_seq ?_
  refine T_seq ?_
  refine T_region ?_
  refine TL_q (Qt_move (.slice _ _ _) rfl) rfl ?_
  refine TL_e rfl (Ef_call (long18_c (l := l)) rfl (fun x23 => ?_))
  refine TL_pure (fun hs23 => ?_)
  refine TL_nil ?_
  refine X_then ?_
  refine T_cond rfl (fun h23 => ?_) (fun h23 => ?_)
  ·
   have p23 := h23
   try simp only [decide_eq_true_eq, decide_eq_false_iff_not, Bool.not_eq_true', Bool.not_eq_false', Option.isNone_iff_eq_none, ne_eq, Decidable.not_not, Int.not_lt, Int.not_le] at p23
   refine T_seq ?_
   refine T_region ?_
   refine TL_q (Qt_assign (.bool _) rfl) rfl ?_
   refine TL_nil ?_
   refine X_then ?_
   refine T_ret ?_
   refine X_then_ret ?_
   exact X_ret () [_] Tryd.results8 ⟨rfl, trivial⟩ rfl (Subs.st inferInstance)
  ·
   have p23 := h23
   try simp only [decide_eq_true_eq, decide_eq_false_iff_not, Bool.not_eq_true', Bool.not_eq_false', Option.isNone_iff_eq_none, ne_eq, Decidable.not_not, Int.not_lt, Int.not_le] at p23
   have hsl : ShortI l := hs23 h23
   have hl60 := hsl.1
   refine T_skip ?_
   refine X_then ?_
   refine T_seq ?_
   refine T_draw (blk b3 (.cells (ViewV.mk num (mk : Int)).cells 24 (0, 0)) :: H) [(1, true), (2, true), (0, false), (3, false), (4, true)] (by kernel_rfl) (by kernel_rfl) rfl (by kernel_rfl) (Subs.st inferInstance) (fun hns0 => ?_)
   refine DL_q hns0 rfl (Qt_loadN rfl rfl) rfl ?_
   refine DL_q hns0 rfl (Qt_move (.int .i64 _) rfl) rfl ?_
   refine DL_e rfl rfl (Ef_call (table18_c) rfl (fun x24 => ⟨(Subs.st inferInstance), ?_⟩))
   refine DL_pure (fun hk24 => ?_)
   refine DL_e rfl rfl (Ef_call (instNew_c (sa := x24.1.a) (sc := x24.1.c) (ls := x24.1.ls) (num := num) (mk := mk) (slot := slot) (keyT_small hk24).2 (by have := (keyT_small hk24).1; omega)) rfl (fun x27 => ⟨(Subs.st inferInstance), ?_⟩))
   refine DL_pure (fun h27 => ?_)
   have hKx : x27.2.1.ls.map BS.l = keyT 16 := h27.trans hk24
   refine DL_q hns0 rfl (Qt_assign (.pointer _) rfl) rfl ?_
   refine DL_nil ?_
   refine X_then ?_
   refine T_seq ?_
   refine T_seq ?_
   refine T_region ?_
   refine TL_q (Qt_move (.slice _ _ _) rfl) rfl ?_
   refine TL_q (Qt_len_slice rfl Tryd.underlying52) rfl ?_
   refine TL_q (Qt_move (.int .i64 _) rfl) rfl ?_
   refine TL_nil ?_
   refine X_then ?_
   refine T_block ?_
   refine T_loop [9, 30, 31, 32, 33, 34, 35, 36, 37, 38] [30] (fun us H' => ∃ (k : Nat) (st : IS) (V : List VD), us = [.int .i64 (k : Int)] ∧ blk x27.1.1 (.cells (InstV.mk (KeysV.mk ⟨x27.2.1.a, x27.2.1.c, x27.2.1.ls⟩ ⟨none, 0, 0⟩) (ViewV.mk num (mk : Int)) slot (some x27.1.2.1) (some x27.1.2.2.1) (some x27.1.2.2.2)).cells 91 (0, 0)) :: blk x27.1.2.2.1 (mapO encB BS.val st.ps st.c) :: blk x27.1.2.2.2 (mapO encT encM st.ts st.d) :: eachA st.fp ((st.ps : PMI).map (·.v)) :: blk b3 (.cells (ViewV.mk num (mk : Int)).cells 24 (0, 0)) :: dat x27.2.2 (Deep.leads (PS.mk x27.2.1.a x27.2.1.c x27.2.1.ls)) :: H = H' ∧ k ≤ l.length ∧ (IsI num slot V st.ps st.c st.ts st.d) ∧ (SOk (keyT 16) num mk slot V)) (fun us => match us with | .int _ i :: _ => l.length - i.toNat | _ => 0) ⟨0, ⟨[], 0, [], 0, []⟩, [], rfl, rfl, by omega, IsI.nil _ _, SOk.nil⟩ (Subs.st inferInstance) ?_
   rintro τ0 _ _  ⟨k, st, V, rfl, rfl, hk0, hI, hok⟩ _
   refine T_seq ?_
   refine T_region ?_
   refine TL_q (Qt_lss rfl rfl) rfl ?_
   refine TL_nil ?_
   refine X_then ?_
   refine T_seq ?_
   refine T_cond rfl (fun h31 => ?_) (fun h31 => ?_)
   ·
    have p31 := h31
    try simp only [decide_eq_true_eq, decide_eq_false_iff_not, Bool.not_eq_true', Bool.not_eq_false', Option.isNone_iff_eq_none, ne_eq, Decidable.not_not, Int.not_lt, Int.not_le] at p31
    have hk : k < l.length := by omega
    refine T_skip ?_
    refine X_then ?_
    refine T_seq ?_
    refine T_block ?_
    refine T_seq ?_
    refine T_region ?_
    refine TL_q (Qt_indexN rfl rfl (by omega) (by omega)) rfl ?_
    refine TL_q (Qt_val (Qt_loadRN 2 l[k].list rfl (flat_slice _ 2 ActV.list_len l k hk) (ActV.list_len _) (by decide)) (show Value.agg l[k].list.toArray = Value.agg l[k].cells from rfl)) rfl ?_
    refine TL_e rfl (Ef_allocN (fun b9 => ?_))
    refine TL_n (Ef_storeN rfl rfl (?_))
    refine TL_nil ?_
    refine X_then ?_
    refine T_region ?_
    refine TL_q (Qt_move (.pointer _) rfl) rfl ?_
    refine TL_q (Qt_fieldAddr 1 rfl rfl) rfl ?_
    refine TL_q (Qt_load1 rfl) rfl ?_
    have := rl l[k] (List.getElem_mem hk)
    refine TL_conv (fun w hw => (Subs.st inferInstance w hw : St w0 (blk x27.1.1 (.cells (InstV.mk (KeysV.mk ⟨x27.2.1.a, x27.2.1.c, x27.2.1.ls⟩ ⟨none, 0, 0⟩) (ViewV.mk num (mk : Int)) slot (some x27.1.2.1) (some x27.1.2.2.1) (some x27.1.2.2.2)).cells 91 (0, 0)) :: blk x27.1.2.2.1 (mapO encB BS.val st.ps st.c) :: blk x27.1.2.2.2 (mapO encT encM st.ts st.d) :: eachA st.fp ((st.ps : PMI).map (·.v)) :: blk b9 (.cells l[k].cells 58 (0, 0)) :: blk b3 (.cells (ViewV.mk num (mk : Int)).cells 24 (0, 0)) :: dat x27.2.2 (Deep.leads (PS.mk x27.2.1.a x27.2.1.c x27.2.1.ls)) :: H) w)) ?_
    refine TL_e rfl (Ef_call (take_c (p := x27.1.1) (r3 := x27.1.2.1) (r4 := x27.1.2.2.1) (r5 := x27.1.2.2.2) (sa := x27.2.1.a) (sc := x27.2.1.c) (ls := x27.2.1.ls) (rt := ⟨none, 0, 0⟩) (num := num) (mk := mk) (slot := slot) (V := V) (ps := st.ps) (c := st.c) (ts := st.ts) (d := st.d) (fp := st.fp) (l := l[k].b.l) hI hmk (fun x hx => (keyT_small hKx).2 x hx) (by have := hsl.2 l[k] (List.getElem_mem hk); omega)) rfl (fun x37 => ?_))
    rw [hKx]
    refine TL_pure (fun h37 => ?_)
    refine TL_nil ?_
    refine X_block ?_
    refine X_then ?_
    refine T_region ?_
    first
     | refine TL_q (Qt_add rfl rfl (by omega) (by omega)) rfl ?_
     | refine TL_q (Qt_addw rfl rfl) rfl ?_
    refine TL_q (Qt_move (.int .i64 _) rfl) rfl ?_
    refine TL_nil ?_
    apply X_loop
    case ha => exact (by repeat (first | with_reducible exact agree_refl | refine agree_upd rfl ?_ | refine agree_mix rfl ?_ | refine agree_setAll rfl ?_))
    case hI => exact ⟨k + 1, x37, (takeI (keyT 16) num mk slot V l[k].b.l).2, rfl, rfl, by omega, h37, (takeI_ok hok _).1⟩
    case hm => exact by show l.length - (k + 1 : Int).toNat < l.length - (k : Int).toNat; omega
    case hH => exact (Subs.st inferInstance)
   ·
    have p31 := h31
    try simp only [decide_eq_true_eq, decide_eq_false_iff_not, Bool.not_eq_true', Bool.not_eq_false', Option.isNone_iff_eq_none, ne_eq, Decidable.not_not, Int.not_lt, Int.not_le] at p31
    have hVb : ∀ v ∈ V, v.2.length ≤ 4294960000 := fun v hv => (hI.bnd v hv).2.2
    refine T_exit ?_
    refine X_then_exit ?_
    refine X_loop_exit ?_
    refine X_block_exit ?_
    refine X_then ?_
    refine T_seq ?_
    refine T_seq ?_
    refine T_region ?_
    refine TL_q (Qt_move (.int .i64 _) rfl) rfl ?_
    refine TL_nil ?_
    refine X_then ?_
    refine T_block ?_
    refine T_loop [6, 10, 11, 12, 13, 39, 40, 41, 42, 43, 44, 45, 46, 47, 48, 49, 50, 51, 52, 53, 54, 55, 56, 57, 58, 59, 60] [39] (fun us H' => ∃ (q : Nat), us = [.int .i64 (q : Int)] ∧ blk x27.1.1 (.cells (InstV.mk (KeysV.mk ⟨x27.2.1.a, x27.2.1.c, x27.2.1.ls⟩ ⟨none, 0, 0⟩) (ViewV.mk num (mk : Int)) slot (some x27.1.2.1) (some x27.1.2.2.1) (some x27.1.2.2.2)).cells 91 (0, 0)) :: blk x27.1.2.2.1 (mapO encB BS.val st.ps st.c) :: blk x27.1.2.2.2 (mapO encT encM st.ts st.d) :: eachA st.fp ((st.ps : PMI).map (·.v)) :: blk b3 (.cells (ViewV.mk num (mk : Int)).cells 24 (0, 0)) :: dat x27.2.2 (Deep.leads (PS.mk x27.2.1.a x27.2.1.c x27.2.1.ls)) :: H = H' ∧ q ≤ 4) (fun us => match us with | .int _ i :: _ => 4 - i.toNat | _ => 0) ⟨0, rfl, rfl, by omega⟩ (Subs.st inferInstance) ?_
    rintro τ1 _ _  ⟨q, rfl, rfl, hq0⟩ _
    refine T_seq ?_
    refine T_region ?_
    refine TL_q (Qt_lss rfl rfl) rfl ?_
    refine TL_nil ?_
    refine X_then ?_
    refine T_seq ?_
    refine T_cond rfl (fun h40 => ?_) (fun h40 => ?_)
    ·
     have p40 := h40
     try simp only [decide_eq_true_eq, decide_eq_false_iff_not, Bool.not_eq_true', Bool.not_eq_false', Option.isNone_iff_eq_none, ne_eq, Decidable.not_not, Int.not_lt, Int.not_le] at p40
     refine T_skip ?_
     refine X_then ?_
     refine T_seq ?_
     refine T_block ?_
     refine T_seq ?_
     refine T_region ?_
     refine TL_q (Qt_move (.int .i64 _) rfl) rfl ?_
     refine TL_q (Qt_assign (.int .i64 _) rfl) rfl ?_
     refine TL_nil ?_
     refine X_then ?_
     refine T_seq ?_
     refine T_region ?_
     refine TL_q (Qt_move (.pointer _) rfl) rfl ?_
     refine TL_q (Qt_move (.int .i64 _) rfl) rfl ?_
     refine TL_conv (fun w hw => (Subs.st inferInstance w hw : St w0 (blk x27.1.1 (.cells (InstV.mk (KeysV.mk ⟨x27.2.1.a, x27.2.1.c, x27.2.1.ls⟩ ⟨none, 0, 0⟩) (ViewV.mk num (mk : Int)) slot (some x27.1.2.1) (some x27.1.2.2.1) (some x27.1.2.2.2)).cells 91 (0, 0)) :: blk x27.1.2.2.1 (mapO encB BS.val st.ps st.c) :: blk x27.1.2.2.2 (mapO encT encM st.ts st.d) :: eachA st.fp ((st.ps : PMI).map (·.v)) :: blk b3 (.cells (ViewV.mk num (mk : Int)).cells 24 (0, 0)) :: dat x27.2.2 (Deep.leads (PS.mk x27.2.1.a x27.2.1.c x27.2.1.ls)) :: H) w)) ?_
     refine TL_e rfl (Ef_call (iwritten_c (p := x27.1.1) (r3 := x27.1.2.1) (r4 := x27.1.2.2.1) (r5 := x27.1.2.2.2) (sa := x27.2.1.a) (sc := x27.2.1.c) (ls := x27.2.1.ls) (rt := ⟨none, 0, 0⟩) (num := num) (mk := mk) (slot := slot) (V := V) (ps := st.ps) (c := st.c) (ts := st.ts) (d := st.d) (fp := st.fp) hI hmk (reg := (q : Int))) rfl (fun x45 => ?_))
     refine TL_pure (fun h45 => ?_)
     refine TL_q (Qt_move (.tuple _) rfl) rfl ?_
     refine TL_q (Qt_extract rfl) rfl ?_
     refine TL_q (Qt_extract rfl) rfl ?_
     refine TL_q (Qt_extract rfl) rfl ?_
     refine TL_e rfl (Ef_allocN (fun b11 => ?_))
     refine TL_n (Ef_storeN rfl rfl (?_))
     refine TL_q (Qt_assign (.slice _ _ _) rfl) rfl ?_
     refine TL_q (Qt_assign (.bool _) rfl) rfl ?_
     refine TL_nil ?_
     refine X_then ?_
     refine T_seq ?_
     refine T_draw (blk b11 (.cells (hlist (x45.1.1.getD (zeroV 32))).toArray 26 (0, 0)) :: blk b3 (.cells (ViewV.mk num (mk : Int)).cells 24 (0, 0)) :: H) [(0, true), (1, true), (3, true), (4, true), (5, true), (6, true), (7, true), (2, false), (8, false), (9, true), (10, true)] (by kernel_rfl) (by kernel_rfl) rfl (by kernel_rfl) (Subs.st inferInstance) (fun hns1 => ?_)
     refine DL_q hns1 rfl (Qt_move (.bool _) rfl) rfl ?_
     refine DL_q hns1 rfl (Qt_move (.bool _) rfl) rfl ?_
     refine DL_split 50 rfl (fun h50 => ?_) (fun h50 => ?_)
     ·
      have p50 := h50
      try simp only [decide_eq_true_eq, decide_eq_false_iff_not, Bool.not_eq_true', Bool.not_eq_false', Option.isNone_iff_eq_none, ne_eq, Decidable.not_not, Int.not_lt, Int.not_le] at p50
      refine DL_qg hns1 rfl rfl rfl h50 (Qt_loadN rfl rfl) rfl ?_
      refine DL_qg hns1 rfl rfl rfl h50 (Qt_move (.int .i64 _) rfl) rfl ?_
      refine DL_qg hns1 rfl rfl rfl h50 (Qt_move (.int .i64 _) rfl) rfl ?_
      refine DL_qg hns1 rfl rfl rfl h50 (Qt_loadN rfl rfl) rfl ?_
      refine DL_qg hns1 rfl rfl rfl h50 (Qt_move (.slice _ _ _) rfl) rfl ?_
      refine DL_eg rfl rfl rfl h50 rfl (Ef_call (table18_c) rfl (fun x51 => ⟨(Subs.st inferInstance), ?_⟩))
      refine DL_pure (fun hk51 => ?_)
      refine DL_eg rfl rfl rfl h50 rfl (Ef_call (rWritten_c (num := num) hmk (sa := x51.1.a) (sc := x51.1.c) (ls := x51.1.ls) (rt := ⟨none, 0, 0⟩) (keyT_small hk51).2 (ps := x45.2.1) (Qr_le6 h45 hVb).2 (by have := (Qr_le6 h45 hVb).1; omega) (reg := (q : Int)) (slot := slot) (h := x45.1.1.getD (zeroV 32))) rfl (fun x57 => ⟨(Subs.st inferInstance), ?_⟩))
      rw [hk51, prove_writ hok h45 h50]
      refine DL_qg hns1 rfl rfl rfl h50 (Qt_neq rfl rfl) rfl ?_
      refine DL_q hns1 rfl (Qt_pick_t (.bool _) rfl h50 rfl) rfl ?_
      refine DL_nil ?_
      refine X_then ?_
      refine T_cond rfl (fun h59 => ?_) (fun h59 => ?_)
      ·
       have p59 := h59
       try simp only [decide_eq_true_eq, decide_eq_false_iff_not, Bool.not_eq_true', Bool.not_eq_false', Option.isNone_iff_eq_none, ne_eq, Decidable.not_not, Int.not_lt, Int.not_le] at p59
       exact absurd h59 (by simp)
      ·
       have p59 := h59
       try simp only [decide_eq_true_eq, decide_eq_false_iff_not, Bool.not_eq_true', Bool.not_eq_false', Option.isNone_iff_eq_none, ne_eq, Decidable.not_not, Int.not_lt, Int.not_le] at p59
       refine T_skip ?_
       refine X_block ?_
       refine X_then ?_
       refine T_region ?_
       first
        | refine TL_q (Qt_add rfl rfl (by omega) (by omega)) rfl ?_
        | refine TL_q (Qt_addw rfl rfl) rfl ?_
       refine TL_q (Qt_move (.int .i64 _) rfl) rfl ?_
       refine TL_nil ?_
       apply X_loop
       case ha => exact (by repeat (first | with_reducible exact agree_refl | refine agree_upd rfl ?_ | refine agree_mix rfl ?_ | refine agree_setAll rfl ?_))
       case hI => exact ⟨q + 1, rfl, rfl, by omega⟩
       case hm => exact by show 4 - (q + 1 : Int).toNat < 4 - (q : Int).toNat; omega
       case hH => exact (Subs.st inferInstance)
     ·
      have p50 := h50
      try simp only [decide_eq_true_eq, decide_eq_false_iff_not, Bool.not_eq_true', Bool.not_eq_false', Option.isNone_iff_eq_none, ne_eq, Decidable.not_not, Int.not_lt, Int.not_le] at p50
      refine DL_pass hns1 rfl rfl rfl h50 rfl ?_
      refine DL_pass hns1 rfl rfl rfl h50 rfl ?_
      refine DL_pass hns1 rfl rfl rfl h50 rfl ?_
      refine DL_pass hns1 rfl rfl rfl h50 rfl ?_
      refine DL_pass hns1 rfl rfl rfl h50 rfl ?_
      refine DL_passF rfl rfl rfl h50 rfl ?_
      refine DL_passF rfl rfl rfl h50 rfl ?_
      refine DL_pass hns1 rfl rfl rfl h50 rfl ?_
      refine DL_q hns1 rfl (Qt_pick_f (.bool _) rfl h50 rfl) rfl ?_
      refine DL_nil ?_
      refine X_then ?_
      refine T_cond_false rfl rfl ?_
      refine T_skip ?_
      refine X_block ?_
      refine X_then ?_
      refine T_region ?_
      first
       | refine TL_q (Qt_add rfl rfl (by omega) (by omega)) rfl ?_
       | refine TL_q (Qt_addw rfl rfl) rfl ?_
      refine TL_q (Qt_move (.int .i64 _) rfl) rfl ?_
      refine TL_nil ?_
      apply X_loop
      case ha => exact (by repeat (first | with_reducible exact agree_refl | refine agree_upd rfl ?_ | refine agree_mix rfl ?_ | refine agree_setAll rfl ?_))
      case hI => exact ⟨q + 1, rfl, rfl, by omega⟩
      case hm => exact by show 4 - (q + 1 : Int).toNat < 4 - (q : Int).toNat; omega
      case hH => exact (Subs.st inferInstance)
    ·
     have p40 := h40
     try simp only [decide_eq_true_eq, decide_eq_false_iff_not, Bool.not_eq_true', Bool.not_eq_false', Option.isNone_iff_eq_none, ne_eq, Decidable.not_not, Int.not_lt, Int.not_le] at p40
     refine T_exit ?_
     refine X_then_exit ?_
     refine X_loop_exit ?_
     refine X_block_exit ?_
     refine X_then ?_
     refine T_seq ?_
     refine T_region ?_
     refine TL_q (Qt_move (.pointer _) rfl) rfl ?_
     refine TL_conv (fun w hw => (Subs.st inferInstance w hw : St w0 (blk x27.1.1 (.cells (InstV.mk (KeysV.mk ⟨x27.2.1.a, x27.2.1.c, x27.2.1.ls⟩ ⟨none, 0, 0⟩) (ViewV.mk num (mk : Int)) slot (some x27.1.2.1) (some x27.1.2.2.1) (some x27.1.2.2.2)).cells 91 (0, 0)) :: blk x27.1.2.2.1 (mapO encB BS.val st.ps st.c) :: blk x27.1.2.2.2 (mapO encT encM st.ts st.d) :: eachA st.fp ((st.ps : PMI).map (·.v)) :: blk b3 (.cells (ViewV.mk num (mk : Int)).cells 24 (0, 0)) :: dat x27.2.2 (Deep.leads (PS.mk x27.2.1.a x27.2.1.c x27.2.1.ls)) :: H) w)) ?_
     refine TL_e rfl (Ef_call (accepted_c (p := x27.1.1) (r3 := x27.1.2.1) (r4 := x27.1.2.2.1) (r5 := x27.1.2.2.2) (sa := x27.2.1.a) (sc := x27.2.1.c) (ls := x27.2.1.ls) (rt := ⟨none, 0, 0⟩) (num := num) (mk := mk) (slot := slot) (V := V) (ps := st.ps) (c := st.c) (ts := st.ts) (d := st.d) (fp := st.fp) hI hmk) rfl (fun x63 => ?_))
     refine TL_pure (fun h63 => ?_)
     refine TL_q (Qt_move (.tuple _) rfl) rfl ?_
     refine TL_q (Qt_extract rfl) rfl ?_
     refine TL_q (Qt_extract rfl) rfl ?_
     refine TL_q (Qt_extract rfl) rfl ?_
     refine TL_q (Qt_extract rfl) rfl ?_
     refine TL_e rfl (Ef_allocN (fun b15 => ?_))
     refine TL_q (Qt_assign (.int .i64 _) rfl) rfl ?_
     refine TL_n (Ef_storeN rfl rfl (?_))
     refine TL_q (Qt_assign (.slice _ _ _) rfl) rfl ?_
     refine TL_q (Qt_assign (.bool _) rfl) rfl ?_
     refine TL_nil ?_
     refine X_then ?_
     refine T_seq ?_
     refine T_seq ?_
     refine T_region ?_
     refine TL_q (Qt_move (.bool _) rfl) rfl ?_
     refine TL_q (Qt_not rfl) rfl ?_
     refine TL_nil ?_
     refine X_then ?_
     refine T_cond rfl (fun h69 => ?_) (fun h69 => ?_)
     ·
      have p69 := h69
      try simp only [decide_eq_true_eq, decide_eq_false_iff_not, Bool.not_eq_true', Bool.not_eq_false', Option.isNone_iff_eq_none, ne_eq, Decidable.not_not, Int.not_lt, Int.not_le] at p69
      refine T_seq ?_
      refine T_region ?_
      refine TL_q (Qt_move (.slice _ _ _) rfl) rfl ?_
      refine TL_q (Qt_len_slice rfl Tryd.underlying28) rfl ?_
      refine TL_q (Qt_eql rfl rfl) rfl ?_
      refine TL_q (Qt_assign (.bool _) rfl) rfl ?_
      refine TL_nil ?_
      refine X_then ?_
      refine T_ret ?_
      refine X_then_ret ?_
      have hz := prove_nil h63 (by simpa using h69)
      exact X_ret () [.bool true] Tryd.results8 ⟨by refine congrArg Value.bool ?_; simp [hz], trivial⟩ rfl (Subs.st inferInstance)
     ·
      have p69 := h69
      try simp only [decide_eq_true_eq, decide_eq_false_iff_not, Bool.not_eq_true', Bool.not_eq_false', Option.isNone_iff_eq_none, ne_eq, Decidable.not_not, Int.not_lt, Int.not_le] at p69
      refine T_skip ?_
      refine X_then ?_
      refine T_seq ?_
      refine T_draw (blk b15 (.cells (hlist (x63.2.1.1.getD (zeroV 32))).toArray 26 (0, 0)) :: blk b3 (.cells (ViewV.mk num (mk : Int)).cells 24 (0, 0)) :: H) [(1, true), (2, true), (3, true), (4, true), (0, false), (5, false), (6, true), (7, true), (8, true), (9, true), (10, true)] (by kernel_rfl) (by kernel_rfl) rfl (by kernel_rfl) (Subs.st inferInstance) (fun hns2 => ?_)
      refine DL_q hns2 rfl (Qt_loadN rfl rfl) rfl ?_
      refine DL_q hns2 rfl (Qt_move (.int .i64 _) rfl) rfl ?_
      refine DL_q hns2 rfl (Qt_loadN rfl rfl) rfl ?_
      refine DL_q hns2 rfl (Qt_move (.slice _ _ _) rfl) rfl ?_
      refine DL_e rfl rfl (Ef_call (table18_c) rfl (fun x74 => ⟨(Subs.st inferInstance), ?_⟩))
      refine DL_pure (fun hk74 => ?_)
      refine DL_e rfl rfl (Ef_call (rDecided_c (num := num) hmk (sa := x74.1.a) (sc := x74.1.c) (ls := x74.1.ls) (rt := ⟨none, 0, 0⟩) (keyT_small hk74).2 (ps := x63.2.2.1) (Ac_le6 h63 hVb).2 (by have := (Ac_le6 h63 hVb).1; omega) (slot := slot) (h := x63.2.1.1.getD (zeroV 32))) rfl (fun x79 => ⟨(Subs.st inferInstance), ?_⟩))
      rw [hk74, prove_dec hok h63 (by simpa using h69)]
      refine DL_q hns2 rfl (Qt_move (.tuple _) rfl) rfl ?_
      refine DL_q hns2 rfl (Qt_extract rfl) rfl ?_
      refine DL_q hns2 rfl (Qt_extract rfl) rfl ?_
      refine DL_q hns2 rfl (Qt_assign (.int .i64 _) rfl) rfl ?_
      refine DL_q hns2 rfl (Qt_assign (.int .i64 _) rfl) rfl ?_
      refine DL_nil ?_
      refine X_then ?_
      refine T_seq ?_
      refine T_region ?_
      refine TL_q (Qt_move (.int .i64 _) rfl) rfl ?_
      refine TL_q (Qt_eql rfl rfl) rfl ?_
      refine TL_q (Qt_move (.bool _) rfl) rfl ?_
      refine TL_split 84 rfl (fun h84 => ?_) (fun h84 => ?_)
      ·
       have p84 := h84
       try simp only [decide_eq_true_eq, decide_eq_false_iff_not, Bool.not_eq_true', Bool.not_eq_false', Option.isNone_iff_eq_none, ne_eq, Decidable.not_not, Int.not_lt, Int.not_le] at p84
       refine TL_take rfl rfl h84 ?_
       refine TL_q (Qt_move (.int .i64 _) rfl) rfl ?_
       refine TL_take rfl rfl h84 ?_
       refine TL_q (Qt_move (.int .i64 _) rfl) rfl ?_
       refine TL_take rfl rfl h84 ?_
       refine TL_q (Qt_eql rfl rfl) rfl ?_
       refine TL_q (Qt_pick_t (.bool _) rfl h84 rfl) rfl ?_
       refine TL_q (Qt_assign (.bool _) rfl) rfl ?_
       refine TL_nil ?_
       refine X_then ?_
       refine T_ret ?_
       exact X_ret () [.bool true] Tryd.results8 ⟨by refine congrArg Value.bool ?_; simp, trivial⟩ rfl (Subs.st inferInstance)
      ·
       have p84 := h84
       try simp only [decide_eq_true_eq, decide_eq_false_iff_not, Bool.not_eq_true', Bool.not_eq_false', Option.isNone_iff_eq_none, ne_eq, Decidable.not_not, Int.not_lt, Int.not_le] at p84
       exact absurd h84 (by simp)
end Go.Proofs.YtgjkgdjjolnhdaaDoor
