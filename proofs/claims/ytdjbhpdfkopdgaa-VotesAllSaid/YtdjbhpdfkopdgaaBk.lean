/- The book: how it lies in memory; walks of its small methods. -/
import Derived.Test.YtdjbhpdfkopdgaaVy
namespace Go.Proofs.Ytdjbhpdfkopdgaa
open Go.RowKit Go.Sx
set_option maxRecDepth 100000
set_option linter.unusedSimpArgs false
set_option linter.unusedVariables false

/-- A slice's cells lie in these blocks. -/
def CellsIn (fp : List Nat) (w : World) (v : Value) (xs : List Value) : Prop :=
  ∃ a n c, v = .slice a n c ∧ xs.length = n * 1 ∧ n ≤ c ∧ c ≤ maxLen ∧ (0 < xs.length → ∃ b o, a = some ⟨b, o, none⟩ ∧ b ∈ fp ∧ ∀ j u, xs[j]? = some u → w.cell? ⟨b, o + j, none⟩ = some u)
theorem CellsIn.at {fp : List Nat} {w : World} {v : Value} {xs : List Value} (h : CellsIn fp w v xs) : CellsAt w v 1 xs := by
  obtain ⟨a, n, c, h1, h2, h3, h4, h5⟩ := h
  exact ⟨a, n, c, h1, h2, h3, h4, fun h0 => let ⟨b, o, e1, _, e2⟩ := h5 h0; ⟨b, o, e1, e2⟩⟩
theorem CellsIn.keep {fp fp' : List Nat} {w w' : World} {v : Value} {xs : List Value} (h : CellsIn fp w v xs) (hs : ∀ b ∈ fp, b ∈ fp') (hb : ∀ b ∈ fp, w'.heap[b]? = w.heap[b]?) : CellsIn fp' w' v xs := by
  obtain ⟨a, n, c, h1, h2, h3, h4, h5⟩ := h
  refine ⟨a, n, c, h1, h2, h3, h4, fun h0 => ?_⟩
  obtain ⟨b, o, e1, e2, e3⟩ := h5 h0
  refine ⟨b, o, e1, hs b e2, fun j u hj => ?_⟩
  rw [← e3 j u hj]
  simp only [World.cell?, hb b e2]
theorem rowP_cellsIn {v : Value} {e : TypeId} {xs : List Value} {w : World} (h : rowP v e 1 xs w) : CellsIn (rowFp v) w v xs := by
  have hc := h.cells
  obtain ⟨a, n, c, hv, hl, hn, hc', ha, hx⟩ := h
  refine ⟨a, n, c, hv, hl, hn, hc', fun h0 => ?_⟩
  have hc0 : c ≠ 0 := by
    rintro rfl
    obtain rfl : n = 0 := by omega
    simp at hl; simp [hl] at h0
  obtain ⟨g, cur, hg, hw, h1, h2⟩ := hx hc0
  obtain ⟨a', n', c', hv', -, -, -, hcell⟩ := hc
  obtain ⟨b, o, hb, hce⟩ := hcell h0
  subst hv; subst hg
  simp only [Value.slice.injEq] at hv'
  have hb2 : (some (⟨g, 0, none⟩ : Addr)) = some ⟨b, o, none⟩ := hv'.1.trans hb
  simp only [Option.some.injEq, Addr.mk.injEq] at hb2
  refine ⟨g, 0, rfl, by simp [rowFp, hc0], fun j u hj => ?_⟩
  have := hce j u hj
  rw [← hb2.1, ← hb2.2.1] at this
  exact this
/-- What a vote leads to lies in these blocks. -/
def VoteIn (fp : List Nat) (w : World) (v : VoteV) : Prop :=
  BytesIn fp w (.slice v.batch.a v.batch.l.length v.batch.c) v.batch.l ∧ CellsIn fp w (.slice v.cert.a v.cert.ls.length v.cert.c) (v.cert.ls.map BS.val) ∧ ∀ x ∈ v.cert.ls, BytesIn fp w x.val x.l
theorem VoteIn.keep {fp fp' : List Nat} {w w' : World} {v : VoteV} (h : VoteIn fp w v) (hs : ∀ b ∈ fp, b ∈ fp') (hb : ∀ b ∈ fp, w'.heap[b]? = w.heap[b]?) : VoteIn fp' w' v :=
  ⟨h.1.keep hs hb, h.2.1.keep hs hb, fun x hx => (h.2.2 x hx).keep hs hb⟩
/-- Data of our own: what these votes lead to. -/
def datV (fp : List Nat) (vs : List VoteV) : SA := ⟨fp, fun w => ∀ v ∈ vs, VoteIn fp w v, fun _ _ hb h v hv => (h v hv).keep (fun _ h => h) hb⟩
instance RdVs.own {w0 : World} {H : List SA} {fp : List Nat} {vs : List VoteV} : RdVs w0 (datV fp vs :: H) vs :=
  ⟨fun v hv => ⟨fun w hw => (hw.holds (datV fp vs) (by simp) v hv).1.at⟩, fun v hv => ⟨fun w hw => (hw.holds (datV fp vs) (by simp) v hv).2.1.at⟩, fun v hv => ⟨fun x hx w hw => ((hw.holds (datV fp vs) (by simp) v hv).2.2 x hx).at⟩⟩
theorem St.datNil {w0 w : World} {H : List SA} (h : St w0 H w) : St w0 (datV [] [] :: H) w :=
  h.fresh rfl rfl rfl (Nat.le_refl _) (fun _ _ => rfl) (fun _ h => by cases h) (by simp [datV]) (by simp [datV])
theorem St.datAdd {w0 w : World} {H : List SA} {fp fp' : List Nat} {vs us : List VoteV} (h : St w0 (datV fp vs :: datV fp' us :: H) w) : St w0 (datV (fp ++ fp') (vs ++ us) :: H) w :=
  h.merge rfl fun h1 h2 v hv => by
    rcases List.mem_append.1 hv with hv | hv
    · exact (h1 v hv).keep (fun b hb => List.mem_append_left _ hb) (fun _ _ => rfl)
    · exact (h2 v hv).keep (fun b hb => List.mem_append_right _ hb) (fun _ _ => rfl)
theorem St.datSub {w0 w : World} {H : List SA} {fp : List Nat} {vs us : List VoteV} (hs : ∀ v ∈ us, v ∈ vs) (h : St w0 (datV fp vs :: H) w) : St w0 (datV fp us :: H) w :=
  ⟨h.below, h.nodup, fun x hx => by
    rcases List.mem_cons.1 hx with rfl | hx
    · exact fun v hv => h.holds (datV fp vs) (by simp) v (hs v hv)
    · exact h.holds x (by simp [hx]), fun x hx b hb => by
    rcases List.mem_cons.1 hx with rfl | hx
    · exact h.lo (datV fp vs) (by simp) b hb
    · exact h.lo x (by simp [hx]) b hb⟩
/-- A vote whose slices are rows of our own. -/
theorem St.datMk {w0 w : World} {H : List SA} {v : VoteV} {fp : List Nat} (h : St w0 (row (.slice v.cert.a v.cert.ls.length v.cert.c) 24 1 (v.cert.ls.map BS.val) :: eachA fp v.cert.ls :: row (.slice v.batch.a v.batch.l.length v.batch.c) 5 1 (bytesV v.batch.l) :: H) w) : ∃ fp', St w0 (datV fp' [v] :: H) w := by
  have h1 := h.merge (z := ⟨rowFp (.slice v.cert.a v.cert.ls.length v.cert.c) ++ fp, fun w => CellsIn (rowFp (.slice v.cert.a v.cert.ls.length v.cert.c) ++ fp) w (.slice v.cert.a v.cert.ls.length v.cert.c) (v.cert.ls.map BS.val) ∧ ∀ x ∈ v.cert.ls, BytesIn (rowFp (.slice v.cert.a v.cert.ls.length v.cert.c) ++ fp) w x.val x.l, fun w w' hb h => ⟨h.1.keep (fun _ h => h) hb, fun x hx => (h.2 x hx).keep (fun _ h => h) hb⟩⟩) rfl
    (fun p1 p2 => ⟨(rowP_cellsIn p1).keep (fun b hb => List.mem_append_left _ hb) (fun _ _ => rfl), fun x hx => (p2 x hx).keep (fun b hb => List.mem_append_right _ hb) (fun _ _ => rfl)⟩)
  refine ⟨_, h1.merge (z := datV ((rowFp (.slice v.cert.a v.cert.ls.length v.cert.c) ++ fp) ++ rowFp (.slice v.batch.a v.batch.l.length v.batch.c)) [v]) rfl fun p1 p2 u hu => ?_⟩
  obtain rfl : u = v := by simpa using hu
  exact ⟨(rowP.bytesIn p2).keep (fun b hb => List.mem_append_right _ hb) (fun _ _ => rfl), p1.1.keep (fun b hb => List.mem_append_left _ hb) (fun _ _ => rfl), fun x hx => (p1.2 x hx).keep (fun b hb => List.mem_append_left _ hb) (fun _ _ => rfl)⟩
def encE (e : EraV) : Value := .agg e.cells
def encV (v : VoteV) : Value := .agg v.cells
def afterB (a b : EraV) : Bool := decide (b.view < a.view) || (decide (a.view = b.view) && decide (b.reg < a.reg))
def enterK (k : BookV) (a : EraV) : BookV := bif !k.entered || afterB a k.now then { k with now := a, entered := true } else k

set_option maxHeartbeats 1000000 in
theorem after_c {w0 : World} {H : List SA} {a b : EraV} :
    CT Try.prog w0 (H) 30 [.agg a.cells, .agg b.cells] (α := Unit) (fun _ => .bool (afterB a b)) (fun _ => H) := by
  refine CT_intro Try.func30 rfl Try.ntmps30 rfl ?_
  refine T_seq ?_
  refine T_region ?_
  refine TL_e rfl (Ef_boxN rfl (fun b2 => ?_))
  refine TL_e rfl (Ef_boxN rfl (fun b3 => ?_))
  refine TL_q (Qt_assign (.bool _) rfl) rfl ?_
  refine TL_nil ?_
  refine X_then ?_
  refine T_seq ?_
  refine T_region ?_
  refine TL_q (Qt_fieldAddr 0 rfl rfl) rfl ?_
  refine TL_q (Qt_load1 rfl) rfl ?_
  refine TL_q (Qt_fieldAddr 0 rfl rfl) rfl ?_
  refine TL_q (Qt_load1 rfl) rfl ?_
  refine TL_q (Qt_gtr rfl rfl) rfl ?_
  refine TL_q (Qt_move (.bool _) rfl) rfl ?_
  refine TL_split 10 rfl (fun h10 => ?_) (fun h10 => ?_)
  ·
    have p10 := h10
    try simp only [decide_eq_true_eq, decide_eq_false_iff_not, Bool.not_eq_true', Bool.not_eq_false', Option.isNone_iff_eq_none, ne_eq, Decidable.not_not, Int.not_lt, Int.not_le] at p10
    refine TL_pass rfl rfl h10 rfl ?_
    refine TL_pass rfl rfl h10 rfl ?_
    refine TL_pass rfl rfl h10 rfl ?_
    refine TL_pass rfl rfl h10 rfl ?_
    refine TL_pass rfl rfl h10 rfl ?_
    refine TL_pass rfl rfl h10 rfl ?_
    refine TL_passU rfl rfl rfl ?_
    refine TL_passU rfl rfl rfl ?_
    refine TL_passU rfl rfl rfl ?_
    refine TL_passU rfl rfl rfl ?_
    refine TL_passU rfl rfl rfl ?_
    refine TL_pass rfl rfl h10 rfl ?_
    refine TL_q (Qt_pick_t (.bool _) rfl h10 rfl) rfl ?_
    refine TL_q (Qt_assign (.bool _) rfl) rfl ?_
    refine TL_nil ?_
    refine X_then ?_
    refine T_ret ?_
    refine X_ret () [.bool (afterB a b)] Try.results30 ⟨?_, trivial⟩ rfl (Subs.st inferInstance)
    refine congrArg Value.bool ?_
    simp only [afterB]
    first | (simp_all; done) | (simp_all; omega)
  ·
    have p10 := h10
    try simp only [decide_eq_true_eq, decide_eq_false_iff_not, Bool.not_eq_true', Bool.not_eq_false', Option.isNone_iff_eq_none, ne_eq, Decidable.not_not, Int.not_lt, Int.not_le] at p10
    refine TL_take rfl rfl h10 ?_
    refine TL_q (Qt_fieldAddr 0 rfl rfl) rfl ?_
    refine TL_take rfl rfl h10 ?_
    refine TL_q (Qt_load1 rfl) rfl ?_
    refine TL_take rfl rfl h10 ?_
    refine TL_q (Qt_fieldAddr 0 rfl rfl) rfl ?_
    refine TL_take rfl rfl h10 ?_
    refine TL_q (Qt_load1 rfl) rfl ?_
    refine TL_take rfl rfl h10 ?_
    refine TL_q (Qt_eql rfl rfl) rfl ?_
    refine TL_take rfl rfl h10 ?_
    refine TL_q (Qt_move (.bool _) rfl) rfl ?_
    refine TL_split 16 rfl (fun h16 => ?_) (fun h16 => ?_)
    ·
      have p16 := h16
      try simp only [decide_eq_true_eq, decide_eq_false_iff_not, Bool.not_eq_true', Bool.not_eq_false', Option.isNone_iff_eq_none, ne_eq, Decidable.not_not, Int.not_lt, Int.not_le] at p16
      refine TL_take rfl rfl h16 ?_
      refine TL_q (Qt_fieldAddr 1 rfl rfl) rfl ?_
      refine TL_take rfl rfl h16 ?_
      refine TL_q (Qt_load1 rfl) rfl ?_
      refine TL_take rfl rfl h16 ?_
      refine TL_q (Qt_fieldAddr 1 rfl rfl) rfl ?_
      refine TL_take rfl rfl h16 ?_
      refine TL_q (Qt_load1 rfl) rfl ?_
      refine TL_take rfl rfl h16 ?_
      refine TL_q (Qt_gtr rfl rfl) rfl ?_
      refine TL_take rfl rfl h10 ?_
      refine TL_q (Qt_pick_t (.bool _) rfl h16 rfl) rfl ?_
      refine TL_q (Qt_pick_f (.bool _) rfl h10 rfl) rfl ?_
      refine TL_q (Qt_assign (.bool _) rfl) rfl ?_
      refine TL_nil ?_
      refine X_then ?_
      refine T_ret ?_
      refine X_ret () [.bool (afterB a b)] Try.results30 ⟨?_, trivial⟩ rfl (Subs.st inferInstance)
      refine congrArg Value.bool ?_
      simp only [afterB]
      first | (simp_all; done) | (simp_all; omega)
    ·
      have p16 := h16
      try simp only [decide_eq_true_eq, decide_eq_false_iff_not, Bool.not_eq_true', Bool.not_eq_false', Option.isNone_iff_eq_none, ne_eq, Decidable.not_not, Int.not_lt, Int.not_le] at p16
      refine TL_pass rfl rfl h16 rfl ?_
      refine TL_pass rfl rfl h16 rfl ?_
      refine TL_pass rfl rfl h16 rfl ?_
      refine TL_pass rfl rfl h16 rfl ?_
      refine TL_pass rfl rfl h16 rfl ?_
      refine TL_take rfl rfl h10 ?_
      refine TL_q (Qt_pick_f (.bool _) rfl h16 rfl) rfl ?_
      refine TL_q (Qt_pick_f (.bool _) rfl h10 rfl) rfl ?_
      refine TL_q (Qt_assign (.bool _) rfl) rfl ?_
      refine TL_nil ?_
      refine X_then ?_
      refine T_ret ?_
      refine X_ret () [.bool (afterB a b)] Try.results30 ⟨?_, trivial⟩ rfl (Subs.st inferInstance)
      refine congrArg Value.bool ?_
      simp only [afterB]
      first | (simp_all; done) | (simp_all; omega)
set_option maxHeartbeats 1000000 in
theorem enter_c {w0 : World} {H : List SA} {p : Nat} {k : BookV} {a : EraV} :
    CT Try.prog w0 (blk p (.cells k.cells 60 (0, 0)) :: H) 27 [.pointer (some ⟨p, 0, none⟩), .agg a.cells] (α := Unit) (fun _ => .tuple #[]) (fun _ => blk p (.cells (enterK k a).cells 60 (0, 0)) :: H) := by
  refine CT_intro Try.func27 rfl Try.ntmps27 rfl ?_
  refine T_seq ?_
  refine T_region ?_
  refine TL_e rfl (Ef_boxN rfl (fun b3 => ?_))
  refine TL_nil ?_
  refine X_then ?_
  refine T_seq ?_
  refine T_draw _ [(0, true), (1, true), (2, true), (3, true), (4, true), (5, true), (6, true), (7, true), (8, true), (9, true), (10, true), (11, false), (12, true)] (by kernel_rfl) (by kernel_rfl) rfl (by kernel_rfl) (fun _ hh => hh) (fun hns0 => ?_)
  refine DL_q hns0 rfl (Qt_move (.pointer _) rfl) rfl ?_
  refine DL_q hns0 rfl (Qt_nilCheck rfl) rfl ?_
  refine DL_q hns0 rfl (Qt_fieldAddr 2 rfl rfl) rfl ?_
  refine DL_q hns0 rfl (Qt_load1 rfl) rfl ?_
  refine DL_q hns0 rfl (Qt_not rfl) rfl ?_
  refine DL_q hns0 rfl (Qt_move (.bool _) rfl) rfl ?_
  refine DL_split 9 rfl (fun h9 => ?_) (fun h9 => ?_)
  ·
    have p9 := h9
    try simp only [decide_eq_true_eq, decide_eq_false_iff_not, Bool.not_eq_true', Bool.not_eq_false', Option.isNone_iff_eq_none, ne_eq, Decidable.not_not, Int.not_lt, Int.not_le] at p9
    refine DL_pass hns0 rfl rfl rfl h9 rfl ?_
    refine DL_pass hns0 rfl rfl rfl h9 rfl ?_
    refine DL_pass hns0 rfl rfl rfl h9 rfl ?_
    refine DL_pass hns0 rfl rfl rfl h9 rfl ?_
    refine DL_pass hns0 rfl rfl rfl h9 rfl ?_
    refine DL_passF rfl rfl rfl h9 rfl ?_
    refine DL_q hns0 rfl (Qt_pick_t (.bool _) rfl h9 rfl) rfl ?_
    refine DL_nil ?_
    refine X_then ?_
    refine T_cond_true rfl rfl ?_
    refine T_region ?_
    refine TL_q (Qt_move (.pointer _) rfl) rfl ?_
    refine TL_q (Qt_move (.pointer _) rfl) rfl ?_
    refine TL_q (Qt_loadN rfl rfl) rfl ?_
    refine TL_q (Qt_nilCheck rfl) rfl ?_
    refine TL_q (Qt_fieldAddr 0 rfl rfl) rfl ?_
    refine TL_n (Ef_storeN rfl rfl (?_))
    refine TL_q (Qt_nilCheck rfl) rfl ?_
    refine TL_q (Qt_fieldAddr 2 rfl rfl) rfl ?_
    refine TL_n (Ef_store1 (.bool _) rfl rfl (?_))
    refine TL_nil ?_
    have e : enterK k a = { k with now := a, entered := true } := by simp only [enterK, h9, Bool.true_or, cond_true]
    rw [e]
    exact X_ret () [] Try.results27 trivial rfl (Subs.st inferInstance)
  ·
    have p9 := h9
    try simp only [decide_eq_true_eq, decide_eq_false_iff_not, Bool.not_eq_true', Bool.not_eq_false', Option.isNone_iff_eq_none, ne_eq, Decidable.not_not, Int.not_lt, Int.not_le] at p9
    refine DL_qg hns0 rfl rfl rfl h9 (Qt_loadN rfl rfl) rfl ?_
    refine DL_qg hns0 rfl rfl rfl h9 (Qt_move (.pointer _) rfl) rfl ?_
    refine DL_qg hns0 rfl rfl rfl h9 (Qt_nilCheck rfl) rfl ?_
    refine DL_qg hns0 rfl rfl rfl h9 (Qt_fieldAddr 0 rfl rfl) rfl ?_
    refine DL_qg hns0 rfl rfl rfl h9 (Qt_loadN rfl rfl) rfl ?_
    refine DL_eg rfl rfl rfl h9 rfl (Ef_call (after_c) rfl (fun x15 => ⟨(Subs.st inferInstance), ?_⟩))
    refine DL_q hns0 rfl (Qt_pick_f (.bool _) rfl h9 rfl) rfl ?_
    refine DL_nil ?_
    refine X_then ?_
    refine T_cond rfl (fun h16 => ?_) (fun h16 => ?_)
    ·
      have p16 := h16
      try simp only [decide_eq_true_eq, decide_eq_false_iff_not, Bool.not_eq_true', Bool.not_eq_false', Option.isNone_iff_eq_none, ne_eq, Decidable.not_not, Int.not_lt, Int.not_le] at p16
      refine T_region ?_
      refine TL_q (Qt_move (.pointer _) rfl) rfl ?_
      refine TL_q (Qt_move (.pointer _) rfl) rfl ?_
      refine TL_q (Qt_loadN rfl rfl) rfl ?_
      refine TL_q (Qt_nilCheck rfl) rfl ?_
      refine TL_q (Qt_fieldAddr 0 rfl rfl) rfl ?_
      refine TL_n (Ef_storeN rfl rfl (?_))
      refine TL_q (Qt_nilCheck rfl) rfl ?_
      refine TL_q (Qt_fieldAddr 2 rfl rfl) rfl ?_
      refine TL_n (Ef_store1 (.bool _) rfl rfl (?_))
      refine TL_nil ?_
      have p9 : (!k.entered) = false := h9
      have e : enterK k a = { k with now := a, entered := true } := by simp only [enterK, p9, h16, Bool.false_or, cond_true]
      rw [e]
      exact X_ret () [] Try.results27 trivial rfl (Subs.st inferInstance)
    ·
      have p16 := h16
      try simp only [decide_eq_true_eq, decide_eq_false_iff_not, Bool.not_eq_true', Bool.not_eq_false', Option.isNone_iff_eq_none, ne_eq, Decidable.not_not, Int.not_lt, Int.not_le] at p16
      refine T_skip ?_
      have p9 : (!k.entered) = false := h9
      have e : enterK k a = k := by simp only [enterK, p9, h16, Bool.false_or, cond_false]
      rw [e]
      exact X_ret () [] Try.results27 trivial rfl (Subs.st inferInstance)
set_option maxHeartbeats 1000000 in
theorem reg_c {w0 : World} {H : List SA} {p : Nat} {k : BookV} :
    CT Try.prog w0 (blk p (.cells k.cells 60 (0, 0)) :: H) 16 [.pointer (some ⟨p, 0, none⟩)] (α := Unit) (fun _ => .tuple #[.int .i64 k.now.view, .int .i64 k.now.reg]) (fun _ => blk p (.cells k.cells 60 (0, 0)) :: H) := by
  refine CT_intro Try.func16 rfl Try.ntmps16 rfl ?_
  refine T_seq ?_
  refine T_region ?_
  refine TL_q (Qt_assign (.int .i64 _) rfl) rfl ?_
  refine TL_q (Qt_assign (.int .i64 _) rfl) rfl ?_
  refine TL_nil ?_
  refine X_then ?_
  refine T_seq ?_
  refine T_seq ?_
  refine T_region ?_
  refine TL_q (Qt_move (.pointer _) rfl) rfl ?_
  refine TL_q (Qt_ptr_nil rfl rfl Try.underlying31) rfl ?_
  refine TL_nil ?_
  refine X_then ?_
  refine T_cond rfl (fun h5 => ?_) (fun h5 => ?_)
  ·
    have p5 := h5
    try simp only [decide_eq_true_eq, decide_eq_false_iff_not, Bool.not_eq_true', Bool.not_eq_false', Option.isNone_iff_eq_none, ne_eq, Decidable.not_not, Int.not_lt, Int.not_le] at p5
    refine T_seq ?_
    refine T_region ?_
    refine TL_q (Qt_assign (.int .i64 _) rfl) rfl ?_
    refine TL_q (Qt_assign (.int .i64 _) rfl) rfl ?_
    refine TL_nil ?_
    refine X_then ?_
    refine T_ret ?_
    refine X_then_ret ?_
    cases h5
  ·
    have p5 := h5
    try simp only [decide_eq_true_eq, decide_eq_false_iff_not, Bool.not_eq_true', Bool.not_eq_false', Option.isNone_iff_eq_none, ne_eq, Decidable.not_not, Int.not_lt, Int.not_le] at p5
    refine T_skip ?_
    refine X_then ?_
    refine T_seq ?_
    refine T_draw _ [(0, true), (1, true), (2, true), (3, true), (4, true), (5, true), (6, true), (7, true), (8, true), (9, true), (10, true), (11, true)] (by kernel_rfl) (by kernel_rfl) rfl (by kernel_rfl) (fun _ hh => hh) (fun hns0 => ?_)
    refine DL_q hns0 rfl (Qt_move (.pointer _) rfl) rfl ?_
    refine DL_q hns0 rfl (Qt_nilCheck rfl) rfl ?_
    refine DL_q hns0 rfl (Qt_fieldAddr 0 rfl rfl) rfl ?_
    refine DL_q hns0 rfl (Qt_fieldAddr 0 rfl rfl) rfl ?_
    refine DL_q hns0 rfl (Qt_load1 rfl) rfl ?_
    refine DL_q hns0 rfl (Qt_move (.pointer _) rfl) rfl ?_
    refine DL_q hns0 rfl (Qt_nilCheck rfl) rfl ?_
    refine DL_q hns0 rfl (Qt_fieldAddr 0 rfl rfl) rfl ?_
    refine DL_q hns0 rfl (Qt_fieldAddr 1 rfl rfl) rfl ?_
    refine DL_q hns0 rfl (Qt_load1 rfl) rfl ?_
    refine DL_q hns0 rfl (Qt_assign (.int .i64 _) rfl) rfl ?_
    refine DL_q hns0 rfl (Qt_assign (.int .i64 _) rfl) rfl ?_
    refine DL_nil ?_
    refine X_then ?_
    refine T_ret ?_
    exact X_ret () [_, _] Try.results16 ⟨rfl, rfl, trivial⟩ rfl (Subs.st inferInstance)
set_option maxHeartbeats 1000000 in
theorem slot_c {w0 : World} {H : List SA} {p : Nat} {k : BookV} :
    CT Try.prog w0 (blk p (.cells k.cells 60 (0, 0)) :: H) 17 [.pointer (some ⟨p, 0, none⟩)] (α := Unit) (fun _ => .int .i64 k.slot) (fun _ => blk p (.cells k.cells 60 (0, 0)) :: H) := by
  refine CT_intro Try.func17 rfl Try.ntmps17 rfl ?_
  refine T_seq ?_
  refine T_region ?_
  refine TL_q (Qt_assign (.int .i64 _) rfl) rfl ?_
  refine TL_nil ?_
  refine X_then ?_
  refine T_seq ?_
  refine T_seq ?_
  refine T_region ?_
  refine TL_q (Qt_move (.pointer _) rfl) rfl ?_
  refine TL_q (Qt_ptr_nil rfl rfl Try.underlying31) rfl ?_
  refine TL_nil ?_
  refine X_then ?_
  refine T_cond rfl (fun h4 => ?_) (fun h4 => ?_)
  ·
    have p4 := h4
    try simp only [decide_eq_true_eq, decide_eq_false_iff_not, Bool.not_eq_true', Bool.not_eq_false', Option.isNone_iff_eq_none, ne_eq, Decidable.not_not, Int.not_lt, Int.not_le] at p4
    refine T_seq ?_
    refine T_region ?_
    refine TL_q (Qt_assign (.int .i64 _) rfl) rfl ?_
    refine TL_nil ?_
    refine X_then ?_
    refine T_ret ?_
    refine X_then_ret ?_
    cases h4
  ·
    have p4 := h4
    try simp only [decide_eq_true_eq, decide_eq_false_iff_not, Bool.not_eq_true', Bool.not_eq_false', Option.isNone_iff_eq_none, ne_eq, Decidable.not_not, Int.not_lt, Int.not_le] at p4
    refine T_skip ?_
    refine X_then ?_
    refine T_seq ?_
    refine T_region ?_
    refine TL_q (Qt_move (.pointer _) rfl) rfl ?_
    refine TL_q (Qt_nilCheck rfl) rfl ?_
    refine TL_q (Qt_fieldAddr 3 rfl rfl) rfl ?_
    refine TL_q (Qt_load1 rfl) rfl ?_
    refine TL_q (Qt_assign (.int .i64 _) rfl) rfl ?_
    refine TL_nil ?_
    refine X_then ?_
    refine T_ret ?_
    exact X_ret () [_] Try.results17 ⟨rfl, trivial⟩ rfl (Subs.st inferInstance)
end Go.Proofs.Ytdjbhpdfkopdgaa
