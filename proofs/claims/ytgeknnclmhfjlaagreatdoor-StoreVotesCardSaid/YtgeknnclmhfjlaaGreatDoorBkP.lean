/- The book: how it lies in memory; walks of its small methods. -/
import Derived.Test.YtgeknnclmhfjlaaGreatDoorSgP
import Derived.Test.YtgeknnclmhfjlaaGreatDoorVdP
namespace Go.Proofs.YtgeknnclmhfjlaaGreatDoor
section
open Go.RowKit Go.Sx
set_option maxRecDepth 100000
set_option linter.unusedSimpArgs false
set_option linter.unusedVariables false

/-- A slice's cells lie in these blocks. -/
def CellsIn (fp : List Nat) (w : World) (v : Value) (xs : List Value) : Prop :=
 ∃ a n c, v = .slice a n c ∧ xs.length = n * 1 ∧ n ≤ c ∧ c ≤ maxLen ∧ (0 < xs.length → ∃ b o, a = some ⟨b, o, none⟩ ∧ b ∈ fp ∧ ∀ j u, xs[j]? = some u → w.cell? ⟨b, o + j, none⟩ = some u)
theorem CellsIn.at {fp : List Nat} {w : World} {v : Value} {xs : List Value} (h : CellsIn fp w v xs) : CellsAt w v 1 xs := by
 obtain ⟨a, n, c, h1, h2, h3, h4, h5⟩ := h
 exact ⟨a, n, c, h1, h2, h3, h4, fun h0 => let ⟨b, o, e1, _, e2⟩ := h5 h0; ⟨b, o, e1, e2⟩⟩
theorem CellsIn.keep {fp fp' : List Nat} {w w' : World} {v : Value} {xs : List Value} (h : CellsIn fp w v xs) (hs : ∀ b ∈ fp, b ∈ fp') (hb : ∀ b ∈ fp, w'.heap[b]? = w.heap[b]?) : CellsIn fp' w' v xs := by
 obtain ⟨a, n, c, h1, h2, h3, h4, h5⟩ := h
 refine ⟨a, n, c, h1, h2, h3, h4, fun h0 => ?_⟩
 obtain ⟨b, o, e1, e2, e3⟩ := h5 h0
 refine ⟨b, o, e1, hs b e2, fun j u hj => ?_⟩
 rw [← e3 j u hj]
 simp only [World.cell?, hb b e2]
theorem rowP_cellsIn {v : Value} {e : TypeId} {xs : List Value} {w : World} (h : rowP v e 1 xs w) : CellsIn (rowFp v) w v xs := by
 have hc := h.cells
 obtain ⟨a, n, c, hv, hl, hn, hc', ha, hx⟩ := h
 refine ⟨a, n, c, hv, hl, hn, hc', fun h0 => ?_⟩
 have hc0 : c ≠ 0 := by
  rintro rfl
  obtain rfl : n = 0 := by omega
  simp at hl; simp [hl] at h0
 obtain ⟨g, cur, hg, hw, h1, h2⟩ := hx hc0
 obtain ⟨a', n', c', hv', -, -, -, hcell⟩ := hc
 obtain ⟨b, o, hb, hce⟩ := hcell h0
 subst hv; subst hg
 simp only [Value.slice.injEq] at hv'
 have hb2 : (some (⟨g, 0, none⟩ : Addr)) = some ⟨b, o, none⟩ := hv'.1.trans hb
 simp only [Option.some.injEq, Addr.mk.injEq] at hb2
 refine ⟨g, 0, rfl, by simp [rowFp, hc0], fun j u hj => ?_⟩
 have := hce j u hj
 rw [← hb2.1, ← hb2.2.1] at this
 exact this
/-- What a vote leads to lies in these blocks. -/
def VoteIn (fp : List Nat) (w : World) (v : VoteV) : Prop :=
 BytesIn fp w (.slice v.batch.a v.batch.l.length v.batch.c) v.batch.l ∧ CellsIn fp w (.slice v.cert.a v.cert.ls.length v.cert.c) (v.cert.ls.map BS.val) ∧ ∀ x ∈ v.cert.ls, BytesIn fp w x.val x.l
theorem VoteIn.keep {fp fp' : List Nat} {w w' : World} {v : VoteV} (h : VoteIn fp w v) (hs : ∀ b ∈ fp, b ∈ fp') (hb : ∀ b ∈ fp, w'.heap[b]? = w.heap[b]?) : VoteIn fp' w' v :=
 ⟨h.1.keep hs hb, h.2.1.keep hs hb, fun x hx => (h.2.2 x hx).keep hs hb⟩
/-- Data of our own: what these votes lead to. -/
def datV (fp : List Nat) (vs : List VoteV) : SA := ⟨fp, fun w => ∀ v ∈ vs, VoteIn fp w v, fun _ _ hb h v hv => (h v hv).keep (fun _ h => h) hb⟩
instance RdVs.own {w0 : World} {H : List SA} {fp : List Nat} {vs : List VoteV} : RdVs w0 (datV fp vs :: H) vs :=
 ⟨fun v hv => ⟨fun w hw => (hw.holds (datV fp vs) (by simp) v hv).1.at⟩, fun v hv => ⟨fun w hw => (hw.holds (datV fp vs) (by simp) v hv).2.1.at⟩, fun v hv => ⟨fun x hx w hw => ((hw.holds (datV fp vs) (by simp) v hv).2.2 x hx).at⟩⟩
theorem St.datNil {w0 w : World} {H : List SA} (h : St w0 H w) : St w0 (datV [] [] :: H) w :=
 h.fresh rfl rfl rfl (Nat.le_refl _) (fun _ _ => rfl) (fun _ h => by cases h) (by simp [datV]) (by simp [datV])
theorem St.datAdd {w0 w : World} {H : List SA} {fp fp' : List Nat} {vs us : List VoteV} (h : St w0 (datV fp vs :: datV fp' us :: H) w) : St w0 (datV (fp ++ fp') (vs ++ us) :: H) w :=
 h.merge rfl fun h1 h2 v hv => by
  rcases List.mem_append.1 hv with hv | hv
  · exact (h1 v hv).keep (fun b hb => List.mem_append_left _ hb) (fun _ _ => rfl)
  · exact (h2 v hv).keep (fun b hb => List.mem_append_right _ hb) (fun _ _ => rfl)
/-- A vote whose slices are rows of our own. -/
theorem St.datMk {w0 w : World} {H : List SA} {v : VoteV} {fp : List Nat} (h : St w0 (row (.slice v.cert.a v.cert.ls.length v.cert.c) 41 1 (v.cert.ls.map BS.val) :: eachA fp v.cert.ls :: row (.slice v.batch.a v.batch.l.length v.batch.c) 5 1 (bytesV v.batch.l) :: H) w) : ∃ fp', St w0 (datV fp' [v] :: H) w := by
 have h1 := h.merge (z := ⟨rowFp (.slice v.cert.a v.cert.ls.length v.cert.c) ++ fp, fun w => CellsIn (rowFp (.slice v.cert.a v.cert.ls.length v.cert.c) ++ fp) w (.slice v.cert.a v.cert.ls.length v.cert.c) (v.cert.ls.map BS.val) ∧ ∀ x ∈ v.cert.ls, BytesIn (rowFp (.slice v.cert.a v.cert.ls.length v.cert.c) ++ fp) w x.val x.l, fun w w' hb h => ⟨h.1.keep (fun _ h => h) hb, fun x hx => (h.2 x hx).keep (fun _ h => h) hb⟩⟩) rfl
  (fun p1 p2 => ⟨(rowP_cellsIn p1).keep (fun b hb => List.mem_append_left _ hb) (fun _ _ => rfl), fun x hx => (p2 x hx).keep (fun b hb => List.mem_append_right _ hb) (fun _ _ => rfl)⟩)
 refine ⟨_, h1.merge (z := datV ((rowFp (.slice v.cert.a v.cert.ls.length v.cert.c) ++ fp) ++ rowFp (.slice v.batch.a v.batch.l.length v.batch.c)) [v]) rfl fun p1 p2 u hu => ?_⟩
 obtain rfl : u = v := by simpa using hu
 exact ⟨(rowP.bytesIn p2).keep (fun b hb => List.mem_append_right _ hb) (fun _ _ => rfl), p1.1.keep (fun b hb => List.mem_append_left _ hb) (fun _ _ => rfl), fun x hx => (p1.2 x hx).keep (fun b hb => List.mem_append_left _ hb) (fun _ _ => rfl)⟩
def encE (e : EraV) : Value := .agg e.cells
def encV (v : VoteV) : Value := .agg v.cells
def afterB (a b : EraV) : Bool := decide (b.view < a.view) || (decide (a.view = b.view) && decide (b.reg < a.reg))
def enterK (k : BookV) (a : EraV) : BookV := bif !k.entered || afterB a k.now then { k with now := a, entered := true } else k

set_option maxHeartbeats 1000000 in
theorem after_c {w0 : World} {H : List SA} {a b : EraV} :
 CT Tryz.prog w0 (H) 79 [.agg a.cells, .agg b.cells] (α := Unit) (fun _ => .bool (afterB a b)) (fun _ => H) := by
 refine CT_intro Tryz.func79 rfl Tryz.ntmps79 rfl ?_
 refine T2 ?_
 refine ze rfl (Ef_boxN rfl (fun b2 => ?_))
 refine ze rfl (Ef_boxN rfl (fun b3 => ?_))
 refine Qab rfl rfl (T4 (zq (zf 0 rfl rfl) rfl (zq (zl rfl) rfl (zq (zf 0 rfl rfl) rfl (zq (zl rfl) rfl ?_)))))
 refine zq (Qt_gtr rfl rfl) rfl (Qmb rfl rfl ?_)
 refine TL_split 10 rfl (fun h10 => ?_) (fun h10 => ?_)
 ·
  have p10 := h10
  try simp only [dp] at p10
  refine zp rfl rfl h10 rfl (zp rfl rfl h10 rfl (zp rfl rfl h10 rfl (zp rfl rfl h10 rfl (zp rfl rfl h10 rfl (zp rfl rfl h10 rfl ?_)))))
  refine TL_passU rfl rfl rfl (TL_passU rfl rfl rfl (TL_passU rfl rfl rfl (TL_passU rfl rfl rfl (TL_passU rfl rfl rfl (zp rfl rfl h10 rfl ?_)))))
  refine zq (zT (.bool _) rfl h10 rfl) rfl (Qab rfl rfl (TX (zQ ?_)))
  refine zX () [.bool (afterB a b)] Tryz.results79 ⟨?_, trivial⟩ rfl SB
  refine congrArg Value.bool ?_
  simp only [afterB]
  first | (simp_all; done) | (simp_all; omega)
 have p10 := h10
 try simp only [dp] at p10
 refine zt rfl rfl h10 (zq (zf 0 rfl rfl) rfl (zt rfl rfl h10 (zq (zl rfl) rfl (zt rfl rfl h10 (zq (zf 0 rfl rfl) rfl ?_)))))
 refine zt rfl rfl h10 (zq (zl rfl) rfl (zt rfl rfl h10 (zq (Qt_eql rfl rfl) rfl (zt rfl rfl h10 (Qmb rfl rfl ?_)))))
 refine TL_split 16 rfl (fun h16 => ?_) (fun h16 => ?_)
 ·
  have p16 := h16
  try simp only [dp] at p16
  refine zt rfl rfl h16 (zq (zf 1 rfl rfl) rfl (zt rfl rfl h16 (zq (zl rfl) rfl (zt rfl rfl h16 (zq (zf 1 rfl rfl) rfl ?_)))))
  refine zt rfl rfl h16 (zq (zl rfl) rfl (zt rfl rfl h16 (zq (Qt_gtr rfl rfl) rfl (zt rfl rfl h10 (zq (zT (.bool _) rfl h16 rfl) rfl ?_)))))
  refine zq (zF (.bool _) rfl h10 rfl) rfl (Qab rfl rfl (TX (zQ ?_)))
  refine zX () [.bool (afterB a b)] Tryz.results79 ⟨?_, trivial⟩ rfl SB
  refine congrArg Value.bool ?_
  simp only [afterB]
  first | (simp_all; done) | (simp_all; omega)
 have p16 := h16
 try simp only [dp] at p16
 refine zp rfl rfl h16 rfl (zp rfl rfl h16 rfl (zp rfl rfl h16 rfl (zp rfl rfl h16 rfl (zp rfl rfl h16 rfl (zt rfl rfl h10 ?_)))))
 refine zq (zF (.bool _) rfl h16 rfl) rfl (zq (zF (.bool _) rfl h10 rfl) rfl (Qab rfl rfl (TX (zQ ?_))))
 refine zX () [.bool (afterB a b)] Tryz.results79 ⟨?_, trivial⟩ rfl SB
 refine congrArg Value.bool ?_
 simp only [afterB]
 first | (simp_all; done) | (simp_all; omega)
set_option maxHeartbeats 1000000 in
theorem enter_c {w0 : World} {H : List SA} {p : Nat} {k : BookV} {a : EraV} :
 CT Tryz.prog w0 (blk p (.cells k.cells 115 (0, 0)) :: H) 76 [.pointer (some ⟨p, 0, none⟩), .agg a.cells] (α := Unit) (fun _ => .tuple #[]) (fun _ => blk p (.cells (enterK k a).cells 115 (0, 0)) :: H) := by
 refine CT_intro Tryz.func76 rfl Tryz.ntmps76 rfl ?_
 refine T2 ?_
 refine ze rfl (Ef_boxN rfl (fun b3 => ?_))
 refine TX (zS ?_)
 refine T_draw _ [(0, true), (1, true), (2, true), (3, true), (4, true), (5, true), (6, true), (7, true), (8, true), (9, true), (10, true), (11, false), (12, true)] (by kernel_rfl) (by kernel_rfl) rfl (by kernel_rfl) (fun _ hh => hh) (fun hns0 => ?_)
 refine zd hns0 rfl (zm (.pointer _) rfl) rfl (zd hns0 rfl (Qt_nilCheck rfl) rfl (zd hns0 rfl (zf 2 rfl rfl) rfl (zd hns0 rfl (zl rfl) rfl (zd hns0 rfl (Qt_not rfl) rfl (zd hns0 rfl (zm (.bool _) rfl) rfl ?_)))))
 refine DL_split 9 rfl (fun h9 => ?_) (fun h9 => ?_)
 ·
  have p9 := h9
  try simp only [dp] at p9
  refine DL_pass hns0 rfl rfl rfl h9 rfl (DL_pass hns0 rfl rfl rfl h9 rfl (DL_pass hns0 rfl rfl rfl h9 rfl (DL_pass hns0 rfl rfl rfl h9 rfl (DL_pass hns0 rfl rfl rfl h9 rfl (DL_passF rfl rfl rfl h9 rfl ?_)))))
  refine zd hns0 rfl (zT (.bool _) rfl h9 rfl) rfl (DL_nil (zx (T_cond_true rfl rfl (zR (zq (zm (.pointer _) rfl) rfl ?_)))))
  refine zq (zm (.pointer _) rfl) rfl (zq (zn rfl rfl) rfl (zq (Qt_nilCheck rfl) rfl (zq (zf 0 rfl rfl) rfl ?_)))
  refine zN (zs rfl rfl (?_))
  refine zq (Qt_nilCheck rfl) rfl (zq (zf 2 rfl rfl) rfl ?_)
  refine zN (Ef_store1 (.bool _) rfl rfl (?_))
  refine zz ?_
  have e : enterK k a = { k with now := a, entered := true } := by simp only [enterK, h9, Bool.true_or, cond_true]
  rw [e]
  exact zX () [] Tryz.results76 trivial rfl SB
 have p9 := h9
 try simp only [dp] at p9
 refine DL_qg hns0 rfl rfl rfl h9 (zn rfl rfl) rfl ?_
 refine DL_qg hns0 rfl rfl rfl h9 (zm (.pointer _) rfl) rfl ?_
 refine DL_qg hns0 rfl rfl rfl h9 (Qt_nilCheck rfl) rfl ?_
 refine DL_qg hns0 rfl rfl rfl h9 (zf 0 rfl rfl) rfl ?_
 refine DL_qg hns0 rfl rfl rfl h9 (zn rfl rfl) rfl ?_
 refine DL_eg rfl rfl rfl h9 rfl (zc (after_c) rfl (fun x15 => ⟨SB, ?_⟩))
 refine zd hns0 rfl (zF (.bool _) rfl h9 rfl) rfl (DL_nil (zx (zC rfl (fun h16 => ?_) (fun h16 => ?_))))
 ·
  have p16 := h16
  try simp only [dp] at p16
  refine zR (zq (zm (.pointer _) rfl) rfl (zq (zm (.pointer _) rfl) rfl (zq (zn rfl rfl) rfl (zq (Qt_nilCheck rfl) rfl (zq (zf 0 rfl rfl) rfl ?_)))))
  refine zN (zs rfl rfl (?_))
  refine zq (Qt_nilCheck rfl) rfl (zq (zf 2 rfl rfl) rfl ?_)
  refine zN (Ef_store1 (.bool _) rfl rfl (?_))
  refine zz ?_
  have p9 : (!k.entered) = false := h9
  have e : enterK k a = { k with now := a, entered := true } := by simp only [enterK, p9, h16, Bool.false_or, cond_true]
  rw [e]
  exact zX () [] Tryz.results76 trivial rfl SB
 have p16 := h16
 try simp only [dp] at p16
 refine zk ?_
 have p9 : (!k.entered) = false := h9
 have e : enterK k a = k := by simp only [enterK, p9, h16, Bool.false_or, cond_false]
 rw [e]
 exact zX () [] Tryz.results76 trivial rfl SB
set_option maxHeartbeats 1000000 in
theorem reg_c {w0 : World} {H : List SA} {p : Nat} {k : BookV} :
 CT Tryz.prog w0 (blk p (.cells k.cells 115 (0, 0)) :: H) 40 [.pointer (some ⟨p, 0, none⟩)] (α := Unit) (fun _ => .tuple #[.int .i64 k.now.view, .int .i64 k.now.reg]) (fun _ => blk p (.cells k.cells 115 (0, 0)) :: H) := by
 refine CT_intro Tryz.func40 rfl Tryz.ntmps40 rfl ?_
 refine T2 (Qai rfl rfl (Qai rfl rfl (TX (zS (T2 ?_)))))
 refine zq (zm (.pointer _) rfl) rfl (zq (Qt_ptr_nil rfl rfl Tryz.underlying75) rfl (TX (zC rfl (fun h5 => ?_) (fun h5 => ?_))))
 ·
  have p5 := h5
  try simp only [dp] at p5
  refine T2 (Qai rfl rfl (Qai rfl rfl (TX (zQ (zr ?_)))))
  cases h5
 have p5 := h5
 try simp only [dp] at p5
 refine zk (zx (zS ?_))
 refine T_draw _ [(0, true), (1, true), (2, true), (3, true), (4, true), (5, true), (6, true), (7, true), (8, true), (9, true), (10, true), (11, true)] (by kernel_rfl) (by kernel_rfl) rfl (by kernel_rfl) (fun _ hh => hh) (fun hns0 => ?_)
 refine zd hns0 rfl (zm (.pointer _) rfl) rfl (zd hns0 rfl (Qt_nilCheck rfl) rfl (zd hns0 rfl (zf 0 rfl rfl) rfl (zd hns0 rfl (zf 0 rfl rfl) rfl (zd hns0 rfl (zl rfl) rfl (zd hns0 rfl (zm (.pointer _) rfl) rfl ?_)))))
 refine zd hns0 rfl (Qt_nilCheck rfl) rfl (zd hns0 rfl (zf 0 rfl rfl) rfl (zd hns0 rfl (zf 1 rfl rfl) rfl (zd hns0 rfl (zl rfl) rfl (zd hns0 rfl (za (.int .i64 _) rfl) rfl (zd hns0 rfl (za (.int .i64 _) rfl) rfl ?_)))))
 refine DL_nil (zx (zQ ?_))
 exact zX () [_, _] Tryz.results40 ⟨rfl, rfl, trivial⟩ rfl SB
set_option maxHeartbeats 1000000 in
theorem slot_c {w0 : World} {H : List SA} {p : Nat} {k : BookV} :
 CT Tryz.prog w0 (blk p (.cells k.cells 115 (0, 0)) :: H) 31 [.pointer (some ⟨p, 0, none⟩)] (α := Unit) (fun _ => .int .i64 k.slot) (fun _ => blk p (.cells k.cells 115 (0, 0)) :: H) := by
 refine CT_intro Tryz.func31 rfl Tryz.ntmps31 rfl ?_
 refine T2 (Qai rfl rfl (TX (zS (T2 ?_))))
 refine zq (zm (.pointer _) rfl) rfl (zq (Qt_ptr_nil rfl rfl Tryz.underlying75) rfl (TX (zC rfl (fun h4 => ?_) (fun h4 => ?_))))
 ·
  have p4 := h4
  try simp only [dp] at p4
  refine T2 (Qai rfl rfl (TX (zQ (zr ?_))))
  cases h4
 have p4 := h4
 try simp only [dp] at p4
 refine S4 (zq (zm (.pointer _) rfl) rfl (zq (Qt_nilCheck rfl) rfl (zq (zf 3 rfl rfl) rfl (zq (zl rfl) rfl (Qai rfl rfl ?_)))))
 refine TX (zQ ?_)
 exact zX () [_] Tryz.results31 ⟨rfl, trivial⟩ rfl SB
end
section
open Go.RowKit Go.Sx
set_option maxRecDepth 100000
set_option linter.unusedSimpArgs false
set_option linter.unusedVariables false
theorem EraV.check' (k : EraV) (empty : Bool) (w : World) (d : Nat) : (Instr.checkKey empty (d + 1 + 1) 112 (.agg k.cells)).run Tryz.prog w = .ok () w := by
 rw [Instr.checkKey]
 simp only [Sem.run_bind, run_underlying Tryz.underlying112, Result.andThen_ok]
 simp only [List.forIn_toArray, List.forIn_cons, List.forIn_nil, ne_eq, String.reduceEq, not_false_eq_true, if_true, Sem.run_bind, part1, Result.andThen_ok, Instr.checkKey, run_underlying Tryz.underlying3, Sem.run_pure]
theorem EraV.same' (k : EraV) (d : Nat) : Instr.sameBits (d + 2) (.agg k.cells) (.agg k.cells) = true := by
 simp [Instr.sameBits, EraV.cells, EraV.list]
instance : Key Tryz.prog 112 encE where
 eq x y w := equal_run (x := encE x) (y := encE y) (h := (inferInstance : EqV Tryz.prog 112 (.agg x.cells) (.agg y.cells) _)) w
 now d _ x y := .inl (sameNow_agg d _ _)
 there := by rw [Tryz.underlying112]; rfl
 check k empty w := EraV.check' k empty w 9998
 same k := by
  have h : ∀ n : Nat, n = 9998 + 2 → Instr.sameBits n (encE k) (encE k) = true := fun n hn => by rw [hn]; exact EraV.same' k 9998
  exact h 10000 (by decide)
theorem vote_zero : (Tryz.prog.info? 44).bind (·.zero) = some (encV VoteV.zero) := (inferInstance : TyZ Tryz.prog 44 (.agg VoteV.zero.cells)).ok

theorem copiedEnd {w0 w : World} {H : List SA} {b1 b2 : Nat} {v u : VoteV} {ls : List BS} {a1 a8 : Option Addr} {c1 c8 : Nat} {l : List UInt8} {fp : List Nat}
 (h : St w0 (blk b2 (.cells u.cells 44 (0, 0)) :: blk b1 (.cells u.cells 44 (0, 0)) :: row (.slice a1 ls.length c1) 41 1 (ls.map BS.val) :: eachA fp ls :: row (.slice a8 l.length c8) 5 1 (bytesV l) :: H) w) (hu : u = { v with batch := ⟨a8, c8, l⟩, cert := ⟨a1, c1, ls⟩ }) :
 ∃ fp2, St w0 (datV fp2 [u] :: blk b2 (.cells u.cells 44 (0, 0)) :: H) w := by
 subst hu
 have h1 : St w0 (row (.slice a1 ls.length c1) 41 1 (ls.map BS.val) :: eachA fp ls :: row (.slice a8 l.length c8) 5 1 (bytesV l) :: blk b2 (.cells ({ v with batch := ⟨a8, c8, l⟩, cert := ⟨a1, c1, ls⟩ } : VoteV).cells 44 (0, 0)) :: H) w := Subs.st inferInstance w h
 exact St.datMk (v := { v with batch := ⟨a8, c8, l⟩, cert := ⟨a1, c1, ls⟩ }) h1

set_option maxHeartbeats 1000000 in
theorem copied_c {w0 : World} {H : List SA} {v : VoteV} [rbv : RdB w0 H (.slice v.batch.a v.batch.l.length v.batch.c) v.batch.l] [rcv : RdC w0 H (.slice v.cert.a v.cert.ls.length v.cert.c) 1 (v.cert.ls.map BS.val)] [rev : RdE w0 H v.cert.ls] (hs : SmallV v.abs) :
 CT Tryz.prog w0 (H) 78 [.agg v.cells] (α := VoteV × List Nat) (fun y => .agg y.1.cells) (fun y => pu (y.1.abs = v.abs) :: datV y.2 [y.1] :: H) := by
 refine CT_intro Tryz.func78 rfl Tryz.ntmps78 rfl ?_
 refine T2 ?_
 refine ze rfl (Ef_boxN rfl (fun b1 => ?_))
 refine ze rfl (Ef_allocN (fun b2 => ?_))
 refine T4 (zq (zf 36 rfl rfl) rfl (zq (zl rfl) rfl ?_))
 refine ze rfl (zc (clone_c (by have := hs.batch; omega)) rfl (fun x8 => ?_))
 refine zq (zf 36 rfl rfl) rfl ?_
 refine zN (Ef_store1 (.slice _ _ _) rfl rfl (?_))
 refine T4 (Qas rfl rfl (TX (zS (T2 ?_))))
 refine zq (zf 37 rfl rfl) rfl (zq (zl rfl) rfl (zq (zL rfl Tryz.underlying42) rfl (Qmi rfl rfl (TX (zB ?_)))))
 have hsc := hs.cert
 refine T_loop [3, 5, 13, 14, 15, 16, 17, 18, 19, 20, 21, 22] [13, 3] (fun us H' => ∃ (k : Nat) (a : Option Addr) (c : Nat) (ls : List BS) (fp : List Nat), us = [.int .i64 (k : Int), .slice a (ls.map BS.val).length c] ∧ row (.slice a (ls.map BS.val).length c) 41 1 (ls.map BS.val) :: eachA fp ls :: row (.slice x8.a v.batch.l.length x8.c) 5 1 (bytesV v.batch.l) :: blk b1 (.cells ({ v with batch := ⟨x8.a, x8.c, v.batch.l⟩ } : VoteV).cells 44 (0, 0)) :: blk b2 (.cells VoteV.zero.cells 44 (0, 0)) :: H = H' ∧ k ≤ v.cert.ls.length ∧ ls.map BS.l = (v.cert.ls.map BS.l).take k) (fun us => match us with | .int _ i :: _ => v.cert.ls.length - i.toNat | _ => 0) ⟨0, none, 0, [], [], rfl, rfl, by omega, rfl⟩ (fun w hw => ((SB w hw : St w0 (row (.slice x8.a v.batch.l.length x8.c) 5 1 (bytesV v.batch.l) :: blk b1 (.cells ({ v with batch := ⟨x8.a, x8.c, v.batch.l⟩ } : VoteV).cells 44 (0, 0)) :: blk b2 (.cells VoteV.zero.cells 44 (0, 0)) :: H) w).eachNil).addNilV 41) ?_
 rintro τ0 _ _  ⟨k, a1, c1, ls, fp, rfl, rfl, hk0, hls⟩ _
 have hll : ls.length = k := by have := congrArg List.length hls; simp at this; omega
 refine T2 (zq (Qt_lss rfl rfl) rfl (TX (zS ?_)))
 refine zC rfl (fun h14 => ?_) (fun h14 => ?_)
 ·
  have p14 := h14
  try simp only [dp] at p14
  have hk : k < v.cert.ls.length := by omega
  have hk' : (k : Int) < v.cert.ls.length := by omega
  refine zk (zx (zS (zB (T2 ?_))))
  refine zq (Qt_indexR rfl rfl (by omega) (by simpa using hk')) rfl (zq (Qt_loadR (.slice _ _ _) rfl (vals_get _ _ hk)) rfl (Qas rfl rfl (TX (zR ?_))))
  refine Qms rfl rfl (Qms rfl rfl ?_)
  have hmem : v.cert.ls[k] ∈ v.cert.ls := List.getElem_mem hk
  have : RdB w0 H (.slice v.cert.ls[k].a v.cert.ls[k].l.length v.cert.ls[k].c) v.cert.ls[k].l := rev.get hmem
  refine ze rfl (zc (clone_c (by have := hs.each _ hmem; omega)) rfl (fun x19 => ?_))
  refine ze rfl (Ef_slice1 (v := .slice _ _ _) rfl (fun a20 c20 => ?_))
  refine ze rfl (Ef_append1 (sv := .slice _ _ _) (xv := .slice _ _ _) rfl rfl (by simp [Value.oneCell']) (by simp; omega) rfl (fun a21 c21 => ?_))
  refine Qas rfl rfl (zz (X_block (zx (zR ?_))))
  refine zq (Qt_add rfl rfl (by omega) (by omega)) rfl (Qmi rfl rfl (zz ?_))
  refine X_loop _ (by repeat (first | with_reducible exact agree_refl | refine agree_upd rfl ?_ | refine agree_mix rfl ?_ | refine agree_setAll rfl ?_)) (⟨k + 1, a21, c21, ls ++ [⟨x19.a, x19.c, v.cert.ls[k].l⟩], rowFp (.slice x19.a v.cert.ls[k].l.length x19.c) ++ fp, by simp only [List.map_append, List.map_cons, List.map_nil]; rfl, rfl, by omega, by rw [take_get _ _ (by simpa using hk), List.map_append, hls]; simp⟩) (by show v.cert.ls.length - (k + 1 : Int).toNat < v.cert.ls.length - (k : Int).toNat; omega) (fun w hw => by
   have h1 : St w0 (row (.slice a21 ((ls.map BS.val) ++ [Value.slice x19.a v.cert.ls[k].l.length x19.c]).length c21) 41 1 ((ls.map BS.val) ++ [Value.slice x19.a v.cert.ls[k].l.length x19.c]) :: row (BS.val ⟨x19.a, x19.c, v.cert.ls[k].l⟩) 5 1 (bytesV v.cert.ls[k].l) :: eachA fp ls :: row (.slice x8.a v.batch.l.length x8.c) 5 1 (bytesV v.batch.l) :: blk b1 (.cells ({ v with batch := ⟨x8.a, x8.c, v.batch.l⟩ } : VoteV).cells 44 (0, 0)) :: blk b2 (.cells VoteV.zero.cells 44 (0, 0)) :: H) w := SB w hw
   rw [show (ls ++ [(⟨x19.a, x19.c, v.cert.ls[k].l⟩ : BS)]).map BS.val = (ls.map BS.val) ++ [Value.slice x19.a v.cert.ls[k].l.length x19.c] from by simp only [List.map_append, List.map_cons, List.map_nil]]
   exact eachUnder h1)
 have p14 := h14
 try simp only [dp] at p14
 have et : (v.cert.ls.map BS.l).take k = v.cert.ls.map BS.l := List.take_of_length_le (by simp; omega)
 rw [et] at hls
 rw [show (ls.map BS.val).length = ls.length from by simp]
 refine zY (zG (zW (zE (zx (T2 ?_)))))
 refine Qms rfl rfl (zq (zf 37 rfl rfl) rfl ?_)
 refine zN (Ef_store1 (.slice _ _ _) rfl rfl (?_))
 refine T4 (zq (zn rfl rfl) rfl ?_)
 refine zN (zs rfl rfl (?_))
 refine TX (zQ ?_)
 refine X_conv (fun w hw => copiedEnd (v := v) hw rfl) (fun fp2 => ?_)
 exact zX (({ v with batch := ⟨x8.a, x8.c, v.batch.l⟩, cert := ⟨a1, c1, ls⟩ } : VoteV), fp2) [_] Tryz.results78 ⟨⟨_, rfl, res_cellN rfl⟩, trivial⟩ rfl (fun w hw => (SB w hw : St w0 (datV fp2 [_] :: H) w).addPure (by simp only [VoteV.abs, hls]))
end
section
open Go.RowKit Go.Sx
set_option maxRecDepth 100000
set_option linter.unusedSimpArgs false
set_option linter.unusedVariables false
theorem delE_sub {κ ν : Type} [DecidableEq κ] : ∀ (es : List (Ent κ ν)) (k : κ), List.Sublist (delE es k) es
 | [], _ => List.Sublist.refl _
 | e :: es, k => by
  rw [delE]
  split
  · exact List.sublist_cons_self _ _
  · exact (delE_sub es k).cons_cons e
theorem delE_len {κ ν : Type} [DecidableEq κ] : ∀ (es : List (Ent κ ν)) (e : Ent κ ν), e ∈ es → (delE es e.k).length < es.length
 | [], _, h => by cases h
 | x :: es, e, h => by
  rw [delE]
  split
  · simp
  · rename_i hne
    rcases List.mem_cons.1 h with rfl | h
    · exact absurd rfl hne
    · have := delE_len es e h; simp; omega
theorem delE_key {κ ν : Type} [DecidableEq κ] : ∀ (es : List (Ent κ ν)) (k : κ), (es.map (·.k)).Nodup → ∀ e ∈ delE es k, e.k ≠ k
 | [], _, _, e, h => by cases h
 | x :: es, k, hn, e, h => by
  rw [delE] at h
  simp only [List.map_cons, List.nodup_cons] at hn
  split at h
  · rename_i hk
    rintro rfl
    exact hn.1 (hk ▸ List.mem_map.2 ⟨e, h, rfl⟩)
  · rename_i hk
    rcases List.mem_cons.1 h with rfl | h
    · exact fun h => hk h.symm
    · exact delE_key es k hn.2 e h
theorem goodM_del {κ ν : Type} [DecidableEq κ] {es : List (Ent κ ν)} {c : Nat} (h : GoodM es c) (k : κ) : GoodM (delE es k) c :=
 ⟨h.keys.sublist ((delE_sub es k).map _), h.born.sublist ((delE_sub es k).map _), fun e he => h.lt e ((delE_sub es k).subset he)⟩
theorem delE_born {κ ν : Type} [DecidableEq κ] {es : List (Ent κ ν)} {c : Nat} (h : GoodM es c) {e x : Ent κ ν} (he : e ∈ es) (hx : x ∈ delE es e.k) : x.b ≠ e.b := fun hb => by
 have hxe := (delE_sub es e.k).subset hx
 have : x = e := by
  have hn := h.born
  clear h hx
  induction es with
  | nil => cases he
  | cons y es ih =>
   simp only [List.map_cons, List.nodup_cons] at hn
   rcases List.mem_cons.1 he with rfl | he
   · rcases List.mem_cons.1 hxe with rfl | hxe
     · rfl
     · exact absurd (List.mem_map.2 ⟨x, hxe, hb⟩) hn.1
   · rcases List.mem_cons.1 hxe with hxe | hxe
     · exact absurd (List.mem_map.2 ⟨e, he, by rw [← hb, hxe]⟩) hn.1
     · exact ih he hxe hn.2
 exact delE_key es e.k h.keys x hx (this ▸ rfl)
theorem putE_keys {κ ν : Type} [DecidableEq κ] {es : List (Ent κ ν)} {c : Nat} (h : GoodM es c) (k : κ) (v : ν) (hh : hasE es k = false) : GoodM (putE es k v c) (clockE es k c) := by
 rw [putE_none es k v c hh]
 simp only [clockE, hh, cond_false]
 refine ⟨?_, ?_, ?_⟩
 · rw [List.map_append]
   refine List.nodup_append.2 ⟨h.keys, by simp, fun a ha b hb => ?_⟩
   obtain rfl : b = k := by simpa using hb
   rintro rfl
   obtain ⟨e, he, hek⟩ := List.mem_map.1 ha
   have : (getE es a).isSome = true := by
    simp only [getE, Option.isSome_map]
    rw [List.find?_isSome]
    exact ⟨e, he, by simp [hek]⟩
   rw [hasE, this] at hh
   cases hh
 · rw [List.map_append]
   refine List.nodup_append.2 ⟨h.born, by simp, fun a ha b hb => ?_⟩
   obtain rfl : b = c := by simpa using hb
   rintro rfl
   obtain ⟨e, he, hek⟩ := List.mem_map.1 ha
   have := h.lt e he
   omega
 · intro e he
   rcases List.mem_append.1 he with he | he
   · have := h.lt e he; omega
   · obtain rfl : e = ⟨k, v, c⟩ := by simpa using he
     show c < c + 1
     omega
theorem getE_mem {κ ν : Type} [DecidableEq κ] {es : List (Ent κ ν)} {k : κ} {v : ν} (h : getE es k = some v) : ∃ e ∈ es, e.k = k ∧ e.v = v := by
 simp only [getE, Option.map_eq_some_iff] at h
 obtain ⟨e, h1, h2⟩ := h
 have h3 := List.find?_some h1
 exact ⟨e, List.mem_of_find?_eq_some h1, (of_decide_eq_true h3).symm, h2⟩
def beginK (k : BookV) (s : Int) : BookV := bif decide (k.slot < s) then { k with slot := s, accepted := none } else k
def beginE (k : BookV) (es : List (Ent EraV VoteV)) (s : Int) : List (Ent EraV VoteV) := bif decide (k.slot < s) then [] else es

set_option maxHeartbeats 1000000 in
theorem bbegin_c {w0 : World} {H : List SA} {p r c : Nat} {k : BookV} {es : List (Ent EraV VoteV)} {s : Int} (hw : k.wrote = some r) (hg : GoodM es c) :
 CT Tryz.prog w0 (blk p (.cells k.cells 115 (0, 0)) :: blk r (mapO encE encV es c) :: H) 77 [.pointer (some ⟨p, 0, none⟩), .int .i64 s] (α := Unit) (fun _ => .tuple #[]) (fun _ => blk p (.cells (beginK k s).cells 115 (0, 0)) :: blk r (mapO encE encV (beginE k es s) c) :: H) := by
 obtain ⟨now, en, sl, wr, ac⟩ := k
 obtain rfl : wr = some r := hw
 refine CT_intro Tryz.func77 rfl Tryz.ntmps77 rfl ?_
 refine T2 (Qmi rfl rfl (zq (zm (.pointer _) rfl) rfl (zq (Qt_nilCheck rfl) rfl (zq (zf 3 rfl rfl) rfl (zq (zl rfl) rfl ?_)))))
 refine zq (Qt_gtr rfl rfl) rfl (TX (zC rfl (fun h10 => ?_) (fun h10 => ?_)))
 ·
  have p10 := h10
  try simp only [dp] at p10
  refine zS (T2 ?_)
  refine zq (zm (.pointer _) rfl) rfl (zq (Qt_nilCheck rfl) rfl (zq (zf 4 rfl rfl) rfl (zq (zl rfl) rfl ?_)))
  refine ze rfl (Ef_range rfl Tryz.underlying110 (fun it15 => ?_))
  refine TX (zB ?_)
  refine T_loopg (m0 := es.length) [4, 16, 17, 18, 19, 20, 21, 22, 23, 24] [] (fun us H' m => ∃ (es1 : List (Ent EraV VoteV)) (seen : Array Nat), us = [] ∧ blk it15 (.mapIter (some r) c seen c) :: blk p (.cells (BookV.mk now en sl (some r) ac).cells 115 (0, 0)) :: blk r (mapO encE encV es1 c) :: H = H' ∧ m = es1.length ∧ GoodM es1 c ∧ (∀ e ∈ es1, seen.contains e.b = false)) ⟨es, #[], rfl, rfl, rfl, hg, fun _ _ => by simp⟩ SB ?_
  rintro τ0 _ _ m ⟨es1, seen, rfl, rfl, rfl, hg1, hseen⟩ _
  have hlt1 := hg1.lt
  refine T2 ?_
  refine ze rfl (Ef_next rfl hlt1 hlt1 (fun hz16 => ?_) (fun en16 hen16 => ?_))
  ·
   obtain rfl : es1 = [] := by
    cases es1 with
    | nil => rfl
    | cons e es1 => have := hseen e (by simp); simp [leftE, this] at hz16; exact absurd this (by simp [hz16])
   refine zq (Qt_extract rfl) rfl (TX (zS ?_))
   refine T_cond_false rfl rfl (zY (zG (X_loopg_exit (zE (zx (zR ?_))))))
   refine zq (zm (.pointer _) rfl) rfl (zq (zm (.pointer _) rfl) rfl (Qmi rfl rfl (zq (Qt_nilCheck rfl) rfl (zq (zf 3 rfl rfl) rfl ?_))))
   refine zN (Ef_store1 (.int .i64 _) rfl rfl (?_))
   refine zq (Qt_nilCheck rfl) rfl (zq (zf 5 rfl rfl) rfl ?_)
   refine zN (Ef_store1 (.pointer _) rfl rfl (?_))
   refine zz ?_
   have e1 : beginK ⟨now, en, sl, some r, ac⟩ s = ⟨now, en, s, some r, none⟩ := by simp [beginK, p10]
   have e2 : beginE ⟨now, en, sl, some r, ac⟩ es s = [] := by simp [beginE, p10]
   exact zX () [] Tryz.results77 trivial rfl (by rw [e1, e2]; exact Subs.st inferInstance)
  have hmem : en16 ∈ es1 := (List.mem_filter.1 hen16).1
  refine zq (Qt_extract rfl) rfl (TX (zS ?_))
  refine T_cond_true rfl rfl (zk (zx (zB (T2 ?_))))
  refine zq (Qt_entry en16 rfl hmem hg1.born) rfl (zq (Qt_extract rfl) rfl ?_)
  refine ze rfl (Ef_allocN (fun b4 => ?_))
  refine zN (zs rfl rfl (?_))
  refine TX (T_draw [blk b4 (.cells en16.k.cells 112 (0, 0)), blk p (.cells (BookV.mk now en sl (some r) ac).cells 115 (0, 0))] [(0, true), (1, true), (2, true), (3, true), (4, true), (5, false)] (by kernel_rfl) (by kernel_rfl) rfl (by kernel_rfl) SB (fun hns0 => ?_))
  refine zd hns0 rfl (zm (.pointer _) rfl) rfl (zd hns0 rfl (Qt_nilCheck rfl) rfl (zd hns0 rfl (zf 4 rfl rfl) rfl (zd hns0 rfl (zl rfl) rfl (zd hns0 rfl (zn rfl rfl) rfl ?_))))
  refine DL_n rfl (Ef_delete (key := en16.k) rfl rfl Tryz.underlying110 (⟨SB, ?_⟩))
  refine DL_nil (X_block (X_loopg _ (by repeat (first | with_reducible exact agree_refl | refine agree_upd rfl ?_ | refine agree_mix rfl ?_ | refine agree_setAll rfl ?_)) (⟨delE es1 en16.k, seen.push en16.b, rfl, rfl, rfl, goodM_del hg1 _, fun x hx => by have h1 := hseen x ((delE_sub es1 _).subset hx); have h2 := delE_born hg1 hmem hx; simp only [Array.contains_push, h1, Bool.false_or]; simpa using h2⟩) (delE_len es1 en16 hmem) (SB)))
 have p10 := h10
 try simp only [dp] at p10
 refine zk ?_
 have n10 : ¬ sl < s := by omega
 have e1 : beginK ⟨now, en, sl, some r, ac⟩ s = ⟨now, en, sl, some r, ac⟩ := by simp [beginK, n10]
 have e2 : beginE ⟨now, en, sl, some r, ac⟩ es s = es := by simp [beginE, n10]
 exact zX () [] Tryz.results77 trivial rfl (by rw [e1, e2]; exact Subs.st inferInstance)
end
section
open Go.RowKit Go.Sx
set_option maxRecDepth 100000
set_option linter.unusedSimpArgs false
set_option linter.unusedVariables false
def accP : Option (Nat × VoteV) → Option Addr
 | none => none
 | some q => some ⟨q.1, 0, none⟩
def accA : Option (Nat × VoteV) → SA
 | none => pu True
 | some q => blk q.1 (.cells q.2.cells 44 (0, 0))
/-- A book as it lies. -/
structure BkS where
 k : BookV
 r : Nat
 es : List (Ent EraV VoteV)
 c : Nat
 acc : Option (Nat × VoteV)
 fp : List Nat
 vs : List VoteV
abbrev BkS.H (y : BkS) (p : Nat) (H : List SA) : List SA := blk p (.cells y.k.cells 115 (0, 0)) :: blk y.r (mapO encE encV y.es y.c) :: accA y.acc :: datV y.fp y.vs :: H
structure BkS.Ok (y : BkS) : Prop where
 wrote : y.k.wrote = some y.r
 acc : y.k.accepted = accP y.acc
 good : GoodM y.es y.c
 there : ∀ e ∈ y.es, e.v ∈ y.vs
 last : ∀ q, y.acc = some q → q.2 ∈ y.vs
 small : ∀ v ∈ y.vs, SmallV v.abs
/-- A book as data. -/
structure BookD where
 now : EraV
 entered : Bool
 slot : Int
 wrote : List (EraV × VoteD)
 acc : Option VoteD
def BkS.abs (y : BkS) : BookD := ⟨y.k.now, y.k.entered, y.k.slot, y.es.map fun e => (e.k, e.v.abs), y.acc.map fun q => q.2.abs⟩
def BookD.get (b : BookD) (a : EraV) : Option VoteD := (b.wrote.find? fun e => decide (a = e.1)).map (·.2)
theorem BkS.get (y : BkS) (a : EraV) : y.abs.get a = (getE y.es a).map VoteV.abs := by
 simp only [BookD.get, BkS.abs, getE, List.find?_map, Option.map_map]
 rfl
def enterD (b : BookD) (a : EraV) : BookD := bif !b.entered || afterB a b.now then { b with now := a, entered := true } else b
def beginD (b : BookD) (s : Int) : BookD := if b.slot < s then { b with slot := s, wrote := [], acc := none } else b
def writeD (b : BookD) (a : EraV) (v : VoteD) : BookD := if (b.get a).isSome then b else { b with wrote := b.wrote ++ [(a, v)] }
def acceptD (b : BookD) (a : EraV) (v : VoteD) : BookD := match b.acc with | none => { b with acc := some v } | some o => if afterB a ⟨o.view, o.reg⟩ then { b with acc := some v } else b
def takeD (b : BookD) (v : VoteD) : BookD × Int :=
 if (putV v).2 ≠ 0 then (b, 15) else if v.kind = 1 then (enterD b ⟨v.view, v.reg⟩, 0) else if v.slot < b.slot then (b, 7)
 else if v.kind = 2 then (writeD (beginD b v.slot) ⟨v.view, v.reg⟩ v, 0) else (acceptD (beginD b v.slot) ⟨v.view, v.reg⟩ v, 0)
theorem begin_book (now : EraV) (en : Bool) (sl : Int) (r : Nat) (acc : Option (Nat × VoteV)) (es : List (Ent EraV VoteV)) (s : Int) (hle : ¬ s < sl) : ∃ (acc1 : Option (Nat × VoteV)) (es1 : List (Ent EraV VoteV)),
 beginK ⟨now, en, sl, some r, accP acc⟩ s = ⟨now, en, s, some r, accP acc1⟩ ∧ beginE ⟨now, en, sl, some r, accP acc⟩ es s = es1 ∧ (∀ c, GoodM es c → GoodM es1 c) ∧ (∀ e ∈ es1, e ∈ es) ∧ (∀ q, acc1 = some q → acc = some q) ∧
 (∀ (w0 w : World) (H : List SA), St w0 (accA acc :: H) w → St w0 (accA acc1 :: H) w) ∧ (∀ (c : Nat) (fp fp1 : List Nat) (vs vs1 : List VoteV), BkS.abs ⟨⟨now, en, s, some r, accP acc1⟩, r, es1, c, acc1, fp1, vs1⟩ = beginD (BkS.abs ⟨⟨now, en, sl, some r, accP acc⟩, r, es, c, acc, fp, vs⟩) s) := by
 by_cases h : sl < s
 · refine ⟨none, [], by simp [beginK, h, accP], by simp [beginE, h], fun _ hg => ⟨by simp, by simp, by simp⟩, fun _ h => by simp at h, fun _ h => by simp at h, fun w0 w H hw => hw.tail.addPure trivial, fun _ _ _ _ _ => ?_⟩
   show _ = if sl < s then _ else _
   rw [if_pos h]
   rfl
 · have e : sl = s := by omega
   subst e
   refine ⟨acc, es, by simp [beginK], by simp [beginE], fun _ hg => hg, fun _ h => h, fun _ h => h, fun _ _ _ h => h, fun _ _ _ _ _ => ?_⟩
   show _ = if sl < sl then _ else _
   rw [if_neg h]
   rfl
theorem St.accNone {w0 w : World} {H : List SA} (h : St w0 H w) : St w0 (accA none :: H) w := h.addPure trivial
theorem hasE_get (es : List (Ent EraV VoteV)) (a : EraV) (c : Nat) (k : BookV) (r : Nat) (acc : Option (Nat × VoteV)) (fp : List Nat) (vs : List VoteV) : ((BkS.abs ⟨k, r, es, c, acc, fp, vs⟩).get a).isSome = hasE es a := by
 rw [BkS.get]; simp [hasE]

def BookV.made (r : Nat) : BookV := { BookV.zero with wrote := some r }
def BkS.made (r : Nat) : BkS := ⟨BookV.made r, r, [], 0, none, [], []⟩
theorem BkS.made_ok (r : Nat) : (BkS.made r).Ok := ⟨rfl, rfl, ⟨by simp [BkS.made], by simp [BkS.made], by simp [BkS.made]⟩, by simp [BkS.made], by simp [BkS.made], by simp [BkS.made]⟩
def BookD.zero : BookD := ⟨⟨0, 0⟩, false, 0, [], none⟩
theorem BkS.made_abs (r : Nat) : (BkS.made r).abs = BookD.zero := rfl
set_option maxHeartbeats 1000000 in
theorem new_c {w0 : World} {H : List SA}  :
 CT Tryz.prog w0 (H) 23 [] (α := Nat × Nat) (fun y => .pointer (some ⟨y.1, 0, none⟩)) (fun y => (BkS.made y.2).H y.1 H) := by
 refine CT_intro Tryz.func23 rfl Tryz.ntmps23 rfl ?_
 refine T2 (zq (za (.pointer _) rfl) rfl (T4 ?_))
 refine ze rfl (Ef_makeMap encE encV (fun r1 => ?_))
 refine zq (Qt_build [(3, (.map _))] rfl (by kernel_rfl)) rfl ?_
 refine ze rfl (Ef_boxN rfl (fun b3 => ?_))
 refine zq (za (.pointer _) rfl) rfl (TX (zQ ?_))
 exact zX (b3, r1) [_] Tryz.results23 ⟨rfl, trivial⟩ rfl (fun w hw => by
  have h1 : St w0 (blk b3 (.cells (BookV.made r1).cells 115 (0, 0)) :: blk r1 (mapO encE encV [] 0) :: H) w := hw
  exact Subs.st (H' := blk b3 (.cells (BookV.made r1).cells 115 (0, 0)) :: blk r1 (mapO encE encV [] 0) :: accA none :: datV [] [] :: H) inferInstance w (St.accNone (St.datNil h1)))
/-- Of votes that lie there, or none. -/
theorem rd_zero {w0 : World} {H : List SA} {vs : List VoteV} [h : RdVs w0 H vs] : RdVs w0 H (VoteV.zero :: vs) :=
 ⟨fun v hv => by
  rcases List.mem_cons.1 hv with rfl | hv
  · exact ⟨fun w hw => ⟨none, 0, 0, rfl, rfl, by omega, by decide, fun h => absurd h (by simp [VoteV.zero])⟩⟩
  · exact h.b v hv, fun v hv => by
  rcases List.mem_cons.1 hv with rfl | hv
  · exact ⟨fun w hw => ⟨none, 0, 0, rfl, rfl, by omega, by decide, fun h => absurd h (by simp [VoteV.zero])⟩⟩
  · exact h.c v hv, fun v hv => by
  rcases List.mem_cons.1 hv with rfl | hv
  · exact ⟨fun x hx => by simp [VoteV.zero] at hx⟩
  · exact h.e v hv⟩
theorem getD_mem {es : List (Ent EraV VoteV)} {vs : List VoteV} (h : ∀ e ∈ es, e.v ∈ vs) (a : EraV) : (getE es a).getD VoteV.zero ∈ VoteV.zero :: vs := by
 cases hg : getE es a with
 | none => simp
 | some v => obtain ⟨e, he, _, rfl⟩ := getE_mem hg; exact List.mem_cons_of_mem _ (h e he)
theorem small_zero : SmallV VoteV.zero.abs := ⟨by simp [VoteV.zero, VoteV.abs], by simp [VoteV.zero, VoteV.abs], by simp [VoteV.zero, VoteV.abs]⟩

set_option maxHeartbeats 1000000 in
theorem wrote_c {w0 : World} {H : List SA} {p : Nat} {y : BkS} {view reg : Int} (ho : y.Ok) :
 CT Tryz.prog w0 (y.H p H) 41 [.pointer (some ⟨p, 0, none⟩), .int .i64 view, .int .i64 reg] (α := VoteV × List Nat) (fun z => .tuple #[.agg z.1.cells, .bool (hasE y.es ⟨view, reg⟩)]) (fun z => pu (z.1.abs = ((getE y.es ⟨view, reg⟩).getD VoteV.zero).abs) :: datV z.2 [z.1] :: y.H p H) := by
 obtain ⟨⟨now, en, sl, wr, ac⟩, r, es, c, acc, fp, vs⟩ := y
 obtain rfl : wr = some r := ho.wrote
 have hmz := getD_mem ho.there ⟨view, reg⟩
 have hsm : SmallV ((getE es ⟨view, reg⟩).getD VoteV.zero).abs := by
  rcases List.mem_cons.1 hmz with h | h
  · rw [h]; exact small_zero
  · exact ho.small _ h
 have rvs : RdVs w0 (BkS.H ⟨⟨now, en, sl, some r, ac⟩, r, es, c, acc, fp, vs⟩ p H) (VoteV.zero :: vs) := rd_zero
 have rb := rvs.b _ hmz
 have rc := rvs.c _ hmz
 have re := rvs.e _ hmz
 refine CT_intro Tryz.func41 rfl Tryz.ntmps41 rfl ?_
 refine T2 ?_
 refine ze rfl (Ef_allocN (fun b6 => ?_))
 refine Qab rfl rfl (TX (zS (T2 ?_)))
 refine zq (zm (.pointer _) rfl) rfl (zq (Qt_ptr_nil rfl rfl Tryz.underlying75) rfl (TX (zC rfl (fun h11 => ?_) (fun h11 => ?_))))
 ·
  have p11 := h11
  try simp only [dp] at p11
  cases h11
 have p11 := h11
 try simp only [dp] at p11
 refine S4 (zq (zm (.pointer _) rfl) rfl (zq (Qt_nilCheck rfl) rfl (zq (zf 4 rfl rfl) rfl (zq (zl rfl) rfl (Qmi rfl rfl ?_)))))
 refine Qmi rfl rfl (zq (Qt_build [(0, (.int .i64 _)), (1, (.int .i64 _))] rfl (by kernel_rfl)) rfl (zq (Qt_lookup2 (key := EraV.mk view reg) (VoteV.zero) rfl rfl Tryz.underlying110 vote_zero) rfl (zq (zm (.tuple _) rfl) rfl (zq (Qt_extract rfl) rfl (zq (Qt_extract rfl) rfl ?_)))))
 refine ze rfl (Ef_allocN (fun b8 => ?_))
 refine zN (zs rfl rfl (?_))
 refine Qab rfl rfl (T4 (zq (zn rfl rfl) rfl ?_))
 refine ze rfl (zc (copied_c hsm) rfl (fun x25 => ?_))
 refine Qmb rfl rfl ?_
 refine zN (zs rfl rfl (?_))
 refine Qab rfl rfl (TX (zQ ?_))
 exact zX x25 [_, _] Tryz.results41 ⟨⟨_, rfl, res_cellN rfl⟩, rfl, trivial⟩ rfl SB
theorem St.datZero {w0 w : World} {H : List SA} (h : St w0 H w) : St w0 (datV [] [VoteV.zero] :: H) w :=
 h.fresh rfl rfl rfl (Nat.le_refl _) (fun _ _ => rfl) (fun v hv => by
  obtain rfl : v = VoteV.zero := by simpa using hv
  exact ⟨⟨none, 0, 0, rfl, rfl, by omega, by decide, fun h => absurd h (by simp [VoteV.zero])⟩, ⟨none, 0, 0, rfl, rfl, by omega, by decide, fun h => absurd h (by simp [VoteV.zero])⟩, fun x hx => by simp [VoteV.zero] at hx⟩) (by simp [datV]) (by simp [datV])

set_option maxHeartbeats 1000000 in
theorem accepted_c {w0 : World} {H : List SA} {p : Nat} {y : BkS} (ho : y.Ok) :
 CT Tryz.prog w0 (y.H p H) 86 [.pointer (some ⟨p, 0, none⟩)] (α := VoteV × List Nat) (fun z => .tuple #[.agg z.1.cells, .bool y.acc.isSome]) (fun z => pu (z.1.abs = ((y.acc.map Prod.snd).getD VoteV.zero).abs) :: datV z.2 [z.1] :: y.H p H) := by
 obtain ⟨⟨now, en, sl, wr, ac⟩, r, es, c, acc, fp, vs⟩ := y
 obtain rfl : ac = accP acc := ho.acc
 refine CT_intro Tryz.func86 rfl Tryz.ntmps86 rfl ?_
 refine T2 ?_
 rcases acc with _ | ⟨q, u⟩
 ·
  simp only [accP, accA, BkS.H]
  refine ze rfl (Ef_allocN (fun b2 => ?_))
  refine Qab rfl rfl (TX (zS (T2 ?_)))
  refine zq (zm (.pointer _) rfl) rfl (zq (Qt_ptr_nil rfl rfl Tryz.underlying75) rfl (Qmb rfl rfl ?_))
  refine TL_split 6 rfl (fun h6 => ?_) (fun h6 => ?_)
  ·
   have p6 := h6
   try simp only [dp] at p6
   cases h6
  have p6 := h6
  try simp only [dp] at p6
  refine zt rfl rfl h6 (zq (zm (.pointer _) rfl) rfl (zt rfl rfl h6 (zq (Qt_nilCheck rfl) rfl (zt rfl rfl h6 (zq (zf 5 rfl rfl) rfl ?_)))))
  refine zt rfl rfl h6 (zq (zl rfl) rfl (zt rfl rfl h6 (zq (Qt_ptr_nil rfl rfl Tryz.underlying113) rfl (zq (zF (.bool _) rfl h6 rfl) rfl (TX ?_)))))
  refine zC rfl (fun h12 => ?_) (fun h12 => ?_)
  ·
   have p12 := h12
   try simp only [dp] at p12
   refine T2 (zq (Qt_build [] rfl (by kernel_rfl)) rfl ?_)
   refine zN (zs rfl rfl (?_))
   refine Qab rfl rfl (TX (zQ (zr ?_)))
   exact zX (VoteV.zero, []) [_, _] Tryz.results86 ⟨⟨_, rfl, res_cellN rfl⟩, rfl, trivial⟩ rfl (fun w hw => (St.datZero (SB w hw)).addPure rfl)
  have p12 := h12
  try simp only [dp] at p12
  cases h12
 simp only [accP, accA, BkS.H]
 refine ze rfl (Ef_allocN (fun b2 => ?_))
 refine Qab rfl rfl (TX (zS (T2 ?_)))
 refine zq (zm (.pointer _) rfl) rfl (zq (Qt_ptr_nil rfl rfl Tryz.underlying75) rfl (Qmb rfl rfl ?_))
 refine TL_split 6 rfl (fun h6 => ?_) (fun h6 => ?_)
 ·
  have p6 := h6
  try simp only [dp] at p6
  cases h6
 have p6 := h6
 try simp only [dp] at p6
 refine zt rfl rfl h6 (zq (zm (.pointer _) rfl) rfl (zt rfl rfl h6 (zq (Qt_nilCheck rfl) rfl (zt rfl rfl h6 (zq (zf 5 rfl rfl) rfl ?_)))))
 refine zt rfl rfl h6 (zq (zl rfl) rfl (zt rfl rfl h6 (zq (Qt_ptr_nil rfl rfl Tryz.underlying113) rfl (zq (zF (.bool _) rfl h6 rfl) rfl (TX ?_)))))
 refine zC rfl (fun h12 => ?_) (fun h12 => ?_)
 ·
  have p12 := h12
  try simp only [dp] at p12
  cases h12
 have p12 := h12
 try simp only [dp] at p12
 refine S4 (zq (zm (.pointer _) rfl) rfl (zq (Qt_nilCheck rfl) rfl (zq (zf 5 rfl rfl) rfl (zq (zl rfl) rfl (zq (Qt_nilCheck rfl) rfl ?_)))))
 refine zq (zn rfl rfl) rfl ?_
 have hmem := ho.last _ rfl
 have hsm := ho.small _ hmem
 have rvs : RdVs w0 (datV fp vs :: H) vs := inferInstance
 have rb := rvs.b _ hmem
 have rc := rvs.c _ hmem
 have re := rvs.e _ hmem
 refine ze rfl (zc (copied_c hsm) rfl (fun x20 => ?_))
 refine zN (zs rfl rfl (?_))
 refine Qab rfl rfl (TX (zQ ?_))
 exact zX x20 [_, _] Tryz.results86 ⟨⟨_, rfl, res_cellN rfl⟩, rfl, trivial⟩ rfl (Subs.st (H' := pu (x20.1.abs = u.abs) :: datV x20.2 [x20.1] :: blk p (.cells (BookV.mk now en sl wr (some ⟨q, 0, none⟩)).cells 115 (0, 0)) :: blk r (mapO encE encV es c) :: blk q (.cells u.cells 44 (0, 0)) :: datV fp vs :: H) inferInstance)
end
section
open Go.RowKit Go.Sx
set_option maxRecDepth 100000
set_option linter.unusedSimpArgs false
set_option linter.unusedVariables false
theorem accP_none : accP none = none := rfl
theorem accP_some (q : Nat) (u : VoteV) : accP (some (q, u)) = some ⟨q, 0, none⟩ := rfl
theorem accA_none : accA none = pu True := rfl
theorem accA_some (q : Nat) (u : VoteV) : accA (some (q, u)) = blk q (.cells u.cells 44 (0, 0)) := rfl
theorem takeD_bad {b : BookD} {v : VoteD} (h : (putV v).2 ≠ 0) : takeD b v = (b, 15) := by rw [takeD, if_pos h]
theorem takeD_reg {b : BookD} {v : VoteD} (h : (putV v).2 = 0) (hk : v.kind = 1) : takeD b v = (enterD b ⟨v.view, v.reg⟩, 0) := by rw [takeD, if_neg (fun hn => hn h), if_pos hk]
theorem takeD_old {b : BookD} {v : VoteD} (h : (putV v).2 = 0) (hk : v.kind ≠ 1) (hs : v.slot < b.slot) : takeD b v = (b, 7) := by rw [takeD, if_neg (fun hn => hn h), if_neg hk, if_pos hs]
theorem takeD_write {b : BookD} {v : VoteD} (h : (putV v).2 = 0) (hk : v.kind = 2) (hs : ¬ v.slot < b.slot) : takeD b v = (writeD (beginD b v.slot) ⟨v.view, v.reg⟩ v, 0) := by rw [takeD, if_neg (fun hn => hn h), if_neg (by omega), if_neg hs, if_pos hk]
theorem takeD_acc {b : BookD} {v : VoteD} (h : (putV v).2 = 0) (hk : v.kind ≠ 1) (hk2 : v.kind ≠ 2) (hs : ¬ v.slot < b.slot) : takeD b v = (acceptD (beginD b v.slot) ⟨v.view, v.reg⟩ v, 0) := by rw [takeD, if_neg (fun hn => hn h), if_neg hk, if_neg hs, if_neg hk2]
theorem enter_wrote (k : BookV) (a : EraV) : (enterK k a).wrote = k.wrote := by unfold enterK; cases (!k.entered || afterB a k.now) <;> rfl
theorem enter_accepted (k : BookV) (a : EraV) : (enterK k a).accepted = k.accepted := by unfold enterK; cases (!k.entered || afterB a k.now) <;> rfl
theorem enter_abs (k : BookV) (a : EraV) (r : Nat) (es : List (Ent EraV VoteV)) (c : Nat) (acc : Option (Nat × VoteV)) (fp : List Nat) (vs : List VoteV) : BkS.abs ⟨enterK k a, r, es, c, acc, fp, vs⟩ = enterD (BkS.abs ⟨k, r, es, c, acc, fp, vs⟩) a := by
 unfold enterK
 show _ = bif !k.entered || afterB a k.now then _ else _
 cases (!k.entered || afterB a k.now) <;> rfl

set_option maxHeartbeats 1000000 in
theorem take_c {w0 : World} {H : List SA} {p : Nat} {y : BkS} {v : VoteV} [rbv : RdB w0 H (.slice v.batch.a v.batch.l.length v.batch.c) v.batch.l] [rcv : RdC w0 H (.slice v.cert.a v.cert.ls.length v.cert.c) 1 (v.cert.ls.map BS.val)] [rev : RdE w0 H v.cert.ls] (ho : y.Ok) (hs : SmallV v.abs) :
 CT Tryz.prog w0 (y.H p H) 36 [.pointer (some ⟨p, 0, none⟩), .agg v.cells] (α := BkS) (fun z => .int .i64 (takeD y.abs v.abs).2) (fun z => pu (z.Ok ∧ z.abs = (takeD y.abs v.abs).1) :: z.H p H) := by
 obtain ⟨⟨now, en, sl, wr, ac⟩, r, es, c, acc, fp, vs⟩ := y
 obtain rfl : wr = some r := ho.wrote
 obtain rfl : ac = accP acc := ho.acc
 refine CT_intro Tryz.func36 rfl Tryz.ntmps36 rfl ?_
 refine T2 ?_
 refine ze rfl (Ef_boxN rfl (fun b3 => ?_))
 refine Qai rfl rfl (TX (zS (T2 ?_)))
 refine zq (zm (.pointer _) rfl) rfl (zq (Qt_ptr_nil rfl rfl Tryz.underlying75) rfl (TX (zC rfl (fun h12 => ?_) (fun h12 => ?_))))
 ·
  have p12 := h12
  try simp only [dp] at p12
  cases h12
 have p12 := h12
 try simp only [dp] at p12
 refine zk (zx (zS (T2 ?_)))
 refine zq (zn rfl rfl) rfl ?_
 refine ze rfl (zc (put_c hs) rfl (fun x15 => ?_))
 refine zq (zm (.tuple _) rfl) rfl (zq (Qt_extract rfl) rfl (zq (Qt_extract rfl) rfl (Qas rfl rfl (Qai rfl rfl (T4 ?_)))))
 refine Qmi rfl rfl (zq (Qt_neq rfl rfl) rfl (TX (zC rfl (fun h19 => ?_) (fun h19 => ?_))))
 ·
  have p19 := h19
  try simp only [dp] at p19
  refine T2 (Qai rfl rfl (TX (zQ (zr ?_))))
  have htk := takeD_bad (b := (BkS.mk (BookV.mk now en sl (some r) (accP acc)) r es c acc fp vs).abs) (v := v.abs) p19
  refine zX (BkS.mk (BookV.mk now en sl (some r) (accP acc)) r es c acc fp vs) [.int .i64 15] Tryz.results36 ⟨rfl, trivial⟩ (by rw [htk]; rfl) (fun w hw => St.addPure ?_ ⟨?_, ?_⟩)
  · exact Subs.st (H' := BkS.H (BkS.mk (BookV.mk now en sl (some r) (accP acc)) r es c acc fp vs) p H) inferInstance w hw
  · exact ho
  · rw [htk]; skip
 have p19 := h19
 try simp only [dp] at p19
 have hput : (putV v.abs).2 = 0 := by simpa using h19
 refine S4 (zq (zf 1 rfl rfl) rfl (zq (zl rfl) rfl (zq (zf 2 rfl rfl) rfl (zq (zl rfl) rfl (zq (Qt_build [(0, (.int .i64 _)), (1, (.int .i64 _))] rfl (by kernel_rfl)) rfl ?_)))))
 refine ze rfl (Ef_allocN (fun b7 => ?_))
 refine zN (zs rfl rfl (?_))
 refine TX (zS (T2 ?_))
 refine zq (zf 0 rfl rfl) rfl (zq (zl rfl) rfl (zq (Qt_eql rfl rfl) rfl (TX (zC rfl (fun h27 => ?_) (fun h27 => ?_)))))
 ·
  have p27 := h27
  try simp only [dp] at p27
  refine T2 (zq (zm (.pointer _) rfl) rfl (zq (zn rfl rfl) rfl ?_))
  refine TL_drop (blk p (.cells (BookV.mk now en sl (some r) (accP acc)).cells 115 (0, 0)) :: blk r (mapO encE encV es c) :: accA acc :: datV fp vs :: H) ?_
  refine ze rfl (zc (enter_c (k := BookV.mk now en sl (some r) (accP acc))) rfl (fun x30 => ?_))
  refine T4 (Qai rfl rfl (TX (zQ (zr ?_))))
  have htk := takeD_reg (b := (BkS.mk (BookV.mk now en sl (some r) (accP acc)) r es c acc fp vs).abs) (v := v.abs) hput p27
  refine zX (BkS.mk (enterK (BookV.mk now en sl (some r) (accP acc)) ⟨v.view, v.reg⟩) r es c acc fp vs) [.int .i64 0] Tryz.results36 ⟨rfl, trivial⟩ (by rw [htk]; rfl) (fun w hw => St.addPure ?_ ⟨?_, ?_⟩)
  · exact Subs.st (H' := BkS.H (BkS.mk (enterK (BookV.mk now en sl (some r) (accP acc)) ⟨v.view, v.reg⟩) r es c acc fp vs) p H) inferInstance w hw
  · exact ⟨(enter_wrote _ _).trans rfl, (enter_accepted _ _).trans rfl, ho.good, ho.there, ho.last, ho.small⟩
  · rw [htk]; exact enter_abs _ _ _ _ _ _ _ _
 have p27 := h27
 try simp only [dp] at p27
 refine zk (zx (zS (zS ?_)))
 refine T_draw _ [(0, true), (1, true), (2, true), (3, true), (4, true), (5, true), (6, true)] (by kernel_rfl) (by kernel_rfl) rfl (by kernel_rfl) (fun _ hh => hh) (fun hns0 => ?_)
 refine zd hns0 rfl (zf 3 rfl rfl) rfl (zd hns0 rfl (zl rfl) rfl (zd hns0 rfl (zm (.pointer _) rfl) rfl (zd hns0 rfl (Qt_nilCheck rfl) rfl (zd hns0 rfl (zf 3 rfl rfl) rfl (zd hns0 rfl (zl rfl) rfl ?_)))))
 refine zd hns0 rfl (Qt_lss rfl rfl) rfl (DL_nil (zx (zC rfl (fun h37 => ?_) (fun h37 => ?_))))
 ·
  have p37 := h37
  try simp only [dp] at p37
  refine T2 (Qai rfl rfl (TX (zQ (zr ?_))))
  have htk := takeD_old (b := (BkS.mk (BookV.mk now en sl (some r) (accP acc)) r es c acc fp vs).abs) (v := v.abs) hput p27 p37
  refine zX (BkS.mk (BookV.mk now en sl (some r) (accP acc)) r es c acc fp vs) [.int .i64 7] Tryz.results36 ⟨rfl, trivial⟩ (by rw [htk]; rfl) (fun w hw => St.addPure ?_ ⟨?_, ?_⟩)
  · exact Subs.st (H' := BkS.H (BkS.mk (BookV.mk now en sl (some r) (accP acc)) r es c acc fp vs) p H) inferInstance w hw
  · exact ho
  · rw [htk]; skip
 have p37 := h37
 try simp only [dp] at p37
 refine S4 (zq (zm (.pointer _) rfl) rfl (zq (zf 3 rfl rfl) rfl (zq (zl rfl) rfl ?_)))
 have n37 : ¬ v.slot < sl := by omega
 refine TL_drop (blk p (.cells (BookV.mk now en sl (some r) (accP acc)).cells 115 (0, 0)) :: blk r (mapO encE encV es c) :: accA acc :: datV fp vs :: blk b3 (.cells v.cells 44 (0, 0)) :: blk b7 (.cells (EraV.mk v.view v.reg).cells 112 (0, 0)) :: H) ?_
 refine ze rfl (zc (bbegin_c (k := BookV.mk now en sl (some r) (accP acc)) rfl ho.good) rfl (fun x41 => ?_))
 obtain ⟨acc1, es1, hb1, hb2, hb3, hb4, hb5, hb6, hb7⟩ := begin_book now en sl r acc es v.slot n37
 rw [hb1, hb2]
 refine TL_conv (fun w hw => hb6 w0 w _ (SB w hw : St w0 (accA acc :: blk p (.cells (BookV.mk now en v.slot (some r) (accP acc1)).cells 115 (0, 0)) :: blk r (mapO encE encV es1 c) :: datV fp vs :: blk b3 (.cells v.cells 44 (0, 0)) :: blk b7 (.cells (EraV.mk v.view v.reg).cells 112 (0, 0)) :: H) w)) ?_
 refine T4 (zq (zn rfl rfl) rfl ?_)
 refine ze rfl (zc (copied_c hs) rfl (fun x43 => ?_))
 refine TL_pure (fun hu => ?_)
 have hk : x43.1.kind = v.kind := congrArg VoteD.kind hu
 refine zN (zs rfl rfl (?_))
 refine TX (zS (T2 ?_))
 refine zq (zf 0 rfl rfl) rfl (zq (zl rfl) rfl (zq (Qt_eql rfl rfl) rfl (TX (zC rfl (fun h46 => ?_) (fun h46 => ?_)))))
 ·
  have p46 := h46
  try simp only [dp] at p46
  refine zS (zS ?_)
  refine T_draw _ [(0, true), (1, true), (2, true), (3, true), (4, true), (5, true), (6, true), (7, true), (8, true), (9, false), (10, false), (11, true)] (by kernel_rfl) (by kernel_rfl) rfl (by kernel_rfl) (fun _ hh => hh) (fun hns1 => ?_)
  refine zd hns1 rfl (zm (.pointer _) rfl) rfl (zd hns1 rfl (Qt_nilCheck rfl) rfl (zd hns1 rfl (zf 4 rfl rfl) rfl (zd hns1 rfl (zl rfl) rfl (zd hns1 rfl (zn rfl rfl) rfl (zd hns1 rfl (Qt_lookup2 (key := EraV.mk v.view v.reg) (VoteV.zero) rfl rfl Tryz.underlying110 vote_zero) rfl ?_)))))
  refine zd hns1 rfl (zm (.tuple _) rfl) rfl (zd hns1 rfl (Qt_extract rfl) rfl (zd hns1 rfl (Qt_extract rfl) rfl ?_))
  refine DL_e rfl rfl (Ef_allocN (fun b8 => ⟨SB, ?_⟩))
  refine DL_n rfl (zs rfl rfl (⟨SB, ?_⟩))
  refine zd hns1 rfl (za (.bool _) rfl) rfl (DL_nil (zx (T2 ?_)))
  refine Qmb rfl rfl (zq (Qt_not rfl) rfl (TX (zC rfl (fun h57 => ?_) (fun h57 => ?_))))
  ·
   have p57 := h57
   try simp only [dp] at p57
   refine T_draw [blk p (.cells (BookV.mk now en v.slot (some r) (accP acc1)).cells 115 (0, 0)), blk b7 (.cells (EraV.mk v.view v.reg).cells 112 (0, 0)), blk b3 (.cells x43.1.cells 44 (0, 0))] [(0, true), (1, true), (2, true), (3, true), (4, true), (5, true), (6, false)] (by kernel_rfl) (by kernel_rfl) rfl (by kernel_rfl) SB (fun hns2 => ?_)
   refine zd hns2 rfl (zm (.pointer _) rfl) rfl (zd hns2 rfl (Qt_nilCheck rfl) rfl (zd hns2 rfl (zf 4 rfl rfl) rfl (zd hns2 rfl (zl rfl) rfl (zd hns2 rfl (zn rfl rfl) rfl (zd hns2 rfl (zn rfl rfl) rfl ?_)))))
   refine DL_n rfl (Ef_mapUpdate (key := EraV.mk v.view v.reg) (x43.1) rfl rfl rfl Tryz.underlying110 (⟨SB, ?_⟩))
   refine DL_nil (zx (T2 ?_))
   refine Qai rfl rfl (TX (zQ (zr ?_)))
   have htk := takeD_write (b := (BkS.mk (BookV.mk now en sl (some r) (accP acc)) r es c acc fp vs).abs) (v := v.abs) hput (hk.symm.trans p46) n37
   have hh : hasE es1 ⟨v.view, v.reg⟩ = false := by simpa using h57
   refine zX (BkS.mk (BookV.mk now en v.slot (some r) (accP acc1)) r (putE es1 ⟨v.view, v.reg⟩ x43.1 c) (clockE es1 ⟨v.view, v.reg⟩ c) acc1 (x43.2 ++ fp) ([x43.1] ++ vs)) [.int .i64 0] Tryz.results36 ⟨rfl, trivial⟩ (by rw [htk]; rfl) (fun w hw => St.addPure ?_ ⟨?_, ?_⟩)
   · have h1 : St w0 (datV x43.2 [x43.1] :: datV fp vs :: blk p (.cells (BookV.mk now en v.slot (some r) (accP acc1)).cells 115 (0, 0)) :: blk r (mapO encE encV (putE es1 ⟨v.view, v.reg⟩ x43.1 c) (clockE es1 ⟨v.view, v.reg⟩ c)) :: accA acc1 :: H) w := SB w hw
     exact Subs.st (H' := BkS.H (BkS.mk (BookV.mk now en v.slot (some r) (accP acc1)) r (putE es1 ⟨v.view, v.reg⟩ x43.1 c) (clockE es1 ⟨v.view, v.reg⟩ c) acc1 (x43.2 ++ fp) ([x43.1] ++ vs)) p H) inferInstance w (St.datAdd h1)
   · exact ⟨rfl, rfl, putE_keys (hb3 _ ho.good) _ _ hh, fun e he => by
      rw [show (BkS.es (BkS.mk (BookV.mk now en v.slot (some r) (accP acc1)) r (putE es1 ⟨v.view, v.reg⟩ x43.1 c) (clockE es1 ⟨v.view, v.reg⟩ c) acc1 (x43.2 ++ fp) ([x43.1] ++ vs))) = putE es1 ⟨v.view, v.reg⟩ x43.1 c from rfl, putE_none _ _ _ _ hh] at he
      rcases List.mem_append.1 he with he | he
      · exact List.mem_append_right _ (ho.there e (hb4 e he))
      · obtain rfl : e = ⟨⟨v.view, v.reg⟩, x43.1, c⟩ := by simpa using he
        exact List.mem_append_left _ (by simp), fun q hq => List.mem_append_right _ (ho.last q (hb5 q hq)), fun x hx => by
      rcases List.mem_cons.1 hx with rfl | hx
      · rw [hu]; exact hs
      · exact ho.small x hx⟩
   · rw [htk]; refine Eq.trans ?_ (congrArg (fun b => writeD b ⟨v.view, v.reg⟩ v.abs) (hb7 c fp fp vs vs))
     show BkS.abs _ = if (BookD.get _ _).isSome then _ else _
     rw [hasE_get, hh]
     simp [BkS.abs, putE_none _ _ _ _ hh, hu]
  have p57 := h57
  try simp only [dp] at p57
  refine S4 (Qai rfl rfl (TX (zQ (zr ?_))))
  have htk := takeD_write (b := (BkS.mk (BookV.mk now en sl (some r) (accP acc)) r es c acc fp vs).abs) (v := v.abs) hput (hk.symm.trans p46) n37
  have hh : hasE es1 ⟨v.view, v.reg⟩ = true := by simpa using h57
  refine zX (BkS.mk (BookV.mk now en v.slot (some r) (accP acc1)) r es1 c acc1 fp vs) [.int .i64 0] Tryz.results36 ⟨rfl, trivial⟩ (by rw [htk]; rfl) (fun w hw => St.addPure ?_ ⟨?_, ?_⟩)
  · exact Subs.st (H' := BkS.H (BkS.mk (BookV.mk now en v.slot (some r) (accP acc1)) r es1 c acc1 fp vs) p H) inferInstance w hw
  · exact ⟨rfl, rfl, hb3 _ ho.good, fun e he => ho.there e (hb4 e he), fun q hq => ho.last q (hb5 q hq), ho.small⟩
  · rw [htk]; refine Eq.trans ?_ (congrArg (fun b => writeD b ⟨v.view, v.reg⟩ v.abs) (hb7 c fp fp vs vs))
    show BkS.abs _ = if (BookD.get _ _).isSome then _ else _
    rw [hasE_get, hh]
    rfl
 have p46 := h46
 try simp only [dp] at p46
 refine zk (zx (zS (T2 ?_)))
 refine zq (zm (.pointer _) rfl) rfl (zq (Qt_nilCheck rfl) rfl (zq (zf 5 rfl rfl) rfl (zq (zl rfl) rfl (zq (za (.pointer _) rfl) rfl (TX (zS ?_))))))
 refine T_draw _ [(0, true), (1, true), (2, true), (3, true), (4, true), (5, true), (6, true), (7, true), (8, true), (9, true), (10, true), (11, true), (12, true), (13, false), (14, true)] (by kernel_rfl) (by kernel_rfl) rfl (by kernel_rfl) (fun _ hh => hh) (fun hns3 => ?_)
 rcases acc1 with _ | ⟨q, o⟩ <;> simp only [accP_none, accP_some, accA_none, accA_some]
 ·
  skip
  refine zd hns3 rfl (zm (.pointer _) rfl) rfl (zd hns3 rfl (Qt_ptr_nil rfl rfl Tryz.underlying113) rfl (zd hns3 rfl (zm (.bool _) rfl) rfl ?_))
  refine DL_split 70 rfl (fun h70 => ?_) (fun h70 => ?_)
  ·
   have p70 := h70
   try simp only [dp] at p70
   refine DL_pass hns3 rfl rfl rfl h70 rfl (DL_pass hns3 rfl rfl rfl h70 rfl (DL_pass hns3 rfl rfl rfl h70 rfl (DL_pass hns3 rfl rfl rfl h70 rfl (DL_pass hns3 rfl rfl rfl h70 rfl (DL_pass hns3 rfl rfl rfl h70 rfl ?_)))))
   refine DL_pass hns3 rfl rfl rfl h70 rfl (DL_pass hns3 rfl rfl rfl h70 rfl (DL_pass hns3 rfl rfl rfl h70 rfl (DL_pass hns3 rfl rfl rfl h70 rfl (DL_passF rfl rfl rfl h70 rfl (zd hns3 rfl (zT (.bool _) rfl h70 rfl) rfl ?_)))))
   refine DL_nil (zx (T_cond_true rfl rfl (zR (zq (zm (.pointer _) rfl) rfl (zq (Qt_nilCheck rfl) rfl ?_)))))
   refine zq (zf 5 rfl rfl) rfl ?_
   refine zN (Ef_store1 (.pointer _) rfl rfl (?_))
   refine T4 (Qai rfl rfl (TX (zQ ?_)))
   have htk := takeD_acc (b := (BkS.mk (BookV.mk now en sl (some r) (accP acc)) r es c acc fp vs).abs) (v := v.abs) hput p27 (fun h => p46 (hk.trans h)) n37
   refine zX (BkS.mk (BookV.mk now en v.slot (some r) (some ⟨b3, 0, none⟩)) r es1 c (some (b3, x43.1)) (x43.2 ++ fp) ([x43.1] ++ vs)) [.int .i64 0] Tryz.results36 ⟨rfl, trivial⟩ (by rw [htk]; rfl) (fun w hw => St.addPure ?_ ⟨?_, ?_⟩)
   · have h1 : St w0 (datV x43.2 [x43.1] :: datV fp vs :: blk p (.cells (BookV.mk now en v.slot (some r) (some ⟨b3, 0, none⟩)).cells 115 (0, 0)) :: blk r (mapO encE encV es1 c) :: blk b3 (.cells x43.1.cells 44 (0, 0)) :: H) w := SB w hw
     exact Subs.st (H' := blk p (.cells (BookV.mk now en v.slot (some r) (some ⟨b3, 0, none⟩)).cells 115 (0, 0)) :: blk r (mapO encE encV es1 c) :: blk b3 (.cells x43.1.cells 44 (0, 0)) :: datV (x43.2 ++ fp) ([x43.1] ++ vs) :: H) inferInstance w (St.datAdd h1)
   · exact ⟨rfl, rfl, hb3 _ ho.good, fun e he => List.mem_append_right _ (ho.there e (hb4 e he)), fun q hq => by obtain rfl : (b3, x43.1) = q := (by simpa using hq); simp, fun x hx => by
      rcases List.mem_cons.1 hx with rfl | hx
      · rw [hu]; exact hs
      · exact ho.small x hx⟩
   · rw [htk]; refine Eq.trans ?_ (congrArg (fun b => acceptD b ⟨v.view, v.reg⟩ v.abs) (hb7 c fp fp vs vs))
     simp only [BkS.abs, acceptD, Option.map_none, Option.map_some, hu]
  have p70 := h70
  try simp only [dp] at p70
  cases h70
 skip
 refine zd hns3 rfl (zm (.pointer _) rfl) rfl (zd hns3 rfl (Qt_ptr_nil rfl rfl Tryz.underlying113) rfl (zd hns3 rfl (zm (.bool _) rfl) rfl ?_))
 refine DL_split 70 rfl (fun h70 => ?_) (fun h70 => ?_)
 ·
  have p70 := h70
  try simp only [dp] at p70
  cases h70
 have p70 := h70
 try simp only [dp] at p70
 refine DL_qg hns3 rfl rfl rfl h70 (zn rfl rfl) rfl ?_
 refine DL_qg hns3 rfl rfl rfl h70 (zm (.pointer _) rfl) rfl ?_
 refine DL_qg hns3 rfl rfl rfl h70 (Qt_nilCheck rfl) rfl ?_
 refine DL_qg hns3 rfl rfl rfl h70 (zf 1 rfl rfl) rfl ?_
 refine DL_qg hns3 rfl rfl rfl h70 (zl rfl) rfl ?_
 refine DL_qg hns3 rfl rfl rfl h70 (zm (.pointer _) rfl) rfl ?_
 refine DL_qg hns3 rfl rfl rfl h70 (Qt_nilCheck rfl) rfl ?_
 refine DL_qg hns3 rfl rfl rfl h70 (zf 2 rfl rfl) rfl ?_
 refine DL_qg hns3 rfl rfl rfl h70 (zl rfl) rfl ?_
 refine DL_qg hns3 rfl rfl rfl h70 (Qt_build [(0, (.int .i64 _)), (1, (.int .i64 _))] rfl (by kernel_rfl)) rfl ?_
 refine DL_eg rfl rfl rfl h70 rfl (zc (after_c) rfl (fun x81 => ⟨SB, ?_⟩))
 refine zd hns3 rfl (zF (.bool _) rfl h70 rfl) rfl (DL_nil (zx (zC rfl (fun h82 => ?_) (fun h82 => ?_))))
 ·
  have p82 := h82
  try simp only [dp] at p82
  refine zR (zq (zm (.pointer _) rfl) rfl (zq (Qt_nilCheck rfl) rfl (zq (zf 5 rfl rfl) rfl ?_)))
  refine zN (Ef_store1 (.pointer _) rfl rfl (?_))
  refine T4 (Qai rfl rfl (TX (zQ ?_)))
  have htk := takeD_acc (b := (BkS.mk (BookV.mk now en sl (some r) (accP acc)) r es c acc fp vs).abs) (v := v.abs) hput p27 (fun h => p46 (hk.trans h)) n37
  refine zX (BkS.mk (BookV.mk now en v.slot (some r) (some ⟨b3, 0, none⟩)) r es1 c (some (b3, x43.1)) (x43.2 ++ fp) ([x43.1] ++ vs)) [.int .i64 0] Tryz.results36 ⟨rfl, trivial⟩ (by rw [htk]; rfl) (fun w hw => St.addPure ?_ ⟨?_, ?_⟩)
  · have h1 : St w0 (datV x43.2 [x43.1] :: datV fp vs :: blk p (.cells (BookV.mk now en v.slot (some r) (some ⟨b3, 0, none⟩)).cells 115 (0, 0)) :: blk r (mapO encE encV es1 c) :: blk b3 (.cells x43.1.cells 44 (0, 0)) :: H) w := SB w hw
    exact Subs.st (H' := blk p (.cells (BookV.mk now en v.slot (some r) (some ⟨b3, 0, none⟩)).cells 115 (0, 0)) :: blk r (mapO encE encV es1 c) :: blk b3 (.cells x43.1.cells 44 (0, 0)) :: datV (x43.2 ++ fp) ([x43.1] ++ vs) :: H) inferInstance w (St.datAdd h1)
  · exact ⟨rfl, rfl, hb3 _ ho.good, fun e he => List.mem_append_right _ (ho.there e (hb4 e he)), fun q hq => by obtain rfl : (b3, x43.1) = q := (by simpa using hq); simp, fun x hx => by
     rcases List.mem_cons.1 hx with rfl | hx
     · rw [hu]; exact hs
     · exact ho.small x hx⟩
  · rw [htk]; refine Eq.trans ?_ (congrArg (fun b => acceptD b ⟨v.view, v.reg⟩ v.abs) (hb7 c fp fp vs vs))
    show BkS.abs _ = if afterB _ ⟨o.view, o.reg⟩ then _ else _
    rw [if_pos h82]
    simp only [BkS.abs, Option.map_some, hu]
 have p82 := h82
 try simp only [dp] at p82
 refine S4 (Qai rfl rfl (TX (zQ ?_)))
 have htk := takeD_acc (b := (BkS.mk (BookV.mk now en sl (some r) (accP acc)) r es c acc fp vs).abs) (v := v.abs) hput p27 (fun h => p46 (hk.trans h)) n37
 refine zX (BkS.mk (BookV.mk now en v.slot (some r) (some ⟨q, 0, none⟩)) r es1 c (some (q, o)) fp vs) [.int .i64 0] Tryz.results36 ⟨rfl, trivial⟩ (by rw [htk]; rfl) (fun w hw => St.addPure ?_ ⟨?_, ?_⟩)
 · exact Subs.st (H' := blk p (.cells (BookV.mk now en v.slot (some r) (some ⟨q, 0, none⟩)).cells 115 (0, 0)) :: blk r (mapO encE encV es1 c) :: blk q (.cells o.cells 44 (0, 0)) :: datV fp vs :: H) inferInstance w hw
 · exact ⟨rfl, rfl, hb3 _ ho.good, fun e he => ho.there e (hb4 e he), fun x hx => ho.last x (hb5 x hx), ho.small⟩
 · rw [htk]; refine Eq.trans ?_ (congrArg (fun b => acceptD b ⟨v.view, v.reg⟩ v.abs) (hb7 c fp fp vs vs))
   simp only [BkS.abs, acceptD, Option.map_some, hu, VoteV.abs]
   rw [if_neg (by simp [h82])]
end
section
open Go.RowKit Go.Sx
set_option maxRecDepth 100000
set_option linter.unusedSimpArgs false
set_option linter.unusedVariables false
set_option maxHeartbeats 1000000 in
theorem take_nil {w0 : World} {H : List SA} {v : VoteV} :
 CT Tryz.prog w0 (H) 36 [.pointer none, .agg v.cells] (α := Unit) (fun _ => .int .i64 16) (fun _ => H) := by
 refine CT_intro Tryz.func36 rfl Tryz.ntmps36 rfl ?_
 refine T2 ?_
 refine ze rfl (Ef_boxN rfl (fun b3 => ?_))
 refine Qai rfl rfl (TX (zS (T2 ?_)))
 refine zq (zm (.pointer _) rfl) rfl (zq (Qt_ptr_nil rfl rfl Tryz.underlying75) rfl (TX (zC rfl (fun h12 => ?_) (fun h12 => ?_))))
 ·
  have p12 := h12
  try simp only [dp] at p12
  refine T2 (Qai rfl rfl (TX (zQ (zr ?_))))
  exact zX () [_] Tryz.results36 ⟨rfl, trivial⟩ rfl SB
 have p12 := h12
 try simp only [dp] at p12
 cases h12
instance RdVs.nil {w0 : World} {H : List SA} : RdVs w0 H [] := ⟨fun _ h => by simp at h, fun _ h => by simp at h, fun _ h => by simp at h⟩
end
section
open Go.RowKit Go.Sx
set_option maxRecDepth 100000
set_option linter.unusedSimpArgs false
set_option linter.unusedVariables false
theorem small_of_one {v : VoteD} (h : longOne v = false) : SmallV v := by
 simp only [longOne, Bool.or_eq_false_iff, decide_eq_false_iff_not, List.any_eq_false, decide_eq_true_eq] at h
 exact ⟨by omega, by omega, fun c hc => by have := h.2 c hc; omega⟩
theorem small_of_long {l : List VoteD} (h : longB l = false) : ∀ v ∈ l, SmallV v := fun v hv => by
 simp only [longB, Bool.or_eq_false_iff, List.any_eq_false, Bool.not_eq_true] at h
 exact small_of_one (h.2 v hv)
end
section
open Go.RowKit Go.Sx
set_option maxRecDepth 100000
set_option linter.unusedSimpArgs false
set_option linter.unusedVariables false
theorem long_len {l : List VoteD} (h : longB l = false) : l.length ≤ 40 := by
 simp only [longB, Bool.or_eq_false_iff, decide_eq_false_iff_not] at h; omega
theorem formed_of_put {v : VoteD} (h : (putV v).2 = 0) : formedB v = true := by
 unfold putV at h
 split at h
 · simp at h
 · split at h
   · simp at h
   · split at h
     · simp at h
     · split at h
       · rename_i hf; exact hf
       · simp at h
theorem write_now (b : BookD) (a : EraV) (v : VoteD) : (writeD b a v).now = b.now ∧ (writeD b a v).entered = b.entered ∧ (writeD b a v).slot = b.slot ∧ (writeD b a v).acc = b.acc := by
 unfold writeD; split <;> exact ⟨rfl, rfl, rfl, rfl⟩
theorem accept_now (b : BookD) (a : EraV) (v : VoteD) : (acceptD b a v).now = b.now ∧ (acceptD b a v).entered = b.entered ∧ (acceptD b a v).slot = b.slot := by
 unfold acceptD; split
 · exact ⟨rfl, rfl, rfl⟩
 · split <;> exact ⟨rfl, rfl, rfl⟩
theorem begin_slot (b : BookD) (s : Int) (h : ¬ s < b.slot) : (beginD b s).slot = s := by
 unfold beginD; split
 · rfl
 · show b.slot = s; omega
/-- What Take can do, by cases. -/
theorem takeD_cases (b : BookD) (v : VoteD) : (takeD b v = (b, 15) ∧ (putV v).2 ≠ 0) ∨ (takeD b v = (enterD b ⟨v.view, v.reg⟩, 0) ∧ (putV v).2 = 0 ∧ v.kind = 1) ∨ (takeD b v = (b, 7) ∧ (putV v).2 = 0 ∧ v.kind ≠ 1 ∧ v.slot < b.slot) ∨
 (takeD b v = (writeD (beginD b v.slot) ⟨v.view, v.reg⟩ v, 0) ∧ (putV v).2 = 0 ∧ v.kind = 2 ∧ ¬ v.slot < b.slot) ∨ (takeD b v = (acceptD (beginD b v.slot) ⟨v.view, v.reg⟩ v, 0) ∧ (putV v).2 = 0 ∧ v.kind ≠ 1 ∧ v.kind ≠ 2 ∧ ¬ v.slot < b.slot) := by
 by_cases h : (putV v).2 = 0
 · by_cases h1 : v.kind = 1
   · exact .inr (.inl ⟨takeD_reg h h1, h, h1⟩)
   · by_cases h2 : v.slot < b.slot
     · exact .inr (.inr (.inl ⟨takeD_old h h1 h2, h, h1, h2⟩))
     · by_cases h3 : v.kind = 2
       · exact .inr (.inr (.inr (.inl ⟨takeD_write h h3 h2, h, h3, h2⟩)))
       · exact .inr (.inr (.inr (.inr ⟨takeD_acc h h1 h3 h2, h, h1, h3, h2⟩)))
 · exact .inl ⟨takeD_bad h, h⟩
theorem Qt_loadVote {w0 : World} {H : List SA} {σ : Env} {d : Option Nat} {ty : TypeId} {pos : String} {aft : Array Edge} {g : Option (Nat × Bool)} {x : Operand} {n c k : Nat} {a : Option Addr} {vs : List VoteV} (hx : ev σ x = .pointer (ptrOf (.slice a n c) (k * 38))) [hr : RdC w0 H (.slice a n c) 38 (vs.flatMap VoteV.list)] (hk : k < vs.length) :
 Qt Tryz.prog w0 H σ ⟨d, .load 44 x, ty, pos, aft, g⟩ (.agg vs[k].cells) := Qt_loadRN 38 vs[k].list hx (flat_slice _ 38 VoteV.list_len vs k hk) (VoteV.list_len _) (by decide)
end
end Go.Proofs.YtgeknnclmhfjlaaGreatDoor
