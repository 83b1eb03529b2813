/- Walk: the reference's choice. -/
import Derived.Test.YtnijomppbgdmnaaGreatSgP
import Derived.Test.YtnijomppbgdmnaaGreatXvRP
import Derived.Test.YtnijomppbgdmnaaGreatVbRP
namespace Go.Proofs.YtnijomppbgdmnaaGreat
open Go.RowKit Go.Sx
set_option maxRecDepth 100000
set_option linter.unusedSimpArgs false
set_option linter.unusedVariables false
def encF (t : ToldV) : List Value := [.int .i64 t.frm]
def encB (t : ToldV) : List Value := t.b.list
theorem encF_one1 (t : ToldV) : (encF t).length = 1 := rfl
theorem encF_one (t : ToldV) : (encF t).all Value.oneCell' = true := rfl
theorem encB_len (t : ToldV) : (encB t).length = 36 := BindV.list_len _
theorem encB_one (t : ToldV) : (encB t).all Value.oneCell' = true := BindV.list_one _
theorem encF_all : ∀ ts : List ToldV, (ts.flatMap encF).length = ts.length
 | [] => rfl
 | x :: l => by rw [List.flatMap_cons, List.length_append, encF_one1, encF_all l, List.length_cons]; omega
theorem tob_len : ∀ ts : List ToldV, (ts.flatMap encB).length = ts.length * 36
 | [] => rfl
 | x :: l => by rw [List.flatMap_cons, List.length_append, encB_len, tob_len l, List.length_cons]; omega
theorem tob_pos {ts : List ToldV} {i : Nat} (h : i < ts.length) : 0 < (ts.flatMap encB).length := by rw [tob_len]; omega
theorem who_frm (ts : List ToldV) (i : Nat) (h : i < ts.length) : (ts.flatMap encF)[i]? = some (.int .i64 ts[i].frm) := by
 have := flat_get encF 1 encF_one1 ts i 0 h (by decide)
 rw [Nat.mul_one, Nat.add_zero] at this
 rw [this]; rfl
theorem bind_last (ts : List ToldV) (i : Nat) (h : i < ts.length) : (ts.flatMap encB)[i * 36 + 0]? = some (.int .i64 ts[i].b.last) := by rw [flat_get encB 36 encB_len ts i 0 h (by decide)]; rfl
theorem bind_has (ts : List ToldV) (i : Nat) (h : i < ts.length) : (ts.flatMap encB)[i * 36 + 1]? = some (.bool ts[i].b.has) := by rw [flat_get encB 36 encB_len ts i 1 h (by decide)]; rfl
theorem bind_reg (ts : List ToldV) (i : Nat) (h : i < ts.length) : (ts.flatMap encB)[i * 36 + 2]? = some (.int .i64 ts[i].b.reg) := by rw [flat_get encB 36 encB_len ts i 2 h (by decide)]; rfl
theorem bind_batch (ts : List ToldV) (i : Nat) (h : i < ts.length) : (ts.flatMap encB)[i * 36 + 35]? = some (.slice ts[i].b.batch.a ts[i].b.batch.l.length ts[i].b.batch.c) := by
 rw [flat_get encB 36 encB_len ts i 35 h (by decide)]
 have := (inferInstance : CellAt ts[i].b.cells 35 (.slice ts[i].b.batch.a ts[i].b.batch.l.length ts[i].b.batch.c)).ok
 simpa [BindV.cells, encB] using this
theorem bind_hash (ts : List ToldV) (i : Nat) (h : i < ts.length) : ((ts.flatMap encB).drop (i * 36 + 3)).take 32 = hlist ts[i].b.hash := by
 have h1 := flat_slice encB 36 encB_len ts i h
 have h2 : ((ts.flatMap encB).drop (i * 36 + 3)).take 32 = ((((ts.flatMap encB).drop (i * 36)).take 36).drop 3).take 32 := by
  rw [List.drop_take, List.take_take, List.drop_drop]; rfl
 rw [h2, h1]
 show (([Value.int .i64 ts[i].b.last] ++ ([Value.bool ts[i].b.has] ++ ([Value.int .i64 ts[i].b.reg] ++ (hlist ts[i].b.hash ++ _)))).drop 3).take 32 = _
 show (hlist ts[i].b.hash ++ _).take 32 = _
 rw [List.take_append_of_le_length (by simp)]
 exact List.take_of_length_le (by simp)
theorem bit_ne (n f : Nat) : n / 2 ^ f % 2 ≠ 0 ↔ n.testBit f = true := by
 rw [Nat.testBit_eq_decide_div_mod_eq, decide_eq_true_eq]; omega
def Link (met : Nat) (ts : List ToldV) : Prop := ∀ f : Nat, met / 2 ^ f % 2 ≠ 0 ↔ ∃ t ∈ ts, t.frm = (f : Int)
theorem link_zero : Link 0 [] := fun f => by simp
theorem link_step {met g : Nat} {ts : List ToldV} (h : Link met ts) (y : ToldV) (hy : y.frm = (g : Int)) : Link (met ||| 2 ^ g) (ts ++ [y]) := fun f => by
 have h0 := h f
 rw [bit_ne] at h0 ⊢
 rw [Nat.testBit_or, Bool.or_eq_true, h0, Nat.testBit_two_pow, decide_eq_true_eq]
 constructor
 · rintro (⟨t, ht, e⟩ | e)
   · exact ⟨t, List.mem_append_left _ ht, e⟩
   · exact ⟨y, List.mem_append_right _ (List.mem_singleton.2 rfl), by omega⟩
 · rintro ⟨t, ht, e⟩
   rcases List.mem_append.1 ht with ht | ht
   · exact .inl ⟨t, ht, e⟩
   · rw [List.mem_singleton.1 ht] at e; exact .inr (by omega)
def LastS (ts : List ToldV) (i : Nat) (c : Int) : Prop := lastRL (ts.map absT) = lastR ((ts.drop i).map absT) c
theorem lastS_init {ts : List ToldV} (h : 0 < ts.length) : LastS ts 0 ts[0].b.last := by
 cases ts with
 | nil => exact absurd h (by decide)
 | cons x xs =>
  show lastR (xs.map absT) x.b.last = lastR (xs.map absT) (if x.b.last < x.b.last then x.b.last else x.b.last)
  rw [if_neg (by omega)]
theorem lastS_step {ts : List ToldV} {i : Nat} {c : Int} (hi : i < ts.length) (h : LastS ts i c) : LastS ts (i + 1) (if c < ts[i].b.last then ts[i].b.last else c) := by
 unfold LastS at h ⊢
 rw [h, List.drop_eq_getElem_cons hi]; rfl
theorem lastS_up {ts : List ToldV} {i : Nat} {c : Int} (hi : i < ts.length) (h : LastS ts i c) (hg : ts[i].b.last > c) : LastS ts (i + 1) ts[i].b.last := by
 have := lastS_step hi h
 rwa [if_pos hg] at this
theorem lastS_keep {ts : List ToldV} {i : Nat} {c : Int} (hi : i < ts.length) (h : LastS ts i c) (hg : ¬ ts[i].b.last > c) : LastS ts (i + 1) c := by
 have := lastS_step hi h
 rwa [if_neg hg] at this
theorem lastS_end {ts : List ToldV} {c : Int} (h : LastS ts ts.length c) : lastRL (ts.map absT) = c := by
 unfold LastS at h
 rw [h, List.drop_of_length_le (Nat.le_refl _)]; rfl
def BestS (ts : List ToldV) (last : Int) (i : Nat) (bi : Int) : Prop :=
 (bi = -1 ∧ bestR last (ts.map absT) none = bestR last ((ts.drop i).map absT) none) ∨ ∃ j, ∃ h : j < ts.length, bi = (j : Int) ∧ bestR last (ts.map absT) none = bestR last ((ts.drop i).map absT) (some (absT ts[j]))
theorem bestS_init {ts : List ToldV} {last : Int} : BestS ts last 0 (-1) := .inl ⟨rfl, rfl⟩
theorem bestR_cons (last : Int) (x : ToldV) (xs : List (Int × BindD)) (b : Option (Int × BindD)) : bestR last (absT x :: xs) b = if x.b.last ≠ last ∨ x.b.has = false then bestR last xs b else
 match b with
 | none => bestR last xs (some (absT x))
 | some y => if y.2.reg < x.b.reg ∨ (x.b.reg = y.2.reg ∧ x.frm < y.1) then bestR last xs (some (absT x)) else bestR last xs (some y) := by rw [bestR.eq_def]; rfl
theorem drop_map {ts : List ToldV} {i : Nat} (hi : i < ts.length) : (ts.drop i).map absT = absT ts[i] :: (ts.drop (i + 1)).map absT := by rw [List.drop_eq_getElem_cons hi]; rfl
theorem bestS_skip {ts : List ToldV} {last : Int} {i : Nat} {bi : Int} (hi : i < ts.length) (h : BestS ts last i bi) (hs : ts[i].b.last ≠ last ∨ ts[i].b.has = false) : BestS ts last (i + 1) bi := by
 rcases h with ⟨h1, h2⟩ | ⟨j, hj, h1, h2⟩
 · exact .inl ⟨h1, by rw [h2, drop_map hi, bestR_cons, if_pos hs]⟩
 · exact .inr ⟨j, hj, h1, by rw [h2, drop_map hi, bestR_cons, if_pos hs]⟩
theorem bestS_first {ts : List ToldV} {last : Int} {i : Nat} {bi : Int} (hi : i < ts.length) (h : BestS ts last i bi) (hn : bi < 0) (h1 : ts[i].b.last = last) (h2 : ts[i].b.has = true) : BestS ts last (i + 1) (i : Int) := by
 rcases h with ⟨-, h3⟩ | ⟨j, hj, h3, -⟩
 · exact .inr ⟨i, hi, rfl, by rw [h3, drop_map hi, bestR_cons, if_neg (by rintro (h | h); exact h h1; rw [h2] at h; cases h)]⟩
 · omega
theorem bestS_at {ts : List ToldV} {last : Int} {i j : Nat} (hj : j < ts.length) (h : BestS ts last i (j : Int)) : bestR last (ts.map absT) none = bestR last ((ts.drop i).map absT) (some (absT ts[j])) := by
 rcases h with ⟨h3, -⟩ | ⟨j', hj', h3, h4⟩
 · omega
 · obtain rfl : j = j' := by omega
   exact h4
theorem bestS_better {ts : List ToldV} {last : Int} {i j : Nat} (hi : i < ts.length) (hj : j < ts.length) (h : BestS ts last i (j : Int)) (h1 : ts[i].b.last = last) (h2 : ts[i].b.has = true) (hb : ts[j].b.reg < ts[i].b.reg ∨ (ts[i].b.reg = ts[j].b.reg ∧ ts[i].frm < ts[j].frm)) : BestS ts last (i + 1) (i : Int) := by
 refine .inr ⟨i, hi, rfl, ?_⟩
 rw [bestS_at hj h, drop_map hi, bestR_cons, if_neg (by rintro (h | h); exact h h1; rw [h2] at h; cases h)]
 show (if ts[j].b.reg < ts[i].b.reg ∨ (ts[i].b.reg = ts[j].b.reg ∧ ts[i].frm < ts[j].frm) then _ else _) = _
 rw [if_pos hb]
theorem bestS_keep {ts : List ToldV} {last : Int} {i j : Nat} (hi : i < ts.length) (hj : j < ts.length) (h : BestS ts last i (j : Int)) (h1 : ts[i].b.last = last) (h2 : ts[i].b.has = true) (hb : ¬ (ts[j].b.reg < ts[i].b.reg ∨ (ts[i].b.reg = ts[j].b.reg ∧ ts[i].frm < ts[j].frm))) : BestS ts last (i + 1) (j : Int) := by
 refine .inr ⟨j, hj, rfl, ?_⟩
 rw [bestS_at hj h, drop_map hi, bestR_cons, if_neg (by rintro (h | h); exact h h1; rw [h2] at h; cases h)]
 show (if ts[j].b.reg < ts[i].b.reg ∨ (ts[i].b.reg = ts[j].b.reg ∧ ts[i].frm < ts[j].frm) then _ else _) = _
 rw [if_neg hb]
theorem bestS_get {ts : List ToldV} {last : Int} {i : Nat} {bi : Int} (h : BestS ts last i bi) (hn : 0 ≤ bi) : ∃ j : Nat, j < ts.length ∧ bi = (j : Int) := by
 rcases h with ⟨h3, -⟩ | ⟨j', hj', h3, h4⟩
 · omega
 · exact ⟨j', hj', h3⟩
theorem bestS_some {ts : List ToldV} {last : Int} {j : Nat} (hj : j < ts.length) (h : BestS ts last ts.length (j : Int)) : bestR last (ts.map absT) none = some (absT ts[j]) := by
 rw [bestS_at hj h, List.drop_of_length_le (Nat.le_refl _)]; rfl
theorem bestS_none {ts : List ToldV} {last bi : Int} (h : BestS ts last ts.length bi) (hn : bi < 0) : bestR last (ts.map absT) none = none := by
 rcases h with ⟨-, h3⟩ | ⟨j, hj, h3, -⟩
 · rw [h3, List.drop_of_length_le (Nat.le_refl _)]; rfl
 · omega
/-- What the reference chooses. -/
def ChoR (ts : List ToldV) (c : ChoiceV) : Prop := (bestRL (ts.map absT) = none ∧ c = ⟨lastRL (ts.map absT), false, zeroV 32, ⟨none, 0, []⟩⟩) ∨
 ∃ t ∈ ts, bestRL (ts.map absT) = some (absT t) ∧ c = ⟨lastRL (ts.map absT), true, t.b.hash, t.b.batch⟩
theorem choR_some {ts : List ToldV} {cl : Int} {j : Nat} (hj : j < ts.length) (hl : lastRL (ts.map absT) = cl) (h : BestS ts cl ts.length (j : Int)) : ChoR ts ⟨cl, true, ts[j].b.hash, ts[j].b.batch⟩ :=
 .inr ⟨ts[j], List.getElem_mem hj, by unfold bestRL; rw [hl]; exact bestS_some hj h, by rw [hl]⟩
theorem choR_none {ts : List ToldV} {cl bi : Int} (hl : lastRL (ts.map absT) = cl) (h : BestS ts cl ts.length bi) (hn : bi < 0) : ChoR ts ⟨cl, false, zeroV 32, ⟨none, 0, []⟩⟩ :=
 .inl ⟨by unfold bestRL; rw [hl]; exact bestS_none h hn, by rw [hl]⟩
attribute [local irreducible] openOfK validD enoughV absT bestR lastR
set_option maxHeartbeats 1000000 in
theorem rChoose_c {w0 : World} {H : List SA} {num : Int} {mk : Nat} (hmk : mk < 65536) {sa : Option Addr} {sc : Nat} {ls : List BS} [rk : RdC w0 H (.slice sa ls.length sc) 1 (ls.map BS.val)] [rke : RdE w0 H ls] (hkl : ∀ x ∈ ls, x.l.length ≤ 4294967000) {ra : Option Addr} {rq : Nat} {rs : List (Vector UInt8 32)} [hrr : RdC w0 H (.slice ra rs.length rq) 32 (rs.flatMap hlist)] (hrs : rs.length ≤ 1000) {a : Option Addr} {ps : List BS} {c : Nat} [hp : RdC w0 H (.slice a ps.length c) 1 (ps.map BS.val)] [hpe : RdE w0 H ps] (hps : ∀ x ∈ ps, x.l.length ≤ 4294960000) (hn : ps.length ≤ 1000) {first reg : Int} (hfi : -1000 ≤ first ∧ first ≤ 1000) :
 CT Tryz.prog w0 (H) 9 [.agg (KeysV.mk ⟨sa, sc, ls⟩ ⟨ra, rs.length, rq⟩).cells, .agg (ViewV.mk num (mk : Int)).cells, .int .i64 first, .int .i64 reg, .slice a ps.length c] (α := (ChoiceV × List ToldV) × List Nat) (fun y => .tuple #[.agg y.1.1.cells, .int .i64 (chooseE (ls.map BS.l) rs num mk first reg (ps.map BS.l)).1]) (fun y => pu (((chooseE (ls.map BS.l) rs num mk first reg (ps.map BS.l)).1 = 0 → y.1.2.map absT = (chooseE (ls.map BS.l) rs num mk first reg (ps.map BS.l)).2 ∧ ChoR y.1.2 y.1.1) ∧ ((chooseE (ls.map BS.l) rs num mk first reg (ps.map BS.l)).1 ≠ 0 → y.1.1 = ChoiceV.zero)) :: dat y.2 ⟨(y.1.2).map (fun t => t.b.batch), [], []⟩ :: H) := by
 refine CT_intro Tryz.func9 rfl Tryz.ntmps9 rfl ?_
 refine T2 ?_
 refine ze rfl (Ef_boxN rfl (fun b5 => ?_))
 refine ze rfl (Ef_boxN rfl (fun b6 => ?_))
 refine ze rfl (Ef_allocN (fun b10 => ?_))
 refine Qai rfl rfl (T4 (zq (zn rfl rfl) rfl ?_))
 refine ze rfl (zc (rEnough_c (num := num) hmk) rfl (fun x24 => ?_))
 refine Qai rfl rfl (TX (zS (T2 ?_)))
 refine Qmi rfl rfl (zq (Qt_eql rfl rfl) rfl (Qmb rfl rfl ?_))
 refine TL_split 27 rfl (fun h27 => ?_) (fun h27 => ?_)
 ·
  have p27 := h27
  try simp only [dp] at p27
  refine zp rfl rfl h27 rfl (zp rfl rfl h27 rfl (zp rfl rfl h27 rfl (zp rfl rfl h27 rfl (zq (zT (.bool _) rfl h27 rfl) rfl (Qmb rfl rfl ?_)))))
  refine zp rfl rfl rfl rfl (zp rfl rfl rfl rfl (zp rfl rfl rfl rfl (zq (zT (.bool _) rfl rfl rfl) rfl (TX (T_cond_true rfl rfl ?_)))))
  refine T2 (zq (Qt_build [] rfl (by kernel_rfl)) rfl ?_)
  refine zN (zs rfl rfl (?_))
  refine Qai rfl rfl (TX (zQ (zr ?_)))
  have e : (chooseE (ls.map BS.l) rs num mk first reg (ps.map BS.l)).1 = 12 := by
   unfold chooseE; rw [if_pos (by rw [List.length_map]; simp_all <;> omega)]
  have e0 : (12 : Int) ≠ 0 := by first | decide | assumption | omega
  exact zX ((ChoiceV.zero, []), []) [_, _] Tryz.results9 ⟨⟨_, rfl, res_cellN rfl⟩, rfl, trivial⟩ (by rw [e]; rfl) (fun w hw => St.addPure ((SB w hw : St w0 H w).datNil) ⟨fun h => absurd (e.symm.trans h) e0, fun _ => rfl⟩)
 have p27 := h27
 try simp only [dp] at p27
 refine zt rfl rfl h27 (Qms rfl rfl (zt rfl rfl h27 (zq (zL rfl Tryz.underlying28) rfl (zt rfl rfl h27 (Qmi rfl rfl ?_)))))
 refine zt rfl rfl h27 (zq (Qt_lss rfl rfl) rfl (zq (zF (.bool _) rfl h27 rfl) rfl (Qmb rfl rfl ?_)))
 refine TL_split 33 rfl (fun h33 => ?_) (fun h33 => ?_)
 ·
  have p33 := h33
  try simp only [dp] at p33
  refine zp rfl rfl h33 rfl (zp rfl rfl h33 rfl (zp rfl rfl h33 rfl (zq (zT (.bool _) rfl h33 rfl) rfl (TX (T_cond_true rfl rfl ?_)))))
  refine T2 (zq (Qt_build [] rfl (by kernel_rfl)) rfl ?_)
  refine zN (zs rfl rfl (?_))
  refine Qai rfl rfl (TX (zQ (zr ?_)))
  have e : (chooseE (ls.map BS.l) rs num mk first reg (ps.map BS.l)).1 = 12 := by
   unfold chooseE; rw [if_pos (by rw [List.length_map]; simp_all <;> omega)]
  have e0 : (12 : Int) ≠ 0 := by first | decide | assumption | omega
  exact zX ((ChoiceV.zero, []), []) [_, _] Tryz.results9 ⟨⟨_, rfl, res_cellN rfl⟩, rfl, trivial⟩ (by rw [e]; rfl) (fun w hw => St.addPure ((SB w hw : St w0 H w).datNil) ⟨fun h => absurd (e.symm.trans h) e0, fun _ => rfl⟩)
 have p33 := h33
 try simp only [dp] at p33
 refine zt rfl rfl h33 (Qms rfl rfl (zt rfl rfl h33 (zq (zL rfl Tryz.underlying28) rfl (zt rfl rfl h33 (zq (Qt_gtr rfl rfl) rfl ?_)))))
 refine zq (zF (.bool _) rfl h33 rfl) rfl (TX (zC rfl (fun h37 => ?_) (fun h37 => ?_)))
 ·
  have p37 := h37
  try simp only [dp] at p37
  refine T2 (zq (Qt_build [] rfl (by kernel_rfl)) rfl ?_)
  refine zN (zs rfl rfl (?_))
  refine Qai rfl rfl (TX (zQ (zr ?_)))
  have e : (chooseE (ls.map BS.l) rs num mk first reg (ps.map BS.l)).1 = 12 := by
   unfold chooseE; rw [if_pos (by rw [List.length_map]; simp_all <;> omega)]
  have e0 : (12 : Int) ≠ 0 := by first | decide | assumption | omega
  exact zX ((ChoiceV.zero, []), []) [_, _] Tryz.results9 ⟨⟨_, rfl, res_cellN rfl⟩, rfl, trivial⟩ (by rw [e]; rfl) (fun w hw => St.addPure ((SB w hw : St w0 H w).datNil) ⟨fun h => absurd (e.symm.trans h) e0, fun _ => rfl⟩)
 have p37 := h37
 try simp only [dp] at p37
 have hce : chooseE (ls.map BS.l) rs num mk first reg (ps.map BS.l) = chGo (ls.map BS.l) rs num mk first reg (ps.map BS.l) 0 [] := by
  unfold chooseE; rw [if_neg (by rw [List.length_map]; simp_all <;> omega)]
 have h16 : ps.length ≤ 16 ∧ 0 < ps.length := by simp_all; omega
 refine S4 (Qas rfl rfl (T4 (Qas rfl rfl (TX (zS (T2 ?_))))))
 refine Qai rfl rfl (TX (zB ?_))
 refine T_loop [11, 13, 14, 15, 16, 17, 18, 39, 40, 41, 42, 43, 44, 45, 46, 47, 48, 49, 50, 51, 52, 53, 54, 55, 56, 57, 58, 59, 60, 61, 62, 63, 64, 65, 66, 67, 68, 69, 70, 71, 72, 73, 74, 75, 76, 77, 78, 79, 80, 81, 82, 83, 84, 85, 86, 87, 88, 89, 90, 91, 92, 93, 94, 95, 96, 97, 98, 99, 100, 101, 102, 103, 104, 105, 106, 107] [15, 13, 14] (fun us H' => ∃ (k : Nat) (met : Nat) (aw : Option Addr) (cw : Nat) (ab : Option Addr) (cb : Nat) (ts : List ToldV) (fp : List Nat), us = [.int .i64 (k : Int), .slice aw ts.length cw, .slice ab ts.length cb] ∧ row (.slice aw (ts).length cw) 3 1 ((ts).flatMap encF) :: row (.slice ab (ts).length cb) 89 36 ((ts).flatMap encB) :: dat fp ⟨(ts).map (fun t => t.b.batch), [], []⟩ :: blk b5 (.cells (KeysV.mk ⟨sa, sc, ls⟩ ⟨ra, rs.length, rq⟩).cells 40 (0, 0)) :: blk b6 (.cells (ViewV.mk num (mk : Int)).cells 24 (0, 0)) :: blk b10 (.cells ChoiceV.zero.cells 35 (0, 0)) :: H = H' ∧ k ≤ ps.length ∧ (chGo (ls.map BS.l) rs num mk first reg (ps.map BS.l) 0 [] = chGo (ls.map BS.l) rs num mk first reg ((ps.map BS.l).drop k) met (ts.map absT)) ∧ (Link met ts) ∧ (ts.length = k)) (fun us => match us with | .int _ i :: _ => ps.length - i.toNat | _ => 0) ⟨0, 0, none, 0, none, 0, [], [], rfl, rfl, by omega, rfl, link_zero, rfl⟩ (fun w hw => by
  have h0 : St w0 (blk b5 (.cells (KeysV.mk ⟨sa, sc, ls⟩ ⟨ra, rs.length, rq⟩).cells 40 (0, 0)) :: blk b6 (.cells (ViewV.mk num (mk : Int)).cells 24 (0, 0)) :: blk b10 (.cells ChoiceV.zero.cells 35 (0, 0)) :: H) w := SB w hw
  exact ((h0.datNil).addNil 89 36).addNil 3 1) ?_
 rintro τ0 _ _  ⟨k, met, aw, cw, ab, cb, ts, fp, rfl, rfl, hk0, hi, hlink, hll⟩ _
 refine zS (T2 ?_)
 refine Qmi rfl rfl (Qms rfl rfl (zq (zL rfl Tryz.underlying28) rfl (zq (Qt_lss rfl rfl) rfl (TX (zC rfl (fun h42 => ?_) (fun h42 => ?_))))))
 ·
  have p42 := h42
  try simp only [dp] at p42
  have hk : k < ps.length := by omega
  have hst := chGo_at (ls.map BS.l) rs num mk first reg (ps.map BS.l) met (ts.map absT) k (by simpa using hk)
  have hgk : ((ps.map BS.l)[k]'(by simpa using hk)) = ps[k].l := by simp
  rw [hgk] at hst
  refine zk (zx (zS (zB ?_)))
  refine T_cut [16, 45, 46, 47, 48, 49, 50, 51] [16] (fun us H' => ∃ (b16 : Nat) (x51 : MsgV × List Nat), us = [.pointer (some ⟨b16, 0, none⟩)] ∧ blk b16 (.cells (MGotV.mk x51.1 (openOfK (ls.map BS.l) mk ps[k].l).1).cells 98 (0, 0)) :: dat x51.2 (Deep.leads x51.1) :: row (.slice aw (ts).length cw) 3 1 ((ts).flatMap encF) :: row (.slice ab (ts).length cb) 89 36 ((ts).flatMap encB) :: dat fp ⟨(ts).map (fun t => t.b.batch), [], []⟩ :: blk b5 (.cells (KeysV.mk ⟨sa, sc, ls⟩ ⟨ra, rs.length, rq⟩).cells 40 (0, 0)) :: blk b6 (.cells (ViewV.mk num (mk : Int)).cells 24 (0, 0)) :: blk b10 (.cells ChoiceV.zero.cells 35 (0, 0)) :: H = H' ∧ x51.1.abs = (openOfK (ls.map BS.l) mk ps[k].l).2) ?_ ?_
  ·
   refine T_drawF (blk b5 (.cells (KeysV.mk ⟨sa, sc, ls⟩ ⟨ra, rs.length, rq⟩).cells 40 (0, 0)) :: blk b6 (.cells (ViewV.mk num (mk : Int)).cells 24 (0, 0)) :: H) (by kernel_rfl) SB (DLF_q (i := 0) (by kernel_rfl) rfl (by kernel_rfl) (by kernel_rfl) (zn rfl rfl) rfl (DLF_q (i := 1) (by kernel_rfl) rfl (by kernel_rfl) (by kernel_rfl) (zn rfl rfl) rfl (DLF_q (i := 2) (by kernel_rfl) rfl (by kernel_rfl) (by kernel_rfl) (zm (.slice _ _ _) rfl) rfl (DLF_q (i := 3) (by kernel_rfl) rfl (by kernel_rfl) (by kernel_rfl) (zm (.int .i64 _) rfl) rfl (DLF_q (i := 4) (by kernel_rfl) rfl (by kernel_rfl) (by kernel_rfl) (Qt_indexR rfl rfl (by omega) (by simp; omega)) rfl ?_)))))
   refine DLF_q (i := 5) (by kernel_rfl) rfl (by kernel_rfl) (by kernel_rfl) (Qt_loadR (.slice _ _ _) rfl (vals_get _ _ hk)) rfl ?_
   refine DLF_2 (i := 6) (j := 7) (by kernel_rfl) ?_ ?_
   ·
    have : RdB w0 H (.slice ps[k].a ps[k].l.length ps[k].c) ps[k].l := hpe.get (List.getElem_mem hk)
    refine DLS_e rfl rfl (zc (rOpenOf_c (num := num) hmk (sa := sa) (sc := sc) (ls := ls) (rt := ⟨ra, rs.length, rq⟩) hkl (l := ps[k].l) (hps _ (List.getElem_mem hk))) rfl (fun x51 => ⟨SB, ?_⟩))
    refine DLF_pure (fun h51 => ?_)
    refine DLF_1 (i := 7) (by kernel_rfl) ?_
    refine DLS_e rfl rfl (Ef_allocN (fun b16 => ⟨SB, ?_⟩))
    refine DLF_1 (i := 8) (by kernel_rfl) ?_
    refine DLS_n rfl (zs rfl rfl (⟨SB, ?_⟩))
    refine DLF_nil (by kernel_rfl) ?_
    refine X_cut _ (by repeat (first | with_reducible exact agree_refl | refine agree_upd rfl ?_ | refine agree_mix rfl ?_ | refine agree_setAll rfl ?_)) (⟨b16, x51, rfl, rfl, h51⟩) (SB)
   refine DLS_e rfl rfl (Ef_allocN (fun b16 => ⟨SB, ?_⟩))
   refine DLF_1 (i := 6) (by kernel_rfl) ?_
   have : RdB w0 H (.slice ps[k].a ps[k].l.length ps[k].c) ps[k].l := hpe.get (List.getElem_mem hk)
   refine DLS_e rfl rfl (zc (rOpenOf_c (num := num) hmk (sa := sa) (sc := sc) (ls := ls) (rt := ⟨ra, rs.length, rq⟩) hkl (l := ps[k].l) (hps _ (List.getElem_mem hk))) rfl (fun x51 => ⟨SB, ?_⟩))
   refine DLF_pure (fun h51 => ?_)
   refine DLF_1 (i := 8) (by kernel_rfl) ?_
   refine DLS_n rfl (zs rfl rfl (⟨SB, ?_⟩))
   refine DLF_nil (by kernel_rfl) ?_
   refine X_cut _ (by repeat (first | with_reducible exact agree_refl | refine agree_upd rfl ?_ | refine agree_mix rfl ?_ | refine agree_setAll rfl ?_)) (⟨b16, x51, rfl, rfl, h51⟩) (SB)
  rintro τc0 _ _ ⟨b16, x51, rfl, rfl, h51⟩ _
  have hkd : x51.1.kind = (openOfK (ls.map BS.l) mk ps[k].l).2.kind := congrArg MsgD.kind h51
  have hrg : x51.1.reg = (openOfK (ls.map BS.l) mk ps[k].l).2.reg := congrArg MsgD.reg h51
  have hfr : x51.1.frm = (openOfK (ls.map BS.l) mk ps[k].l).2.frm := congrArg MsgD.frm h51
  have hs2 := openOfK_small2 (ls.map BS.l) mk ps[k].l
  have hpk := hps _ (List.getElem_mem hk)
  rw [← h51] at hs2
  have hmbl : x51.1.body.l.length ≤ 4294960000 := Nat.le_trans hs2.1 hpk
  have hmps : ∀ x ∈ x51.1.parts.ls, x.l.length ≤ 4294960000 := fun x hx => Nat.le_trans (hs2.2.1 x.l (List.mem_map.2 ⟨x, hx, rfl⟩)) hpk
  have hmpn : x51.1.parts.ls.length ≤ 16 := by have := hs2.2.2; rwa [show x51.1.abs.parts = x51.1.parts.ls.map BS.l from rfl, List.length_map] at this
  refine zS (T2 ?_)
  refine zq (zf 39 rfl rfl) rfl (zq (zl rfl) rfl (zq (Qt_neq rfl rfl) rfl (TX (zC rfl (fun h54 => ?_) (fun h54 => ?_)))))
  ·
   have p54 := h54
   try simp only [dp] at p54
   rw [if_pos p54] at hst
   refine zS (T_draw (blk b16 (.cells (MGotV.mk x51.1 (openOfK (ls.map BS.l) mk ps[k].l).1).cells 98 (0, 0)) :: H) [(0, true), (1, true), (2, true), (3, false), (4, true)] (by kernel_rfl) (by kernel_rfl) rfl (by kernel_rfl) SB (fun hns1 => ?_))
   refine zd hns1 rfl (Qt_build [] rfl (by kernel_rfl)) rfl (zd hns1 rfl (zf 39 rfl rfl) rfl (zd hns1 rfl (zl rfl) rfl ?_))
   refine DL_n rfl (zs rfl rfl (⟨SB, ?_⟩))
   refine zd hns1 rfl (za (.int .i64 _) rfl) rfl (DL_nil (zx (zQ (zr (zb (zr (X_loop_ret (zb (zr ?_)))))))))
   have e : (chooseE (ls.map BS.l) rs num mk first reg (ps.map BS.l)).1 = (openOfK (ls.map BS.l) mk ps[k].l).1 := by
    rw [hce, hi, hst]
   have e0 : ((openOfK (ls.map BS.l) mk ps[k].l).1 : Int) ≠ 0 := by first | decide | assumption | omega
   exact zX ((ChoiceV.zero, []), []) [_, _] Tryz.results9 ⟨⟨_, rfl, res_cellN rfl⟩, rfl, trivial⟩ (by rw [e]; rfl) (fun w hw => St.addPure ((SB w hw : St w0 H w).datNil) ⟨fun h => absurd (e.symm.trans h) e0, fun _ => rfl⟩)
  have p54 := h54
  try simp only [dp] at p54
  rw [if_neg (by omega)] at hst
  have hfm := (formedM_iff _).1 (opn_ok (K := (ls.map BS.l)) (mk := mk) (l := ps[k].l) (by omega)).1
  rw [show opn (ls.map BS.l) mk ps[k].l = (openOfK (ls.map BS.l) mk ps[k].l).2 from rfl, ← h51] at hfm
  have hmsl : 0 ≤ x51.1.slot ∧ x51.1.slot ≤ 60 := hfm.2.2.2.2.2.2.2.2
  have hfra : 0 ≤ x51.1.frm ∧ x51.1.frm ≤ 15 := ⟨hfm.2.2.1, hfm.2.2.2.1⟩
  obtain ⟨f, hfe⟩ := Int.eq_ofNat_of_zero_le hfra.1
  have hff : (openOfK (ls.map BS.l) mk ps[k].l).2.frm.toNat = f := by rw [← hfr, hfe]; rfl
  rw [hff, ← hfr, ← hkd, ← hrg, ← h51] at hst
  refine zk (zx (zS (T2 ?_)))
  refine zq (zf 0 rfl rfl) rfl (zq (zf 0 rfl rfl) rfl (zq (zl rfl) rfl (zq (Qt_neq rfl rfl) rfl (Qmb rfl rfl ?_))))
  refine TL_split 62 rfl (fun h62 => ?_) (fun h62 => ?_)
  ·
   have p62 := h62
   try simp only [dp] at p62
   refine zp rfl rfl h62 rfl (zp rfl rfl h62 rfl (zp rfl rfl h62 rfl (zp rfl rfl h62 rfl (zp rfl rfl h62 rfl (zq (zT (.bool _) rfl h62 rfl) rfl ?_)))))
   refine TX (T_cond_true rfl rfl (T2 (zq (Qt_build [] rfl (by kernel_rfl)) rfl ?_)))
   refine zN (zs rfl rfl (?_))
   refine Qai rfl rfl (TX (zQ (zr (zb (zr (X_loop_ret (zb (zr ?_))))))))
   have e : (chooseE (ls.map BS.l) rs num mk first reg (ps.map BS.l)).1 = 10 := by
    rw [hce, hi, hst, if_pos (by first | (left; assumption) | (right; assumption) | (simp_all; done) | (simp_all; omega))]
   have e0 : (10 : Int) ≠ 0 := by first | decide | assumption | omega
   exact zX ((ChoiceV.zero, []), []) [_, _] Tryz.results9 ⟨⟨_, rfl, res_cellN rfl⟩, rfl, trivial⟩ (by rw [e]; rfl) (fun w hw => St.addPure ((SB w hw : St w0 H w).datNil) ⟨fun h => absurd (e.symm.trans h) e0, fun _ => rfl⟩)
  have p62 := h62
  try simp only [dp] at p62
  refine zt rfl rfl h62 (zq (zf 0 rfl rfl) rfl (zt rfl rfl h62 (zq (zf 3 rfl rfl) rfl (zt rfl rfl h62 (zq (zl rfl) rfl ?_)))))
  refine zt rfl rfl h62 (Qmi rfl rfl (zt rfl rfl h62 (zq (Qt_neq rfl rfl) rfl (zq (zF (.bool _) rfl h62 rfl) rfl (TX ?_)))))
  refine zC rfl (fun h68 => ?_) (fun h68 => ?_)
  ·
   have p68 := h68
   try simp only [dp] at p68
   refine T2 (zq (Qt_build [] rfl (by kernel_rfl)) rfl ?_)
   refine zN (zs rfl rfl (?_))
   refine Qai rfl rfl (TX (zQ (zr (zb (zr (X_loop_ret (zb (zr ?_))))))))
   have e : (chooseE (ls.map BS.l) rs num mk first reg (ps.map BS.l)).1 = 10 := by
    rw [hce, hi, hst, if_pos (by first | (left; assumption) | (right; assumption) | (simp_all; done) | (simp_all; omega))]
   have e0 : (10 : Int) ≠ 0 := by first | decide | assumption | omega
   exact zX ((ChoiceV.zero, []), []) [_, _] Tryz.results9 ⟨⟨_, rfl, res_cellN rfl⟩, rfl, trivial⟩ (by rw [e]; rfl) (fun w hw => St.addPure ((SB w hw : St w0 H w).datNil) ⟨fun h => absurd (e.symm.trans h) e0, fun _ => rfl⟩)
  have p68 := h68
  try simp only [dp] at p68
  rw [if_neg (by rintro (h | h) <;> simp_all)] at hst
  refine zk (zx (zS (T2 ?_)))
  refine Qai rfl rfl (TX (zB ?_))
  refine T_loop [11, 17, 70, 71, 72, 73, 74, 75, 76, 77, 78, 79, 80, 81, 82, 83, 84] [17] (fun us H' => ∃ (j : Nat), us = [.int .i64 (j : Int)] ∧ row (.slice aw (ts).length cw) 3 1 ((ts).flatMap encF) :: row (.slice ab (ts).length cb) 89 36 ((ts).flatMap encB) :: dat fp ⟨(ts).map (fun t => t.b.batch), [], []⟩ :: blk b16 (.cells (MGotV.mk x51.1 (openOfK (ls.map BS.l) mk ps[k].l).1).cells 98 (0, 0)) :: dat x51.2 (Deep.leads x51.1) :: blk b5 (.cells (KeysV.mk ⟨sa, sc, ls⟩ ⟨ra, rs.length, rq⟩).cells 40 (0, 0)) :: blk b6 (.cells (ViewV.mk num (mk : Int)).cells 24 (0, 0)) :: blk b10 (.cells ChoiceV.zero.cells 35 (0, 0)) :: H = H' ∧ j ≤ ts.length ∧ (∀ t ∈ ts.take j, t.frm ≠ x51.1.frm)) (fun us => match us with | .int _ i :: _ => ts.length - i.toNat | _ => 0) ⟨0, rfl, rfl, by omega, fun t ht => by cases ht⟩ SB ?_
  rintro τ1 _ _  ⟨j, rfl, rfl, hj0, hnn⟩ _
  refine zS (T2 ?_)
  refine Qmi rfl rfl (Qms rfl rfl (zq (zL rfl Tryz.underlying95) rfl (zq (Qt_lss rfl rfl) rfl (TX (zC rfl (fun h73 => ?_) (fun h73 => ?_))))))
  ·
   have p73 := h73
   try simp only [dp] at p73
   have hj : j < ts.length := by omega
   refine zk (zx (zS (zB (zS ?_))))
   refine T_draw (row (.slice aw (ts).length cw) 3 1 ((ts).flatMap encF) :: blk b16 (.cells (MGotV.mk x51.1 (openOfK (ls.map BS.l) mk ps[k].l).1).cells 98 (0, 0)) :: H) [(0, true), (1, true), (2, true), (3, true), (4, true), (5, true), (6, true), (7, true)] (by kernel_rfl) (by kernel_rfl) rfl (by kernel_rfl) SB (fun hns2 => ?_)
   refine zd hns2 rfl (zm (.slice _ _ _) rfl) rfl (zd hns2 rfl (zm (.int .i64 _) rfl) rfl (zd hns2 rfl (Qt_indexR rfl rfl (by omega) (by rw [encF_all]; omega)) rfl (zd hns2 rfl (Qt_loadR (.int .i64 ts[j].frm) rfl (who_frm ts j hj)) rfl (zd hns2 rfl (zf 0 rfl rfl) rfl (zd hns2 rfl (zf 1 rfl rfl) rfl ?_)))))
   refine zd hns2 rfl (zl rfl) rfl (zd hns2 rfl (Qt_eql rfl rfl) rfl (DL_nil (zx (zC rfl (fun h83 => ?_) (fun h83 => ?_)))))
   ·
    have p83 := h83
    try simp only [dp] at p83
    rw [if_pos ((hlink f).2 ⟨ts[j], List.getElem_mem hj, by omega⟩)] at hst
    refine T2 (zq (Qt_build [] rfl (by kernel_rfl)) rfl ?_)
    refine zN (zs rfl rfl (?_))
    refine Qai rfl rfl (TX (zQ (zb (zr (X_loop_ret (zb (zr (zb (zr (X_loop_ret (zb (zr ?_))))))))))))
    have e : (chooseE (ls.map BS.l) rs num mk first reg (ps.map BS.l)).1 = 7 := by
     rw [hce, hi, hst]
    have e0 : (7 : Int) ≠ 0 := by first | decide | assumption | omega
    exact zX ((ChoiceV.zero, []), []) [_, _] Tryz.results9 ⟨⟨_, rfl, res_cellN rfl⟩, rfl, trivial⟩ (by rw [e]; rfl) (fun w hw => St.addPure ((SB w hw : St w0 H w).datNil) ⟨fun h => absurd (e.symm.trans h) e0, fun _ => rfl⟩)
   have p83 := h83
   try simp only [dp] at p83
   refine zk (X_block (zx (zR ?_)))
   refine Qmi rfl rfl (zq (Qt_add rfl rfl (by omega) (by omega)) rfl (Qai rfl rfl (zz ?_)))
   apply X_loop
   case ha => exact (by repeat (first | with_reducible exact agree_refl | refine agree_upd rfl ?_ | refine agree_mix rfl ?_ | refine agree_setAll rfl ?_))
   case hI => exact ⟨j + 1, rfl, rfl, by omega, fun t ht => by
    rw [List.take_succ_eq_append_getElem hj] at ht
    rcases List.mem_append.1 ht with h | h
    · exact hnn t h
    · rw [List.mem_singleton.1 h]; exact p83⟩
   case hm => exact by show ts.length - (j + 1 : Int).toNat < ts.length - (j : Int).toNat; omega
   case hH => exact SB
  have p73 := h73
  try simp only [dp] at p73
  have hjn : j = ts.length := by omega
  rw [hjn, List.take_length] at hnn
  rw [if_neg (fun hx => by obtain ⟨t, ht, he⟩ := (hlink f).1 hx; exact hnn t ht (by omega))] at hst
  refine zY (zG (zW (zE (zx (T2 ?_)))))
  refine zq (zn rfl rfl) rfl (zq (zn rfl rfl) rfl (Qmi rfl rfl (zq (zf 0 rfl rfl) rfl (zq (zn rfl rfl) rfl ?_))))
  refine ze rfl (zc (rValid_c (num := num) hmk (sa := sa) (sc := sc) (ls := ls) hkl (ra := ra) (rq := rq) (rs := rs) hrs (m := x51.1) hmsl hmps hmpn hmbl (first := first) hfi) rfl (fun x90 => ?_))
  refine TL_pure (fun h90 => ?_)
  refine ze rfl (Ef_allocN (fun b18 => ?_))
  refine zN (zs rfl rfl (?_))
  refine TX (zS (T2 ?_))
  refine zq (zf 36 rfl rfl) rfl (zq (zl rfl) rfl (zq (Qt_neq rfl rfl) rfl (TX (zC rfl (fun h93 => ?_) (fun h93 => ?_)))))
  ·
   have p93 := h93
   try simp only [dp] at p93
   rw [if_pos p93] at hst
   refine zS (T_draw (blk b18 (.cells (RToldV.mk x90 (validD (ls.map BS.l) rs num mk first x51.1.abs).1).cells 101 (0, 0)) :: H) [(0, true), (1, true), (2, true), (3, false), (4, true)] (by kernel_rfl) (by kernel_rfl) rfl (by kernel_rfl) SB (fun hns3 => ?_))
   refine zd hns3 rfl (Qt_build [] rfl (by kernel_rfl)) rfl (zd hns3 rfl (zf 36 rfl rfl) rfl (zd hns3 rfl (zl rfl) rfl ?_))
   refine DL_n rfl (zs rfl rfl (⟨SB, ?_⟩))
   refine zd hns3 rfl (za (.int .i64 _) rfl) rfl (DL_nil (zx (zQ (zr (zb (zr (X_loop_ret (zb (zr ?_)))))))))
   have e : (chooseE (ls.map BS.l) rs num mk first reg (ps.map BS.l)).1 = (validD (ls.map BS.l) rs num mk first x51.1.abs).1 := by
    rw [hce, hi, hst]
   have e0 : ((validD (ls.map BS.l) rs num mk first x51.1.abs).1 : Int) ≠ 0 := by first | decide | assumption | omega
   exact zX ((ChoiceV.zero, []), []) [_, _] Tryz.results9 ⟨⟨_, rfl, res_cellN rfl⟩, rfl, trivial⟩ (by rw [e]; rfl) (fun w hw => St.addPure ((SB w hw : St w0 H w).datNil) ⟨fun h => absurd (e.symm.trans h) e0, fun _ => rfl⟩)
  have p93 := h93
  try simp only [dp] at p93
  rw [if_neg (by omega)] at hst
  refine S4 (Qms rfl rfl (zq (zf 0 rfl rfl) rfl (zq (zf 1 rfl rfl) rfl (zq (zl rfl) rfl ?_))))
  refine ze rfl (Ef_sliceN (m := ([(⟨x51.1.frm, x90⟩ : ToldV)] : List ToldV).length) [.int .i64 x51.1.frm] (([(⟨x51.1.frm, x90⟩ : ToldV)] : List ToldV).flatMap encF) rfl rfl rfl rfl (by simp [Value.cells]) rfl rfl (fun a101 c101 => ?_))
  refine ze rfl (Ef_appendS encF (sv := .slice _ _ _) (xv := .slice _ _ _) (xs := ts) (ys := [(⟨x51.1.frm, x90⟩ : ToldV)]) encF_one1 encF_one rfl rfl (by simp; omega) rfl rfl (fun a102 c102 => ?_))
  refine Qas rfl rfl (TX (zR ?_))
  refine Qms rfl rfl (zq (zf 0 rfl rfl) rfl (zq (zn rfl rfl) rfl ?_))
  refine ze rfl (Ef_sliceN (m := ([(⟨x51.1.frm, x90⟩ : ToldV)] : List ToldV).length) [.agg x90.cells] (([(⟨x51.1.frm, x90⟩ : ToldV)] : List ToldV).flatMap encB) rfl rfl rfl rfl (by simp [Value.cells, BindV.size]) rfl rfl (fun a106 c106 => ?_))
  refine ze rfl (Ef_appendS encB (sv := .slice _ _ _) (xv := .slice _ _ _) (xs := ts) (ys := [(⟨x51.1.frm, x90⟩ : ToldV)]) encB_len encB_one rfl rfl (by simp; omega) rfl rfl (fun a107 c107 => ?_))
  refine Qas rfl rfl (zz (X_block (zx (zR ?_))))
  refine Qmi rfl rfl (zq (Qt_add rfl rfl (by omega) (by omega)) rfl (Qai rfl rfl (zz ?_)))
  apply X_loop
  case ha => exact (by repeat (first | with_reducible exact agree_refl | refine agree_upd rfl ?_ | refine agree_mix rfl ?_ | refine agree_setAll rfl ?_))
  case hI => exact ⟨k + 1, (met ||| 2 ^ f), a102, c102, a107, c107, ts ++ [(⟨x51.1.frm, x90⟩ : ToldV)], (fp ++ (rowFp (.slice x90.batch.a x90.batch.l.length x90.batch.c))), rfl, rfl, by omega, by rw [hi, hst, List.map_append, ← h90]; unfold absT; rfl, link_step hlink (⟨x51.1.frm, x90⟩ : ToldV) hfe, by simp [hll]⟩
  case hm => exact by show ps.length - (k + 1 : Int).toNat < ps.length - (k : Int).toNat; omega
  case hH => exact (fun w hw => by
   have h1 : St w0 (row (.slice x90.batch.a x90.batch.l.length x90.batch.c) 5 1 (bytesV x90.batch.l) :: dat fp ⟨(ts).map (fun t => t.b.batch), [], []⟩ :: row (.slice a102 (ts ++ [(⟨x51.1.frm, x90⟩ : ToldV)]).length c102) 3 1 ((ts ++ [(⟨x51.1.frm, x90⟩ : ToldV)]).flatMap encF) :: row (.slice a107 (ts ++ [(⟨x51.1.frm, x90⟩ : ToldV)]).length c107) 89 36 ((ts ++ [(⟨x51.1.frm, x90⟩ : ToldV)]).flatMap encB) :: blk b5 (.cells (KeysV.mk ⟨sa, sc, ls⟩ ⟨ra, rs.length, rq⟩).cells 40 (0, 0)) :: blk b6 (.cells (ViewV.mk num (mk : Int)).cells 24 (0, 0)) :: blk b10 (.cells ChoiceV.zero.cells 35 (0, 0)) :: H) w := SB w hw
   have h3 : St w0 (dat fp ⟨(ts).map (fun t => t.b.batch), [], []⟩ :: dat (rowFp (.slice x90.batch.a x90.batch.l.length x90.batch.c)) ⟨[x90.batch], [], []⟩ :: row (.slice a102 (ts ++ [(⟨x51.1.frm, x90⟩ : ToldV)]).length c102) 3 1 ((ts ++ [(⟨x51.1.frm, x90⟩ : ToldV)]).flatMap encF) :: row (.slice a107 (ts ++ [(⟨x51.1.frm, x90⟩ : ToldV)]).length c107) 89 36 ((ts ++ [(⟨x51.1.frm, x90⟩ : ToldV)]).flatMap encB) :: blk b5 (.cells (KeysV.mk ⟨sa, sc, ls⟩ ⟨ra, rs.length, rq⟩).cells 40 (0, 0)) :: blk b6 (.cells (ViewV.mk num (mk : Int)).cells 24 (0, 0)) :: blk b10 (.cells ChoiceV.zero.cells 35 (0, 0)) :: H) w := Subs.st inferInstance w h1.datB
   have h4 : St w0 (dat (fp ++ (rowFp (.slice x90.batch.a x90.batch.l.length x90.batch.c))) ⟨(ts ++ [(⟨x51.1.frm, x90⟩ : ToldV)]).map (fun t => t.b.batch), [], []⟩ :: row (.slice a102 (ts ++ [(⟨x51.1.frm, x90⟩ : ToldV)]).length c102) 3 1 ((ts ++ [(⟨x51.1.frm, x90⟩ : ToldV)]).flatMap encF) :: row (.slice a107 (ts ++ [(⟨x51.1.frm, x90⟩ : ToldV)]).length c107) 89 36 ((ts ++ [(⟨x51.1.frm, x90⟩ : ToldV)]).flatMap encB) :: blk b5 (.cells (KeysV.mk ⟨sa, sc, ls⟩ ⟨ra, rs.length, rq⟩).cells 40 (0, 0)) :: blk b6 (.cells (ViewV.mk num (mk : Int)).cells 24 (0, 0)) :: blk b10 (.cells ChoiceV.zero.cells 35 (0, 0)) :: H) w := by
    rw [List.map_append]; exact h3.datAdd
   exact Subs.st inferInstance w h4)
 have p42 := h42
 try simp only [dp] at p42
 have hkn : k = ps.length := by omega
 rw [hkn, List.drop_of_length_le (by simp)] at hi
 have hi2 : chGo (ls.map BS.l) rs num mk first reg (ps.map BS.l) 0 [] = (0, ts.map absT) := hi
 have hts : 0 < ts.length := by omega
 clear hi
 refine zY (zG (zW (zE (zx (T2 ?_)))))
 refine Qms rfl rfl (zq (Qt_indexN rfl rfl (by omega) (by omega)) rfl (zq (Qt_fieldR rfl 36 (tob_pos hts)) rfl (zq (Qt_loadRs 36 (.int .i64 ts[0].b.last) rfl (bind_last ts 0 hts)) rfl (zq (Qt_val (Qt_build [(0, .int .i64 _)] rfl (by kernel_rfl)) (show _ = Value.agg (ChoiceV.mk ts[0].b.last false (zeroV 32) ⟨none, 0, []⟩).cells from rfl)) rfl ?_))))
 refine ze rfl (Ef_allocN (fun b19 => ?_))
 refine zN (zs rfl rfl (?_))
 refine TX (zS (T2 ?_))
 refine Qai rfl rfl (TX (zB ?_))
 refine T_loop [20, 113, 114, 115, 116, 117, 118, 119, 120, 121, 122, 123, 124, 125, 126, 127, 128, 129, 130, 131, 132] [20] (fun us H' => ∃ (i : Nat) (cl : Int), us = [.int .i64 (i : Int)] ∧ blk b19 (.cells (ChoiceV.mk cl false (zeroV 32) ⟨none, 0, []⟩).cells 35 (0, 0)) :: row (.slice aw (ts).length cw) 3 1 ((ts).flatMap encF) :: row (.slice ab (ts).length cb) 89 36 ((ts).flatMap encB) :: dat fp ⟨(ts).map (fun t => t.b.batch), [], []⟩ :: blk b10 (.cells ChoiceV.zero.cells 35 (0, 0)) :: H = H' ∧ i ≤ ts.length ∧ (LastS ts i cl)) (fun us => match us with | .int _ i :: _ => ts.length - i.toNat | _ => 0) ⟨0, ts[0].b.last, rfl, rfl, by omega, lastS_init hts⟩ SB ?_
 rintro τ2 _ _  ⟨i, cl, rfl, rfl, hi0, hcl⟩ _
 refine zS (T2 ?_)
 refine Qmi rfl rfl (Qms rfl rfl (zq (zL rfl Tryz.underlying96) rfl (zq (Qt_lss rfl rfl) rfl (TX (zC rfl (fun h116 => ?_) (fun h116 => ?_))))))
 ·
  have p116 := h116
  try simp only [dp] at p116
  have hi : i < ts.length := by omega
  refine zk (zx (zS (zB (zS ?_))))
  refine T_draw (row (.slice ab (ts).length cb) 89 36 ((ts).flatMap encB) :: blk b19 (.cells (ChoiceV.mk cl false (zeroV 32) ⟨none, 0, []⟩).cells 35 (0, 0)) :: H) [(0, true), (1, true), (2, true), (3, true), (4, true), (5, true), (6, true), (7, true)] (by kernel_rfl) (by kernel_rfl) rfl (by kernel_rfl) SB (fun hns4 => ?_)
  refine zd hns4 rfl (zm (.slice _ _ _) rfl) rfl (zd hns4 rfl (zm (.int .i64 _) rfl) rfl (zd hns4 rfl (Qt_indexN rfl rfl (by omega) (by omega)) rfl (zd hns4 rfl (Qt_fieldR rfl 36 (tob_pos hi)) rfl (zd hns4 rfl (Qt_loadRs 36 (.int .i64 ts[i].b.last) rfl (bind_last ts i hi)) rfl (zd hns4 rfl (zf 0 rfl rfl) rfl ?_)))))
  refine zd hns4 rfl (zl rfl) rfl (zd hns4 rfl (Qt_gtr rfl rfl) rfl (DL_nil (zx (zC rfl (fun h126 => ?_) (fun h126 => ?_)))))
  ·
   have p126 := h126
   try simp only [dp] at p126
   refine zR (Qms rfl rfl (Qmi rfl rfl (zq (Qt_indexN rfl rfl (by omega) (by omega)) rfl (zq (Qt_fieldR rfl 36 (tob_pos hi)) rfl (zq (Qt_loadRs 36 (.int .i64 ts[i].b.last) rfl (bind_last ts i hi)) rfl ?_)))))
   refine zq (zf 0 rfl rfl) rfl ?_
   refine zN (Ef_store1 (.int .i64 _) rfl rfl (?_))
   refine zz (X_block (zx (zR ?_)))
   refine Qmi rfl rfl (zq (Qt_add rfl rfl (by omega) (by omega)) rfl (Qai rfl rfl (zz ?_)))
   apply X_loop
   case ha => exact (by repeat (first | with_reducible exact agree_refl | refine agree_upd rfl ?_ | refine agree_mix rfl ?_ | refine agree_setAll rfl ?_))
   case hI => exact (by first | exact ⟨i + 1, ts[i].b.last, rfl, rfl, by omega, lastS_up hi hcl (by omega)⟩ | exact ⟨i + 1, cl, rfl, rfl, by omega, lastS_keep hi hcl (by omega)⟩)
   case hm => exact by show ts.length - (i + 1 : Int).toNat < ts.length - (i : Int).toNat; omega
   case hH => exact SB
  have p126 := h126
  try simp only [dp] at p126
  refine zk (X_block (zx (zR ?_)))
  refine Qmi rfl rfl (zq (Qt_add rfl rfl (by omega) (by omega)) rfl (Qai rfl rfl (zz ?_)))
  apply X_loop
  case ha => exact (by repeat (first | with_reducible exact agree_refl | refine agree_upd rfl ?_ | refine agree_mix rfl ?_ | refine agree_setAll rfl ?_))
  case hI => exact (by first | exact ⟨i + 1, ts[i].b.last, rfl, rfl, by omega, lastS_up hi hcl (by omega)⟩ | exact ⟨i + 1, cl, rfl, rfl, by omega, lastS_keep hi hcl (by omega)⟩)
  case hm => exact by show ts.length - (i + 1 : Int).toNat < ts.length - (i : Int).toNat; omega
  case hH => exact SB
 have p116 := h116
 try simp only [dp] at p116
 have hin : i = ts.length := by omega
 rw [hin] at hcl
 have hlast := lastS_end hcl
 refine zY (zG (zW (zE (zx (T2 ?_)))))
 refine Qai rfl rfl (TX (zS (T2 ?_)))
 refine Qai rfl rfl (TX (zB ?_))
 refine T_loop [21, 22, 133, 134, 135, 136, 137, 138, 139, 140, 141, 142, 143, 144, 145, 146, 147, 148, 149, 150, 151, 152, 153, 154, 155, 156, 157, 158, 159, 160, 161, 162, 163, 164, 165, 166, 167, 168, 169, 170, 171, 172, 173, 174, 175, 176, 177, 178, 179, 180, 181, 182, 183, 184, 185, 186, 187, 188, 189, 190, 191, 192, 193, 194] [22, 21] (fun us H' => ∃ (q : Nat) (bi : Int), us = [.int .i64 (q : Int), .int .i64 bi] ∧ blk b19 (.cells (ChoiceV.mk cl false (zeroV 32) ⟨none, 0, []⟩).cells 35 (0, 0)) :: row (.slice aw (ts).length cw) 3 1 ((ts).flatMap encF) :: row (.slice ab (ts).length cb) 89 36 ((ts).flatMap encB) :: dat fp ⟨(ts).map (fun t => t.b.batch), [], []⟩ :: blk b10 (.cells ChoiceV.zero.cells 35 (0, 0)) :: H = H' ∧ q ≤ ts.length ∧ (BestS ts cl q bi)) (fun us => match us with | .int _ i :: _ => ts.length - i.toNat | _ => 0) ⟨0, (-1), rfl, rfl, by omega, bestS_init⟩ SB ?_
 rintro τ3 _ _  ⟨q, bi, rfl, rfl, hq0, hbs⟩ _
 refine zS (T2 ?_)
 refine Qmi rfl rfl (Qms rfl rfl (zq (zL rfl Tryz.underlying96) rfl (zq (Qt_lss rfl rfl) rfl (TX (zC rfl (fun h136 => ?_) (fun h136 => ?_))))))
 ·
  have p136 := h136
  try simp only [dp] at p136
  have hq : q < ts.length := by omega
  refine zk (zx (zS (zB (zS (zS ?_)))))
  refine T_draw (row (.slice ab (ts).length cb) 89 36 ((ts).flatMap encB) :: blk b19 (.cells (ChoiceV.mk cl false (zeroV 32) ⟨none, 0, []⟩).cells 35 (0, 0)) :: H) [(0, true), (1, true), (2, true), (3, true), (4, true), (5, true), (6, true), (7, true), (8, true), (9, true), (10, true), (11, true), (12, true), (13, true), (14, true), (15, true)] (by kernel_rfl) (by kernel_rfl) rfl (by kernel_rfl) SB (fun hns5 => ?_)
  refine zd hns5 rfl (zm (.slice _ _ _) rfl) rfl (zd hns5 rfl (zm (.int .i64 _) rfl) rfl (zd hns5 rfl (Qt_indexN rfl rfl (by omega) (by omega)) rfl (zd hns5 rfl (Qt_fieldR rfl 36 (tob_pos hq)) rfl (zd hns5 rfl (Qt_loadRs 36 (.int .i64 ts[q].b.last) rfl (bind_last ts q hq)) rfl (zd hns5 rfl (zf 0 rfl rfl) rfl ?_)))))
  refine zd hns5 rfl (zl rfl) rfl (zd hns5 rfl (Qt_neq rfl rfl) rfl (zd hns5 rfl (zm (.bool _) rfl) rfl ?_))
  refine DL_split 147 rfl (fun h147 => ?_) (fun h147 => ?_)
  ·
   have p147 := h147
   try simp only [dp] at p147
   refine DL_pass hns5 rfl rfl rfl h147 rfl (DL_pass hns5 rfl rfl rfl h147 rfl (DL_pass hns5 rfl rfl rfl h147 rfl (DL_pass hns5 rfl rfl rfl h147 rfl (DL_pass hns5 rfl rfl rfl h147 rfl (DL_pass hns5 rfl rfl rfl h147 rfl ?_)))))
   refine zd hns5 rfl (zT (.bool _) rfl h147 rfl) rfl (DL_nil (zx (T_cond_true rfl rfl ?_)))
   have hnext := bestS_skip hq hbs (.inl p147)
   refine zY (zG (zE (zx (zR ?_))))
   refine Qmi rfl rfl (zq (Qt_add rfl rfl (by omega) (by omega)) rfl (Qai rfl rfl (zz ?_)))
   apply X_loop
   case ha => exact (by repeat (first | with_reducible exact agree_refl | refine agree_upd rfl ?_ | refine agree_mix rfl ?_ | refine agree_setAll rfl ?_))
   case hI => exact ⟨q + 1, _, rfl, rfl, by omega, hnext⟩
   case hm => exact by show ts.length - (q + 1 : Int).toNat < ts.length - (q : Int).toNat; omega
   case hH => exact SB
  have p147 := h147
  try simp only [dp] at p147
  refine DL_qg hns5 rfl rfl rfl h147 (zm (.slice _ _ _) rfl) rfl ?_
  refine DL_qg hns5 rfl rfl rfl h147 (zm (.int .i64 _) rfl) rfl ?_
  refine DL_qg hns5 rfl rfl rfl h147 (Qt_indexN rfl rfl (by omega) (by omega)) rfl ?_
  refine DL_qg hns5 rfl rfl rfl h147 (Qt_fieldR rfl 36 (tob_pos hq)) rfl ?_
  refine DL_qg hns5 rfl rfl rfl h147 (Qt_loadRs 36 (.bool ts[q].b.has) rfl (bind_has ts q hq)) rfl ?_
  refine DL_qg hns5 rfl rfl rfl h147 (Qt_not rfl) rfl ?_
  refine zd hns5 rfl (zF (.bool _) rfl h147 rfl) rfl (DL_nil (zx (zC rfl (fun h154 => ?_) (fun h154 => ?_))))
  ·
   have p154 := h154
   try simp only [dp] at p154
   have hnext := bestS_skip hq hbs (.inr (by simpa using h154))
   refine zY (zG (zE (zx (zR ?_))))
   refine Qmi rfl rfl (zq (Qt_add rfl rfl (by omega) (by omega)) rfl (Qai rfl rfl (zz ?_)))
   apply X_loop
   case ha => exact (by repeat (first | with_reducible exact agree_refl | refine agree_upd rfl ?_ | refine agree_mix rfl ?_ | refine agree_setAll rfl ?_))
   case hI => exact ⟨q + 1, _, rfl, rfl, by omega, hnext⟩
   case hm => exact by show ts.length - (q + 1 : Int).toNat < ts.length - (q : Int).toNat; omega
   case hH => exact SB
  have p154 := h154
  try simp only [dp] at p154
  have hhas : ts[q].b.has = true := by simpa using h154
  have hlq : ts[q].b.last = cl := p147
  refine zk (zx (zS ?_))
  refine T_draw (row (.slice aw (ts).length cw) 3 1 ((ts).flatMap encF) :: row (.slice ab (ts).length cb) 89 36 ((ts).flatMap encB) :: H) [(0, true), (1, true), (2, true), (3, true), (4, true), (5, true), (6, true), (7, true), (8, true), (9, true), (10, true), (11, true), (12, true), (13, true), (14, true), (15, true), (16, true), (17, true), (18, true), (19, true), (20, true), (21, true), (22, true), (23, true), (24, true), (25, true), (26, true), (27, true), (28, true), (29, true), (30, true), (31, true), (32, true), (33, true), (34, true), (35, true), (36, true), (37, true), (38, true)] (by kernel_rfl) (by kernel_rfl) rfl (by kernel_rfl) SB (fun hns6 => ?_)
  refine zd hns6 rfl (zm (.int .i64 _) rfl) rfl (zd hns6 rfl (Qt_lss rfl rfl) rfl (zd hns6 rfl (zm (.bool _) rfl) rfl ?_))
  refine DL_split 157 rfl (fun h157 => ?_) (fun h157 => ?_)
  ·
   have p157 := h157
   try simp only [dp] at p157
   have hnext := bestS_first hq hbs p157 hlq hhas
   refine DL_pass hns6 rfl rfl rfl h157 rfl (DL_pass hns6 rfl rfl rfl h157 rfl (DL_pass hns6 rfl rfl rfl h157 rfl (DL_pass hns6 rfl rfl rfl h157 rfl (DL_pass hns6 rfl rfl rfl h157 rfl (DL_pass hns6 rfl rfl rfl h157 rfl ?_)))))
   refine DL_pass hns6 rfl rfl rfl h157 rfl (DL_pass hns6 rfl rfl rfl h157 rfl (DL_pass hns6 rfl rfl rfl h157 rfl (DL_pass hns6 rfl rfl rfl h157 rfl (DL_pass hns6 rfl rfl rfl h157 rfl (zd hns6 rfl (zT (.bool _) rfl h157 rfl) rfl ?_)))))
   refine zd hns6 rfl (zm (.bool _) rfl) rfl (DL_pass hns6 rfl rfl rfl rfl rfl (DL_pass hns6 rfl rfl rfl rfl rfl (DL_pass hns6 rfl rfl rfl rfl rfl (DL_pass hns6 rfl rfl rfl rfl rfl (DL_pass hns6 rfl rfl rfl rfl rfl ?_)))))
   refine DL_pass hns6 rfl rfl rfl rfl rfl (DL_pass hns6 rfl rfl rfl rfl rfl (DL_pass hns6 rfl rfl rfl rfl rfl (DL_pass hns6 rfl rfl rfl rfl rfl (DL_pass hns6 rfl rfl rfl rfl rfl (DL_pass hns6 rfl rfl rfl rfl rfl ?_)))))
   refine DL_pass hns6 rfl rfl rfl rfl rfl (DL_passU hns6 rfl rfl rfl rfl (DL_passU hns6 rfl rfl rfl rfl (DL_passU hns6 rfl rfl rfl rfl (DL_passU hns6 rfl rfl rfl rfl (DL_passU hns6 rfl rfl rfl rfl ?_)))))
   refine DL_passU hns6 rfl rfl rfl rfl (DL_passU hns6 rfl rfl rfl rfl (DL_passU hns6 rfl rfl rfl rfl (DL_passU hns6 rfl rfl rfl rfl (DL_pass hns6 rfl rfl rfl rfl rfl (zd hns6 rfl (zT (.bool _) rfl rfl rfl) rfl ?_)))))
   refine DL_nil (zx (T_cond_true rfl rfl (zR (Qmi rfl rfl (Qai rfl rfl ?_)))))
   refine zz (X_block (zx (zR ?_)))
   refine Qmi rfl rfl (zq (Qt_add rfl rfl (by omega) (by omega)) rfl (Qai rfl rfl (zz ?_)))
   apply X_loop
   case ha => exact (by repeat (first | with_reducible exact agree_refl | refine agree_upd rfl ?_ | refine agree_mix rfl ?_ | refine agree_setAll rfl ?_))
   case hI => exact ⟨q + 1, _, rfl, rfl, by omega, hnext⟩
   case hm => exact by show ts.length - (q + 1 : Int).toNat < ts.length - (q : Int).toNat; omega
   case hH => exact SB
  have p157 := h157
  try simp only [dp] at p157
  obtain ⟨j, hj, hbj⟩ := bestS_get hbs p157
  subst hbj
  refine DL_qg hns6 rfl rfl rfl h157 (zm (.slice _ _ _) rfl) rfl ?_
  refine DL_qg hns6 rfl rfl rfl h157 (zm (.int .i64 _) rfl) rfl ?_
  refine DL_qg hns6 rfl rfl rfl h157 (Qt_indexN rfl rfl (by omega) (by omega)) rfl ?_
  refine DL_qg hns6 rfl rfl rfl h157 (Qt_fieldR rfl 36 (tob_pos hq)) rfl ?_
  refine DL_qg hns6 rfl rfl rfl h157 (Qt_loadRs 36 (.int .i64 ts[q].b.reg) rfl (bind_reg ts q hq)) rfl ?_
  refine DL_qg hns6 rfl rfl rfl h157 (zm (.slice _ _ _) rfl) rfl ?_
  refine DL_qg hns6 rfl rfl rfl h157 (zm (.int .i64 _) rfl) rfl ?_
  refine DL_qg hns6 rfl rfl rfl h157 (Qt_indexN rfl rfl (by omega) (by omega)) rfl ?_
  refine DL_qg hns6 rfl rfl rfl h157 (Qt_fieldR rfl 36 (tob_pos hj)) rfl ?_
  refine DL_qg hns6 rfl rfl rfl h157 (Qt_loadRs 36 (.int .i64 ts[j].b.reg) rfl (bind_reg ts j hj)) rfl ?_
  refine DL_qg hns6 rfl rfl rfl h157 (Qt_gtr rfl rfl) rfl ?_
  refine zd hns6 rfl (zF (.bool _) rfl h157 rfl) rfl (zd hns6 rfl (zm (.bool _) rfl) rfl ?_)
  refine DL_split 170 rfl (fun h170 => ?_) (fun h170 => ?_)
  ·
   have p170 := h170
   try simp only [dp] at p170
   have hnext := bestS_better hq hj hbs hlq hhas (.inl p170)
   refine DL_pass hns6 rfl rfl rfl h170 rfl (DL_pass hns6 rfl rfl rfl h170 rfl (DL_pass hns6 rfl rfl rfl h170 rfl (DL_pass hns6 rfl rfl rfl h170 rfl (DL_pass hns6 rfl rfl rfl h170 rfl (DL_pass hns6 rfl rfl rfl h170 rfl ?_)))))
   refine DL_pass hns6 rfl rfl rfl h170 rfl (DL_pass hns6 rfl rfl rfl h170 rfl (DL_pass hns6 rfl rfl rfl h170 rfl (DL_pass hns6 rfl rfl rfl h170 rfl (DL_pass hns6 rfl rfl rfl h170 rfl (DL_pass hns6 rfl rfl rfl h170 rfl ?_)))))
   refine DL_passU hns6 rfl rfl rfl rfl (DL_passU hns6 rfl rfl rfl rfl (DL_passU hns6 rfl rfl rfl rfl (DL_passU hns6 rfl rfl rfl rfl (DL_passU hns6 rfl rfl rfl rfl (DL_passU hns6 rfl rfl rfl rfl ?_)))))
   refine DL_passU hns6 rfl rfl rfl rfl (DL_passU hns6 rfl rfl rfl rfl (DL_passU hns6 rfl rfl rfl rfl (DL_pass hns6 rfl rfl rfl h170 rfl (zd hns6 rfl (zT (.bool _) rfl h170 rfl) rfl (DL_nil ?_)))))
   refine zx (T_cond_true rfl rfl (zR (Qmi rfl rfl (Qai rfl rfl (zz (X_block (zx (zR ?_))))))))
   refine Qmi rfl rfl (zq (Qt_add rfl rfl (by omega) (by omega)) rfl (Qai rfl rfl (zz ?_)))
   apply X_loop
   case ha => exact (by repeat (first | with_reducible exact agree_refl | refine agree_upd rfl ?_ | refine agree_mix rfl ?_ | refine agree_setAll rfl ?_))
   case hI => exact ⟨q + 1, _, rfl, rfl, by omega, hnext⟩
   case hm => exact by show ts.length - (q + 1 : Int).toNat < ts.length - (q : Int).toNat; omega
   case hH => exact SB
  have p170 := h170
  try simp only [dp] at p170
  refine DL_qg hns6 rfl rfl rfl h170 (zm (.slice _ _ _) rfl) rfl ?_
  refine DL_qg hns6 rfl rfl rfl h170 (zm (.int .i64 _) rfl) rfl ?_
  refine DL_qg hns6 rfl rfl rfl h170 (Qt_indexN rfl rfl (by omega) (by omega)) rfl ?_
  refine DL_qg hns6 rfl rfl rfl h170 (Qt_fieldR rfl 36 (tob_pos hq)) rfl ?_
  refine DL_qg hns6 rfl rfl rfl h170 (Qt_loadRs 36 (.int .i64 ts[q].b.reg) rfl (bind_reg ts q hq)) rfl ?_
  refine DL_qg hns6 rfl rfl rfl h170 (zm (.slice _ _ _) rfl) rfl ?_
  refine DL_qg hns6 rfl rfl rfl h170 (zm (.int .i64 _) rfl) rfl ?_
  refine DL_qg hns6 rfl rfl rfl h170 (Qt_indexN rfl rfl (by omega) (by omega)) rfl ?_
  refine DL_qg hns6 rfl rfl rfl h170 (Qt_fieldR rfl 36 (tob_pos hj)) rfl ?_
  refine DL_qg hns6 rfl rfl rfl h170 (Qt_loadRs 36 (.int .i64 ts[j].b.reg) rfl (bind_reg ts j hj)) rfl ?_
  refine DL_qg hns6 rfl rfl rfl h170 (Qt_eql rfl rfl) rfl ?_
  refine DL_qg hns6 rfl rfl rfl h170 (zm (.bool _) rfl) rfl ?_
  refine DL_split 182 rfl (fun h182 => ?_) (fun h182 => ?_)
  ·
   have p182 := h182
   try simp only [dp] at p182
   refine DL_qg hns6 rfl rfl rfl h182 (zm (.slice _ _ _) rfl) rfl ?_
   refine DL_qg hns6 rfl rfl rfl h182 (zm (.int .i64 _) rfl) rfl ?_
   refine DL_qg hns6 rfl rfl rfl h182 (Qt_indexR rfl rfl (by omega) (by rw [encF_all]; omega)) rfl ?_
   refine DL_qg hns6 rfl rfl rfl h182 (Qt_loadR (.int .i64 ts[q].frm) rfl (who_frm ts q hq)) rfl ?_
   refine DL_qg hns6 rfl rfl rfl h182 (zm (.slice _ _ _) rfl) rfl ?_
   refine DL_qg hns6 rfl rfl rfl h182 (zm (.int .i64 _) rfl) rfl ?_
   refine DL_qg hns6 rfl rfl rfl h182 (Qt_indexR rfl rfl (by omega) (by rw [encF_all]; omega)) rfl ?_
   refine DL_qg hns6 rfl rfl rfl h182 (Qt_loadR (.int .i64 ts[j].frm) rfl (who_frm ts j hj)) rfl ?_
   refine DL_qg hns6 rfl rfl rfl h182 (Qt_lss rfl rfl) rfl ?_
   refine DL_qg hns6 rfl rfl rfl h170 (zT (.bool _) rfl h182 rfl) rfl ?_
   refine zd hns6 rfl (zF (.bool _) rfl h170 rfl) rfl (DL_nil (zx (zC rfl (fun h193 => ?_) (fun h193 => ?_))))
   ·
    have p193 := h193
    try simp only [dp] at p193
    have hnext := bestS_better hq hj hbs hlq hhas (.inr ⟨p182, p193⟩)
    refine zR (Qmi rfl rfl (Qai rfl rfl (zz (X_block (zx (zR ?_))))))
    refine Qmi rfl rfl (zq (Qt_add rfl rfl (by omega) (by omega)) rfl (Qai rfl rfl (zz ?_)))
    apply X_loop
    case ha => exact (by repeat (first | with_reducible exact agree_refl | refine agree_upd rfl ?_ | refine agree_mix rfl ?_ | refine agree_setAll rfl ?_))
    case hI => exact ⟨q + 1, _, rfl, rfl, by omega, hnext⟩
    case hm => exact by show ts.length - (q + 1 : Int).toNat < ts.length - (q : Int).toNat; omega
    case hH => exact SB
   have p193 := h193
   try simp only [dp] at p193
   have hnext := bestS_keep hq hj hbs hlq hhas (by rintro (h | ⟨-, h⟩) <;> omega)
   refine zk (X_block (zx (zR ?_)))
   refine Qmi rfl rfl (zq (Qt_add rfl rfl (by omega) (by omega)) rfl (Qai rfl rfl (zz ?_)))
   apply X_loop
   case ha => exact (by repeat (first | with_reducible exact agree_refl | refine agree_upd rfl ?_ | refine agree_mix rfl ?_ | refine agree_setAll rfl ?_))
   case hI => exact ⟨q + 1, _, rfl, rfl, by omega, hnext⟩
   case hm => exact by show ts.length - (q + 1 : Int).toNat < ts.length - (q : Int).toNat; omega
   case hH => exact SB
  have p182 := h182
  try simp only [dp] at p182
  have hnext := bestS_keep hq hj hbs hlq hhas (by rintro (h | ⟨h, -⟩) <;> omega)
  refine DL_pass hns6 rfl rfl rfl h182 rfl (DL_pass hns6 rfl rfl rfl h182 rfl (DL_pass hns6 rfl rfl rfl h182 rfl (DL_pass hns6 rfl rfl rfl h182 rfl (DL_pass hns6 rfl rfl rfl h182 rfl (DL_pass hns6 rfl rfl rfl h182 rfl ?_)))))
  refine DL_pass hns6 rfl rfl rfl h182 rfl (DL_pass hns6 rfl rfl rfl h182 rfl (DL_pass hns6 rfl rfl rfl h182 rfl ?_))
  refine DL_qg hns6 rfl rfl rfl h170 (zF (.bool _) rfl h182 rfl) rfl ?_
  refine zd hns6 rfl (zF (.bool _) rfl h170 rfl) rfl (DL_nil (zx (T_cond_false rfl rfl (zk (X_block (zx (zR ?_)))))))
  refine Qmi rfl rfl (zq (Qt_add rfl rfl (by omega) (by omega)) rfl (Qai rfl rfl (zz ?_)))
  apply X_loop
  case ha => exact (by repeat (first | with_reducible exact agree_refl | refine agree_upd rfl ?_ | refine agree_mix rfl ?_ | refine agree_setAll rfl ?_))
  case hI => exact ⟨q + 1, _, rfl, rfl, by omega, hnext⟩
  case hm => exact by show ts.length - (q + 1 : Int).toNat < ts.length - (q : Int).toNat; omega
  case hH => exact SB
 have p136 := h136
 try simp only [dp] at p136
 have hqn : q = ts.length := by omega
 rw [hqn] at hbs
 refine zY (zG (zW (zE (zx (zS (T2 ?_))))))
 refine Qmi rfl rfl (zq (Qt_geq rfl rfl) rfl (TX (zC rfl (fun h196 => ?_) (fun h196 => ?_))))
 ·
  have p196 := h196
  try simp only [dp] at p196
  obtain ⟨j, hj, hbj⟩ := bestS_get hbs p196
  subst hbj
  have hch := choR_some hj hlast hbs
  refine T2 (zq (zf 1 rfl rfl) rfl ?_)
  refine zN (Ef_store1 (.bool _) rfl rfl (?_))
  refine T4 (Qms rfl rfl (Qmi rfl rfl (zq (Qt_indexN rfl rfl (by omega) (by omega)) rfl (zq (Qt_fieldR rfl 36 (tob_pos hj)) rfl (zq (Qt_loadRN 36 (hlist ts[j].b.hash) rfl (bind_hash ts j hj) (by simp) (by decide)) rfl ?_)))))
  refine zq (zf 2 rfl rfl) rfl ?_
  refine zN (zs rfl rfl (?_))
  refine TX (zR ?_)
  refine Qms rfl rfl (Qmi rfl rfl (zq (Qt_indexN rfl rfl (by omega) (by omega)) rfl (zq (Qt_fieldR rfl 36 (tob_pos hj)) rfl (zq (Qt_loadRs 36 (.slice ts[j].b.batch.a ts[j].b.batch.l.length ts[j].b.batch.c) rfl (bind_batch ts j hj)) rfl (zq (zf 34 rfl rfl) rfl ?_)))))
  refine zN (Ef_store1 (.slice _ _ _) rfl rfl (?_))
  refine T4 (zq (zn rfl rfl) rfl ?_)
  refine zN (zs rfl rfl (?_))
  refine Qai rfl rfl (TX (zQ ?_))
  have e : (chooseE (ls.map BS.l) rs num mk first reg (ps.map BS.l)) = (0, ts.map absT) := hce.trans hi2
  first
   | exact zX ((⟨cl, true, ts[j].b.hash, ts[j].b.batch⟩, ts), fp) [_, _] Tryz.results9 ⟨⟨_, rfl, res_cellN rfl⟩, rfl, trivial⟩ (by rw [e]; rfl) (fun w hw => (SB w hw : St w0 (dat fp ⟨(ts).map (fun t => t.b.batch), [], []⟩ :: H) w).addPure ⟨fun _ => ⟨by rw [e], hch⟩, fun h => absurd (by rw [e]) h⟩)
   | exact zX ((⟨cl, false, zeroV 32, ⟨none, 0, []⟩⟩, ts), fp) [_, _] Tryz.results9 ⟨⟨_, rfl, res_cellN rfl⟩, rfl, trivial⟩ (by rw [e]; rfl) (fun w hw => (SB w hw : St w0 (dat fp ⟨(ts).map (fun t => t.b.batch), [], []⟩ :: H) w).addPure ⟨fun _ => ⟨by rw [e], hch⟩, fun h => absurd (by rw [e]) h⟩)
 have p196 := h196
 try simp only [dp] at p196
 have hch := choR_none hlast hbs (by omega)
 refine S4 (zq (zn rfl rfl) rfl ?_)
 refine zN (zs rfl rfl (?_))
 refine Qai rfl rfl (TX (zQ ?_))
 have e : (chooseE (ls.map BS.l) rs num mk first reg (ps.map BS.l)) = (0, ts.map absT) := hce.trans hi2
 first
  | exact zX ((⟨cl, true, ts[j].b.hash, ts[j].b.batch⟩, ts), fp) [_, _] Tryz.results9 ⟨⟨_, rfl, res_cellN rfl⟩, rfl, trivial⟩ (by rw [e]; rfl) (fun w hw => (SB w hw : St w0 (dat fp ⟨(ts).map (fun t => t.b.batch), [], []⟩ :: H) w).addPure ⟨fun _ => ⟨by rw [e], hch⟩, fun h => absurd (by rw [e]) h⟩)
  | exact zX ((⟨cl, false, zeroV 32, ⟨none, 0, []⟩⟩, ts), fp) [_, _] Tryz.results9 ⟨⟨_, rfl, res_cellN rfl⟩, rfl, trivial⟩ (by rw [e]; rfl) (fun w hw => (SB w hw : St w0 (dat fp ⟨(ts).map (fun t => t.b.batch), [], []⟩ :: H) w).addPure ⟨fun _ => ⟨by rw [e], hch⟩, fun h => absurd (by rw [e]) h⟩)
def sameC (c d : ChoiceV) : Bool := decide (c.last = d.last ∧ c.bound = d.bound ∧ c.hash = d.hash ∧ c.batch.l = d.batch.l)
set_option maxHeartbeats 1000000 in
theorem rSameChoice_c {w0 : World} {H : List SA} {c d : ChoiceV} [hc : RdB w0 H (.slice c.batch.a c.batch.l.length c.batch.c) c.batch.l] [hd : RdB w0 H (.slice d.batch.a d.batch.l.length d.batch.c) d.batch.l] (hl : c.batch.l.length ≤ 4294967296) :
 CT Tryz.prog w0 (H) 10 [.agg c.cells, .agg d.cells] (α := Unit) (fun _ => .bool (sameC c d)) (fun _ => H) := by
 refine CT_intro Tryz.func10 rfl Tryz.ntmps10 rfl ?_
 refine T2 ?_
 refine ze rfl (Ef_boxN rfl (fun b2 => ?_))
 refine ze rfl (Ef_boxN rfl (fun b3 => ?_))
 refine Qab rfl rfl (T4 (zq (zf 0 rfl rfl) rfl (zq (zl rfl) rfl (zq (zf 0 rfl rfl) rfl (zq (zl rfl) rfl ?_)))))
 refine zq (Qt_eql rfl rfl) rfl (Qmb rfl rfl ?_)
 refine TL_split 10 rfl (fun h10 => ?_) (fun h10 => ?_)
 ·
  have p10 := h10
  try simp only [dp] at p10
  refine zt rfl rfl h10 (zq (zf 1 rfl rfl) rfl (zt rfl rfl h10 (zq (zl rfl) rfl (zt rfl rfl h10 (zq (zf 1 rfl rfl) rfl ?_)))))
  refine zt rfl rfl h10 (zq (zl rfl) rfl (zt rfl rfl h10 (zq (Qt_bool_eql rfl rfl Tryz.underlying4) rfl (zq (zT (.bool _) rfl h10 rfl) rfl (Qmb rfl rfl ?_)))))
  refine TL_split 17 rfl (fun h17 => ?_) (fun h17 => ?_)
  ·
   have p17 := h17
   try simp only [dp] at p17
   refine zt rfl rfl h17 (zq (zf 2 rfl rfl) rfl (zt rfl rfl h17 (zq (zn rfl rfl) rfl (zt rfl rfl h17 (zq (zf 2 rfl rfl) rfl ?_)))))
   refine zt rfl rfl h17 (zq (zn rfl rfl) rfl (zt rfl rfl h17 (zq (Qt_agg_eql rfl rfl (by kernel_rfl)) rfl (zq (zT (.bool _) rfl h17 rfl) rfl (Qmb rfl rfl ?_)))))
   refine TL_split 24 rfl (fun h24 => ?_) (fun h24 => ?_)
   ·
    have p24 := h24
    try simp only [dp] at p24
    refine zt rfl rfl h24 (zq (zf 34 rfl rfl) rfl (zt rfl rfl h24 (zq (zl rfl) rfl (zt rfl rfl h24 (zq (zf 34 rfl rfl) rfl ?_)))))
    refine zt rfl rfl h24 (zq (zl rfl) rfl (zt rfl rfl h24 ?_))
    refine ze rfl (zc (same_c hl) rfl (fun x29 => ?_))
    refine zq (zT (.bool _) rfl h24 rfl) rfl (Qab rfl rfl (TX (zQ ?_)))
    refine zX () [.bool (sameC c d)] Tryz.results10 ⟨?_, trivial⟩ rfl SB
    refine congrArg Value.bool ?_
    unfold sameC
    rw [Bool.eq_iff_iff]
    simp_all
   have p24 := h24
   try simp only [dp] at p24
   refine zp rfl rfl h24 rfl (zp rfl rfl h24 rfl (zp rfl rfl h24 rfl (zp rfl rfl h24 rfl (zp rfl rfl h24 rfl (zq (zF (.bool _) rfl h24 rfl) rfl ?_)))))
   refine Qab rfl rfl (TX (zQ ?_))
   refine zX () [.bool (sameC c d)] Tryz.results10 ⟨?_, trivial⟩ rfl SB
   refine congrArg Value.bool ?_
   unfold sameC
   rw [Bool.eq_iff_iff]
   simp_all
  have p17 := h17
  try simp only [dp] at p17
  refine zp rfl rfl h17 rfl (zp rfl rfl h17 rfl (zp rfl rfl h17 rfl (zp rfl rfl h17 rfl (zp rfl rfl h17 rfl (zq (zF (.bool _) rfl h17 rfl) rfl ?_)))))
  refine Qmb rfl rfl (zp rfl rfl rfl rfl (zp rfl rfl rfl rfl (zp rfl rfl rfl rfl (zp rfl rfl rfl rfl (zp rfl rfl rfl rfl ?_)))))
  refine zq (zF (.bool _) rfl rfl rfl) rfl (Qab rfl rfl (TX (zQ ?_)))
  refine zX () [.bool (sameC c d)] Tryz.results10 ⟨?_, trivial⟩ rfl SB
  refine congrArg Value.bool ?_
  unfold sameC
  rw [Bool.eq_iff_iff]
  simp_all
 have p10 := h10
 try simp only [dp] at p10
 refine zp rfl rfl h10 rfl (zp rfl rfl h10 rfl (zp rfl rfl h10 rfl (zp rfl rfl h10 rfl (zp rfl rfl h10 rfl (zq (zF (.bool _) rfl h10 rfl) rfl ?_)))))
 refine Qmb rfl rfl (zp rfl rfl rfl rfl (zp rfl rfl rfl rfl (zp rfl rfl rfl rfl (zp rfl rfl rfl rfl (zp rfl rfl rfl rfl ?_)))))
 refine zq (zF (.bool _) rfl rfl rfl) rfl (Qmb rfl rfl (zp rfl rfl rfl rfl (zp rfl rfl rfl rfl (zp rfl rfl rfl rfl (zp rfl rfl rfl rfl ?_)))))
 refine zp rfl rfl rfl rfl (zq (zF (.bool _) rfl rfl rfl) rfl (Qab rfl rfl (TX (zQ ?_))))
 refine zX () [.bool (sameC c d)] Tryz.results10 ⟨?_, trivial⟩ rfl SB
 refine congrArg Value.bool ?_
 unfold sameC
 rw [Bool.eq_iff_iff]
 simp_all
end Go.Proofs.YtnijomppbgdmnaaGreat
