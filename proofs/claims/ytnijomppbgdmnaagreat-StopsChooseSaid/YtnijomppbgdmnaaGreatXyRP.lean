/- Walk: the law StopsChoose. -/
import Derived.Test.YtnijomppbgdmnaaGreatSgP
import Derived.Test.YtnijomppbgdmnaaGreatXwRP
import Derived.Test.YtnijomppbgdmnaaGreatFwRP
namespace Go.Proofs.YtnijomppbgdmnaaGreat
open Go.RowKit Go.Sx
set_option maxRecDepth 100000
set_option linter.unusedSimpArgs false
set_option linter.unusedVariables false
theorem choose_pos {K : List (List UInt8)} {rs : List (Vector UInt8 32)} {num : Int} {mk : Nat} {first reg : Int} {ps : List (List UInt8)} (h : (chooseE K rs num mk first reg ps).1 = 0) : 0 < (chooseE K rs num mk first reg ps).2.length := by
 unfold chooseE at h ⊢
 split at h
 · cases h
 · rename_i h1
   rw [if_neg h1]
   cases ps with
   | nil => exact absurd (show enoughV num mk = 0 ∨ [].length < enoughV num mk ∨ 16 < ([] : List (List UInt8)).length from by show _ ∨ 0 < _ ∨ _; omega) h1
   | cons p ps =>
    obtain ⟨-, -, hm⟩ := chGo_all h p (List.mem_cons_self ..)
    exact List.length_pos_of_mem hm
theorem validD_batch (K : List (List UInt8)) (rs : List (Vector UInt8 32)) (num : Int) (mk : Nat) (first : Int) (m : MsgD) : (validD K rs num mk first m).2.batch.length ≤ m.body.length := by
 unfold validD
 repeat' split
 all_goals first | exact Nat.zero_le _ | exact Nat.le_refl _
theorem chGo_small {K : List (List UInt8)} {rs : List (Vector UInt8 32)} {num : Int} {mk : Nat} {first reg : Int} {n : Nat} : ∀ {ps : List (List UInt8)} {met : Nat} {acc : List (Int × BindD)}, (∀ p ∈ ps, p.length ≤ n) → (∀ z ∈ acc, z.2.batch.length ≤ n) → ∀ z ∈ (chGo K rs num mk first reg ps met acc).2, z.2.batch.length ≤ n
 | [], met, acc, _, ha => ha
 | p :: ps, met, acc, hp, ha => by
  unfold chGo
  repeat' split
  all_goals try exact ha
  refine chGo_small (fun q hq => hp q (List.mem_cons_of_mem _ hq)) (fun z hz => ?_)
  rcases List.mem_append.1 hz with hz | hz
  · exact ha z hz
  · rw [List.mem_singleton.1 hz]
    have h1 := validD_batch K rs num mk first (openOfK K mk p).2
    have h2 := (openOfK_small2 K mk p).1
    have h3 := hp p (List.mem_cons_self ..)
    exact Nat.le_trans h1 (Nat.le_trans h2 h3)
theorem chooseE_small {K : List (List UInt8)} {rs : List (Vector UInt8 32)} {num : Int} {mk : Nat} {first reg : Int} {n : Nat} {ps : List (List UInt8)} (hp : ∀ p ∈ ps, p.length ≤ n) : ∀ z ∈ (chooseE K rs num mk first reg ps).2, z.2.batch.length ≤ n := by
 unfold chooseE
 split
 · intro z hz; cases hz
 · exact chGo_small hp (fun z hz => by cases hz)
/-- What is chosen where all goes well, and where not. -/
def Chosen (E : Int) (L : List (Int × BindD)) (ts : List ToldV) (c : ChoiceV) : Prop := (E = 0 → ts.map absT = L ∧ ChoR ts c) ∧ (E ≠ 0 → c = ChoiceV.zero)
theorem chosen_of {E : Int} {L : List (Int × BindD)} {ts : List ToldV} {c : ChoiceV} (hp : E = 0 → 0 < L.length) (h : (E = 0 → ts.map absT = L ∧ c = choiceT ts) ∧ (E ≠ 0 → c = ChoiceV.zero)) : Chosen E L ts c := by
 refine ⟨fun he => ?_, h.2⟩
 obtain ⟨h1, h2⟩ := h.1 he
 refine ⟨h1, ?_⟩
 subst h2
 have hl : 0 < ts.length := by have := hp he; rw [← h1, List.length_map] at this; exact this
 exact choice_R hl
theorem chosen_batch {E : Int} {L : List (Int × BindD)} {ts : List ToldV} {c : ChoiceV} (h : Chosen E L ts c) : c.batch = ⟨none, 0, []⟩ ∨ ∃ t ∈ ts, c.batch = t.b.batch ∧ E = 0 := by
 by_cases he : E = 0
 · rcases (h.1 he).2 with ⟨-, h2⟩ | ⟨t, ht, -, h2⟩
   · exact .inl (by rw [h2])
   · exact .inr ⟨t, ht, by rw [h2], he⟩
 · exact .inl (by rw [h.2 he])
theorem chosen_len {E : Int} {L : List (Int × BindD)} {ts : List ToldV} {c : ChoiceV} {n : Nat} (h : Chosen E L ts c) (hs : ∀ z ∈ L, z.2.batch.length ≤ n) : c.batch.l.length ≤ n := by
 rcases chosen_batch h with h1 | ⟨t, ht, h1, he⟩
 · rw [h1]; exact Nat.zero_le _
 · rw [h1]
   have := hs (absT t) (by rw [← (h.1 he).1]; exact List.mem_map.2 ⟨t, ht, rfl⟩)
   exact this
theorem chosen_rd {w0 : World} {H : List SA} {fp : List Nat} {E : Int} {L : List (Int × BindD)} {ts : List ToldV} {c : ChoiceV} (h : Chosen E L ts c) : RdB w0 (dat fp ⟨ts.map (fun t => t.b.batch), [], []⟩ :: H) (.slice c.batch.a c.batch.l.length c.batch.c) c.batch.l := by
 rcases chosen_batch h with h1 | ⟨t, ht, h1, -⟩
 · rw [h1]; exact (inferInstance : RdB w0 _ (.slice none 0 0) [])
 · rw [h1]; exact (RdE.own2 : RdE w0 (dat fp ⟨ts.map (fun t => t.b.batch), [], []⟩ :: H) (ts.map (fun t => t.b.batch))).get (List.mem_map.2 ⟨t, ht, rfl⟩)
theorem chosen_same {E : Int} {L : List (Int × BindD)} {ts ts2 : List ToldV} {c d : ChoiceV} (h : Chosen E L ts c) (h2 : Chosen E L ts2 d) : sameC c d = true := by
 unfold sameC
 by_cases he : E = 0
 · obtain ⟨h3, h4⟩ := h.1 he
   obtain ⟨h5, h6⟩ := h2.1 he
   unfold ChoR at h4 h6
   rw [h3] at h4
   rw [h5] at h6
   rcases h4 with ⟨h7, h8⟩ | ⟨t, -, h7, h8⟩
   · rcases h6 with ⟨h9, h10⟩ | ⟨t2, -, h9, h10⟩
     · rw [h8, h10]; exact decide_eq_true ⟨rfl, rfl, rfl, rfl⟩
     · rw [h7] at h9; cases h9
   · rcases h6 with ⟨h9, h10⟩ | ⟨t2, -, h9, h10⟩
     · rw [h7] at h9; cases h9
     · rw [h7] at h9
       have h11 : t.b.abs = t2.b.abs := congrArg Prod.snd (Option.some.inj h9)
       rw [h8, h10]
       exact decide_eq_true ⟨rfl, rfl, congrArg BindD.hash h11, congrArg BindD.batch h11⟩
 · rw [h.2 he, h2.2 he]; exact decide_eq_true ⟨rfl, rfl, rfl, rfl⟩
attribute [local irreducible] openOfK validD chooseE openK choiceT keyT sameC Chosen
set_option maxHeartbeats 1000000 in
theorem stopsChoose_c {w0 : World} {H : List SA} {num : Int} {mk : Nat} (hmk : mk < 65536) {first reg : Int} {ra : Option Addr} {rq : Nat} {rs : List (Vector UInt8 32)} [hrr : RdC w0 H (.slice ra rs.length rq) 32 (rs.flatMap hlist)] {a : Option Addr} {ps : List BS} {c : Nat} [hr : RdC w0 H (.slice a ps.length c) 1 (ps.map BS.val)] [hre : RdE w0 H ps] :
 CT Tryz.prog w0 (H) 3 [.agg (AskV.mk (ViewV.mk num (mk : Int)) first reg ⟨ra, rs.length, rq⟩).cells, .slice a ps.length c] (α := Unit) (fun _ => .bool true) (fun _ => H) := by
 refine CT_intro Tryz.func3 rfl Tryz.ntmps3 rfl ?_
 refine T2 ?_
 refine ze rfl (Ef_boxN rfl (fun b2 => ?_))
 refine Qab rfl rfl (TX (zS (T2 ?_)))
 refine ze rfl (zc (wakes19_c) rfl (fun x9 => ?_))
 refine zq (Qt_not rfl) rfl (TX (zC rfl (fun h10 => ?_) (fun h10 => ?_)))
 ·
  have p10 := h10
  try simp only [dp] at p10
  exact absurd h10 (by decide)
 have p10 := h10
 try simp only [dp] at p10
 refine zk (zx (zS (T2 ?_)))
 refine Qms rfl rfl ?_
 refine ze rfl (zc (long19_c) rfl (fun x12 => ?_))
 refine Qmb rfl rfl ?_
 refine TL_split 13 rfl (fun h13 => ?_) (fun h13 => ?_)
 ·
  have p13 := h13
  try simp only [dp] at p13
  refine zp rfl rfl h13 rfl (zp rfl rfl h13 rfl (zp rfl rfl h13 rfl (zp rfl rfl h13 rfl (zq (zT (.bool _) rfl h13 rfl) rfl (Qmb rfl rfl ?_)))))
  refine zp rfl rfl rfl rfl (zp rfl rfl rfl rfl (zp rfl rfl rfl rfl (zq (zT (.bool _) rfl rfl rfl) rfl (Qmb rfl rfl (zp rfl rfl rfl rfl ?_)))))
  refine zp rfl rfl rfl rfl (zp rfl rfl rfl rfl (zq (zT (.bool _) rfl rfl rfl) rfl (TX (T_cond_true rfl rfl (T2 ?_)))))
  refine Qab rfl rfl (TX (zQ (zr ?_)))
  exact zX () [_] Tryz.results3 ⟨rfl, trivial⟩ rfl SB
 have p13 := h13
 try simp only [dp] at p13
 refine zt rfl rfl h13 (zq (zf 4 rfl rfl) rfl (zt rfl rfl h13 (zq (zl rfl) rfl (zt rfl rfl h13 (zq (zL rfl Tryz.underlying25) rfl ?_)))))
 refine zt rfl rfl h13 (zq (Qt_gtr rfl rfl) rfl (zq (zF (.bool _) rfl h13 rfl) rfl (Qmb rfl rfl ?_)))
 refine TL_split 19 rfl (fun h19 => ?_) (fun h19 => ?_)
 ·
  have p19 := h19
  try simp only [dp] at p19
  refine zp rfl rfl h19 rfl (zp rfl rfl h19 rfl (zp rfl rfl h19 rfl (zq (zT (.bool _) rfl h19 rfl) rfl (Qmb rfl rfl (zp rfl rfl rfl rfl ?_)))))
  refine zp rfl rfl rfl rfl (zp rfl rfl rfl rfl (zq (zT (.bool _) rfl rfl rfl) rfl (TX (T_cond_true rfl rfl (T2 ?_)))))
  refine Qab rfl rfl (TX (zQ (zr ?_)))
  exact zX () [_] Tryz.results3 ⟨rfl, trivial⟩ rfl SB
 have p19 := h19
 try simp only [dp] at p19
 refine zt rfl rfl h19 (zq (zf 2 rfl rfl) rfl (zt rfl rfl h19 (zq (zl rfl) rfl (zt rfl rfl h19 (zq (Qt_gtr rfl rfl) rfl ?_)))))
 refine zq (zF (.bool _) rfl h19 rfl) rfl (Qmb rfl rfl ?_)
 refine TL_split 24 rfl (fun h24 => ?_) (fun h24 => ?_)
 ·
  have p24 := h24
  try simp only [dp] at p24
  refine zp rfl rfl h24 rfl (zp rfl rfl h24 rfl (zp rfl rfl h24 rfl (zq (zT (.bool _) rfl h24 rfl) rfl (TX (T_cond_true rfl rfl ?_)))))
  refine T2 (Qab rfl rfl (TX (zQ (zr ?_))))
  exact zX () [_] Tryz.results3 ⟨rfl, trivial⟩ rfl SB
 have p24 := h24
 try simp only [dp] at p24
 refine zt rfl rfl h24 (zq (zf 2 rfl rfl) rfl (zt rfl rfl h24 (zq (zl rfl) rfl (zt rfl rfl h24 (zq (Qt_lss rfl rfl) rfl ?_)))))
 refine zq (zF (.bool _) rfl h24 rfl) rfl (TX (zC rfl (fun h28 => ?_) (fun h28 => ?_)))
 ·
  have p28 := h28
  try simp only [dp] at p28
  refine T2 (Qab rfl rfl (TX (zQ (zr ?_))))
  exact zX () [_] Tryz.results3 ⟨rfl, trivial⟩ rfl SB
 have p28 := h28
 try simp only [dp] at p28
 have hlg : longS (ps.map BS.l) = false := by simp_all
 have hfi : -1000 ≤ first ∧ first ≤ 1000 := by first | omega | (simp_all; done) | (simp_all; omega)
 have hr10 : rs.length ≤ 10 := by first | omega | (simp_all; done) | (simp_all; omega)
 have hl24 : ps.length ≤ 24 := by have := (longS_small hlg).1; rwa [List.length_map] at this
 have hps : ∀ x ∈ ps, x.l.length ≤ 6000 := fun x hx => (longS_small hlg).2 x.l (List.mem_map.2 ⟨x, hx, rfl⟩)
 refine zk (zx ?_)
 refine T_cut [5, 6, 29, 30, 31, 32, 33, 34, 35, 36, 37, 38, 39, 40, 41] [5, 6] (fun us H' => ∃ (b5 : Nat) (cv : ChoiceV) (ts : List ToldV) (fp : List Nat), us = [.pointer (some ⟨b5, 0, none⟩), .int .i64 (chooseE (keyT 16) rs num mk first reg (ps.map BS.l)).1] ∧ blk b5 (.cells cv.cells 35 (0, 0)) :: dat fp ⟨(ts).map (fun t => t.b.batch), [], []⟩ :: blk b2 (.cells (AskV.mk (ViewV.mk num (mk : Int)) first reg ⟨ra, rs.length, rq⟩).cells 27 (0, 0)) :: H = H' ∧ Chosen (chooseE (keyT 16) rs num mk first reg (ps.map BS.l)).1 (chooseE (keyT 16) rs num mk first reg (ps.map BS.l)).2 ts cv) ?_ ?_
 ·
  refine T_drawF (blk b2 (.cells (AskV.mk (ViewV.mk num (mk : Int)) first reg ⟨ra, rs.length, rq⟩).cells 27 (0, 0)) :: H) (by kernel_rfl) SB (DLF_q (i := 0) (by kernel_rfl) rfl (by kernel_rfl) (by kernel_rfl) (zn rfl rfl) rfl (DLF_q (i := 2) (by kernel_rfl) rfl (by kernel_rfl) (by kernel_rfl) (zf 0 rfl rfl) rfl (DLF_q (i := 3) (by kernel_rfl) rfl (by kernel_rfl) (by kernel_rfl) (zn rfl rfl) rfl (DLF_q (i := 4) (by kernel_rfl) rfl (by kernel_rfl) (by kernel_rfl) (zf 2 rfl rfl) rfl (DLF_q (i := 5) (by kernel_rfl) rfl (by kernel_rfl) (by kernel_rfl) (zl rfl) rfl ?_)))))
  refine DLF_q (i := 6) (by kernel_rfl) rfl (by kernel_rfl) (by kernel_rfl) (zf 3 rfl rfl) rfl (DLF_q (i := 7) (by kernel_rfl) rfl (by kernel_rfl) (by kernel_rfl) (zl rfl) rfl (DLF_q (i := 8) (by kernel_rfl) rfl (by kernel_rfl) (by kernel_rfl) (zm (.slice _ _ _) rfl) rfl ?_))
  refine DLF_2 (i := 1) (j := 13) (by kernel_rfl) ?_ ?_
  ·
   refine DLS_e rfl rfl (zc (keys_c (ask := (AskV.mk (ViewV.mk num (mk : Int)) first reg ⟨ra, rs.length, rq⟩))) rfl (fun x31 => ⟨SB, ?_⟩))
   refine DLF_pure (fun hk31 => ?_)
   refine DLF_2 (i := 9) (j := 13) (by kernel_rfl) ?_ ?_
   ·
    refine DLS_e rfl rfl (zc (choose_c (num := num) hmk (sa := x31.1.a) (sc := x31.1.c) (ls := x31.1.ls) (lt16 hk31).1 (ra := ra) (rq := rq) (rs := rs) (by omega) (ps := ps) (fun x hx => by have := hps x hx; omega) (by omega) (first := first) (reg := reg) hfi) rfl (fun x39 => ⟨SB, ?_⟩))
    rw [hk31]
    refine DLF_pure (fun h39 => ?_)
    obtain ⟨⟨cv, ts⟩, fp⟩ := x39
    simp only at h39
    have hC1 := chosen_of choose_pos h39
    refine DLF_q (i := 10) (by kernel_rfl) rfl (by kernel_rfl) (by kernel_rfl) (zm (.tuple _) rfl) rfl (DLF_q (i := 11) (by kernel_rfl) rfl (by kernel_rfl) (by kernel_rfl) (Qt_extract rfl) rfl (DLF_q (i := 12) (by kernel_rfl) rfl (by kernel_rfl) (by kernel_rfl) (Qt_extract rfl) rfl ?_))
    refine DLF_1 (i := 13) (by kernel_rfl) ?_
    refine DLS_e rfl rfl (Ef_allocN (fun b5 => ⟨SB, ?_⟩))
    refine DLF_1 (i := 14) (by kernel_rfl) ?_
    refine DLS_n rfl (zs rfl rfl (⟨SB, ?_⟩))
    refine DLF_q (i := 15) (by kernel_rfl) rfl (by kernel_rfl) (by kernel_rfl) (za (.int .i64 _) rfl) rfl ?_
    refine DLF_nil (by kernel_rfl) ?_
    refine X_cut _ (by repeat (first | with_reducible exact agree_refl | refine agree_upd rfl ?_ | refine agree_mix rfl ?_ | refine agree_setAll rfl ?_)) (⟨b5, cv, ts, fp, rfl, rfl, hC1⟩) (SB)
   refine DLS_e rfl rfl (Ef_allocN (fun b5 => ⟨SB, ?_⟩))
   refine DLF_1 (i := 9) (by kernel_rfl) ?_
   refine DLS_e rfl rfl (zc (choose_c (num := num) hmk (sa := x31.1.a) (sc := x31.1.c) (ls := x31.1.ls) (lt16 hk31).1 (ra := ra) (rq := rq) (rs := rs) (by omega) (ps := ps) (fun x hx => by have := hps x hx; omega) (by omega) (first := first) (reg := reg) hfi) rfl (fun x39 => ⟨SB, ?_⟩))
   rw [hk31]
   refine DLF_pure (fun h39 => ?_)
   obtain ⟨⟨cv, ts⟩, fp⟩ := x39
   simp only at h39
   have hC1 := chosen_of choose_pos h39
   refine DLF_q (i := 10) (by kernel_rfl) rfl (by kernel_rfl) (by kernel_rfl) (zm (.tuple _) rfl) rfl (DLF_q (i := 11) (by kernel_rfl) rfl (by kernel_rfl) (by kernel_rfl) (Qt_extract rfl) rfl (DLF_q (i := 12) (by kernel_rfl) rfl (by kernel_rfl) (by kernel_rfl) (Qt_extract rfl) rfl ?_))
   refine DLF_1 (i := 14) (by kernel_rfl) ?_
   refine DLS_n rfl (zs rfl rfl (⟨SB, ?_⟩))
   refine DLF_q (i := 15) (by kernel_rfl) rfl (by kernel_rfl) (by kernel_rfl) (za (.int .i64 _) rfl) rfl ?_
   refine DLF_nil (by kernel_rfl) ?_
   refine X_cut _ (by repeat (first | with_reducible exact agree_refl | refine agree_upd rfl ?_ | refine agree_mix rfl ?_ | refine agree_setAll rfl ?_)) (⟨b5, cv, ts, fp, rfl, rfl, hC1⟩) (SB)
  refine DLS_e rfl rfl (Ef_allocN (fun b5 => ⟨SB, ?_⟩))
  refine DLF_1 (i := 1) (by kernel_rfl) ?_
  refine DLS_e rfl rfl (zc (keys_c (ask := (AskV.mk (ViewV.mk num (mk : Int)) first reg ⟨ra, rs.length, rq⟩))) rfl (fun x31 => ⟨SB, ?_⟩))
  refine DLF_pure (fun hk31 => ?_)
  refine DLF_1 (i := 9) (by kernel_rfl) ?_
  refine DLS_e rfl rfl (zc (choose_c (num := num) hmk (sa := x31.1.a) (sc := x31.1.c) (ls := x31.1.ls) (lt16 hk31).1 (ra := ra) (rq := rq) (rs := rs) (by omega) (ps := ps) (fun x hx => by have := hps x hx; omega) (by omega) (first := first) (reg := reg) hfi) rfl (fun x39 => ⟨SB, ?_⟩))
  rw [hk31]
  refine DLF_pure (fun h39 => ?_)
  obtain ⟨⟨cv, ts⟩, fp⟩ := x39
  simp only at h39
  have hC1 := chosen_of choose_pos h39
  refine DLF_q (i := 10) (by kernel_rfl) rfl (by kernel_rfl) (by kernel_rfl) (zm (.tuple _) rfl) rfl (DLF_q (i := 11) (by kernel_rfl) rfl (by kernel_rfl) (by kernel_rfl) (Qt_extract rfl) rfl (DLF_q (i := 12) (by kernel_rfl) rfl (by kernel_rfl) (by kernel_rfl) (Qt_extract rfl) rfl ?_))
  refine DLF_1 (i := 14) (by kernel_rfl) ?_
  refine DLS_n rfl (zs rfl rfl (⟨SB, ?_⟩))
  refine DLF_q (i := 15) (by kernel_rfl) rfl (by kernel_rfl) (by kernel_rfl) (za (.int .i64 _) rfl) rfl ?_
  refine DLF_nil (by kernel_rfl) ?_
  refine X_cut _ (by repeat (first | with_reducible exact agree_refl | refine agree_upd rfl ?_ | refine agree_mix rfl ?_ | refine agree_setAll rfl ?_)) (⟨b5, cv, ts, fp, rfl, rfl, hC1⟩) (SB)
 rintro τc0 _ _ ⟨b5, cv, ts, fp, rfl, rfl, hC1⟩ _
 refine T_cut [7, 8, 42, 43, 44, 45, 46, 47, 48, 49, 50, 51, 52, 53, 54] [7, 8] (fun us H' => ∃ (b7 : Nat) (dv : ChoiceV) (uz : List ToldV) (gp : List Nat), us = [.pointer (some ⟨b7, 0, none⟩), .int .i64 (chooseE (keyT 16) rs num mk first reg (ps.map BS.l)).1] ∧ blk b7 (.cells dv.cells 35 (0, 0)) :: dat gp ⟨(uz).map (fun t => t.b.batch), [], []⟩ :: blk b5 (.cells cv.cells 35 (0, 0)) :: dat fp ⟨(ts).map (fun t => t.b.batch), [], []⟩ :: blk b2 (.cells (AskV.mk (ViewV.mk num (mk : Int)) first reg ⟨ra, rs.length, rq⟩).cells 27 (0, 0)) :: H = H' ∧ Chosen (chooseE (keyT 16) rs num mk first reg (ps.map BS.l)).1 (chooseE (keyT 16) rs num mk first reg (ps.map BS.l)).2 uz dv) ?_ ?_
 ·
  refine T_drawF (blk b2 (.cells (AskV.mk (ViewV.mk num (mk : Int)) first reg ⟨ra, rs.length, rq⟩).cells 27 (0, 0)) :: H) (by kernel_rfl) SB (DLF_q (i := 0) (by kernel_rfl) rfl (by kernel_rfl) (by kernel_rfl) (zn rfl rfl) rfl (DLF_q (i := 2) (by kernel_rfl) rfl (by kernel_rfl) (by kernel_rfl) (zf 0 rfl rfl) rfl (DLF_q (i := 3) (by kernel_rfl) rfl (by kernel_rfl) (by kernel_rfl) (zn rfl rfl) rfl (DLF_q (i := 4) (by kernel_rfl) rfl (by kernel_rfl) (by kernel_rfl) (zf 2 rfl rfl) rfl (DLF_q (i := 5) (by kernel_rfl) rfl (by kernel_rfl) (by kernel_rfl) (zl rfl) rfl ?_)))))
  refine DLF_q (i := 6) (by kernel_rfl) rfl (by kernel_rfl) (by kernel_rfl) (zf 3 rfl rfl) rfl (DLF_q (i := 7) (by kernel_rfl) rfl (by kernel_rfl) (by kernel_rfl) (zl rfl) rfl (DLF_q (i := 8) (by kernel_rfl) rfl (by kernel_rfl) (by kernel_rfl) (zm (.slice _ _ _) rfl) rfl ?_))
  refine DLF_2 (i := 1) (j := 13) (by kernel_rfl) ?_ ?_
  ·
   refine DLS_e rfl rfl (zc (keys_c (ask := (AskV.mk (ViewV.mk num (mk : Int)) first reg ⟨ra, rs.length, rq⟩))) rfl (fun x44 => ⟨SB, ?_⟩))
   refine DLF_pure (fun hk44 => ?_)
   refine DLF_2 (i := 9) (j := 13) (by kernel_rfl) ?_ ?_
   ·
    refine DLS_e rfl rfl (zc (rChoose_c (num := num) hmk (sa := x44.1.a) (sc := x44.1.c) (ls := x44.1.ls) (lt16 hk44).1 (ra := ra) (rq := rq) (rs := rs) (by omega) (ps := ps) (fun x hx => by have := hps x hx; omega) (by omega) (first := first) (reg := reg) hfi) rfl (fun x52 => ⟨SB, ?_⟩))
    rw [hk44]
    refine DLF_pure (fun h52 => ?_)
    obtain ⟨⟨dv, us⟩, gp⟩ := x52
    simp only at h52
    have hC2 : Chosen (chooseE (keyT 16) rs num mk first reg (ps.map BS.l)).1 (chooseE (keyT 16) rs num mk first reg (ps.map BS.l)).2 us dv := by unfold Chosen; exact h52
    refine DLF_q (i := 10) (by kernel_rfl) rfl (by kernel_rfl) (by kernel_rfl) (zm (.tuple _) rfl) rfl (DLF_q (i := 11) (by kernel_rfl) rfl (by kernel_rfl) (by kernel_rfl) (Qt_extract rfl) rfl (DLF_q (i := 12) (by kernel_rfl) rfl (by kernel_rfl) (by kernel_rfl) (Qt_extract rfl) rfl ?_))
    refine DLF_1 (i := 13) (by kernel_rfl) ?_
    refine DLS_e rfl rfl (Ef_allocN (fun b7 => ⟨SB, ?_⟩))
    refine DLF_1 (i := 14) (by kernel_rfl) ?_
    refine DLS_n rfl (zs rfl rfl (⟨SB, ?_⟩))
    refine DLF_q (i := 15) (by kernel_rfl) rfl (by kernel_rfl) (by kernel_rfl) (za (.int .i64 _) rfl) rfl ?_
    refine DLF_nil (by kernel_rfl) ?_
    refine X_cut _ (by repeat (first | with_reducible exact agree_refl | refine agree_upd rfl ?_ | refine agree_mix rfl ?_ | refine agree_setAll rfl ?_)) (⟨b7, dv, us, gp, rfl, rfl, hC2⟩) (SB)
   refine DLS_e rfl rfl (Ef_allocN (fun b7 => ⟨SB, ?_⟩))
   refine DLF_1 (i := 9) (by kernel_rfl) ?_
   refine DLS_e rfl rfl (zc (rChoose_c (num := num) hmk (sa := x44.1.a) (sc := x44.1.c) (ls := x44.1.ls) (lt16 hk44).1 (ra := ra) (rq := rq) (rs := rs) (by omega) (ps := ps) (fun x hx => by have := hps x hx; omega) (by omega) (first := first) (reg := reg) hfi) rfl (fun x52 => ⟨SB, ?_⟩))
   rw [hk44]
   refine DLF_pure (fun h52 => ?_)
   obtain ⟨⟨dv, us⟩, gp⟩ := x52
   simp only at h52
   have hC2 : Chosen (chooseE (keyT 16) rs num mk first reg (ps.map BS.l)).1 (chooseE (keyT 16) rs num mk first reg (ps.map BS.l)).2 us dv := by unfold Chosen; exact h52
   refine DLF_q (i := 10) (by kernel_rfl) rfl (by kernel_rfl) (by kernel_rfl) (zm (.tuple _) rfl) rfl (DLF_q (i := 11) (by kernel_rfl) rfl (by kernel_rfl) (by kernel_rfl) (Qt_extract rfl) rfl (DLF_q (i := 12) (by kernel_rfl) rfl (by kernel_rfl) (by kernel_rfl) (Qt_extract rfl) rfl ?_))
   refine DLF_1 (i := 14) (by kernel_rfl) ?_
   refine DLS_n rfl (zs rfl rfl (⟨SB, ?_⟩))
   refine DLF_q (i := 15) (by kernel_rfl) rfl (by kernel_rfl) (by kernel_rfl) (za (.int .i64 _) rfl) rfl ?_
   refine DLF_nil (by kernel_rfl) ?_
   refine X_cut _ (by repeat (first | with_reducible exact agree_refl | refine agree_upd rfl ?_ | refine agree_mix rfl ?_ | refine agree_setAll rfl ?_)) (⟨b7, dv, us, gp, rfl, rfl, hC2⟩) (SB)
  refine DLS_e rfl rfl (Ef_allocN (fun b7 => ⟨SB, ?_⟩))
  refine DLF_1 (i := 1) (by kernel_rfl) ?_
  refine DLS_e rfl rfl (zc (keys_c (ask := (AskV.mk (ViewV.mk num (mk : Int)) first reg ⟨ra, rs.length, rq⟩))) rfl (fun x44 => ⟨SB, ?_⟩))
  refine DLF_pure (fun hk44 => ?_)
  refine DLF_1 (i := 9) (by kernel_rfl) ?_
  refine DLS_e rfl rfl (zc (rChoose_c (num := num) hmk (sa := x44.1.a) (sc := x44.1.c) (ls := x44.1.ls) (lt16 hk44).1 (ra := ra) (rq := rq) (rs := rs) (by omega) (ps := ps) (fun x hx => by have := hps x hx; omega) (by omega) (first := first) (reg := reg) hfi) rfl (fun x52 => ⟨SB, ?_⟩))
  rw [hk44]
  refine DLF_pure (fun h52 => ?_)
  obtain ⟨⟨dv, us⟩, gp⟩ := x52
  simp only at h52
  have hC2 : Chosen (chooseE (keyT 16) rs num mk first reg (ps.map BS.l)).1 (chooseE (keyT 16) rs num mk first reg (ps.map BS.l)).2 us dv := by unfold Chosen; exact h52
  refine DLF_q (i := 10) (by kernel_rfl) rfl (by kernel_rfl) (by kernel_rfl) (zm (.tuple _) rfl) rfl (DLF_q (i := 11) (by kernel_rfl) rfl (by kernel_rfl) (by kernel_rfl) (Qt_extract rfl) rfl (DLF_q (i := 12) (by kernel_rfl) rfl (by kernel_rfl) (by kernel_rfl) (Qt_extract rfl) rfl ?_))
  refine DLF_1 (i := 14) (by kernel_rfl) ?_
  refine DLS_n rfl (zs rfl rfl (⟨SB, ?_⟩))
  refine DLF_q (i := 15) (by kernel_rfl) rfl (by kernel_rfl) (by kernel_rfl) (za (.int .i64 _) rfl) rfl ?_
  refine DLF_nil (by kernel_rfl) ?_
  refine X_cut _ (by repeat (first | with_reducible exact agree_refl | refine agree_upd rfl ?_ | refine agree_mix rfl ?_ | refine agree_setAll rfl ?_)) (⟨b7, dv, us, gp, rfl, rfl, hC2⟩) (SB)
 rintro τc1 _ _ ⟨b7, dv, us, gp, rfl, rfl, hC2⟩ _
 have hsame := chosen_same hC1 hC2
 have hsml := chooseE_small (K := (keyT 16)) (rs := rs) (num := num) (mk := mk) (first := first) (reg := reg) (n := 6000) (ps := (ps.map BS.l)) (fun p hp => by obtain ⟨x, hx, rfl⟩ := List.mem_map.1 hp; exact hps x hx)
 have i1 : ∀ F, RdB w0 (dat fp ⟨ts.map (fun t => t.b.batch), [], []⟩ :: F) (.slice cv.batch.a cv.batch.l.length cv.batch.c) cv.batch.l := fun F => chosen_rd hC1
 have i2 : ∀ F, RdB w0 (dat gp ⟨us.map (fun t => t.b.batch), [], []⟩ :: F) (.slice dv.batch.a dv.batch.l.length dv.batch.c) dv.batch.l := fun F => chosen_rd hC2
 refine T2 (zq (zn rfl rfl) rfl (zq (zn rfl rfl) rfl ?_))
 refine ze rfl (zc (rSameChoice_c (c := cv) (d := dv) (Nat.le_trans (chosen_len hC1 hsml) (by decide))) rfl (fun x57 => ?_))
 rw [hsame]
 refine Qmb rfl rfl ?_
 refine TL_split 58 rfl (fun h58 => ?_) (fun h58 => ?_)
 ·
  have p58 := h58
  try simp only [dp] at p58
  refine zt rfl rfl h58 (Qmi rfl rfl (zt rfl rfl h58 (Qmi rfl rfl (zt rfl rfl h58 (zq (Qt_eql rfl rfl) rfl ?_)))))
  refine zq (zT (.bool _) rfl h58 rfl) rfl (Qab rfl rfl (TX (zQ ?_)))
  exact zX () [_] Tryz.results3 ⟨rfl, trivial⟩ (congrArg Value.bool (by first | rfl | simp)) SB
 have p58 := h58
 try simp only [dp] at p58
 exact absurd h58 (by decide)
end Go.Proofs.YtnijomppbgdmnaaGreat
