/- What files hold behind acts and crashes; package disk: left, Crash, exactly. -/
import Derived.Test.YtededghplnoajaaDj
namespace Go.Proofs.Ytededghplnoajaa
open Go.RowKit Go.Sx
set_option maxRecDepth 100000
set_option linter.unusedSimpArgs false
set_option linter.unusedVariables false
abbrev Cont := ByteArray → Option (List UInt8)
def cont (es : FM) : Cont := fun k => (getE es k).map BS.l
def doF (f : Cont) (a : ActV) : Cont := fun k =>
  if a.kind = 1 then (if k = a.name then some ((f a.name).getD [] ++ a.b.l) else f k)
  else if a.kind = 2 then (if k = a.name then some a.b.l else f k)
  else if a.kind = 3 then (if (f a.name).isSome = true ∧ a.name ≠ a.to then (if k = a.to then f a.name else if k = a.name then none else f k) else f k)
  else if a.kind = 4 then (if k = a.name then none else f k) else f k
theorem cont_old (es : FM) (k : ByteArray) : (oldE es k).l = (cont es k).getD [] := by
  unfold oldE cont
  cases getE es k <;> rfl
theorem cont_has (es : FM) (k : ByteArray) : hasE es k = (cont es k).isSome := by
  unfold hasE cont
  cases getE es k <;> rfl
theorem cont_put (es : FM) (k : ByteArray) (v : BS) (c : Nat) (key : ByteArray) : cont (putE es k v c) key = if key = k then some v.l else cont es key := by
  unfold cont
  by_cases h : key = k
  · subst h; rw [getE_put_eq, if_pos rfl]; rfl
  · rw [getE_put_ne _ _ _ _ _ h, if_neg h]
theorem getE_del_eq : ∀ (es : FM) (k : ByteArray), (es.map (·.k)).Nodup → getE (delE es k) k = none
  | [], _, _ => rfl
  | e :: es, k, h => by
    rw [List.map_cons, List.nodup_cons] at h
    unfold delE
    split
    · rename_i hk
      cases hg : getE es k with
      | none => rfl
      | some v => obtain ⟨d, hd, hdk, -⟩ := getE_memF hg; exact absurd (List.mem_map.2 ⟨d, hd, hdk.trans hk⟩) h.1
    · rename_i hk; rw [getE_cons, if_neg hk]; exact getE_del_eq es k h.2
theorem cont_del {es : FM} {c : Nat} (hg : GoodM es c) (k key : ByteArray) : cont (delE es k) key = if key = k then none else cont es key := by
  unfold cont
  by_cases h : key = k
  · subst h; rw [getE_del_eq _ _ hg.keys, if_pos rfl]; rfl
  · rw [getE_del_ne _ _ _ h, if_neg h]
theorem cont_doE {es : FM} {c : Nat} (hg : GoodM es c) {a : ActV} {x : BS} (hx : x.l = newB es a) (c2 : Nat) : cont (doE es a x c2) = doF (cont es) a := by
  funext k
  unfold doE doF
  by_cases h1 : a.kind = 1
  · rw [if_pos (.inl h1), if_pos h1, cont_put]
    by_cases hk : k = a.name
    · rw [if_pos hk, if_pos hk, hx, newB, if_pos h1, cont_old]
    · rw [if_neg hk, if_neg hk]
  · rw [if_neg h1]
    by_cases h2 : a.kind = 2
    · rw [if_pos (.inr h2), if_pos h2, cont_put]
      by_cases hk : k = a.name
      · rw [if_pos hk, if_pos hk, hx, newB, if_neg h1, if_pos h2]
      · rw [if_neg hk, if_neg hk]
    · rw [if_neg (by rintro (h | h); exact h1 h; exact h2 h), if_neg h2]
      by_cases h3 : a.kind = 3
      · rw [if_pos h3, if_pos h3, cont_has]
        by_cases hh : (cont es a.name).isSome = true ∧ a.name ≠ a.to
        · rw [if_pos hh, if_pos hh, cont_put, cont_del hg]
          obtain ⟨l, hl⟩ := Option.isSome_iff_exists.1 hh.1
          by_cases hk : k = a.to
          · rw [if_pos hk, if_pos hk, cont_old, hl]; rfl
          · rw [if_neg hk, if_neg hk]
        · rw [if_neg hh, if_neg hh]
      · rw [if_neg h3, if_neg h3]
        by_cases h4 : a.kind = 4
        · rw [if_pos h4, if_pos h4, cont_del hg]
        · rw [if_neg h4, if_neg h4]
/-- What a crash leaves of a thing. -/
def lftA (kp : Nat) (torn cut : Int) (a : ActV) (i : Nat) : Option ActV :=
  if (i : Int) = torn ∧ (a.kind = 1 ∨ a.kind = 2) then some (leftA a (cutN cut a.b.l.length).toNat) else if kp / 2 ^ (i % 64) % 2 ≠ 0 then some a else none
def crF (kp : Nat) (torn cut : Int) (f : Cont) (L : List ActV) : Cont := L.zipIdx.foldl (fun f x => match lftA kp torn cut x.1 x.2 with | some b => doF f b | none => f) f
theorem crF_snoc (kp : Nat) (torn cut : Int) (f : Cont) (L : List ActV) (a : ActV) : crF kp torn cut f (L ++ [a]) = match lftA kp torn cut a L.length with | some b => doF (crF kp torn cut f L) b | none => crF kp torn cut f L := by
  unfold crF
  rw [List.zipIdx_append, List.foldl_append]
  simp
theorem lft_zero {torn cut : Int} {kp : Nat} (h1 : torn = -1) (h2 : kp = 0) (a : ActV) (i : Nat) : lftA kp torn cut a i = none := by
  subst h1 h2
  unfold lftA
  rw [if_neg (by omega), if_neg (by simp)]
theorem lft_all {torn cut : Int} {kp : Nat} (h1 : torn = -1) (h2 : kp = 18446744073709551615) (a : ActV) (i : Nat) : lftA kp torn cut a i = some a := by
  subst h1 h2
  unfold lftA
  have hh : ∀ j < 64, 18446744073709551615 / 2 ^ j % 2 ≠ 0 := by decide +kernel
  rw [if_neg (by omega), if_pos (hh _ (Nat.mod_lt _ (by decide)))]
theorem crF_zero {cut : Int} (f : Cont) (L : List ActV) : crF 0 (-1) cut f L = f := by
  unfold crF
  generalize hn : 0 = n
  have : ∀ (L : List (ActV × Nat)) (f : Cont), L.foldl (fun f x => match lftA n (-1) cut x.1 x.2 with | some b => doF f b | none => f) f = f := by
    intro L
    induction L with
    | nil => intro f; rfl
    | cons x L ih => intro f; rw [List.foldl_cons, lft_zero rfl hn.symm]; exact ih f
  exact this _ _
theorem crF_all {cut : Int} (f : Cont) (L : List ActV) : crF 18446744073709551615 (-1) cut f L = L.foldl doF f := by
  unfold crF
  have : ∀ (L : List ActV) (n : Nat) (f : Cont), (L.zipIdx n).foldl (fun f x => match lftA 18446744073709551615 (-1) cut x.1 x.2 with | some b => doF f b | none => f) f = L.foldl doF f := by
    intro L
    induction L with
    | nil => intro n f; rfl
    | cons x L ih => intro n f; rw [List.zipIdx_cons, List.foldl_cons, lft_all rfl rfl, List.foldl_cons]; exact ih _ _
  exact this _ _ _
structure CrX (s : DS) (N M k kp : Nat) (torn cut : Int) (e1 : FM) (c1 : Nat) (bs : List BS) : Prop where
  p : CrP s N M k kp torn e1 c1 bs
  con : cont e1 = crF kp torn cut (cont s.e1) (s.pend.take k)
theorem CrX.start {s : DS} {N M kp : Nat} {torn cut : Int} (h : s.Ok N M) : CrX s N M 0 kp torn cut s.e1 s.c1 s.bs := ⟨CrP.start h, rfl⟩
theorem CrX.none {s : DS} {N M k kp : Nat} {torn cut : Int} {e1 : FM} {c1 : Nat} {bs : List BS} (h : CrX s N M k kp torn cut e1 c1 bs) (hk : k < s.pend.length) (hl : lftA kp torn cut s.pend[k] k = none) : CrX s N M (k + 1) kp torn cut e1 c1 bs :=
  ⟨h.p.none hk, by rw [List.take_succ_eq_append_getElem hk, crF_snoc, List.length_take, Nat.min_eq_left (Nat.le_of_lt hk), hl]; exact h.con⟩
theorem CrX.step {s : DS} {N M k kp : Nat} {torn cut : Int} {e1 : FM} {c1 : Nat} {bs : List BS} (h : CrX s N M k kp torn cut e1 c1 bs) (hok : s.Ok N M) (hk : k < s.pend.length) {x : BS} {m : Nat} (hx : x.l = newB e1 (leftA s.pend[k] m)) (hl : lftA kp torn cut s.pend[k] k = some (leftA s.pend[k] m)) :
    CrX s N M (k + 1) kp torn cut (doE e1 (leftA s.pend[k] m) x c1) (doC e1 (leftA s.pend[k] m) c1) (x :: bs) :=
  ⟨h.p.step hok hk hx (fun h1 h2 => by rw [lft_zero h1 h2] at hl; cases hl), by
    rw [List.take_succ_eq_append_getElem hk, crF_snoc, List.length_take, Nat.min_eq_left (Nat.le_of_lt hk), hl, cont_doE h.p.good hx, h.con]⟩
def CrashX (s : DS) (N M kp : Nat) (torn cut : Int) (s' : DS) : Prop :=
  ∃ (e1 : FM) (c1 q : Nat) (fp : List Nat) (bs : List BS), CrX s N M s.pend.length kp torn cut e1 c1 bs ∧ s' = { s with e1 := e1, c1 := c1, e2 := e1, c2 := c1, r2 := q, pend := [], pa := none, pc := 0, fuse := -1, down := false, fp := fp, bs := bs }
theorem CrashX.toR {s s' : DS} {N M kp : Nat} {torn cut : Int} (h : CrashX s N M kp torn cut s') : CrashR s N M kp torn s' := by
  obtain ⟨e1, c1, q, fp, bs, hc, rfl⟩ := h
  exact ⟨e1, c1, q, fp, bs, hc.p, rfl⟩
theorem CrashX.sub {s s' : DS} {N M kp : Nat} {torn cut : Int} (h : CrashX s N M kp torn cut s') : ∀ x ∈ s.bs, x ∈ s'.bs := by
  obtain ⟨e1, c1, q, fp, bs, hc, rfl⟩ := h
  exact hc.p.sub
theorem CrashX.con {s s' : DS} {N M kp : Nat} {torn cut : Int} (h : CrashX s N M kp torn cut s') : cont s'.e2 = crF kp torn cut (cont s.e1) s.pend := by
  obtain ⟨e1, c1, q, fp, bs, hc, rfl⟩ := h
  have := hc.con
  rwa [List.take_length] at this

set_option maxHeartbeats 1000000 in
theorem left2_c {w0 : World} {H : List SA} {a : ActV} {i : Nat} {kp : Nat} {torn cut : Int} (hi : i ≤ 1000000) (hk : kp < 18446744073709551616) [rb : RdB w0 H (.slice a.b.a a.b.l.length a.b.c) a.b.l] (hb : a.b.l.length ≤ 4294967296) :
    CT Try.prog w0 (H) 39 [.agg a.cells, .int .i64 (i : Int), .agg (PlanV.mk (kp : Int) torn cut).cells] (α := Nat × Bool) (fun y => .tuple #[.agg (leftA a y.1).cells, .bool y.2]) (fun y => pu (lftA kp torn cut a i = if y.2 = true then some (leftA a y.1) else none) :: H) := by
  refine CT_intro Try.func39 rfl Try.ntmps39 rfl ?_
  refine T_seq ?_
  refine T_region ?_
  refine TL_e rfl (Ef_boxN rfl (fun b3 => ?_))
  refine TL_e rfl (Ef_boxN rfl (fun b5 => ?_))
  refine TL_e rfl (Ef_allocN (fun b6 => ?_))
  refine TL_q (Qt_assign (.bool _) rfl) rfl ?_
  refine TL_nil ?_
  refine X_then ?_
  refine T_seq ?_
  refine T_seq ?_
  refine T_region ?_
  refine TL_q (Qt_move (.int .i64 _) rfl) rfl ?_
  refine TL_q (Qt_fieldAddr 1 rfl rfl) rfl ?_
  refine TL_q (Qt_load1 rfl) rfl ?_
  refine TL_q (Qt_eql rfl rfl) rfl ?_
  refine TL_q (Qt_move (.bool _) rfl) rfl ?_
  refine TL_split 12 rfl (fun h12 => ?_) (fun h12 => ?_)
  ·
    have p12 := h12
    try simp only [decide_eq_true_eq, decide_eq_false_iff_not, Bool.not_eq_true', Bool.not_eq_false', Option.isNone_iff_eq_none, ne_eq, Decidable.not_not, Int.not_lt, Int.not_le] at p12
    refine TL_take rfl rfl h12 ?_
    refine TL_q (Qt_fieldAddr 0 rfl rfl) rfl ?_
    refine TL_take rfl rfl h12 ?_
    refine TL_q (Qt_load1 rfl) rfl ?_
    refine TL_take rfl rfl h12 ?_
    refine TL_q (Qt_eql rfl rfl) rfl ?_
    refine TL_take rfl rfl h12 ?_
    refine TL_q (Qt_move (.bool _) rfl) rfl ?_
    refine TL_split 16 rfl (fun h16 => ?_) (fun h16 => ?_)
    ·
      have p16 := h16
      try simp only [decide_eq_true_eq, decide_eq_false_iff_not, Bool.not_eq_true', Bool.not_eq_false', Option.isNone_iff_eq_none, ne_eq, Decidable.not_not, Int.not_lt, Int.not_le] at p16
      refine TL_pass rfl rfl h16 rfl ?_
      refine TL_pass rfl rfl h16 rfl ?_
      refine TL_pass rfl rfl h16 rfl ?_
      refine TL_take rfl rfl h12 ?_
      refine TL_q (Qt_pick_t (.bool _) rfl h16 rfl) rfl ?_
      refine TL_q (Qt_pick_t (.bool _) rfl h12 rfl) rfl ?_
      refine TL_nil ?_
      refine X_then ?_
      refine T_cond_true rfl rfl ?_
      refine T_seq ?_
      refine T_region ?_
      refine TL_q (Qt_fieldAddr 3 rfl rfl) rfl ?_
      refine TL_q (Qt_load1 rfl) rfl ?_
      refine TL_q (Qt_fieldAddr 2 rfl rfl) rfl ?_
      refine TL_q (Qt_load1 rfl) rfl ?_
      refine TL_q (Qt_fieldAddr 3 rfl rfl) rfl ?_
      refine TL_q (Qt_load1 rfl) rfl ?_
      refine TL_q (Qt_len_slice rfl Try.underlying32) rfl ?_
      refine TL_q (Qt_min rfl rfl) rfl ?_
      refine TL_q (Qt_max rfl rfl) rfl ?_
      rw [show (if (if (a.b.l.length : Int) < cut then (a.b.l.length : Int) else cut) > 0 then (if (a.b.l.length : Int) < cut then (a.b.l.length : Int) else cut) else 0) = cutN cut a.b.l.length from rfl]
      have hc := cutN_range cut a.b.l.length
      obtain ⟨m, hm⟩ := Int.eq_ofNat_of_zero_le hc.1
      rw [hm] at hc ⊢
      have hcap := fun w hw => rb.cap (w := w) hw
      refine TL_q (Qt_sliceB_h m rfl rfl (by omega)) rfl ?_
      refine TL_q (Qt_fieldAddr 3 rfl rfl) rfl ?_
      refine TL_n (Ef_store1 (.slice _ _ _) rfl rfl (?_))
      refine TL_nil ?_
      refine X_then ?_
      refine T_seq ?_
      refine T_region ?_
      refine TL_q (Qt_loadN rfl rfl) rfl ?_
      refine TL_n (Ef_storeN rfl rfl (?_))
      refine TL_q (Qt_assign (.bool _) rfl) rfl ?_
      refine TL_nil ?_
      refine X_then ?_
      refine T_ret ?_
      refine X_then_ret ?_
      exact X_ret (m, true) [_, _] Try.results39 ⟨⟨_, rfl, res_cellN rfl⟩, rfl, trivial⟩ rfl (fun w hw => (Subs.st inferInstance w hw : St w0 H w).addPure (by rw [if_pos rfl, lftA, if_pos (by first | (simp_all; done) | (simp_all; omega)), hm]; rfl))
    ·
      have p16 := h16
      try simp only [decide_eq_true_eq, decide_eq_false_iff_not, Bool.not_eq_true', Bool.not_eq_false', Option.isNone_iff_eq_none, ne_eq, Decidable.not_not, Int.not_lt, Int.not_le] at p16
      refine TL_take rfl rfl h16 ?_
      refine TL_q (Qt_fieldAddr 0 rfl rfl) rfl ?_
      refine TL_take rfl rfl h16 ?_
      refine TL_q (Qt_load1 rfl) rfl ?_
      refine TL_take rfl rfl h16 ?_
      refine TL_q (Qt_eql rfl rfl) rfl ?_
      refine TL_take rfl rfl h12 ?_
      refine TL_q (Qt_pick_f (.bool _) rfl h16 rfl) rfl ?_
      refine TL_q (Qt_pick_t (.bool _) rfl h12 rfl) rfl ?_
      refine TL_nil ?_
      refine X_then ?_
      refine T_cond rfl (fun h21 => ?_) (fun h21 => ?_)
      ·
        have p21 := h21
        try simp only [decide_eq_true_eq, decide_eq_false_iff_not, Bool.not_eq_true', Bool.not_eq_false', Option.isNone_iff_eq_none, ne_eq, Decidable.not_not, Int.not_lt, Int.not_le] at p21
        refine T_seq ?_
        refine T_region ?_
        refine TL_q (Qt_fieldAddr 3 rfl rfl) rfl ?_
        refine TL_q (Qt_load1 rfl) rfl ?_
        refine TL_q (Qt_fieldAddr 2 rfl rfl) rfl ?_
        refine TL_q (Qt_load1 rfl) rfl ?_
        refine TL_q (Qt_fieldAddr 3 rfl rfl) rfl ?_
        refine TL_q (Qt_load1 rfl) rfl ?_
        refine TL_q (Qt_len_slice rfl Try.underlying32) rfl ?_
        refine TL_q (Qt_min rfl rfl) rfl ?_
        refine TL_q (Qt_max rfl rfl) rfl ?_
        rw [show (if (if (a.b.l.length : Int) < cut then (a.b.l.length : Int) else cut) > 0 then (if (a.b.l.length : Int) < cut then (a.b.l.length : Int) else cut) else 0) = cutN cut a.b.l.length from rfl]
        have hc := cutN_range cut a.b.l.length
        obtain ⟨m, hm⟩ := Int.eq_ofNat_of_zero_le hc.1
        rw [hm] at hc ⊢
        have hcap := fun w hw => rb.cap (w := w) hw
        refine TL_q (Qt_sliceB_h m rfl rfl (by omega)) rfl ?_
        refine TL_q (Qt_fieldAddr 3 rfl rfl) rfl ?_
        refine TL_n (Ef_store1 (.slice _ _ _) rfl rfl (?_))
        refine TL_nil ?_
        refine X_then ?_
        refine T_seq ?_
        refine T_region ?_
        refine TL_q (Qt_loadN rfl rfl) rfl ?_
        refine TL_n (Ef_storeN rfl rfl (?_))
        refine TL_q (Qt_assign (.bool _) rfl) rfl ?_
        refine TL_nil ?_
        refine X_then ?_
        refine T_ret ?_
        refine X_then_ret ?_
        exact X_ret (m, true) [_, _] Try.results39 ⟨⟨_, rfl, res_cellN rfl⟩, rfl, trivial⟩ rfl (fun w hw => (Subs.st inferInstance w hw : St w0 H w).addPure (by rw [if_pos rfl, lftA, if_pos (by first | (simp_all; done) | (simp_all; omega)), hm]; rfl))
      ·
        have p21 := h21
        try simp only [decide_eq_true_eq, decide_eq_false_iff_not, Bool.not_eq_true', Bool.not_eq_false', Option.isNone_iff_eq_none, ne_eq, Decidable.not_not, Int.not_lt, Int.not_le] at p21
        refine T_skip ?_
        refine X_then ?_
        refine T_seq ?_
        refine T_draw (blk b3 (.cells a.cells 70 (0, 0)) :: blk b5 (.cells (PlanV.mk (kp : Int) torn cut).cells 25 (0, 0)) :: H) [(0, true), (1, true), (2, true), (3, true), (4, true), (5, true), (6, true), (7, true), (8, false), (9, true)] (by kernel_rfl) (by kernel_rfl) rfl (by kernel_rfl) (Subs.st inferInstance) (fun hns0 => ?_)
        refine DL_q hns0 rfl (Qt_loadN rfl rfl) rfl ?_
        refine DL_q hns0 rfl (Qt_fieldAddr 0 rfl rfl) rfl ?_
        refine DL_q hns0 rfl (Qt_load1 rfl) rfl ?_
        refine DL_q hns0 rfl (Qt_move (.int .i64 _) rfl) rfl ?_
        refine DL_q hns0 rfl (Qt_val (Qt_rem rfl rfl (by omega)) (congrArg (Value.int .i64) (rem_nat i 64))) rfl ?_
        refine DL_q hns0 rfl (Qt_shrN (i % 64) rfl rfl (by show i % 64 ≤ 64; omega)) rfl ?_
        refine DL_q hns0 rfl (Qt_andN (b := 1) rfl rfl rfl (by have := Nat.div_le_self kp (2 ^ (i % 64)); show _ < 2 ^ 64; omega) (by decide)) rfl ?_
        rw [Nat.and_one_is_mod]
        refine DL_q hns0 rfl (Qt_neq rfl rfl) rfl ?_
        refine DL_n rfl (Ef_storeN rfl rfl (⟨(Subs.st inferInstance), ?_⟩))
        refine DL_q hns0 rfl (Qt_assign (.bool _) rfl) rfl ?_
        refine DL_nil ?_
        refine X_then ?_
        refine T_ret ?_
        exact X_ret (a.b.l.length, decide (((kp / 2 ^ (i % 64) % 2 : Nat) : Int) ≠ 0)) [_, _] Try.results39 ⟨⟨_, rfl, res_cellN rfl⟩, rfl, trivial⟩ (by rw [leftA_all]; rfl) (fun w hw => (Subs.st inferInstance w hw : St w0 H w).addPure (by
            have hno : ¬ ((i : Int) = torn ∧ (a.kind = 1 ∨ a.kind = 2)) := by first | (simp_all; done) | (rintro ⟨q1, q2⟩; simp_all)
            rw [lftA, if_neg hno, leftA_all]
            generalize kp / 2 ^ (i % 64) % 2 = z
            by_cases hb0 : z = 0
            · rw [if_neg (by omega), if_neg (by simp; omega)]
            · rw [if_pos (by omega), if_pos (by simp; omega)]))
  ·
    have p12 := h12
    try simp only [decide_eq_true_eq, decide_eq_false_iff_not, Bool.not_eq_true', Bool.not_eq_false', Option.isNone_iff_eq_none, ne_eq, Decidable.not_not, Int.not_lt, Int.not_le] at p12
    refine TL_pass rfl rfl h12 rfl ?_
    refine TL_pass rfl rfl h12 rfl ?_
    refine TL_pass rfl rfl h12 rfl ?_
    refine TL_pass rfl rfl h12 rfl ?_
    refine TL_passU rfl rfl rfl ?_
    refine TL_passU rfl rfl rfl ?_
    refine TL_passU rfl rfl rfl ?_
    refine TL_pass rfl rfl h12 rfl ?_
    refine TL_q (Qt_pick_f (.bool _) rfl h12 rfl) rfl ?_
    refine TL_nil ?_
    refine X_then ?_
    refine T_cond_false rfl rfl ?_
    refine T_skip ?_
    refine X_then ?_
    refine T_seq ?_
    refine T_draw (blk b3 (.cells a.cells 70 (0, 0)) :: blk b5 (.cells (PlanV.mk (kp : Int) torn cut).cells 25 (0, 0)) :: H) [(0, true), (1, true), (2, true), (3, true), (4, true), (5, true), (6, true), (7, true), (8, false), (9, true)] (by kernel_rfl) (by kernel_rfl) rfl (by kernel_rfl) (Subs.st inferInstance) (fun hns1 => ?_)
    refine DL_q hns1 rfl (Qt_loadN rfl rfl) rfl ?_
    refine DL_q hns1 rfl (Qt_fieldAddr 0 rfl rfl) rfl ?_
    refine DL_q hns1 rfl (Qt_load1 rfl) rfl ?_
    refine DL_q hns1 rfl (Qt_move (.int .i64 _) rfl) rfl ?_
    refine DL_q hns1 rfl (Qt_val (Qt_rem rfl rfl (by omega)) (congrArg (Value.int .i64) (rem_nat i 64))) rfl ?_
    refine DL_q hns1 rfl (Qt_shrN (i % 64) rfl rfl (by show i % 64 ≤ 64; omega)) rfl ?_
    refine DL_q hns1 rfl (Qt_andN (b := 1) rfl rfl rfl (by have := Nat.div_le_self kp (2 ^ (i % 64)); show _ < 2 ^ 64; omega) (by decide)) rfl ?_
    rw [Nat.and_one_is_mod]
    refine DL_q hns1 rfl (Qt_neq rfl rfl) rfl ?_
    refine DL_n rfl (Ef_storeN rfl rfl (⟨(Subs.st inferInstance), ?_⟩))
    refine DL_q hns1 rfl (Qt_assign (.bool _) rfl) rfl ?_
    refine DL_nil ?_
    refine X_then ?_
    refine T_ret ?_
    exact X_ret (a.b.l.length, decide (((kp / 2 ^ (i % 64) % 2 : Nat) : Int) ≠ 0)) [_, _] Try.results39 ⟨⟨_, rfl, res_cellN rfl⟩, rfl, trivial⟩ (by rw [leftA_all]; rfl) (fun w hw => (Subs.st inferInstance w hw : St w0 H w).addPure (by
        have hno : ¬ ((i : Int) = torn ∧ (a.kind = 1 ∨ a.kind = 2)) := by first | (simp_all; done) | (rintro ⟨q1, q2⟩; simp_all)
        rw [lftA, if_neg hno, leftA_all]
        generalize kp / 2 ^ (i % 64) % 2 = z
        by_cases hb0 : z = 0
        · rw [if_neg (by omega), if_neg (by simp; omega)]
        · rw [if_pos (by omega), if_pos (by simp; omega)]))
set_option maxHeartbeats 1000000 in
theorem crash2_c {w0 : World} {H : List SA} {p : Nat} {s : DS} {N M : Nat} (hok : s.Ok N M) (hN : N ≤ 1000000) (hM : M ≤ 1000000000) {kp : Nat} {torn cut : Int} (hkp : kp < 18446744073709551616) :
    CT Try.prog w0 (DS.H p s H) 17 [.pointer (some ⟨p, 0, none⟩), .agg (PlanV.mk (kp : Int) torn cut).cells] (α := DS) (fun _ => .tuple #[]) (fun y => pu (CrashX s N M kp torn cut y) :: DS.H p y H) := by
  refine CT_intro Try.func17 rfl Try.ntmps17 rfl ?_
  refine T_seq ?_
  refine T_region ?_
  refine TL_e rfl (Ef_boxN rfl (fun b3 => ?_))
  refine TL_nil ?_
  refine X_then ?_
  refine T_seq ?_
  refine T_seq ?_
  refine T_region ?_
  refine TL_q (Qt_move (.pointer _) rfl) rfl ?_
  refine TL_q (Qt_ptr_nil rfl rfl Try.underlying28) rfl ?_
  refine TL_nil ?_
  refine X_then ?_
  refine T_cond rfl (fun h9 => ?_) (fun h9 => ?_)
  ·
    have p9 := h9
    try simp only [decide_eq_true_eq, decide_eq_false_iff_not, Bool.not_eq_true', Bool.not_eq_false', Option.isNone_iff_eq_none, ne_eq, Decidable.not_not, Int.not_lt, Int.not_le] at p9
    cases h9
  ·
    have p9 := h9
    try simp only [decide_eq_true_eq, decide_eq_false_iff_not, Bool.not_eq_true', Bool.not_eq_false', Option.isNone_iff_eq_none, ne_eq, Decidable.not_not, Int.not_lt, Int.not_le] at p9
    refine T_skip ?_
    refine X_then ?_
    refine T_seq ?_
    refine T_seq ?_
    refine T_region ?_
    refine TL_q (Qt_move (.pointer _) rfl) rfl ?_
    refine TL_q (Qt_nilCheck rfl) rfl ?_
    refine TL_q (Qt_fieldAddr 3 rfl rfl) rfl ?_
    refine TL_q (Qt_load1 rfl) rfl ?_
    refine TL_q (Qt_len_slice rfl Try.underlying62) rfl ?_
    refine TL_q (Qt_move (.int .i64 _) rfl) rfl ?_
    refine TL_nil ?_
    refine X_then ?_
    refine T_block ?_
    have hnp := hok.np
    refine T_loop [4, 5, 6, 7, 15, 16, 17, 18, 19, 20, 21, 22, 23, 24, 25, 26, 27, 28, 29, 30, 31, 32, 33, 34] [15] (fun us H' => ∃ (k : Nat) (e1 : FM) (c1 : Nat) (fp : List Nat) (bs : List BS), us = [.int .i64 (k : Int)] ∧ dblk p s :: blk s.r1 (mapO encS BS.val e1 c1) :: blk s.r2 (mapO encS BS.val s.e2 s.c2) :: prow s :: dat fp ⟨bs, [], []⟩ :: blk b3 (.cells (PlanV.mk (kp : Int) torn cut).cells 25 (0, 0)) :: H = H' ∧ k ≤ s.pend.length ∧ (CrX s N M k kp torn cut e1 c1 bs)) (fun us => match us with | .int _ i :: _ => s.pend.length - i.toNat | _ => 0) ⟨0, s.e1, s.c1, s.fp, s.bs, rfl, rfl, by omega, CrX.start hok⟩ (Subs.st inferInstance) ?_
    rintro τ0 _ _  ⟨k, e1, c1, fp, bs, rfl, rfl, hk0, hc⟩ _
    refine T_seq ?_
    refine T_region ?_
    refine TL_q (Qt_lss rfl rfl) rfl ?_
    refine TL_nil ?_
    refine X_then ?_
    refine T_seq ?_
    refine T_cond rfl (fun h16 => ?_) (fun h16 => ?_)
    ·
      have p16 := h16
      try simp only [decide_eq_true_eq, decide_eq_false_iff_not, Bool.not_eq_true', Bool.not_eq_false', Option.isNone_iff_eq_none, ne_eq, Decidable.not_not, Int.not_lt, Int.not_le] at p16
      have hk : k < s.pend.length := by omega
      refine T_skip ?_
      refine X_then ?_
      refine T_seq ?_
      refine T_block ?_
      refine T_seq ?_
      refine T_region ?_
      refine TL_q (Qt_move (.int .i64 _) rfl) rfl ?_
      refine TL_q (Qt_indexN rfl rfl (by omega) (by omega)) rfl ?_
      refine TL_q (Qt_val (Qt_loadRN 4 s.pend[k].list rfl (flat_slice _ 4 ActV.list_len s.pend k hk) (ActV.list_len _) (by decide)) (show Value.agg s.pend[k].list.toArray = Value.agg s.pend[k].cells from rfl)) rfl ?_
      refine TL_e rfl (Ef_allocN (fun b5 => ?_))
      refine TL_q (Qt_assign (.int .i64 _) rfl) rfl ?_
      refine TL_n (Ef_storeN rfl rfl (?_))
      refine TL_nil ?_
      refine X_then ?_
      refine T_seq ?_
      refine T_region ?_
      refine TL_q (Qt_loadN rfl rfl) rfl ?_
      refine TL_q (Qt_move (.int .i64 _) rfl) rfl ?_
      refine TL_q (Qt_loadN rfl rfl) rfl ?_
      refine TL_e rfl (Ef_call (left2_c (a := s.pend[k]) (i := k) (kp := kp) (torn := torn) (cut := cut) (by have := hok.np; omega) hkp (rb := RdE.get (ls := bs) inferInstance (hc.p.sub _ (hok.memp _ (List.getElem_mem hk)))) (by have := hok.short _ (List.getElem_mem hk); omega)) rfl (fun x24 => ?_))
      refine TL_pure (fun hx24 => ?_)
      refine TL_q (Qt_move (.tuple _) rfl) rfl ?_
      refine TL_q (Qt_extract rfl) rfl ?_
      refine TL_q (Qt_extract rfl) rfl ?_
      refine TL_e rfl (Ef_allocN (fun b6 => ?_))
      refine TL_n (Ef_storeN rfl rfl (?_))
      refine TL_q (Qt_assign (.bool _) rfl) rfl ?_
      refine TL_nil ?_
      refine X_then ?_
      refine T_seq ?_
      refine T_region ?_
      refine TL_q (Qt_move (.bool _) rfl) rfl ?_
      refine TL_nil ?_
      refine X_then ?_
      refine T_cond rfl (fun h27 => ?_) (fun h27 => ?_)
      ·
        have p27 := h27
        try simp only [decide_eq_true_eq, decide_eq_false_iff_not, Bool.not_eq_true', Bool.not_eq_false', Option.isNone_iff_eq_none, ne_eq, Decidable.not_not, Int.not_lt, Int.not_le] at p27
        refine T_draw (blk b6 (.cells (leftA s.pend[k] x24.1).cells 70 (0, 0)) :: dblk p s :: H) [(0, true), (1, true), (2, true), (3, true), (4, true), (5, false)] (by kernel_rfl) (by kernel_rfl) rfl (by kernel_rfl) (Subs.st inferInstance) (fun hns0 => ?_)
        refine DL_q hns0 rfl (Qt_move (.pointer _) rfl) rfl ?_
        refine DL_q hns0 rfl (Qt_nilCheck rfl) rfl ?_
        refine DL_q hns0 rfl (Qt_fieldAddr 1 rfl rfl) rfl ?_
        refine DL_q hns0 rfl (Qt_load1 rfl) rfl ?_
        refine DL_q hns0 rfl (Qt_loadN rfl rfl) rfl ?_
        refine DL_frontB s.r1 ?_
        refine DL_e rfl rfl (Ef_call (fdo_c (r := s.r1) (es := e1) (c := c1) (a := (leftA s.pend[k] x24.1)) (ro := RdE.get (ls := bs) inferInstance (oldE_mem hc.p.mem (hc.p.sub _ hok.zero) _)) (rb := RdB.leftA (h := RdE.get (ls := bs) inferInstance (hc.p.sub _ (hok.memp _ (List.getElem_mem hk))))) (by have h1 := hc.p.len _ (oldE_mem hc.p.mem (hc.p.sub _ hok.zero) (leftA s.pend[k] x24.1).name); have h2 := hok.short _ (List.getElem_mem hk); have h3 : (leftA s.pend[k] x24.1).b.l.length ≤ s.pend[k].b.l.length := (by simp [leftA]; omega); have h4 := hok.np; omega)) rfl (fun x33 => ⟨(Subs.st inferInstance), ?_⟩))
        refine DL_pure (fun hx33 => ?_)
        refine DL_nil ?_
        refine X_block ?_
        refine X_then ?_
        refine T_region ?_
        first
          | refine TL_q (Qt_add rfl rfl (by omega) (by omega)) rfl ?_
          | refine TL_q (Qt_addw rfl rfl) rfl ?_
        refine TL_q (Qt_move (.int .i64 _) rfl) rfl ?_
        refine TL_nil ?_
        apply X_loop
        case ha => exact (by repeat (first | with_reducible exact agree_refl | refine agree_upd rfl ?_ | refine agree_mix rfl ?_ | refine agree_setAll rfl ?_))
        case hI => exact by first | exact ⟨k + 1, doE e1 (leftA s.pend[k] x24.1) x33 c1, doC e1 (leftA s.pend[k] x24.1) c1, rowFp (.slice x33.a x33.l.length x33.c) ++ fp, x33 :: bs, rfl, rfl, by omega, hc.step hok hk hx33 (by rw [hx24, h27]; rfl)⟩ | exact ⟨k + 1, e1, c1, fp, bs, rfl, rfl, by omega, hc.none hk (by rw [hx24, h27]; rfl)⟩
        case hm => exact by show s.pend.length - (k + 1 : Int).toNat < s.pend.length - (k : Int).toNat; omega
        case hH => exact by first | exact (fun w hw => crash_end (b6 := b6) (a := (leftA s.pend[k] x24.1)) (x := x33) (Subs.st inferInstance w hw)) | exact (Subs.st inferInstance)
      ·
        have p27 := h27
        try simp only [decide_eq_true_eq, decide_eq_false_iff_not, Bool.not_eq_true', Bool.not_eq_false', Option.isNone_iff_eq_none, ne_eq, Decidable.not_not, Int.not_lt, Int.not_le] at p27
        refine T_skip ?_
        refine X_block ?_
        refine X_then ?_
        refine T_region ?_
        first
          | refine TL_q (Qt_add rfl rfl (by omega) (by omega)) rfl ?_
          | refine TL_q (Qt_addw rfl rfl) rfl ?_
        refine TL_q (Qt_move (.int .i64 _) rfl) rfl ?_
        refine TL_nil ?_
        apply X_loop
        case ha => exact (by repeat (first | with_reducible exact agree_refl | refine agree_upd rfl ?_ | refine agree_mix rfl ?_ | refine agree_setAll rfl ?_))
        case hI => exact by first | exact ⟨k + 1, doE e1 (leftA s.pend[k] x24.1) x33 c1, doC e1 (leftA s.pend[k] x24.1) c1, rowFp (.slice x33.a x33.l.length x33.c) ++ fp, x33 :: bs, rfl, rfl, by omega, hc.step hok hk hx33 (by rw [hx24, h27]; rfl)⟩ | exact ⟨k + 1, e1, c1, fp, bs, rfl, rfl, by omega, hc.none hk (by rw [hx24, h27]; rfl)⟩
        case hm => exact by show s.pend.length - (k + 1 : Int).toNat < s.pend.length - (k : Int).toNat; omega
        case hH => exact by first | exact (fun w hw => crash_end (b6 := b6) (a := (leftA s.pend[k] x24.1)) (x := x33) (Subs.st inferInstance w hw)) | exact (Subs.st inferInstance)
    ·
      have p16 := h16
      try simp only [decide_eq_true_eq, decide_eq_false_iff_not, Bool.not_eq_true', Bool.not_eq_false', Option.isNone_iff_eq_none, ne_eq, Decidable.not_not, Int.not_lt, Int.not_le] at p16
      obtain rfl : k = s.pend.length := by omega
      refine T_exit ?_
      refine X_then_exit ?_
      refine X_loop_exit ?_
      refine X_block_exit ?_
      refine X_then ?_
      refine T_seq ?_
      refine T_region ?_
      refine TL_q (Qt_move (.pointer _) rfl) rfl ?_
      refine TL_frontB s.r1 ?_
      refine TL_frontB p ?_
      refine TL_e rfl (Ef_call (settle_c (r := s.r1) (es := e1) (c := c1)) rfl (fun x36 => ?_))
      refine TL_nil ?_
      refine X_then ?_
      refine T_region ?_
      refine TL_q (Qt_move (.pointer _) rfl) rfl ?_
      refine TL_q (Qt_move (.pointer _) rfl) rfl ?_
      refine TL_q (Qt_nilCheck rfl) rfl ?_
      refine TL_q (Qt_fieldAddr 4 rfl rfl) rfl ?_
      refine TL_n (Ef_store1 (.int .i64 _) rfl rfl (?_))
      refine TL_q (Qt_nilCheck rfl) rfl ?_
      refine TL_q (Qt_fieldAddr 5 rfl rfl) rfl ?_
      refine TL_n (Ef_store1 (.bool _) rfl rfl (?_))
      refine TL_nil ?_
      exact X_ret ({ s with e1 := e1, c1 := c1, e2 := e1, c2 := c1, r2 := x36, pend := [], pa := none, pc := 0, fuse := -1, down := false, fp := fp, bs := bs }) [] Try.results17 trivial rfl (fun w hw => St.addPure (crash_fin (Subs.st inferInstance w hw)) ⟨e1, c1, x36, fp, bs, hc, rfl⟩)
end Go.Proofs.Ytededghplnoajaa
