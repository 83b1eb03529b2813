/- A disk and the reference: what is alike, and stays so. -/
import Derived.Test.YtededghplnoajaaDw
namespace Go.Proofs.Ytededghplnoajaa
open Go.RowKit Go.Sx
set_option maxRecDepth 100000
set_option linter.unusedSimpArgs false
set_option linter.unusedVariables false
/-- Behind an act, exactly. -/
def StepX (N M : Nat) (ra : RActV) (s s' : DS) (e : Int) : Prop :=
  (ra.kind = 5 ∧ e = 0 ∧ ∃ kp : Nat, ra.p.keep = (kp : Int) ∧ CrashX s N M kp ra.p.torn ra.p.cut s') ∨ (ra.kind ≠ 5 ∧ StepR N M ra s s' e)
theorem StepX.toR {N M : Nat} {ra : RActV} {s s' : DS} {e : Int} (h : StepX N M ra s s' e) : StepR N M ra s s' e := by
  rcases h with ⟨h5, he, kp, hk, hc⟩ | ⟨-, h⟩
  · exact .inr (.inr (.inr (.inr (.inr (.inl ⟨h5, he, kp, hk, hc.toR⟩)))))
  · exact h
def actEq (a : ActV) (ra : RActV) : Prop := a.kind = ra.kind + 1 ∧ (0 ≤ ra.kind ∧ ra.kind < 4) ∧ a.name = ra.name ∧ (ra.kind = 2 → a.to = ra.to) ∧ (ra.kind ≤ 1 → a.b.l = ra.b.l)
theorem doF_eq {a : ActV} {ra : RActV} (h : actEq a ra) (f : Cont) : doF f a = doF f (acV ra) := by
  obtain ⟨h1, h2, h3, h4, h5⟩ := h
  rcases (by omega : ra.kind = 0 ∨ ra.kind = 1 ∨ ra.kind = 2 ∨ ra.kind = 3) with hk | hk | hk | hk
  · rw [doF1 (show a.kind = 1 by omega), doF1 (show (acV ra).kind = 1 from by show ra.kind + 1 = 1; omega), h3, h5 (by omega)]; rfl
  · rw [doF2 (show a.kind = 2 by omega), doF2 (show (acV ra).kind = 2 from by show ra.kind + 1 = 2; omega), h3, h5 (by omega)]; rfl
  · rw [doF3 (show a.kind = 3 by omega), doF3 (show (acV ra).kind = 3 from by show ra.kind + 1 = 3; omega), h3, h4 hk]; rfl
  · rw [doF4 (show a.kind = 4 by omega), doF4 (show (acV ra).kind = 4 from by show ra.kind + 1 = 4; omega), h3]; rfl
def pEq : List ActV → List RActV → Prop
  | [], [] => True
  | a :: us, b :: bs => actEq a b ∧ pEq us bs
  | _, _ => False
theorem pEq.len : ∀ {us : List ActV} {bs : List RActV}, pEq us bs → us.length = bs.length
  | [], [], _ => rfl
  | _ :: _, _ :: _, h => by simp [pEq.len h.2]
  | [], _ :: _, h => h.elim
  | _ :: _, [], h => h.elim
theorem pEq.snoc : ∀ {us : List ActV} {bs : List RActV} {a : ActV} {b : RActV}, pEq us bs → actEq a b → pEq (us ++ [a]) (bs ++ [b])
  | [], [], _, _, _, h => ⟨h, trivial⟩
  | _ :: _, _ :: _, _, _, h, h2 => ⟨h.1, pEq.snoc h.2 h2⟩
  | [], _ :: _, _, _, h, _ => h.elim
  | _ :: _, [], _, _, h, _ => h.elim
theorem pEq.fold : ∀ {us : List ActV} {bs : List RActV} (f : Cont), pEq us bs → us.foldl doF f = bs.foldl (fun f a => doF f (acV a)) f
  | [], [], _, _ => rfl
  | a :: us, b :: bs, f, h => by rw [List.foldl_cons, List.foldl_cons, doF_eq h.1]; exact pEq.fold _ h.2
  | [], _ :: _, _, h => h.elim
  | _ :: _, [], _, h => h.elim
theorem lft_eq {kp : Nat} {torn cut : Int} {a : ActV} {ra : RActV} (h : actEq a ra) (i : Nat) (f : Cont) :
    (match lftA kp torn cut a i with | some b => doF f b | none => f) = (match lftR kp torn cut ra i with | some b => doF f (acV b) | none => f) := by
  have h0 := h
  obtain ⟨h1, h2, h3, h4, h5⟩ := h
  unfold lftA lftR
  by_cases ht : (i : Int) = torn ∧ ra.kind ≤ 1
  · rw [if_pos (show (i : Int) = torn ∧ (a.kind = 1 ∨ a.kind = 2) from ⟨ht.1, by omega⟩), if_pos ht]
    have := doF_eq (a := leftA a (cutN cut a.b.l.length).toNat) (ra := { ra with b := ⟨ra.b.a, ra.b.c, ra.b.l.take (cutN cut ra.b.l.length).toNat⟩ }) ⟨h1, h2, h3, h4, fun hk => by show a.b.l.take _ = ra.b.l.take _; rw [h5 hk]⟩ f
    exact this
  · rw [if_neg (show ¬ ((i : Int) = torn ∧ (a.kind = 1 ∨ a.kind = 2)) from fun hh => ht ⟨hh.1, by omega⟩), if_neg ht]
    by_cases hb : kp / 2 ^ (i % 64) % 2 ≠ 0
    · rw [if_pos hb, if_pos hb]; exact doF_eq h0 f
    · rw [if_neg hb, if_neg hb]
theorem cr_eq {kp : Nat} {torn cut : Int} {us : List ActV} {bs : List RActV} (f : Cont) (h : pEq us bs) : crF kp torn cut f us = crG kp torn cut f bs := by
  have : ∀ (us : List ActV) (bs : List RActV) (n : Nat) (f : Cont), pEq us bs → (us.zipIdx n).foldl (fun f x => match lftA kp torn cut x.1 x.2 with | some b => doF f b | none => f) f = (bs.zipIdx n).foldl (fun f x => match lftR kp torn cut x.1 x.2 with | some b => doF f (acV b) | none => f) f := by
    intro us
    induction us with
    | nil => intro bs n f h; cases bs with | nil => rfl | cons b bs => exact h.elim
    | cons a us ih =>
      intro bs n f h
      cases bs with
      | nil => exact h.elim
      | cons b bs =>
        rw [List.zipIdx_cons, List.zipIdx_cons, List.foldl_cons, List.foldl_cons]
        have := lft_eq (kp := kp) (torn := torn) (cut := cut) h.1 n f
        simp only at this ⊢
        rw [this]
        exact ih bs (n + 1) _ h.2
  exact this us bs 0 f h
/-- No name is long. -/
def KeyC (f : Cont) : Prop := ∀ k, (f k).isSome = true → k.size ≤ 24
theorem KeyC.keyL {es : FM} (h : KeyC (cont es)) : KeyL es := fun e he => h e.k (by rw [← cont_has]; exact has_mem (List.mem_map.2 ⟨e, he, rfl⟩))
def shortA (a : ActV) : Prop := a.name.size ≤ 24 ∧ (a.kind = 3 → a.to.size ≤ 24)
theorem KeyC.doF {f : Cont} (h : KeyC f) {a : ActV} (ha : shortA a) : KeyC (doF f a) := by
  intro k hk
  unfold Go.Proofs.Ytededghplnoajaa.doF at hk
  split at hk
  · split at hk
    · rename_i h1; rw [h1]; exact ha.1
    · exact h k hk
  · split at hk
    · split at hk
      · rename_i h1; rw [h1]; exact ha.1
      · exact h k hk
    · split at hk
      · rename_i h3
        split at hk
        · split at hk
          · rename_i h4; rw [h4]; exact ha.2 h3
          · split at hk
            · cases hk
            · exact h k hk
        · exact h k hk
      · split at hk
        · split at hk
          · cases hk
          · exact h k hk
        · exact h k hk
theorem KeyC.fold {f : Cont} (h : KeyC f) : ∀ {L : List ActV}, (∀ a ∈ L, shortA a) → KeyC (L.foldl Go.Proofs.Ytededghplnoajaa.doF f) := by
  intro L
  induction L generalizing f with
  | nil => intro _; exact h
  | cons a L ih => intro hL; rw [List.foldl_cons]; exact ih (h.doF (hL a (List.mem_cons_self ..))) (fun b hb => hL b (List.mem_cons_of_mem _ hb))
theorem KeyC.crF {f : Cont} {kp : Nat} {torn cut : Int} (h : KeyC f) {L : List ActV} (hL : ∀ a ∈ L, shortA a) : KeyC (crF kp torn cut f L) := by
  have : ∀ (L : List ActV) (n : Nat) (f : Cont), KeyC f → (∀ a ∈ L, shortA a) → KeyC ((L.zipIdx n).foldl (fun f x => match lftA kp torn cut x.1 x.2 with | some b => Go.Proofs.Ytededghplnoajaa.doF f b | none => f) f) := by
    intro L
    induction L with
    | nil => intro n f h _; exact h
    | cons a L ih =>
      intro n f h hL
      rw [List.zipIdx_cons, List.foldl_cons]
      refine ih (n + 1) _ ?_ (fun b hb => hL b (List.mem_cons_of_mem _ hb))
      have ha := hL a (List.mem_cons_self ..)
      simp only
      unfold lftA
      split
      · rename_i b hb
        split at hb
        · obtain rfl := Option.some.inj hb; exact h.doF ha
        · split at hb
          · obtain rfl := Option.some.inj hb; exact h.doF ha
          · cases hb
      · exact h
  exact this L 0 f h hL
/-- A disk and one of the reference that are alike. -/
structure Corr (d : DS) (r : RS) : Prop where
  rm : d.room = r.room
  fu : d.fuse = r.fuse
  dn : d.down = r.down
  pend : pEq d.pend r.pend
  rep : Rep r.syn.ls (cont d.e1)
  ai : AInv d
  key : KeyC (cont d.e1)
  sh : ∀ a ∈ d.pend, shortA a
theorem Corr.key2 {d : DS} {r : RS} (h : Corr d r) : KeyC (cont d.e2) := by
  rw [show cont d.e2 = _ from h.ai]; exact h.key.fold h.sh
theorem Corr.now {d : DS} {r : RS} {M : List FileV} (h : Corr d r) (hM : ∀ f, Rep r.syn.ls f → Rep M (r.pend.foldl (fun f a => doF f (acV a)) f)) : Rep M (cont d.e2) := by
  rw [show cont d.e2 = _ from h.ai, pEq.fold _ h.pend]
  exact hM _ h.rep
theorem findC_mem {L : List FileV} {k : ByteArray} : (findC L k).isSome = true ↔ k ∈ L.map (·.name) := by
  unfold findC
  rw [Option.isSome_map, List.find?_isSome, List.mem_map]
  constructor
  · rintro ⟨f, hf, hk⟩; exact ⟨f, hf, of_decide_eq_true hk⟩
  · rintro ⟨f, hf, hk⟩; exact ⟨f, hf, decide_eq_true hk⟩
theorem srt_nodup {L : List FileV} (h : srt L) : (L.map (·.name)).Nodup := List.Pairwise.map _ (fun a b hab he => by rw [he] at hab; exact List.lt_irrefl _ hab) h
theorem findC_of {L : List FileV} (h : srt L) {f : FileV} (hf : f ∈ L) : findC L f.name = some f.b.l := by
  induction L with
  | nil => cases hf
  | cons g L ih =>
    have hn := srt_nodup h
    rw [List.map_cons, List.nodup_cons] at hn
    rw [findC_cons]
    rcases List.mem_cons.1 hf with rfl | hf
    · rw [if_pos rfl]
    · rw [if_neg (fun he : g.name = f.name => hn.1 (he ▸ List.mem_map.2 ⟨f, hf, rfl⟩))]
      exact ih (List.pairwise_cons.1 h).2 hf
/-- A sorted list that holds what a map holds is the map's files. -/
theorem Rep.files {M : List FileV} {es : FM} {c : Nat} (h : Rep M (cont es)) (hg : GoodM es c) : M.map fileD = filesE es := by
  have hp : (M.map (·.name)).Perm (es.map (·.k)) := (List.perm_ext_iff_of_nodup (srt_nodup h.sorted) hg.keys).2 fun k => by
    rw [← findC_mem, h.fnd, ← cont_has]
    exact ⟨mem_has, has_mem⟩
  have hk := hp.map (fun k : ByteArray => k.data.toList)
  rw [List.map_map, List.map_map] at hk
  have hs : ((M.map fun f => f.name.data.toList).mergeSort leB) = M.map fun f => f.name.data.toList := by
    refine List.mergeSort_of_pairwise (List.Pairwise.map _ (fun a b hab => ?_) h.sorted)
    simp only [leB, decide_eq_true_eq]
    exact List.le_of_lt hab
  have hn : namesE es = M.map (·.name) := by
    unfold namesE
    have hk' : (nameL es).Perm (M.map fun f => f.name.data.toList) := hk.symm
    rw [mergeSort_of_perm hk', hs, List.map_map]
    exact List.map_congr_left fun f _ => by obtain ⟨⟨⟨n⟩⟩, b⟩ := f; rfl
  unfold filesE
  rw [hn, List.map_map]
  refine List.map_congr_left fun f hf => ?_
  simp only [fileD, Function.comp]
  rw [cont_old, ← h.fnd, findC_of h.sorted hf]; rfl
theorem sum_files (kd : Int) (nm : ByteArray) (M : List FileV) : sumL kd nm M = ((M.map fileD).map fun p => if kd = 0 ∨ p.1 ≠ nm then p.2.length else 0).sum := by
  unfold sumL fsz
  rw [List.map_map]
  rfl
theorem sum_ents (kd : Int) (nm : ByteArray) {es : FM} {c : Nat} (hg : GoodM es c) {M : List FileV} (h : Rep M (cont es)) : sumL kd nm M = (es.map fun e => if kd = 0 ∨ e.k ≠ nm then e.v.l.length else 0).sum := by
  rw [sum_files, h.files hg]
  unfold filesE
  rw [List.map_map, perm_sum ((namesE_perm es).map _), List.map_map]
  congr 1
  exact List.map_congr_left fun e he => by simp only [Function.comp]; rw [oldE_of hg he]
theorem sum_all {es : FM} {c : Nat} (hg : GoodM es c) {M : List FileV} (h : Rep M (cont es)) (nm : ByteArray) : sumL 0 nm M = sizeE es := by
  rw [sum_ents 0 nm hg h]
  exact congrArg List.sum (List.map_congr_left fun e _ => if_pos (.inl rfl))
theorem sum_but {kd : Int} (hk : kd ≠ 0) {es : FM} {c : Nat} (hg : GoodM es c) {M : List FileV} (h : Rep M (cont es)) (nm : ByteArray) : sumL kd nm M + (oldE es nm).l.length = sizeE es := by
  rw [sum_ents kd nm hg h]
  have hn := hg.keys
  clear hg h
  induction es with
  | nil => simp [oldE, getE, sizeE, zB]
  | cons e es ih =>
    rw [List.map_cons, List.nodup_cons] at hn
    rw [List.map_cons, List.sum_cons, oldE_cons, size_cons]
    by_cases he : nm = e.k
    · rw [if_neg (by rintro (h | h); exact hk h; exact h he.symm), if_pos he]
      have : (es.map fun e => if kd = 0 ∨ e.k ≠ nm then e.v.l.length else 0).sum = sizeE es := by
        unfold sizeE
        congr 1
        exact List.map_congr_left fun d hd => if_pos (.inr fun hh => hn.1 (by rw [← he, ← hh]; exact List.mem_map.2 ⟨d, hd, rfl⟩))
      omega
    · rw [if_pos (.inr fun hh => he hh.symm), if_neg he]
      have := ih hn.2
      omega
theorem size_eq {d : DS} {r : RS} (h : Corr d r) (hg : GoodM d.e2 d.c2) {M : List FileV} (hM : Rep M (cont d.e2)) {ra : RActV} :
    (ra.kind = 0 → okSz r.room ra M = fitsB d.room d.e2 ra.b.l.length ((0 : Nat) : Int)) ∧ (ra.kind = 1 → okSz r.room ra M = fitsB d.room d.e2 ra.b.l.length ((oldE d.e2 ra.name).l.length : Nat)) ∧ (2 ≤ ra.kind → okSz r.room ra M = hasE d.e2 ra.name) := by
  refine ⟨fun hk => ?_, fun hk => ?_, fun hk => ?_⟩
  · unfold okSz fitsB
    rw [if_pos (show ra.kind ≤ 1 by omega), hk, sum_all hg hM, h.rm]
    exact decide_eq_decide.2 (by omega)
  · have := sum_but (show ra.kind ≠ 0 by omega) hg hM ra.name
    unfold okSz fitsB
    rw [if_pos (show ra.kind ≤ 1 by omega), h.rm]
    exact decide_eq_decide.2 (by omega)
  · unfold okSz
    rw [if_neg (show ¬ ra.kind ≤ 1 by omega), hM.fnd, ← cont_has]
/-- The four plain acts, told alike. -/
structure DDo (d : DS) (ra : RActV) (ok : Bool) (d' : DS) (e : Int) : Prop where
  tell : (d.down = true ∧ e = 14 ∧ d' = d) ∨ (d.down = false ∧ okNm ra = false ∧ e = 15 ∧ d' = d) ∨ (d.down = false ∧ okNm ra = true ∧ ok = false ∧ e = (if ra.kind ≤ 1 then 4 else 13) ∧ d' = d) ∨
    (d.down = false ∧ okNm ra = true ∧ ok = true ∧ ∃ (a : ActV) (fp : List Nat) (bs : List BS), actEq a ra ∧ a.name = ra.name ∧ (a.kind = 3 → a.to = ra.to) ∧ DoR { d with fp := fp, bs := bs } a d' e)
theorem ddo_of {N M : Nat} {ra : RActV} {d d' : DS} {e : Int} (h : StepR N M ra d d' e) (h4 : ra.kind < 4) (h0 : 0 ≤ ra.kind) {ok : Bool}
    (hz : (ra.kind = 0 → ok = fitsB d.room d.e2 ra.b.l.length ((0 : Nat) : Int)) ∧ (ra.kind = 1 → ok = fitsB d.room d.e2 ra.b.l.length ((oldE d.e2 ra.name).l.length : Nat)) ∧ (2 ≤ ra.kind → ok = hasE d.e2 ra.name)) : DDo d ra ok d' e := by
  constructor
  rcases h with ⟨hk, h⟩ | ⟨hk, h⟩ | ⟨hk, h⟩ | ⟨hk, h⟩ | ⟨hk, -⟩ | ⟨hk, -⟩ | ⟨hk, -⟩ | ⟨hk, -⟩
  · have hnm : okNm ra = namedB ra.name := by unfold okNm; rw [if_neg (show ¬ ra.kind = 2 by omega), Bool.and_true]
    rw [hnm, hz.1 hk, if_pos (show ra.kind ≤ 1 by omega)]
    rcases h with h | h | h | ⟨h1, h2, h3, cl, fp, hcl, hd⟩
    · exact .inl h
    · exact .inr (.inl h)
    · exact .inr (.inr (.inl h))
    · exact .inr (.inr (.inr ⟨h1, h2, h3, (⟨1, ra.name, ⟨#[]⟩, cl⟩ : ActV), fp, cl :: d.bs, ⟨by show (1 : Int) = ra.kind + 1; omega, ⟨h0, h4⟩, rfl, (fun hh => by omega), fun _ => hcl⟩, rfl, (fun hh => by cases hh), hd⟩))
  · have hnm : okNm ra = namedB ra.name := by unfold okNm; rw [if_neg (show ¬ ra.kind = 2 by omega), Bool.and_true]
    rw [hnm, hz.2.1 hk, if_pos (show ra.kind ≤ 1 by omega)]
    rcases h with h | h | h | ⟨h1, h2, h3, cl, fp, hcl, hd⟩
    · exact .inl h
    · exact .inr (.inl h)
    · exact .inr (.inr (.inl h))
    · exact .inr (.inr (.inr ⟨h1, h2, h3, (⟨2, ra.name, ⟨#[]⟩, cl⟩ : ActV), fp, cl :: d.bs, ⟨by show (2 : Int) = ra.kind + 1; omega, ⟨h0, h4⟩, rfl, (fun hh => by omega), fun _ => hcl⟩, rfl, (fun hh => by cases hh), hd⟩))
  · have hnm : okNm ra = (namedB ra.name && namedB ra.to) := by unfold okNm; rw [if_pos hk]
    rw [hnm, hz.2.2 (by omega), if_neg (show ¬ ra.kind ≤ 1 by omega)]
    rcases h with h | h | h | ⟨h1, h2, h3, hd⟩
    · exact .inl h
    · exact .inr (.inl h)
    · exact .inr (.inr (.inl h))
    · exact .inr (.inr (.inr ⟨h1, h2, h3, (⟨3, ra.name, ra.to, ⟨none, 0, []⟩⟩ : ActV), d.fp, d.bs, ⟨by show (3 : Int) = ra.kind + 1; omega, ⟨h0, h4⟩, rfl, (fun _ => rfl), (fun hh => by omega)⟩, rfl, (fun _ => rfl), hd⟩))
  · have hnm : okNm ra = namedB ra.name := by unfold okNm; rw [if_neg (show ¬ ra.kind = 2 by omega), Bool.and_true]
    rw [hnm, hz.2.2 (by omega), if_neg (show ¬ ra.kind ≤ 1 by omega)]
    rcases h with h | h | h | ⟨h1, h2, h3, hd⟩
    · exact .inl h
    · exact .inr (.inl h)
    · exact .inr (.inr (.inl h))
    · exact .inr (.inr (.inr ⟨h1, h2, h3, (⟨4, ra.name, ⟨#[]⟩, ⟨none, 0, []⟩⟩ : ActV), d.fp, d.bs, ⟨by show (4 : Int) = ra.kind + 1; omega, ⟨h0, h4⟩, rfl, (fun hh => by omega), (fun hh => by omega)⟩, rfl, (fun hh => by cases hh), hd⟩))
  all_goals (exfalso; omega)
theorem okNm_size {ra : RActV} (h : okNm ra = true) : ra.name.size ≤ 24 ∧ (ra.kind = 2 → ra.to.size ≤ 24) := by
  unfold okNm at h
  rw [Bool.and_eq_true] at h
  exact ⟨named_size h.1, fun hk => by have := h.2; rw [if_pos hk] at this; exact named_size this⟩
/-- A disk and the reference answer alike, and stay alike. -/
theorem corr_step {N M kp : Nat} {ra : RActV} {d d' : DS} {r r' : RS} {e e' : Int} {L : List FileV} (h : Corr d r) (hg1 : GoodM d.e1 d.c1) (hg : GoodM d.e2 d.c2) (h0 : 0 ≤ ra.kind ∧ ra.kind ≤ 7) (hkp : ra.p.keep = (kp : Int)) (hs : StepX N M ra d d' e)
    (hL : ∀ f, Rep r.syn.ls f → Rep L (r.pend.foldl (fun f a => doF f (acV a)) f)) (hr : RDo kp r ra L r' e') : e = e' ∧ Corr d' r' := by
  have hM := h.now hL
  by_cases h4 : ra.kind < 4
  · have hR := hs.toR
    obtain ⟨hd⟩ := ddo_of hR h4 h0.1 (size_eq h hg hM)
    have hr2 := hr
    rcases hr with ⟨hk, -⟩ | ⟨hk, -⟩ | ⟨hk, -⟩ | ⟨hk, -⟩ | ⟨-, r1, r2, r3⟩ | ⟨-, r1, r2, r3, r4⟩ | ⟨-, r1, r2, r3, r4, r5⟩ | ⟨-, r1, r2, r3, r4, r5, r6⟩ | ⟨-, r1, r2, r3, r4, r5, pa, pc, r6⟩
    · omega
    · omega
    · omega
    · omega
    · rcases hd with ⟨d1, d2, d3⟩ | ⟨d1, -⟩ | ⟨d1, -⟩ | ⟨d1, -⟩
      · rw [d2, d3, r2, r3]; exact ⟨rfl, h⟩
      all_goals (rw [h.dn, r1] at d1; cases d1)
    · rcases hd with ⟨d1, -⟩ | ⟨d1, d2, d3, d4⟩ | ⟨d1, d2, -⟩ | ⟨d1, d2, -⟩
      · rw [h.dn, r1] at d1; cases d1
      · rw [d3, d4, r3, r4]; exact ⟨rfl, h⟩
      all_goals (rw [r2] at d2; cases d2)
    · rcases hd with ⟨d1, -⟩ | ⟨d1, d2, -⟩ | ⟨d1, d2, d3, d4, d5⟩ | ⟨d1, d2, d3, -⟩
      · rw [h.dn, r1] at d1; cases d1
      · rw [r2] at d2; cases d2
      · rw [d4, d5, r4, r5]; exact ⟨rfl, h⟩
      · rw [r3] at d3; cases d3
    · rcases hd with ⟨d1, -⟩ | ⟨d1, d2, -⟩ | ⟨d1, d2, d3, -⟩ | ⟨d1, d2, d3, a, fp, bs, ha, hn, ht, hd⟩
      · rw [h.dn, r1] at d1; cases d1
      · rw [r2] at d2; cases d2
      · rw [r3] at d3; cases d3
      · rcases hd with ⟨hb, he, rfl⟩ | ⟨hb, -⟩
        · rw [he, r5, r6]
          exact ⟨rfl, ⟨h.rm, by show burnF d.fuse = burnF r.fuse; rw [h.fu], rfl, h.pend, h.rep, h.ai, h.key, h.sh⟩⟩
        · rw [show burnD d.fuse d.down = _ from by rw [h.fu, h.dn]] at hb; rw [r4] at hb; cases hb
    · rcases hd with ⟨d1, -⟩ | ⟨d1, d2, -⟩ | ⟨d1, d2, d3, -⟩ | ⟨d1, d2, d3, a, fp, bs, ha, hn, ht, hd⟩
      · rw [h.dn, r1] at d1; cases d1
      · rw [r2] at d2; cases d2
      · rw [r3] at d3; cases d3
      · have hcon := hd.con hg (show AInv { d with fp := fp, bs := bs } from h.ai)
        have hsz := okNm_size d2
        rcases hd with ⟨hb, -⟩ | ⟨hb, he, x, pa', pc', fp', hx, rfl⟩
        · rw [show burnD d.fuse d.down = _ from by rw [h.fu, h.dn]] at hb; rw [r4] at hb; cases hb
        · rw [he, r5, r6]
          refine ⟨rfl, ⟨h.rm, by show burnF d.fuse = burnF r.fuse; rw [h.fu], rfl, h.pend.snoc ha, h.rep, hcon.1, h.key, fun b hb' => ?_⟩⟩
          rcases List.mem_append.1 hb' with h1 | h1
          · exact h.sh b h1
          · obtain rfl : b = a := by simpa using h1
            exact ⟨by rw [hn]; exact hsz.1, fun hk3 => by rw [ht hk3]; exact hsz.2 (by have := ha.1; omega)⟩
  · rcases hs with ⟨h5, he, kp', hk', hc⟩ | ⟨h5, hR⟩
    · obtain rfl : kp' = kp := by have := hk'.symm.trans hkp; omega
      rcases hr with ⟨hk, -⟩ | ⟨hk, r1, y, r2, r3⟩ | ⟨hk, -⟩ | ⟨hk, -⟩ | ⟨hk, -⟩ | ⟨hk, -⟩ | ⟨hk, -⟩ | ⟨hk, -⟩ | ⟨hk, -⟩
      · omega
      · have hcon := hc.con
        have hcr := cr_eq (kp := kp') (torn := ra.p.torn) (cut := ra.p.cut) (cont d.e1) h.pend
        obtain ⟨e1, c1, q, fp, bs, hcx, rfl⟩ := hc
        rw [he, r1, r3]
        replace hcon : cont e1 = crF kp' ra.p.torn ra.p.cut (cont d.e1) d.pend := hcon
        refine ⟨rfl, ⟨h.rm, rfl, rfl, trivial, ?_, rfl, ?_, fun b hb => by cases hb⟩⟩
        · show Rep y.ls (cont e1)
          rw [hcon, hcr]; exact r2 _ h.rep
        · show KeyC (cont e1)
          rw [hcon]; exact h.key.crF h.sh
      all_goals (exfalso; omega)
    · rcases hR with ⟨hk, -⟩ | ⟨hk, -⟩ | ⟨hk, -⟩ | ⟨hk, -⟩ | ⟨hk, he, hsy⟩ | ⟨hk, -⟩ | ⟨hk, he, q1, q2, pa, pc, rfl⟩ | ⟨hk, he, rfl⟩
      · omega
      · omega
      · omega
      · omega
      · rcases hr with ⟨-, r1, r2⟩ | ⟨hk', -⟩ | ⟨hk', -⟩ | ⟨hk', -⟩ | ⟨hk', -⟩ | ⟨hk', -⟩ | ⟨hk', -⟩ | ⟨hk', -⟩ | ⟨hk', -⟩
        · rw [he, r1]
          refine ⟨rfl, ?_⟩
          rcases hsy with ⟨hb, rfl⟩ | ⟨hb, q1, q2, rfl⟩
          · rcases r2 with ⟨-, r3⟩ | ⟨r3, -⟩
            · rw [r3]; exact ⟨h.rm, by show burnF d.fuse = burnF r.fuse; rw [h.fu], rfl, h.pend, h.rep, h.ai, h.key, h.sh⟩
            · rw [h.fu, h.dn, r3] at hb; cases hb
          · rcases r2 with ⟨r3, -⟩ | ⟨-, y, r4, r5⟩
            · rw [h.fu, h.dn, r3] at hb; cases hb
            · rw [r5]; exact ⟨h.rm, by show burnF d.fuse = burnF r.fuse; rw [h.fu], rfl, trivial, by show Rep y.ls (cont d.e2); rw [r4]; exact hM, rfl, h.key2, fun b hb => by cases hb⟩
        all_goals (exfalso; omega)
      · exact absurd hk h5
      · rcases hr with ⟨hk', -⟩ | ⟨hk', -⟩ | ⟨-, r1, r2⟩ | ⟨hk', -⟩ | ⟨hk', -⟩ | ⟨hk', -⟩ | ⟨hk', -⟩ | ⟨hk', -⟩ | ⟨hk', -⟩
        · omega
        · omega
        · rw [he, r1, r2]; exact ⟨rfl, ⟨h.rm, h.fu, h.dn, h.pend, h.rep, h.ai, h.key, h.sh⟩⟩
        all_goals (exfalso; omega)
      · rcases hr with ⟨hk', -⟩ | ⟨hk', -⟩ | ⟨hk', -⟩ | ⟨-, r1, r2⟩ | ⟨hk', -⟩ | ⟨hk', -⟩ | ⟨hk', -⟩ | ⟨hk', -⟩ | ⟨hk', -⟩
        · omega
        · omega
        · omega
        · rw [he, r1, r2]
          exact ⟨rfl, ⟨h.rm, by show (if d.down = true then d.fuse else ra.n) = (if r.down = true then r.fuse else ra.n); rw [h.fu, h.dn], h.dn, h.pend, h.rep, h.ai, h.key, h.sh⟩⟩
        all_goals (exfalso; omega)
theorem corr_new (r1 r2 : Nat) (n : Int) : Corr (newS r1 r2 n) (newR n) := ⟨rfl, rfl, rfl, trivial, Rep.nil, rfl, (fun k hk => by cases hk), (fun a ha => by cases ha)⟩

end Go.Proofs.Ytededghplnoajaa
