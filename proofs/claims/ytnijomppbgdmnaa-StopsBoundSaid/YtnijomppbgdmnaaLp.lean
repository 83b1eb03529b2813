/- Plain law: what is put is got; what is sealed opens. -/
import Derived.Test.YtnijomppbgdmnaaSet
namespace Go.Proofs.Ytnijomppbgdmnaa
open Go.RowKit Go.Sx
set_option maxRecDepth 100000
set_option linter.unusedSimpArgs false
set_option linter.unusedVariables false

theorem be_at {l r : List UInt8} {o x n : Nat} (h : l.drop o = fixed x n ++ r) (hx : x < 256 ^ n) : be l o n = (x : Int) := by
  unfold be
  rw [h, List.take_append_of_le_length (by rw [fixed_length]; exact Nat.le_refl _), List.take_of_length_le (by rw [fixed_length]; exact Nat.le_refl _), fixed_beN, Nat.mod_eq_of_lt hx]
theorem next_fixed {l r : List UInt8} {o x n : Nat} (h : l.drop o = fixed x n ++ r) : l.drop (o + n) = r := by
  have := drop_next h
  rwa [fixed_length] at this
theorem packed_pos (x : Nat) : 0 < (packed x).length := by unfold packed; split <;> simp
theorem textB_pos (t : List UInt8) : 0 < (textB t).length := by have := packed_pos t.length; simp [textB]; omega
theorem prs_texts : ∀ ps : List (List UInt8), (∀ x ∈ ps, x.length ≤ 65536) → prs ps.length (texts ps) = (0, ps, (texts ps).length)
  | [], _ => by simp [prs, texts]
  | x :: ps, h => by
    have h1 := prs_texts ps (fun y hy => h y (by simp [hy]))
    have hx := h x (by simp)
    have h2 := rdText_text x 65536 (texts ps) (by omega) (by omega)
    rw [show packed x.length ++ x ++ texts ps = texts (x :: ps) from by rw [texts_cons]; rfl] at h2
    have h3 : (texts (x :: ps)).drop (packed x.length ++ x).length = texts ps := by rw [texts_cons]; exact List.drop_left
    rw [List.length_cons, prs, h2, if_neg (by simp)]
    simp only [h3, h1]
    rw [if_neg (by simp), texts_cons]
    simp [textB]
    omega
theorem msgB_form {m : MsgD} (hf : formedM m = true) : ∃ kn fn vn rn sn : Nat, m.kind = kn ∧ m.frm = fn ∧ m.view = vn ∧ m.reg = rn ∧ m.slot = sn ∧ kn < 256 ∧ fn < 256 ∧ vn < 256 ∧ rn < 256 ∧ sn < 256 ∧
    msgB m = fixed kn 1 ++ (fixed fn 1 ++ (fixed vn 2 ++ (fixed rn 2 ++ (fixed sn 2 ++ (m.hash.toList ++ (textB m.body ++ (packed m.parts.length ++ texts m.parts))))))) := by
  have h := (formedM_iff m).1 hf
  obtain ⟨kn, e1⟩ := Int.eq_ofNat_of_zero_le (show 0 ≤ m.kind by omega)
  obtain ⟨fn, e2⟩ := Int.eq_ofNat_of_zero_le (show 0 ≤ m.frm by omega)
  obtain ⟨vn, e3⟩ := Int.eq_ofNat_of_zero_le (show 0 ≤ m.view by omega)
  obtain ⟨rn, e4⟩ := Int.eq_ofNat_of_zero_le (show 0 ≤ m.reg by omega)
  obtain ⟨sn, e5⟩ := Int.eq_ofNat_of_zero_le (show 0 ≤ m.slot by omega)
  have u : ∀ n : Nat, n < 256 → (u64 (n : Int)).toNat = n := fun n hn => by
    unfold u64; rw [wrap_u64 (by omega) (by omega)]; rfl
  refine ⟨kn, fn, vn, rn, sn, e1, e2, e3, e4, e5, by omega, by omega, by omega, by omega, by omega, ?_⟩
  simp only [msgB, headM, preM, numM, wid, e1, e2, e3, e4, e5, u kn (by omega), u fn (by omega), u vn (by omega), u rn (by omega), u sn (by omega), List.append_assoc, List.nil_append]
theorem getM_msgB {m : MsgD} (h : (putM m).2 = 0) (hs : SmallM m) : getM (msgB m) = (0, m) := by
  obtain ⟨-, hf, hlen, hp16⟩ := putM_ok h
  obtain ⟨kn, fn, vn, rn, sn, e1, e2, e3, e4, e5, l1, l2, l3, l4, l5, hb⟩ := msgB_form hf
  refine getM_good (by omega) ?_
  obtain ⟨l, hl⟩ : ∃ l, l = msgB m := ⟨_, rfl⟩
  rw [← hl] at hb hlen ⊢
  have d0 : l.drop 0 = fixed kn 1 ++ _ := hb
  have d1 := next_fixed d0
  have d2 := next_fixed d1
  have d3 := next_fixed d2
  have d4 := next_fixed d3
  have d5 : l.drop 8 = m.hash.toList ++ _ := next_fixed d4
  have d6 : l.drop (8 + 32) = textB m.body ++ (packed m.parts.length ++ texts m.parts) := by
    have := drop_next d5
    rwa [Vector.length_toList] at this
  have hbr : bodyR l = (0, m.body, (textB m.body).length) := by
    unfold bodyR
    rw [d6]
    exact rdText_text m.body 65536 _ (by have := hs.body; omega) (by have := hs.body; omega)
  have d7 : l.drop (8 + 32 + (bodyR l).2.2) = packed m.parts.length ++ texts m.parts := by
    rw [hbr]; exact drop_next d6
  have hbz : (bodyR l).1 = 0 := by rw [hbr]
  have hc : rdCount (packed m.parts.length ++ texts m.parts) 16 = (0, m.parts.length, (packed m.parts.length).length) := rdCount_packed _ _ _ (by omega) (by omega)
  have hpr := prs_texts m.parts (fun x hx => by have := hs.each x hx; omega)
  have hrr : restR l = (0, m.parts, (packed m.parts.length).length + (texts m.parts).length) := by
    unfold restR
    rw [d7, partsR, hc, if_neg (by simp)]
    simp only [List.drop_left, hpr]
    rw [if_neg (by simp)]
  have hrz : (restR l).1 = 0 := by rw [hrr]
  have hle6 := drop_le d6 (textB_pos _)
  have hll : l.length = 8 + 32 + ((textB m.body).length + ((packed m.parts.length).length + (texts m.parts).length)) := by
    have := congrArg List.length d6
    simp only [List.length_drop, List.length_append] at this
    omega
  have hend : ¬ 8 + 32 + (bodyR l).2.2 + (restR l).2.2 < l.length := by rw [hbr, hrr]; simp only; omega
  have hh : hashAt l = m.hash := by
    apply Vector.ext
    intro i hi
    have h1 : l[8 + i]? = some m.hash[i] := by
      rw [← List.getElem?_drop, d5, List.getElem?_append_left (by simpa using hi)]
      simp [hi]
    simp [hashAt, List.getD, h1]
  have hr : readM l = m := by
    unfold readM
    rw [be_at d0 (by omega), be_at d1 (by omega), be_at d2 (by omega), be_at d3 (by omega), be_at d4 (by omega), hh, hbr, hrr, ← e1, ← e2, ← e3, ← e4, ← e5]
  rw [msgR_end (by omega) hbz hrz hend, hr, if_pos hf]
theorem openK_of {K : List (List UInt8)} {m : MsgD} (h : (putM m).2 = 0) (hs : SmallM m) (t : Vector UInt8 32) :
    openK K (msgB m ++ t.toList) = if (K.length : Int) ≤ m.frm then (6, .zero) else if tagOf (K.getD m.frm.toNat []) (msgB m) ≠ t then (5, .zero) else (0, m) := by
  have e1 : (msgB m ++ t.toList).length - 32 = (msgB m).length := by simp
  have e2 : (msgB m ++ t.toList).take (msgB m).length = msgB m := List.take_left
  have e3 : (msgB m ++ t.toList).drop (msgB m).length = t.toList := List.drop_left
  have hg := getM_msgB h hs
  unfold openK
  rw [if_neg (by simp), e1, e2, e3, hg, if_neg (by simp), vec32_toList]
theorem openK_seal {K : List (List UInt8)} {m : MsgD} (h : (sealK K m).2 = 0) (hs : SmallM m) : openK K (sealK K m).1 = (0, m) := by
  by_cases h1 : (putM m).2 ≠ 0
  · rw [sealK_err h1] at h; exact absurd h h1
  · have h1 : (putM m).2 = 0 := by omega
    by_cases h2 : (K.length : Int) ≤ m.frm
    · rw [sealK_who h1 h2] at h; simp at h
    · rw [sealK_ok h1 h2]
      simp only [(putM_ok h1).1]
      rw [openK_of h1 hs, if_neg h2, if_neg (by simp)]

end Go.Proofs.Ytnijomppbgdmnaa
