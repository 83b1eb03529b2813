/- Walks: the readers of package nums. -/
import Derived.Test.YtededghplnoajaaNums
import Derived.Test.YtededghplnoajaaSd
namespace Go.Proofs.Ytededghplnoajaa
open Go.RowKit Go.Sx
set_option maxRecDepth 100000
set_option linter.unusedSimpArgs false
set_option linter.unusedVariables false

theorem or_add (x c i : Nat) (h : c < 2 ^ i) : x * 2 ^ i ||| c = x * 2 ^ i + c := by
  rw [← Nat.shiftLeft_eq, Nat.shiftLeft_add_eq_or_of_lt h]
theorem or_addr (x c i : Nat) (h : x < 2 ^ i) : x ||| c * 2 ^ i = x + c * 2 ^ i := by
  rw [Nat.or_comm, or_add c x i h, Nat.add_comm]
/-! What is read -/
def beN (l : List UInt8) : Nat := l.foldl (fun x c => x * 256 + c.toNat) 0
theorem beN_snoc (l : List UInt8) (c : UInt8) : beN (l ++ [c]) = beN l * 256 + c.toNat := by simp [beN]
theorem beN_lt : ∀ l : List UInt8, beN l < 256 ^ l.length := by
  intro l
  have key : ∀ (l : List UInt8) (x n : Nat), x < 256 ^ n → l.foldl (fun x c => x * 256 + c.toNat) x < 256 ^ (n + l.length) := by
    intro l
    induction l with
    | nil => intro x n h; simpa using h
    | cons c l ih =>
      intro x n h
      have h1 := ih (x * 256 + c.toNat) (n + 1) (by have := c.toNat_lt; rw [Nat.pow_succ]; omega)
      simpa [Nat.add_assoc, Nat.add_comm 1] using h1
  simpa [beN] using key l 0 0 (by simp)
/-- A fixed number of n bytes: the error, the number, how many bytes that takes. -/
def rdFixed (l : List UInt8) (n : Int) : Int × Nat × Nat :=
  if wideB n = false then (15, 0, 0) else if (l.length : Int) < n then (1, 0, 0) else (0, beN (l.take n.toNat), n.toNat)
def pk (l : List UInt8) : Nat → Nat → Nat → Int × Nat × Nat
  | 0, _, _ => (2, 0, 0)
  | f + 1, i, x => match l[i]? with
    | none => (1, 0, 0)
    | some c => if i = 9 ∧ 1 < c.toNat then (2, 0, 0)
      else if c.toNat < 128 then (if c.toNat = 0 ∧ 0 < i then (2, 0, 0) else (0, x + c.toNat % 128 * 128 ^ i, i + 1))
      else pk l f (i + 1) (x + c.toNat % 128 * 128 ^ i)
/-- A packed number. -/
def rdPacked (l : List UInt8) : Int × Nat × Nat := pk l 10 0 0
/-- .. that is no more than a bound. -/
def rdCount (l : List UInt8) (most : Int) : Int × Nat × Nat :=
  if (rdPacked l).1 ≠ 0 then ((rdPacked l).1, 0, 0) else if most < 0 ∨ most < ((rdPacked l).2.1 : Int) then (3, 0, 0) else rdPacked l
/-- A text. -/
def rdText (l : List UInt8) (most : Int) : Int × List UInt8 × Nat :=
  if (rdCount l most).1 ≠ 0 then ((rdCount l most).1, [], 0)
  else if l.length < (rdCount l most).2.2 + (rdCount l most).2.1 then (1, [], 0)
  else (0, (l.drop (rdCount l most).2.2).take (rdCount l most).2.1, (rdCount l most).2.2 + (rdCount l most).2.1)
theorem rdFixed_err {l : List UInt8} {n : Int} (h : (rdFixed l n).1 ≠ 0) : (rdFixed l n).2 = (0, 0) := by
  unfold rdFixed at h ⊢
  split
  · rfl
  · split
    · rfl
    · rename_i h1 h2; simp [h1, h2] at h
theorem pk_err (l : List UInt8) : ∀ f i x, (pk l f i x).1 ≠ 0 → (pk l f i x).2 = (0, 0)
  | 0, _, _, _ => rfl
  | f + 1, i, x, h => by
    unfold pk at h ⊢
    cases hl : l[i]? with
    | none => rfl
    | some c =>
      simp only [hl] at h ⊢
      split
      · rfl
      · rename_i h1
        simp only [h1, if_false] at h
        split
        · rename_i h2
          simp only [h2, if_true] at h
          split
          · rfl
          · rename_i h3; simp [h3] at h
        · rename_i h2
          simp only [h2, if_false] at h
          exact pk_err l f (i + 1) _ h
theorem rdPacked_err {l : List UInt8} (h : (rdPacked l).1 ≠ 0) : (rdPacked l).2 = (0, 0) := pk_err l 10 0 0 h
theorem pk_bound (l : List UInt8) : ∀ f i x, f + i = 10 → i ≤ l.length → x < 128 ^ i → (pk l f i x).2.2 ≤ 10 ∧ (pk l f i x).2.2 ≤ l.length ∧ (pk l f i x).2.1 < 18446744073709551616
  | 0, _, _, _, _, _ => by simp [pk]
  | f + 1, i, x, hf, hi, hx => by
    unfold pk
    cases hl : l[i]? with
    | none => simp
    | some c =>
      have hlt : i < l.length := (List.getElem?_eq_some_iff.1 hl).1
      simp only
      have hx2 : x + c.toNat % 128 * 128 ^ i < 128 ^ (i + 1) := by
        have h1 : c.toNat % 128 < 128 := Nat.mod_lt _ (by decide)
        have h2 := Nat.mul_le_mul_right (128 ^ i) (show c.toNat % 128 ≤ 127 by omega)
        rw [Nat.pow_succ]; omega
      split
      · simp
      · rename_i h9
        split
        · split
          · simp
          · refine ⟨by simp; omega, by simp; omega, ?_⟩
            show x + c.toNat % 128 * 128 ^ i < _
            by_cases hi9 : i = 9
            · subst hi9
              have h1 : c.toNat ≤ 1 := by omega
              have h3 : (128 : Nat) ^ 9 = 9223372036854775808 := by decide
              rw [h3] at hx ⊢
              have : c.toNat % 128 ≤ 1 := by omega
              omega
            · have h4 : (128 : Nat) ^ (i + 1) ≤ 128 ^ 9 := Nat.pow_le_pow_right (by decide) (by omega)
              have h3 : (128 : Nat) ^ 9 = 9223372036854775808 := by decide
              omega
        · exact pk_bound l f (i + 1) _ (by omega) (by omega) hx2
theorem rdPacked_bound (l : List UInt8) : (rdPacked l).2.2 ≤ 10 ∧ (rdPacked l).2.2 ≤ l.length ∧ (rdPacked l).2.1 < 18446744073709551616 := pk_bound l 10 0 0 rfl (by omega) (by simp)
theorem rdCount_err {l : List UInt8} {m : Int} (h : (rdCount l m).1 ≠ 0) : (rdCount l m).2 = (0, 0) := by
  unfold rdCount at h ⊢
  split
  · rfl
  · rename_i h1
    split
    · rfl
    · rename_i h2; simp [h1, h2] at h
theorem rdCount_ok {l : List UInt8} {m : Int} (h : (rdCount l m).1 = 0) : rdCount l m = rdPacked l ∧ ((rdPacked l).2.1 : Int) ≤ m ∧ (rdPacked l).1 = 0 := by
  unfold rdCount at h ⊢
  split
  · rename_i h1; simp [h1] at h
  · rename_i h1
    split
    · rename_i h2; simp [h1, h2] at h
    · exact ⟨rfl, by omega, by omega⟩
theorem rdCount_bound (l : List UInt8) (m : Int) : (rdCount l m).2.2 ≤ 10 ∧ (rdCount l m).2.2 ≤ l.length ∧ (rdCount l m).2.1 < 18446744073709551616 := by
  have := rdPacked_bound l
  unfold rdCount
  split
  · simp
  · split
    · simp
    · exact this
theorem rdText_bound (l : List UInt8) (m : Int) : (rdText l m).2.2 ≤ l.length ∧ (rdText l m).2.1.length ≤ l.length := by
  unfold rdText
  split
  · simp
  · split
    · simp
    · refine ⟨by simp; omega, by simp; omega⟩
theorem rdText_err {l : List UInt8} {m : Int} (h : (rdText l m).1 ≠ 0) : (rdText l m).2 = ([], 0) := by
  unfold rdText at h ⊢
  split
  · rfl
  · rename_i h1
    split
    · rfl
    · rename_i h2; simp [h1, h2] at h
/-! What is put is read -/
theorem fixed_beN (x : Nat) : ∀ n, beN (fixed x n) = x % 256 ^ n := by
  intro n
  have key : ∀ i, i ≤ n → beN ((fixed x n).take i) = x / 256 ^ (n - i) % 256 ^ i := by
    intro i
    induction i with
    | zero => intro _; simp [beN, Nat.mod_one]
    | succ i ih =>
      intro hi
      rw [fixed_take x n i (by omega), beN_snoc, ih (by omega), UInt8.toNat_ofNat']
      have e1 : n - 1 - i = n - (i + 1) := by omega
      have e2 : n - i = n - (i + 1) + 1 := by omega
      rw [e1, e2, Nat.pow_succ, ← Nat.div_div_eq_div_mul, show (2 ^ 8 : Nat) = 256 from rfl, Nat.mod_mod]
      generalize x / 256 ^ (n - (i + 1)) = y
      rw [Nat.pow_succ, Nat.mul_comm (256 ^ i) 256, Nat.mod_mul]
      omega
  have := key n (Nat.le_refl _)
  rw [List.take_of_length_le (by rw [fixed_length]; exact Nat.le_refl _)] at this
  simpa using this
theorem rdFixed_fixed (x n : Nat) (rest : List UInt8) (hn : wideB n = true) (hx : x < 256 ^ n) : rdFixed (fixed x n ++ rest) n = (0, x, n) := by
  unfold rdFixed
  rw [if_neg (by simp [hn]), if_neg (by simp [fixed_length]; omega)]
  rw [show ((n : Int)).toNat = n from rfl, List.take_append_of_le_length (by simp [fixed_length]), List.take_of_length_le (by simp [fixed_length]), fixed_beN, Nat.mod_eq_of_lt hx]
theorem pk_packed (rest : List UInt8) : ∀ (x f i acc : Nat) (pre : List UInt8), pre.length = i → f + i = 10 → x * 128 ^ i < 18446744073709551616 → (0 < i → 0 < x) → pk (pre ++ (packed x ++ rest)) f i acc = (0, acc + x * 128 ^ i, i + (packed x).length) := by
  intro x
  induction x using Nat.strongRecOn with
  | _ x ih =>
    intro f i acc pre hp hf hx h0
    have hi : i < 10 := by
      rcases Nat.lt_or_ge i 10 with h | h
      · exact h
      · have h1 : (128 : Nat) ^ 10 ≤ 128 ^ i := Nat.pow_le_pow_right (by decide) h
        have h2 : 1 * 128 ^ i ≤ x * 128 ^ i := Nat.mul_le_mul_right _ (h0 (by omega))
        have h3 : (128 : Nat) ^ 10 = 1180591620717411303424 := by decide
        omega
    obtain ⟨f, rfl⟩ : ∃ g, f = g + 1 := ⟨f - 1, by omega⟩
    have h9 : i = 9 → x ≤ 1 := by
      rintro rfl
      have h3 : (128 : Nat) ^ 9 = 9223372036854775808 := by decide
      rw [h3] at hx; omega
    by_cases hs : x < 128
    · rw [packed_small hs, pk]
      have hg : (pre ++ ([UInt8.ofNat x] ++ rest))[i]? = some (UInt8.ofNat x) := by rw [← hp]; simp
      have ht : (UInt8.ofNat x).toNat = x := by rw [UInt8.toNat_ofNat']; omega
      simp only [hg, ht]
      rw [if_neg (by omega), if_pos hs, if_neg (by omega), Nat.mod_eq_of_lt hs]
      simp
    · rw [packed_big hs, pk]
      have hg : (pre ++ (UInt8.ofNat (x % 128 + 128) :: packed (x / 128) ++ rest))[i]? = some (UInt8.ofNat (x % 128 + 128)) := by rw [← hp]; simp
      have ht : (UInt8.ofNat (x % 128 + 128)).toNat = x % 128 + 128 := by rw [UInt8.toNat_ofNat']; omega
      simp only [hg, ht]
      rw [if_neg (by omega), if_neg (by omega)]
      have e : pre ++ (UInt8.ofNat (x % 128 + 128) :: packed (x / 128) ++ rest) = (pre ++ [UInt8.ofNat (x % 128 + 128)]) ++ (packed (x / 128) ++ rest) := by simp
      have hm : x / 128 * 128 ^ (i + 1) ≤ x * 128 ^ i := by
        rw [Nat.pow_succ, Nat.mul_comm (128 ^ i) 128, ← Nat.mul_assoc]
        exact Nat.mul_le_mul_right _ (by omega)
      rw [e, ih (x / 128) (by omega) f (i + 1) _ _ (by simp [hp]) (by omega) (by omega) (by omega)]
      have e2 : (x % 128 + 128) % 128 = x % 128 := by omega
      have e3 : x % 128 * 128 ^ i + x / 128 * 128 ^ (i + 1) = x * 128 ^ i := by
        rw [Nat.pow_succ, Nat.mul_comm (128 ^ i) 128, ← Nat.mul_assoc, ← Nat.add_mul]
        congr 1; omega
      rw [e2, Nat.add_assoc, e3, List.length_cons]
      congr 2; omega
theorem rdPacked_packed (x : Nat) (rest : List UInt8) (hx : x < 18446744073709551616) : rdPacked (packed x ++ rest) = (0, x, (packed x).length) := by
  have := pk_packed rest x 10 0 0 [] rfl rfl (by simpa using hx) (by omega)
  simpa [rdPacked] using this
theorem rdCount_packed (x : Nat) (m : Int) (rest : List UInt8) (hx : x < 18446744073709551616) (hm : (x : Int) ≤ m) : rdCount (packed x ++ rest) m = (0, x, (packed x).length) := by
  unfold rdCount
  rw [rdPacked_packed x rest hx]
  simp; omega
theorem rdText_text (t : List UInt8) (m : Int) (rest : List UInt8) (ht : t.length < 18446744073709551616) (hm : (t.length : Int) ≤ m) : rdText (packed t.length ++ t ++ rest) m = (0, t, (packed t.length ++ t).length) := by
  unfold rdText
  rw [List.append_assoc, rdCount_packed t.length m (t ++ rest) ht hm]
  simp

theorem pk_short {l : List UInt8} {i x : Nat} (hi : i < 10) (h : l.length ≤ i) : pk l (10 - i) i x = (1, 0, 0) := by
  obtain ⟨f, hf⟩ : ∃ f, 10 - i = f + 1 := ⟨9 - i, by omega⟩
  rw [hf, pk, List.getElem?_eq_none h]
theorem pk_at {l : List UInt8} {i x : Nat} {c : UInt8} (hi : i < 10) (h : l[i]? = some c) : pk l (10 - i) i x = if i = 9 ∧ 1 < c.toNat then (2, 0, 0)
      else if c.toNat < 128 then (if c.toNat = 0 ∧ 0 < i then (2, 0, 0) else (0, x + c.toNat % 128 * 128 ^ i, i + 1))
      else pk l (10 - (i + 1)) (i + 1) (x + c.toNat % 128 * 128 ^ i) := by
  obtain ⟨f, hf⟩ : ∃ f, 10 - i = f + 1 := ⟨9 - i, by omega⟩
  rw [hf, pk, h, show 10 - (i + 1) = f by omega]
theorem and127 (c : Nat) : c &&& 127 = c % 128 := Nat.and_two_pow_sub_one_eq_mod c 7
theorem pk_room {x c i : Nat} (hi : i < 10) (hx : x < 128 ^ i) (h9 : i = 9 → c ≤ 1) : x < 2 ^ 64 ∧ c % 128 * 2 ^ (7 * i) < 2 ^ 64 ∧ x + c % 128 * 128 ^ i < 128 ^ (i + 1) := by
  have e : (2 : Nat) ^ (7 * i) = 128 ^ i := by rw [Nat.pow_mul]
  have h1 : (128 : Nat) ^ i ≤ 128 ^ 9 := Nat.pow_le_pow_right (by decide) (by omega)
  have h3 : (128 : Nat) ^ 9 = 9223372036854775808 := by decide
  have h2 := Nat.mul_le_mul_right (128 ^ i) (show c % 128 ≤ 127 by omega)
  refine ⟨by omega, ?_, by rw [Nat.pow_succ]; omega⟩
  rw [e]
  by_cases hi9 : i = 9
  · have := h9 hi9
    subst hi9
    have : c % 128 ≤ 1 := by omega
    rw [h3]; omega
  · have h4 : (128 : Nat) ^ i ≤ 128 ^ 8 := Nat.pow_le_pow_right (by decide) (by omega)
    have h5 : (128 : Nat) ^ 8 = 72057594037927936 := by decide
    omega

end Go.Proofs.Ytededghplnoajaa
