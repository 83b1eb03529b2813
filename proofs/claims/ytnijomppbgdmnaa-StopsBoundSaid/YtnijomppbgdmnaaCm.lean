/- Lists of bytes; walks: the references on numbers, texts, digests, and on what is alike. -/
import Derived.Test.YtnijomppbgdmnaaRd
namespace Go.Proofs.Ytnijomppbgdmnaa
open Go.RowKit Go.Sx
set_option maxRecDepth 100000
set_option linter.unusedSimpArgs false
set_option linter.unusedVariables false
def textB (l : List UInt8) : List UInt8 := packed l.length ++ l
def u64 (k : Int) : Int := IntKind.u64.wrap k
theorem u64_range (k : Int) : 0 ≤ u64 k ∧ u64 k < 18446744073709551616 := by
  simp [u64, IntKind.wrap, IntKind.bits, IntKind.signed]; omega
def texts (l : List (List UInt8)) : List UInt8 := (l.map textB).flatten
theorem texts_snoc (l : List (List UInt8)) (x : List UInt8) : texts (l ++ [x]) = texts l ++ textB x := by simp [texts]
theorem textB_length (l : List UInt8) (h : l.length < 18446744073709551616) : (textB l).length ≤ 10 + l.length := by
  have := packed_length_le l.length h
  simp [textB]; omega
theorem texts_length (n : Nat) : ∀ l : List (List UInt8), (∀ x ∈ l, x.length ≤ n) → n ≤ 2147483647 → (texts l).length ≤ l.length * (10 + n)
  | [], _, _ => by simp [texts]
  | x :: l, h, hn => by
    have h1 := texts_length n l (fun y hy => h y (by simp [hy])) hn
    have h2 := h x (by simp)
    have h3 := textB_length x (by omega)
    simp only [texts, List.map_cons, List.flatten_cons, List.length_append, List.length_cons] at h1 ⊢
    rw [Nat.add_mul, Nat.one_mul]
    omega
def sumLen (l : List (List UInt8)) : Nat := (l.map List.length).sum
theorem texts_cons (x : List UInt8) (l : List (List UInt8)) : texts (x :: l) = textB x ++ texts l := by simp [texts]
theorem take_get {α : Type} (l : List α) (k : Nat) (h : k < l.length) : l.take (k + 1) = l.take k ++ [l[k]] := List.take_succ_eq_append_getElem h
theorem byteOf_eq (a b : UInt8) : ((a.toNat : Int) = (b.toNat : Int)) ↔ a = b := by
  rw [← UInt8.toNat_inj]; omega
theorem sumLen_take (l : List (List UInt8)) (k : Nat) (hk : k < l.length) : sumLen (l.take (k + 1)) = sumLen (l.take k) + l[k].length := by
  rw [take_get _ _ hk]; simp only [sumLen, List.map_append, List.map_cons, List.map_nil, List.sum_append, List.sum_cons, List.sum_nil]; omega
theorem sumLen_le (n : Nat) : ∀ l : List (List UInt8), (∀ x ∈ l, x.length ≤ n) → sumLen l ≤ l.length * n
  | [], _ => by simp [sumLen]
  | x :: l, h => by
    have h1 := sumLen_le n l (fun y hy => h y (by simp [hy]))
    have h2 := h x (by simp)
    simp only [sumLen, List.map_cons, List.sum_cons, List.length_cons] at h1 ⊢
    rw [Nat.add_mul, Nat.one_mul]; omega
theorem le_sumLen : ∀ (l : List (List UInt8)) (x : List UInt8), x ∈ l → x.length ≤ sumLen l
  | y :: l, x, h => by
    simp only [sumLen, List.map_cons, List.sum_cons]
    rcases List.mem_cons.1 h with rfl | h
    · omega
    · have := le_sumLen l x h; simp only [sumLen] at this; omega
theorem take_eq_all {α : Type} {l l2 : List α} {k : Nat} (h : l.take k = l2.take k) (hk : k = l.length) (hl : l.length = l2.length) : l = l2 := by
  subst hk
  rw [List.take_length, hl, List.take_length] at h
  exact h
theorem take_eq_snoc {α : Type} {l l2 : List α} {k : Nat} (h : l.take k = l2.take k) (h1 : k < l.length) (h2 : k < l2.length) (he : l[k] = l2[k]) : l.take (k + 1) = l2.take (k + 1) := by
  rw [take_get _ _ h1, take_get _ _ h2, h, he]
theorem ne_of_get {α : Type} {l l2 : List α} {k : Nat} (h1 : k < l.length) (h2 : k < l2.length) (he : l[k] ≠ l2[k]) : l ≠ l2 := by
  rintro rfl; exact he rfl
theorem any_take_snoc {α : Type} (p : α → Bool) (l : List α) (k : Nat) (hk : k < l.length) (h : (l.take k).any p = false) (he : p l[k] = false) : (l.take (k + 1)).any p = false := by
  rw [take_get _ _ hk, List.any_append, h]; simp [he]
theorem any_of_get {α : Type} (p : α → Bool) (l : List α) (k : Nat) (hk : k < l.length) (he : p l[k] = true) : l.any p = true := List.any_eq_true.2 ⟨l[k], List.getElem_mem hk, he⟩
theorem cell_list {l : List Value} {j : Nat} {u : Value} (h : CellAt l.toArray j u) : l[j]? = some u := by simpa using h.ok

theorem quo_nat (x k : Nat) (hk : k ≠ 0) (h : x < 18446744073709551616) : IntKind.u64.wrap ((x : Int).tdiv (k : Int)) = ((x / k : Nat) : Int) := by
  have e : (x : Int).tdiv (k : Int) = ((x / k : Nat) : Int) := by rw [Int.ofNat_tdiv]
  have := Nat.div_le_self x k
  rw [e]
  generalize x / k = q at *
  exact wrap_u64 (by omega) (by omega)
theorem rem_nat (x k : Nat) : (x : Int).tmod (k : Int) = ((x % k : Nat) : Int) := by rw [Int.ofNat_tmod]
theorem u8Of_rem (x : Nat) : u8Of (IntKind.u8.wrap ((x : Int).tmod 256)) = UInt8.ofNat (x % 256) := by
  rw [show (256 : Int) = ((256 : Nat) : Int) from rfl, rem_nat, u8Of_wrap]
theorem u8Of_rem128 (x : Nat) : u8Of (IntKind.u8.wrap (IntKind.u64.wrap ((x : Int).tmod 128 + 128))) = UInt8.ofNat (x % 128 + 128) := by
  rw [show (128 : Int) = ((128 : Nat) : Int) from rfl, rem_nat, wrap_u64 (by omega) (by omega), ← Int.natCast_add, u8Of_wrap]
def fixedR (x n : Int) : List UInt8 := if wideB n then fixed x.toNat n.toNat else []
theorem fixedR_1 (x : Int) : fixedR x 1 = fixed x.toNat 1 := rfl
theorem fixedR_2 (x : Int) : fixedR x 2 = fixed x.toNat 2 := rfl

theorem toList_take {n : Nat} (h : Vector UInt8 n) (i : Nat) (hi : i < n) : h.toList.take i ++ [h[i]] = h.toList.take (i + 1) := by
  rw [List.take_succ_eq_append_getElem (by simpa using hi)]; simp
theorem u8Of_nat (b : UInt8) : u8Of (b.toNat : Int) = b := by simp [u8Of]

end Go.Proofs.Ytnijomppbgdmnaa
