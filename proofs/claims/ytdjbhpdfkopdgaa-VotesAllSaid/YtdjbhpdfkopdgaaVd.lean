/- Votes as data: their bytes, whether they are formed. -/
import Derived.Test.YtdjbhpdfkopdgaaNums
namespace Go.Proofs.Ytdjbhpdfkopdgaa
open Go.RowKit Go.Sx
set_option maxRecDepth 100000
set_option linter.unusedSimpArgs false
set_option linter.unusedVariables false

structure VoteD where
  kind : Int
  view : Int
  reg : Int
  slot : Int
  hash : Vector UInt8 32
  batch : List UInt8
  cert : List (List UInt8)
def VoteV.abs (v : VoteV) : VoteD := ⟨v.kind, v.view, v.reg, v.slot, v.hash, v.batch.l, v.cert.ls.map BS.l⟩
def withinB (n b : Int) : Bool := decide (0 ≤ n) && decide (n ≤ b)
def formedB (v : VoteD) : Bool :=
  decide (1 ≤ v.kind) && decide (v.kind ≤ 3) && withinB v.view 60 && withinB v.reg 40 && withinB v.slot 60 &&
  (decide (v.kind ≠ 1) || (decide (v.slot = 0) && decide (v.hash = zeroV 32) && decide (v.batch = []))) && (decide (v.kind = 3) || decide (v.cert = []))
theorem formed_spec (v : VoteD) : formedB v = true ↔ 1 ≤ v.kind ∧ v.kind ≤ 3 ∧ (0 ≤ v.view ∧ v.view ≤ 60) ∧ (0 ≤ v.reg ∧ v.reg ≤ 40) ∧ (0 ≤ v.slot ∧ v.slot ≤ 60) ∧ (v.kind = 1 → v.slot = 0 ∧ v.hash = zeroV 32 ∧ v.batch = []) ∧ (v.kind ≠ 3 → v.cert = []) := by
  simp only [formedB, withinB, Bool.and_eq_true, Bool.or_eq_true, decide_eq_true_eq]
  constructor
  · rintro ⟨⟨⟨⟨⟨⟨h1, h2⟩, h3⟩, h4⟩, h5⟩, h6⟩, h7⟩
    exact ⟨h1, h2, h3, h4, h5, fun h => by rcases h6 with h6 | h6; exact absurd h h6; exact ⟨h6.1.1, h6.1.2, h6.2⟩, fun h => h7.resolve_left h⟩
  · rintro ⟨h1, h2, h3, h4, h5, h6, h7⟩
    refine ⟨⟨⟨⟨⟨⟨h1, h2⟩, h3⟩, h4⟩, h5⟩, ?_⟩, ?_⟩
    · by_cases h : v.kind = 1
      · exact .inr ⟨⟨(h6 h).1, (h6 h).2.1⟩, (h6 h).2.2⟩
      · exact .inl h
    · by_cases h : v.kind = 3
      · exact .inl h
      · exact .inr (h7 h)
theorem within_iff (n b : Int) : withinB n b = true ↔ 0 ≤ n ∧ n ≤ b := by simp [withinB]
theorem within_not (n b : Int) : withinB n b = false ↔ ¬ (0 ≤ n ∧ n ≤ b) := by rw [← within_iff]; simp
def textB (l : List UInt8) : List UInt8 := packed l.length ++ l
def u64 (k : Int) : Int := IntKind.u64.wrap k
theorem u64_range (k : Int) : 0 ≤ u64 k ∧ u64 k < 18446744073709551616 := by
  simp [u64, IntKind.wrap, IntKind.bits, IntKind.signed]; omega
def num3 (v : VoteD) (k : Nat) : Int := match k with | 0 => v.view | 1 => v.reg | _ => v.slot
def pre3 (v : VoteD) : Nat → List UInt8
  | 0 => fixed (u64 v.kind).toNat 1
  | k + 1 => pre3 v k ++ fixed (u64 (num3 v k)).toNat 2
theorem pre3_length (v : VoteD) : ∀ k, (pre3 v k).length = 1 + 2 * k
  | 0 => by simp [pre3, fixed_length]
  | k + 1 => by simp [pre3, fixed_length, pre3_length v k]; omega
def texts (l : List (List UInt8)) : List UInt8 := (l.map textB).flatten
theorem texts_snoc (l : List (List UInt8)) (x : List UInt8) : texts (l ++ [x]) = texts l ++ textB x := by simp [texts]
theorem textB_length (l : List UInt8) (h : l.length < 18446744073709551616) : (textB l).length ≤ 10 + l.length := by
  have := packed_length_le l.length h
  simp [textB]; omega
theorem texts_length (n : Nat) : ∀ l : List (List UInt8), (∀ x ∈ l, x.length ≤ n) → n ≤ 2147483647 → (texts l).length ≤ l.length * (10 + n)
  | [], _, _ => by simp [texts]
  | x :: l, h, hn => by
    have h1 := texts_length n l (fun y hy => h y (by simp [hy])) hn
    have h2 := h x (by simp)
    have h3 := textB_length x (by omega)
    simp only [texts, List.map_cons, List.flatten_cons, List.length_append, List.length_cons] at h1 ⊢
    rw [Nat.add_mul, Nat.one_mul]
    omega
def head (v : VoteD) : List UInt8 := pre3 v 3 ++ v.hash.toList ++ textB v.batch ++ packed v.cert.length
def told (v : VoteD) : List UInt8 := head v ++ texts v.cert
theorem head_length (v : VoteD) (hb : v.batch.length ≤ 100000) (hc : v.cert.length ≤ 100000) : (head v).length ≤ 100100 := by
  have h1 := textB_length v.batch (by omega)
  have h2 := packed_length_le v.cert.length (by omega)
  simp [head, pre3_length]; omega
def sumLen (l : List (List UInt8)) : Nat := (l.map List.length).sum
/-- votes.Put: the bytes, the error. -/
def putV (v : VoteD) : List UInt8 × Int :=
  if 16 < v.cert.length then ([], 4) else if 65536 < v.batch.length + sumLen v.cert then ([], 4)
  else if 65536 < (told v).length then ([], 4) else if formedB v then (told v, 0) else ([], 15)
theorem putFixed_2 (l : List UInt8) (x : Int) : putFixed l x 2 = l ++ fixed x.toNat 2 := rfl
theorem putFixed_1 (l : List UInt8) (x : Int) : putFixed l x 1 = l ++ fixed x.toNat 1 := rfl
theorem take_get {α : Type} (l : List α) (k : Nat) (h : k < l.length) : l.take (k + 1) = l.take k ++ [l[k]] := List.take_succ_eq_append_getElem h
theorem byteOf_eq (a b : UInt8) : ((a.toNat : Int) = (b.toNat : Int)) ↔ a = b := by
  rw [← UInt8.toNat_inj]; omega

end Go.Proofs.Ytdjbhpdfkopdgaa
