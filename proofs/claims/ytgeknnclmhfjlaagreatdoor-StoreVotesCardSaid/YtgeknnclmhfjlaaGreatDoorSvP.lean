/- Data with addresses: byte slices, slices of byte slices, arrays of bytes, as values; cells of structs. General. -/
import Derived.Test.YtgeknnclmhfjlaaGreatDoorSzP
set_option linter.unusedSimpArgs false
set_option linter.unusedVariables false
namespace Go.Sx
open Go.RowKit

/-- A byte slice: where it lies, its capacity, what it reads as. -/
structure BS where
  a : Option Addr
  c : Nat
  l : List UInt8
@[reducible] def BS.val (b : BS) : Value := .slice b.a b.l.length b.c
/-- A slice of byte slices. -/
structure PS where
  a : Option Addr
  c : Nat
  ls : List BS
/-- Any other slice. -/
structure Sl where
  a : Option Addr
  n : Nat
  c : Nat
/-- Bytes of an array. -/
def hlist {n : Nat} (h : Vector UInt8 n) : List Value := bytesV h.toList
@[simp] theorem hlist_length {n : Nat} (h : Vector UInt8 n) : (hlist h).length = n := by simp [hlist]
def zeroV (n : Nat) : Vector UInt8 n := Vector.replicate n 0

theorem sub_mid (pre mid post : List Value) {o n : Nat} (ho : pre.length = o) (hn : mid.length = n) : (pre ++ (mid ++ post)).toArray.extract o (o + n) = mid.toArray := by
  subst ho; subst hn
  simp [List.extract_eq_take_drop]
theorem put_mid (pre mid post : List Value) {o n : Nat} {v : Value} (ho : pre.length = o) (hn : mid.length = n) (hv : v.cells.size = n) : putCells (pre ++ (mid ++ post)).toArray o v = (pre ++ (v.cells.toList ++ post)).toArray := by
  have key : ∀ (vs : List Value) (done mid : List Value), mid.length = vs.length →
      (vs.zipIdx done.length).foldl (fun (cs : Array Value) (x : Value × Nat) => cs.setIfInBounds (o + x.2) x.1) (pre ++ (done ++ (mid ++ post))).toArray = (pre ++ (done ++ (vs ++ post))).toArray := by
    intro vs
    induction vs with
    | nil => intro done mid hm; simp at hm; subst hm; simp
    | cons u us ih =>
      intro done mid hm
      cases mid with
      | nil => simp at hm
      | cons m ms =>
        simp only [List.zipIdx_cons, List.foldl_cons]
        have hset : (pre ++ (done ++ (m :: ms ++ post))).toArray.setIfInBounds (o + done.length) u = (pre ++ ((done ++ [u]) ++ (ms ++ post))).toArray := by
          subst ho
          simp [List.setIfInBounds_toArray, List.set_append]
        rw [hset]
        have := ih (done ++ [u]) ms (by simpa using hm)
        simp only [List.length_append, List.length_singleton] at this
        rw [this]
        simp
  have h1 := key v.cells.toList [] mid (by simp [hn, hv])
  unfold putCells
  rw [← Array.foldl_toList]
  simpa using h1
theorem Put.mid (pre mid post : List Value) {cs : Array Value} {o n : Nat} {v : Value} (hcs : cs = (pre ++ (mid ++ post)).toArray) (ho : pre.length = o) (hn : mid.length = n) (hv : v.cells.size = n) : Put cs o v (pre ++ (v.cells.toList ++ post)).toArray := by
  subst hcs
  exact ⟨put_mid pre mid post ho hn hv, by simp [ho, hn, hv]⟩
theorem Cells.list {l : List Value} {n : Nat} (hn : l.length = n) (h1 : l.all Value.oneCell' = true) : Cells l.toArray n := ⟨by simpa using hn, by simpa using h1⟩
@[simp] theorem hlist_one {n : Nat} (h : Vector UInt8 n) : (hlist h).all Value.oneCell' = true := by
  rw [List.all_eq_true]; exact bytesV_one _
instance {n : Nat} {h : Vector UInt8 n} : Cells (hlist h).toArray n := Cells.list (by simp) (by simp)
instance {n : Nat} {h : Vector UInt8 n} : SubAt (hlist h).toArray 0 n (hlist h).toArray := ⟨by apply Array.ext <;> simp⟩
end Go.Sx
namespace Go.Sx
open Go.RowKit
structure AC where
  a : Option Addr
  c : Nat
theorem X_know {w0 : World} {e : Exit} {Q : Post} {σ : Env} {H : List SA} {p : Prop} (hk : ∀ w, St w0 H w → p) (h : p → X w0 e Q σ H) : X w0 e Q σ H := fun w hw => h (hk w hw) w hw
theorem CellsAt.none {w : World} {n c sz : Nat} {xs : List Value} (h : CellsAt w (.slice .none n c) sz xs) : xs = [] := by
  obtain ⟨a, n', c', hv, hl, hn, hc, hx⟩ := h
  obtain ⟨rfl, rfl, rfl⟩ : a = .none ∧ n' = n ∧ c' = c := by simp at hv; exact ⟨hv.1.symm, hv.2.1.symm, hv.2.2.symm⟩
  cases xs with
  | nil => rfl
  | cons x xs => obtain ⟨b, o, hb, _⟩ := hx (by simp); cases hb
theorem BytesAt.none {w : World} {n c : Nat} {l : List UInt8} (h : BytesAt w (.slice .none n c) l) : l = [] := by
  have := CellsAt.none h
  simpa [bytesV] using this
theorem Qt_shrN {P : Program} {w0 : World} {σ : Env} {H : List SA} {d : Option Nat} {ty : TypeId} {pos : String} {aft : Array Edge} {g : Option (Nat × Bool)} {t t' : TypeId} {x y : Operand} {k k' : IntKind} {a : Nat} (s : Nat)
    (hx : ev σ x = .int k a) (hy : ev σ y = .int k' (s : Int)) (hs : s ≤ k.bits) : Qt P w0 H σ ⟨d, .binOp .shr t x y t', ty, pos, aft, g⟩ (.int k ((a / 2 ^ s : Nat) : Int)) := by
  have := Qt_shr (P := P) (w0 := w0) (H := H) (d := d) (ty := ty) (pos := pos) (aft := aft) (g := g) (t := t) (t' := t') hx hy (by omega)
  have e : ((a : Int).fdiv (2 ^ (min (s : Int).toNat k.bits))) = ((a / 2 ^ s : Nat) : Int) := by
    have h1 : min (s : Int).toNat k.bits = s := by simp; omega
    rw [h1, Int.fdiv_eq_ediv_of_nonneg _ (by exact Int.pow_nonneg (by decide))]
    push_cast
    rfl
  rwa [e] at this
end Go.Sx
