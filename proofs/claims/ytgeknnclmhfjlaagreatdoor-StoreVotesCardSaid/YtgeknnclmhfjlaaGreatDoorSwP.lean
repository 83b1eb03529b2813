/- Words of 32 bits, rows and arrays of them; cells known one by one. General. -/
import Derived.Test.YtgeknnclmhfjlaaGreatDoorSdP
import Derived.Laws.CopyRow
import Derived.Laws.IdiomCopy
import Derived.Laws.MakeOwn
set_option linter.unusedSimpArgs false
set_option linter.unusedVariables false
namespace Go.Sx
open Go.RowKit

@[reducible] def w32 (x : UInt32) : Value := .int .u32 (x.toNat : Int)
def wl (l : List UInt32) : List Value := l.map w32
@[simp] theorem wl_length (l : List UInt32) : (wl l).length = l.length := by simp [wl]
theorem wl_one (l : List UInt32) : ∀ u ∈ wl l, u.oneCell' = true := by
  intro u hu
  obtain ⟨b, _, rfl⟩ := List.mem_map.1 hu
  rfl
theorem cellAt32 {l : List UInt32} {n i : Nat} {x : UInt32} (hn : n = i) (h : l[i]? = some x) : CellAt (wl l).toArray n (w32 x) := ⟨by subst hn; simp [wl, h]⟩
theorem putAt32 {l : List UInt32} {n i : Nat} {x : UInt32} (hn : n = i) (h : i < l.length) : Put (wl l).toArray n (w32 x) (wl (l.set i x)).toArray := by
  subst hn
  refine ⟨?_, by simp [Value.cells]; omega⟩
  rw [putCells_one rfl]
  simp [wl, List.map_set]
section
variable {P : Program} {w0 : World} {σ : Env} {H : List SA} {d : Option Nat} {ty : TypeId} {pos : String} {aft : Array Edge} {g : Option (Nat × Bool)}
theorem Qt_val {o : Oper} {v v' : Value} (h : Qt P w0 H σ o v) (e : v = v') : Qt P w0 H σ o v' := e ▸ h
theorem Qt_add32 {t t' : TypeId} {x y : Operand} {a b : UInt32} (hx : ev σ x = w32 a) (hy : ev σ y = w32 b) : Qt P w0 H σ ⟨d, .binOp .add t x y t', ty, pos, aft, g⟩ (w32 (a + b)) :=
  Qt_val (Qt_addw hx hy) (by rw [w32, UInt32.toNat_add]; simp [IntKind.wrap, IntKind.bits, IntKind.signed])
theorem Qt_and32 {t t' : TypeId} {x y : Operand} {a b : UInt32} (hx : ev σ x = w32 a) (hy : ev σ y = w32 b) : Qt P w0 H σ ⟨d, .binOp .and t x y t', ty, pos, aft, g⟩ (w32 (a &&& b)) :=
  Qt_val (Qt_andN hx hy rfl a.toNat_lt b.toNat_lt) (by rw [w32, UInt32.toNat_and])
theorem Qt_or32 {t t' : TypeId} {x y : Operand} {a b : UInt32} (hx : ev σ x = w32 a) (hy : ev σ y = w32 b) : Qt P w0 H σ ⟨d, .binOp .or t x y t', ty, pos, aft, g⟩ (w32 (a ||| b)) :=
  Qt_val (Qt_orN hx hy rfl a.toNat_lt b.toNat_lt) (by rw [w32, UInt32.toNat_or])
theorem Qt_xor32 {t t' : TypeId} {x y : Operand} {a b : UInt32} (hx : ev σ x = w32 a) (hy : ev σ y = w32 b) : Qt P w0 H σ ⟨d, .binOp .xor t x y t', ty, pos, aft, g⟩ (w32 (a ^^^ b)) :=
  Qt_val (Qt_xorN hx hy rfl a.toNat_lt b.toNat_lt) (by rw [w32, UInt32.toNat_xor])
theorem Qt_not32 {t : TypeId} {x : Operand} {a : UInt32} (hx : ev σ x = w32 a) : Qt P w0 H σ ⟨d, .unOp .xor t x, ty, pos, aft, g⟩ (w32 (~~~a)) := fun w _ => by
  have e : IntKind.u32.wrap ((BitVec.ofInt IntKind.u32.bits IntKind.u32.max ^^^ BitVec.ofInt IntKind.u32.bits (a.toNat : Int)).toNat : Int) = ((~~~a).toNat : Int) := by
    have h1 : IntKind.u32.max = ((4294967295 : Nat) : Int) := by decide
    rw [h1, xor_nat .u32 rfl (by decide) a.toNat_lt]
    have h2 : (4294967295 : Nat) ^^^ a.toNat = (~~~a).toNat := by
      have : (~~~a) = (4294967295 : UInt32) ^^^ a := by
        apply UInt32.toBitVec_inj.1
        simp only [UInt32.toBitVec_not, UInt32.toBitVec_xor]
        rw [show (4294967295 : UInt32).toBitVec = BitVec.allOnes 32 from by decide, BitVec.allOnes_xor]
      rw [this, UInt32.toNat_xor]; rfl
    rw [h2]
  simp only [execOp, hx, Op.unary, Op.intBits]
  show Sem.run P (do pure _) w = _
  simp only [Sem.run_bind, Sem.run_pure, Result.andThen_ok, w32]
  rw [← e]
  rfl
theorem Qt_shr32 {t t' : TypeId} {x y : Operand} {k' : IntKind} {a : UInt32} (s : Nat) (hx : ev σ x = w32 a) (hy : ev σ y = .int k' (s : Int)) (hs : s < 32) : Qt P w0 H σ ⟨d, .binOp .shr t x y t', ty, pos, aft, g⟩ (w32 (a >>> UInt32.ofNat s)) :=
  Qt_val (Qt_shrN s hx hy (by show s ≤ 32; omega)) (by
    rw [w32, UInt32.toNat_shiftRight, UInt32.toNat_ofNat', Nat.shiftRight_eq_div_pow]
    congr 4
    omega)
theorem Qt_shl32 {t t' : TypeId} {x y : Operand} {k' : IntKind} {a : UInt32} (s : Nat) (hx : ev σ x = w32 a) (hy : ev σ y = .int k' (s : Int)) (hs : s < 32) : Qt P w0 H σ ⟨d, .binOp .shl t x y t', ty, pos, aft, g⟩ (w32 (a <<< UInt32.ofNat s)) :=
  Qt_val (Qt_shl hx hy (by omega)) (by
    have h1 : min (s : Int).toNat IntKind.u32.bits = s := by simp only [IntKind.bits]; omega
    rw [h1, w32, UInt32.toNat_shiftLeft, UInt32.toNat_ofNat', Nat.shiftLeft_eq]
    have h2 : s % 2 ^ 32 % 32 = s := by omega
    rw [h2]
    simp only [IntKind.wrap, IntKind.bits, IntKind.signed]
    simp)
end
/-- Some cells of a block. -/
def cellsOf (b : Nat) (l : List (Nat × Value)) : SA := ⟨[b], fun w => ∀ p ∈ l, w.cell? ⟨b, p.1, none⟩ = some p.2, fun w w' h hp p hpl => by
  rw [← hp p hpl]; simp only [World.cell?, h b (by simp)]⟩
theorem St.cellsOf {w0 w : World} {H Hr : List SA} {b T : Nat} {cs : Array Value} {fz : Nat × Nat} {l : List (Nat × Value)} [h : Pick b H (.cells cs T fz) Hr] (hl : ∀ p ∈ l, cs[p.1]? = some p.2) (hw : St w0 H w) : St w0 [cellsOf b l] w := by
  have h1 : St w0 (blk b (.cells cs T fz) :: Hr) w := hw.sub h.sub
  have h2 := h1.turn (y := Sx.cellsOf b l) rfl fun hp p hpl => by rw [cell_of_blk hp]; exact hl p hpl
  exact h2.sub ⟨[Sx.cellsOf b l], List.Perm.refl _, by simp⟩
theorem cellsOf_get {w0 w : World} {b : Nat} {l : List (Nat × Value)} (hw : St w0 [cellsOf b l] w) {o : Nat} {v : Value} (h : (o, v) ∈ l) : w.cell? ⟨b, o, none⟩ = some v := hw.holds (cellsOf b l) (by simp) (o, v) h
end Go.Sx
namespace Go.Sx
open Go.RowKit
section
variable {P : Program} {w0 : World} {σ : Env} {H : List SA} {d : Option Nat} {ty : TypeId} {pos : String} {aft : Array Edge} {g : Option (Nat × Bool)}
theorem Qt_indexAddr_arrC {x i : Operand} {t e b o n sz : Nat} {k : IntKind} {ei : TypeInfo} (off' j : Nat) (hx : ev σ x = .pointer (some ⟨b, o, none⟩)) (hi : ev σ i = .int k (j : Int)) (ht : P.underlying t = some (.array n e)) (he : P.info? e = some ei) (hsz : ei.size = sz) (hn : Nat.blt j n = true) (ho : o + j * sz = off') :
    Qt P w0 H σ ⟨d, .indexAddr t x i, ty, pos, aft, g⟩ (.pointer (some ⟨b, off', none⟩)) := by
  have := Qt_indexAddr_arr (P := P) (w0 := w0) (H := H) (d := d) (ty := ty) (pos := pos) (aft := aft) (g := g) hx hi ht he hsz (by omega) (by have : j < n := (by simpa [Nat.blt_eq] using hn); omega)
  rw [Int.toNat_natCast, ho] at this
  exact this
end
theorem putAtH {n : Nat} {h : Vector UInt8 n} {m i : Nat} {c : UInt8} (hm : m = i) (hi : i < n) : Put (hlist h).toArray m (.int .u8 (c.toNat : Int)) (hlist (h.set i c)).toArray := by
  subst hm
  refine ⟨?_, by simp [Value.cells]; omega⟩
  rw [putCells_one rfl]
  simp [hlist, bytesV, List.map_set, Vector.toList_set, byteV]
/-- A vector's first bytes, nothing behind. -/
def hfirst {n : Nat} (h : Vector UInt8 n) (i : Nat) : Vector UInt8 n := Vector.ofFn fun j => if j.val < i then h[j] else 0
theorem hfirst_zero {n : Nat} (h : Vector UInt8 n) : hfirst h 0 = zeroV n := by
  apply Vector.ext; intro i hi; simp [hfirst, zeroV]
theorem hfirst_all {n : Nat} (h : Vector UInt8 n) : hfirst h n = h := by
  apply Vector.ext; intro i hi; simp [hfirst, hi]
theorem hfirst_set {n : Nat} (h : Vector UInt8 n) (i : Nat) (hi : i < n) : (hfirst h i).set i h[i] = hfirst h (i + 1) := by
  apply Vector.ext; intro j hj
  by_cases e : i = j
  · subst e; simp [hfirst]
  · rw [Vector.getElem_set_ne _ _ e]
    simp only [hfirst, Vector.getElem_ofFn, Fin.getElem_fin]
    by_cases h1 : j < i <;> simp [h1] <;> omega
end Go.Sx
namespace Go.Sx
open Go.RowKit
section
variable {P : Program} {w0 : World} {σ : Env} {H Hr : List SA} {d : Option Nat} {ty : TypeId} {pos : String} {aft : Array Edge} {g : Option (Nat × Bool)} {K : Value → List SA → Prop}
end
end Go.Sx
