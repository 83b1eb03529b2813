/- Words of 32 bits, rows and arrays of them; cells known one by one. General. -/
import Derived.Test.YtnijomppbgdmnaaGreatSdP
import Derived.Laws.CopyRow
import Derived.Laws.IdiomCopy
import Derived.Laws.MakeOwn
set_option linter.unusedSimpArgs false
set_option linter.unusedVariables false
namespace Go.Sx
open Go.RowKit

@[reducible] def w32 (x : UInt32) : Value := .int .u32 (x.toNat : Int)
def wl (l : List UInt32) : List Value := l.map w32
@[simp] theorem wl_length (l : List UInt32) : (wl l).length = l.length := by simp [wl]
theorem wl_one (l : List UInt32) : ∀ u ∈ wl l, u.oneCell' = true := by
  intro u hu
  obtain ⟨b, _, rfl⟩ := List.mem_map.1 hu
  rfl
theorem wl_get (l : List UInt32) (i : Nat) (h : i < l.length) : (wl l)[i]? = some (w32 l[i]) := by simp [wl, h]
theorem cellAt32 {l : List UInt32} {n i : Nat} {x : UInt32} (hn : n = i) (h : l[i]? = some x) : CellAt (wl l).toArray n (w32 x) := ⟨by subst hn; simp [wl, h]⟩
theorem putAt32 {l : List UInt32} {n i : Nat} {x : UInt32} (hn : n = i) (h : i < l.length) : Put (wl l).toArray n (w32 x) (wl (l.set i x)).toArray := by
  subst hn
  refine ⟨?_, by simp [Value.cells]; omega⟩
  rw [putCells_one rfl]
  simp [wl, List.map_set]
section
variable {P : Program} {w0 : World} {σ : Env} {H : List SA} {d : Option Nat} {ty : TypeId} {pos : String} {aft : Array Edge} {g : Option (Nat × Bool)}
theorem Qt_val {o : Oper} {v v' : Value} (h : Qt P w0 H σ o v) (e : v = v') : Qt P w0 H σ o v' := e ▸ h
theorem Qt_add32 {t t' : TypeId} {x y : Operand} {a b : UInt32} (hx : ev σ x = w32 a) (hy : ev σ y = w32 b) : Qt P w0 H σ ⟨d, .binOp .add t x y t', ty, pos, aft, g⟩ (w32 (a + b)) :=
  Qt_val (Qt_addw hx hy) (by rw [w32, UInt32.toNat_add]; simp [IntKind.wrap, IntKind.bits, IntKind.signed])
theorem Qt_and32 {t t' : TypeId} {x y : Operand} {a b : UInt32} (hx : ev σ x = w32 a) (hy : ev σ y = w32 b) : Qt P w0 H σ ⟨d, .binOp .and t x y t', ty, pos, aft, g⟩ (w32 (a &&& b)) :=
  Qt_val (Qt_andN hx hy rfl a.toNat_lt b.toNat_lt) (by rw [w32, UInt32.toNat_and])
theorem Qt_or32 {t t' : TypeId} {x y : Operand} {a b : UInt32} (hx : ev σ x = w32 a) (hy : ev σ y = w32 b) : Qt P w0 H σ ⟨d, .binOp .or t x y t', ty, pos, aft, g⟩ (w32 (a ||| b)) :=
  Qt_val (Qt_orN hx hy rfl a.toNat_lt b.toNat_lt) (by rw [w32, UInt32.toNat_or])
theorem Qt_xor32 {t t' : TypeId} {x y : Operand} {a b : UInt32} (hx : ev σ x = w32 a) (hy : ev σ y = w32 b) : Qt P w0 H σ ⟨d, .binOp .xor t x y t', ty, pos, aft, g⟩ (w32 (a ^^^ b)) :=
  Qt_val (Qt_xorN hx hy rfl a.toNat_lt b.toNat_lt) (by rw [w32, UInt32.toNat_xor])
theorem Qt_not32 {t : TypeId} {x : Operand} {a : UInt32} (hx : ev σ x = w32 a) : Qt P w0 H σ ⟨d, .unOp .xor t x, ty, pos, aft, g⟩ (w32 (~~~a)) := fun w _ => by
  have e : IntKind.u32.wrap ((BitVec.ofInt IntKind.u32.bits IntKind.u32.max ^^^ BitVec.ofInt IntKind.u32.bits (a.toNat : Int)).toNat : Int) = ((~~~a).toNat : Int) := by
    have h1 : IntKind.u32.max = ((4294967295 : Nat) : Int) := by decide
    rw [h1, xor_nat .u32 rfl (by decide) a.toNat_lt]
    have h2 : (4294967295 : Nat) ^^^ a.toNat = (~~~a).toNat := by
      have : (~~~a) = (4294967295 : UInt32) ^^^ a := by
        apply UInt32.toBitVec_inj.1
        simp only [UInt32.toBitVec_not, UInt32.toBitVec_xor]
        rw [show (4294967295 : UInt32).toBitVec = BitVec.allOnes 32 from by decide, BitVec.allOnes_xor]
      rw [this, UInt32.toNat_xor]; rfl
    rw [h2]
  simp only [execOp, hx, Op.unary, Op.intBits]
  show Sem.run P (do pure _) w = _
  simp only [Sem.run_bind, Sem.run_pure, Result.andThen_ok, w32]
  rw [← e]
  rfl
theorem Qt_shr32 {t t' : TypeId} {x y : Operand} {k' : IntKind} {a : UInt32} (s : Nat) (hx : ev σ x = w32 a) (hy : ev σ y = .int k' (s : Int)) (hs : s < 32) : Qt P w0 H σ ⟨d, .binOp .shr t x y t', ty, pos, aft, g⟩ (w32 (a >>> UInt32.ofNat s)) :=
  Qt_val (Qt_shrN s hx hy (by show s ≤ 32; omega)) (by
    rw [w32, UInt32.toNat_shiftRight, UInt32.toNat_ofNat', Nat.shiftRight_eq_div_pow]
    congr 4
    omega)
theorem Qt_shl32 {t t' : TypeId} {x y : Operand} {k' : IntKind} {a : UInt32} (s : Nat) (hx : ev σ x = w32 a) (hy : ev σ y = .int k' (s : Int)) (hs : s < 32) : Qt P w0 H σ ⟨d, .binOp .shl t x y t', ty, pos, aft, g⟩ (w32 (a <<< UInt32.ofNat s)) :=
  Qt_val (Qt_shl hx hy (by omega)) (by
    have h1 : min (s : Int).toNat IntKind.u32.bits = s := by simp only [IntKind.bits]; omega
    rw [h1, w32, UInt32.toNat_shiftLeft, UInt32.toNat_ofNat', Nat.shiftLeft_eq]
    have h2 : s % 2 ^ 32 % 32 = s := by omega
    rw [h2]
    simp only [IntKind.wrap, IntKind.bits, IntKind.signed]
    simp)
end
/-- Some cells of a block. -/
def cellsOf (b : Nat) (l : List (Nat × Value)) : SA := ⟨[b], fun w => ∀ p ∈ l, w.cell? ⟨b, p.1, none⟩ = some p.2, fun w w' h hp p hpl => by
  rw [← hp p hpl]; simp only [World.cell?, h b (by simp)]⟩
theorem St.cellsOf {w0 w : World} {H Hr : List SA} {b T : Nat} {cs : Array Value} {fz : Nat × Nat} {l : List (Nat × Value)} [h : Pick b H (.cells cs T fz) Hr] (hl : ∀ p ∈ l, cs[p.1]? = some p.2) (hw : St w0 H w) : St w0 [cellsOf b l] w := by
  have h1 : St w0 (blk b (.cells cs T fz) :: Hr) w := hw.sub h.sub
  have h2 := h1.turn (y := Sx.cellsOf b l) rfl fun hp p hpl => by rw [cell_of_blk hp]; exact hl p hpl
  exact h2.sub ⟨[Sx.cellsOf b l], List.Perm.refl _, by simp⟩
theorem cellsOf_get {w0 w : World} {b : Nat} {l : List (Nat × Value)} (hw : St w0 [cellsOf b l] w) {o : Nat} {v : Value} (h : (o, v) ∈ l) : w.cell? ⟨b, o, none⟩ = some v := hw.holds (cellsOf b l) (by simp) (o, v) h
end Go.Sx
namespace Go.Sx
open Go.RowKit
section
variable {P : Program} {w0 : World} {σ : Env} {H : List SA} {d : Option Nat} {ty : TypeId} {pos : String} {aft : Array Edge} {g : Option (Nat × Bool)}
theorem Qt_indexAddr_arrC {x i : Operand} {t e b o n sz : Nat} {k : IntKind} {ei : TypeInfo} (off' j : Nat) (hx : ev σ x = .pointer (some ⟨b, o, none⟩)) (hi : ev σ i = .int k (j : Int)) (ht : P.underlying t = some (.array n e)) (he : P.info? e = some ei) (hsz : ei.size = sz) (hn : Nat.blt j n = true) (ho : o + j * sz = off') :
    Qt P w0 H σ ⟨d, .indexAddr t x i, ty, pos, aft, g⟩ (.pointer (some ⟨b, off', none⟩)) := by
  have := Qt_indexAddr_arr (P := P) (w0 := w0) (H := H) (d := d) (ty := ty) (pos := pos) (aft := aft) (g := g) hx hi ht he hsz (by omega) (by have : j < n := (by simpa [Nat.blt_eq] using hn); omega)
  rw [Int.toNat_natCast, ho] at this
  exact this
end
theorem putAtH {n : Nat} {h : Vector UInt8 n} {m i : Nat} {c : UInt8} (hm : m = i) (hi : i < n) : Put (hlist h).toArray m (.int .u8 (c.toNat : Int)) (hlist (h.set i c)).toArray := by
  subst hm
  refine ⟨?_, by simp [Value.cells]; omega⟩
  rw [putCells_one rfl]
  simp [hlist, bytesV, List.map_set, Vector.toList_set, byteV]
theorem cellAtH {n : Nat} {h : Vector UInt8 n} {m i : Nat} (hm : m = i) (hi : i < n) : CellAt (hlist h).toArray m (.int .u8 (h[i].toNat : Int)) := by
  subst hm
  exact ⟨by simp [hlist, bytesV, byteV, hi]⟩
/-- A vector's first bytes, nothing behind. -/
def hfirst {n : Nat} (h : Vector UInt8 n) (i : Nat) : Vector UInt8 n := Vector.ofFn fun j => if j.val < i then h[j] else 0
theorem hfirst_zero {n : Nat} (h : Vector UInt8 n) : hfirst h 0 = zeroV n := by
  apply Vector.ext; intro i hi; simp [hfirst, zeroV]
theorem hfirst_all {n : Nat} (h : Vector UInt8 n) : hfirst h n = h := by
  apply Vector.ext; intro i hi; simp [hfirst, hi]
theorem hfirst_set {n : Nat} (h : Vector UInt8 n) (i : Nat) (hi : i < n) : (hfirst h i).set i h[i] = hfirst h (i + 1) := by
  apply Vector.ext; intro j hj
  by_cases e : i = j
  · subst e; simp [hfirst]
  · rw [Vector.getElem_set_ne _ _ e]
    simp only [hfirst, Vector.getElem_ofFn, Fin.getElem_fin]
    by_cases h1 : j < i <;> simp [h1] <;> omega
end Go.Sx
namespace Go.Sx
open Go.RowKit
/-- A vector's bytes with others laid over the first ones. -/
def hover {n : Nat} (h : Vector UInt8 n) (l : List UInt8) : Vector UInt8 n := Vector.ofFn fun j => if hj : j.val < l.length then l[j.val] else h[j]
theorem hover_list {n : Nat} (h : Vector UInt8 n) (l : List UInt8) (hl : l.length ≤ n) : (hover h l).toList = l ++ h.toList.drop l.length := by
  apply List.ext_getElem
  · simp; omega
  · intro i h1 h2
    simp only [Vector.length_toList] at h1
    rw [Vector.getElem_toList]
    simp only [hover, Vector.getElem_ofFn]
    by_cases hi : i < l.length
    · rw [dif_pos hi, List.getElem_append_left hi]
    · rw [dif_neg hi, List.getElem_append_right (by omega), List.getElem_drop, Vector.getElem_toList]
      simp only [Fin.getElem_fin]
      congr 1; omega
theorem hover_nil {n : Nat} (h : Vector UInt8 n) : hover h [] = h := by
  apply Vector.ext; intro i hi; simp [hover]
section
variable {P : Program} {w0 : World} {σ : Env} {H Hr : List SA} {d : Option Nat} {ty : TypeId} {pos : String} {aft : Array Edge} {g : Option (Nat × Bool)} {K : Value → List SA → Prop}
/-- copy into an array of our own. -/
theorem Ef_copyH {x y : Operand} {t t2 e bytes n b c T : Nat} {a : Option Addr} {l : List UInt8} (h : Vector UInt8 n) (hx : ev σ x = .slice (some ⟨b, 0, none⟩) n n) (hy : ev σ y = .slice a l.length c) [ht : TySl P t e 1 bytes] [hp : Pick b H (.cells (hlist h).toArray T (0, 0)) Hr] [hr : RdB w0 H (.slice a l.length c) l] (hl : l.length ≤ n)
    (hk : ∀ k : Int, K (.int .i64 k) (blk b (.cells (hlist (hover h l)).toArray T (0, 0)) :: Hr)) : Ef P w0 H σ ⟨d, .call ⟨.builtin .copy, #[x, y], #[t, t2]⟩, ty, pos, aft, g⟩ K := fun w hw => by
  obtain ⟨i, z, hi, hz, hsz, -, -⟩ := ht.spec
  have hs : (P.info? e).map (·.size) = some 1 := by simp [hi, hsz]
  have hw' := hw.sub hp.sub
  have hb : w.heap[b]? = some (.cells (hlist h).toArray T (0, 0)) := hw'.holds (blk b _) (by simp)
  obtain ⟨a', n', c', hv, hl', hn', hc', hcell⟩ := hr.rd w hw
  obtain ⟨rfl, rfl, rfl⟩ : a' = a ∧ n' = l.length ∧ c' = c := by simp at hv; exact ⟨hv.1.symm, hv.2.1.symm, hv.2.2.symm⟩
  by_cases h0 : l.length = 0
  · obtain rfl : l = [] := List.eq_nil_of_length_eq_zero h0
    have hrun := run_copy_none (P := P) w t t2 ty e (some ⟨b, 0, none⟩) a' n n 0 c' ht.ht hs (by simp)
    have : (execOp (ev σ) ⟨d, .call ⟨.builtin .copy, #[x, y], #[t, t2]⟩, ty, pos, aft, g⟩).run P w = .ok (.value (goInt 0)) w := by
      simp only [execOp, resolve, List.map_toArray, List.map_cons, List.map_nil, invoke, builtin, hx, hy, List.length_nil] at hrun ⊢
      simp only [hrun, Sem.run_bind, Result.andThen_ok, Sem.run_pure]
    rw [this]
    have h1 := hk 0
    rw [hover_nil] at h1
    exact ⟨_, h1, hw'⟩
  · obtain ⟨sb, so, rfl, hce⟩ := hcell (by simp [bytesV]; omega)
    have hrun := run_copy_row (P := P) w t t2 ty e b 0 n n ⟨sb, so, none⟩ l.length c' (hlist h).toArray T (bytesV l) ht.ht hs hb (by simp [Nat.min_eq_left hl]) (fun j u hj => by rw [add_block]; exact hce j u hj) (by simp; omega) (bytesV_one l)
    have hnew : ((hlist h).toArray.toList.take 0 ++ bytesV l ++ (hlist h).toArray.toList.drop (0 + (bytesV l).length)).toArray = (hlist (hover h l)).toArray := by
      rw [List.take_zero, List.nil_append, Nat.zero_add, hlist, hlist, hover_list h l hl, bytesV_length]
      rw [bytesV, bytesV, bytesV, List.map_append, List.map_drop]
    rw [hnew] at hrun
    have : (execOp (ev σ) ⟨d, .call ⟨.builtin .copy, #[x, y], #[t, t2]⟩, ty, pos, aft, g⟩).run P w = .ok (.value (goInt (bytesV l).length)) (w.setRow b (hlist (hover h l)).toArray) := by
      simp only [execOp, resolve, List.map_toArray, List.map_cons, List.map_nil, invoke, builtin, hx, hy, hrun, Sem.run_bind, Result.andThen_ok, Sem.run_pure]
    rw [this]
    refine ⟨_, hk _, St.swap hw' rfl rfl rfl (by simp) (fun k _ hk => setRow_other w b k _ (fun e => hk (by simp [blk, e]))) ?_ (by simp [blk]) ?_⟩
    · exact setRow_heap w b _ _ T _ hb
    · intro k hk'
      simp [blk] at hk'
      subst hk'
      have := (hw'.lo (blk k (.cells (hlist h).toArray T (0, 0))) (by simp) k (by simp [blk])).2
      exact ⟨.inl (by simp [blk]), by simpa using this⟩
/-- make, as a block. -/
theorem Ef_makeBlk {x y : Operand} {t e sz bytes n : Nat} {k k' : IntKind} (xs : List Value) (hx : ev σ x = .int k (n : Int)) (hy : ev σ y = .int k' (n : Int)) [ht : TySl P t e sz bytes] (hxs : ∀ i z, P.info? e = some i → i.zero = some z → madeCells z.cells (n * sz) = xs.toArray) (hn : n * bytes ≤ 281474976710656) (hc : n * sz ≤ 16777216) (hm : n ≤ maxLen)
    (hk : ∀ b, K (.slice (some ⟨b, 0, none⟩) n n) (blk b (.cells xs.toArray e (0, 0)) :: H)) : Ef P w0 H σ ⟨d, .makeSlice t x y, ty, pos, aft, g⟩ K := fun w hw => by
  obtain ⟨i, z, hi, hz, hsz, hby, -⟩ := ht.spec
  have hm' : (n : Int) ≤ 9223372036854775807 := by unfold maxLen at hm; omega
  have hrun := run_makeSlice (P := P) w t e i z ht.ht hi hz k k' (n : Int) (n : Int) (by omega) (by omega) (by rw [hsz]; simpa using hc) (by
    rw [hby]
    have h : (bytes : Int) * (n : Int) = ((n * bytes : Nat) : Int) := by rw [Int.natCast_mul, Int.mul_comm]
    rw [h]; omega) hm'
  rw [hsz, Int.toNat_natCast, hxs i z hi hz] at hrun
  have : (execOp (ev σ) ⟨d, .makeSlice t x y, ty, pos, aft, g⟩).run P w = .ok (.value (.slice (some ⟨w.heap.size, 0, none⟩) n n)) (w.alloc (.cells xs.toArray e)) := by
    simp only [execOp, hx, hy, Sem.run_bind, hrun, Result.andThen_ok, Sem.run_pure]
  rw [this]
  exact ⟨_, hk _, hw.alloc _⟩
end
end Go.Sx
