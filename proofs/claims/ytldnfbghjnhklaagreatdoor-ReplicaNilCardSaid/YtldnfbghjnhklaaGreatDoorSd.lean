/- What values lead to: byte slices, slices of byte slices, slices of flat elements, of a value or of many, as one permission to read and as one assertion of our own. General. -/
import Derived.Test.YtldnfbghjnhklaaGreatDoorSo
set_option linter.unusedSimpArgs false
set_option linter.unusedVariables false
namespace Go.Sx
open Go.RowKit

/-- A slice of flat elements: where it lies, how many, the capacity, an element's size, the cells. -/
structure FSq where
  a : Option Addr
  n : Nat
  c : Nat
  sz : Nat
  xs : List Value
/-- What a value leads to. -/
structure Leads where
  b : List BS
  p : List PS
  f : List FSq
def Leads.nil : Leads := ⟨[], [], []⟩
def Leads.app (x y : Leads) : Leads := ⟨x.b ++ y.b, x.p ++ y.p, x.f ++ y.f⟩
class Deep (T : Type) where
  leads : T → Leads
def leadsL {T : Type} [Deep T] : List T → Leads
  | [] => .nil
  | v :: vs => (Deep.leads v).app (leadsL vs)

structure RdL (w0 : World) (H : List SA) (x : Leads) : Prop where
  b : ∀ y ∈ x.b, ∀ w, St w0 H w → BytesAt w y.val y.l
  p : ∀ y ∈ x.p, ∀ w, St w0 H w → CellsAt w (.slice y.a y.ls.length y.c) 1 (y.ls.map BS.val)
  e : ∀ y ∈ x.p, ∀ z ∈ y.ls, ∀ w, St w0 H w → BytesAt w z.val z.l
  f : ∀ y ∈ x.f, ∀ w, St w0 H w → CellsAt w (.slice y.a y.n y.c) y.sz y.xs
theorem RdL.tail' {w0 : World} {H : List SA} {x : SA} {l : Leads} (h : RdL w0 H l) : RdL w0 (x :: H) l :=
  ⟨fun y hy w hw => h.b y hy w hw.tail, fun y hy w hw => h.p y hy w hw.tail, fun y hy z hz w hw => h.e y hy z hz w hw.tail, fun y hy w hw => h.f y hy w hw.tail⟩
theorem RdL.nil {w0 : World} {H : List SA} : RdL w0 H .nil := ⟨fun _ h => (by cases h), fun _ h => (by cases h), fun _ h => (by cases h), fun _ h => (by cases h)⟩
theorem RdL.app {w0 : World} {H : List SA} {x y : Leads} (h : RdL w0 H x) (h' : RdL w0 H y) : RdL w0 H (x.app y) :=
  ⟨fun z hz => (List.mem_append.1 hz).elim (h.b z) (h'.b z), fun z hz => (List.mem_append.1 hz).elim (h.p z) (h'.p z), fun z hz => (List.mem_append.1 hz).elim (h.e z) (h'.e z), fun z hz => (List.mem_append.1 hz).elim (h.f z) (h'.f z)⟩
theorem RdL.left {w0 : World} {H : List SA} {x y : Leads} (h : RdL w0 H (x.app y)) : RdL w0 H x :=
  ⟨fun z hz => h.b z (List.mem_append_left _ hz), fun z hz => h.p z (List.mem_append_left _ hz), fun z hz => h.e z (List.mem_append_left _ hz), fun z hz => h.f z (List.mem_append_left _ hz)⟩
theorem RdL.right {w0 : World} {H : List SA} {x y : Leads} (h : RdL w0 H (x.app y)) : RdL w0 H y :=
  ⟨fun z hz => h.b z (List.mem_append_right _ hz), fun z hz => h.p z (List.mem_append_right _ hz), fun z hz => h.e z (List.mem_append_right _ hz), fun z hz => h.f z (List.mem_append_right _ hz)⟩
theorem RdL.mono {w0 : World} {H H' : List SA} {x : Leads} (h : RdL w0 H x) (hs : ∀ w, St w0 H' w → St w0 H w) : RdL w0 H' x :=
  ⟨fun y hy w hw => h.b y hy w (hs w hw), fun y hy w hw => h.p y hy w (hs w hw), fun y hy z hz w hw => h.e y hy z hz w (hs w hw), fun y hy w hw => h.f y hy w (hs w hw)⟩

/-- A value may be read, wherever H stands. -/
class Rd {T : Type} [Deep T] (w0 : World) (H : List SA) (v : T) : Prop where ok : RdL w0 H (Deep.leads v)
/-- .. all values of a list. -/
class Rds {T : Type} [Deep T] (w0 : World) (H : List SA) (vs : List T) : Prop where ok : ∀ v ∈ vs, RdL w0 H (Deep.leads v)
section
variable {T : Type} [Deep T] {w0 : World} {H : List SA}
instance Rd.tail {x : SA} {v : T} [h : Rd w0 H v] : Rd w0 (x :: H) v := ⟨h.ok.tail'⟩
instance Rds.tail {x : SA} {vs : List T} [h : Rds w0 H vs] : Rds w0 (x :: H) vs := ⟨fun v hv => (h.ok v hv).tail'⟩
instance Rds.at {vs : List T} [h : Rds w0 H vs] {k : Nat} {hk : k < vs.length} : Rd w0 H (vs[k]'hk) := ⟨h.ok _ (List.getElem_mem hk)⟩
instance Rds.nil : Rds w0 H ([] : List T) := ⟨fun _ h => (by cases h)⟩
instance Rds.cons {v : T} {vs : List T} [h : Rd w0 H v] [h' : Rds w0 H vs] : Rds w0 H (v :: vs) := ⟨fun u hu => by
  rcases List.mem_cons.1 hu with rfl | hu
  · exact h.ok
  · exact h'.ok u hu⟩
theorem Rds.mem {vs : List T} (h : Rds w0 H vs) {v : T} (hv : v ∈ vs) : Rd w0 H v := ⟨h.ok v hv⟩
theorem leadsL_app (vs us : List T) : leadsL (vs ++ us) = (leadsL vs).app (leadsL us) := by
  induction vs with
  | nil => simp [leadsL, Leads.app, Leads.nil]
  | cons v vs ih => simp [leadsL, ih, Leads.app]
theorem Rds.leads {vs : List T} (h : Rds w0 H vs) : RdL w0 H (leadsL vs) := by
  have := h.ok
  clear h
  induction vs with
  | nil => exact .nil
  | cons v vs ih => exact (this v (by simp)).app (ih fun u hu => this u (by simp [hu]))
theorem Rds.of {vs : List T} (h : RdL w0 H (leadsL vs)) : Rds w0 H vs := ⟨by
  induction vs with
  | nil => intro v hv; cases hv
  | cons v vs ih =>
    intro u hu
    rcases List.mem_cons.1 hu with rfl | hu
    · exact h.left
    · exact ih h.right u hu⟩
end
instance RdE.at {w0 : World} {H : List SA} {ls : List BS} [h : RdE w0 H ls] {k : Nat} {hk : k < ls.length} : RdB w0 H (.slice (ls[k]'hk).a (ls[k]'hk).l.length (ls[k]'hk).c) (ls[k]'hk).l := ⟨h.rd _ (List.getElem_mem hk)⟩

/-! ## Of our own -/
/-- A slice's cells lie in these blocks. -/
def CellsIn (fp : List Nat) (w : World) (v : Value) (sz : Nat) (xs : List Value) : Prop :=
  ∃ a n c, v = .slice a n c ∧ xs.length = n * sz ∧ n ≤ c ∧ c ≤ maxLen ∧ (0 < xs.length → ∃ b o, a = some ⟨b, o, none⟩ ∧ b ∈ fp ∧ ∀ j u, xs[j]? = some u → w.cell? ⟨b, o + j, none⟩ = some u)
theorem CellsIn.at {fp : List Nat} {w : World} {v : Value} {sz : Nat} {xs : List Value} (h : CellsIn fp w v sz xs) : CellsAt w v sz xs := by
  obtain ⟨a, n, c, h1, h2, h3, h4, h5⟩ := h
  exact ⟨a, n, c, h1, h2, h3, h4, fun h0 => let ⟨b, o, e1, _, e2⟩ := h5 h0; ⟨b, o, e1, e2⟩⟩
theorem CellsIn.keep {fp fp' : List Nat} {w w' : World} {v : Value} {sz : Nat} {xs : List Value} (h : CellsIn fp w v sz xs) (hs : ∀ b ∈ fp, b ∈ fp') (hb : ∀ b ∈ fp, w'.heap[b]? = w.heap[b]?) : CellsIn fp' w' v sz xs := by
  obtain ⟨a, n, c, h1, h2, h3, h4, h5⟩ := h
  refine ⟨a, n, c, h1, h2, h3, h4, fun h0 => ?_⟩
  obtain ⟨b, o, e1, e2, e3⟩ := h5 h0
  refine ⟨b, o, e1, hs b e2, fun j u hj => ?_⟩
  rw [← e3 j u hj]
  simp only [World.cell?, hb b e2]
theorem rowP_cellsIn {v : Value} {e : TypeId} {sz : Nat} {xs : List Value} {w : World} (h : rowP v e sz xs w) : CellsIn (rowFp v) w v sz xs := by
  have hc := h.cells
  obtain ⟨a, n, c, hv, hl, hn, hc', ha, hx⟩ := h
  refine ⟨a, n, c, hv, hl, hn, hc', fun h0 => ?_⟩
  have hc0 : c ≠ 0 := by
    rintro rfl
    obtain rfl : n = 0 := by omega
    simp at hl; simp [hl] at h0
  obtain ⟨g, cur, hg, hw, h1, h2⟩ := hx hc0
  obtain ⟨a', n', c', hv', -, -, -, hcell⟩ := hc
  obtain ⟨b, o, hb, hce⟩ := hcell h0
  subst hv; subst hg
  simp only [Value.slice.injEq] at hv'
  have hb2 : (some (⟨g, 0, none⟩ : Addr)) = some ⟨b, o, none⟩ := hv'.1.trans hb
  simp only [Option.some.injEq, Addr.mk.injEq] at hb2
  refine ⟨g, 0, rfl, by simp [rowFp, hc0], fun j u hj => ?_⟩
  have := hce j u hj
  rw [← hb2.1, ← hb2.2.1] at this
  exact this
/-- All that is led to lies in these blocks. -/
structure InL (fp : List Nat) (w : World) (x : Leads) : Prop where
  b : ∀ y ∈ x.b, CellsIn fp w y.val 1 (bytesV y.l)
  p : ∀ y ∈ x.p, CellsIn fp w (.slice y.a y.ls.length y.c) 1 (y.ls.map BS.val)
  e : ∀ y ∈ x.p, ∀ z ∈ y.ls, CellsIn fp w z.val 1 (bytesV z.l)
  f : ∀ y ∈ x.f, CellsIn fp w (.slice y.a y.n y.c) y.sz y.xs
theorem InL.keep {fp fp' : List Nat} {w w' : World} {x : Leads} (h : InL fp w x) (hs : ∀ b ∈ fp, b ∈ fp') (hb : ∀ b ∈ fp, w'.heap[b]? = w.heap[b]?) : InL fp' w' x :=
  ⟨fun y hy => (h.b y hy).keep hs hb, fun y hy => (h.p y hy).keep hs hb, fun y hy z hz => (h.e y hy z hz).keep hs hb, fun y hy => (h.f y hy).keep hs hb⟩
theorem InL.app {fp : List Nat} {w : World} {x y : Leads} (h : InL fp w x) (h' : InL fp w y) : InL fp w (x.app y) :=
  ⟨fun z hz => (List.mem_append.1 hz).elim (h.b z) (h'.b z), fun z hz => (List.mem_append.1 hz).elim (h.p z) (h'.p z), fun z hz => (List.mem_append.1 hz).elim (h.e z) (h'.e z), fun z hz => (List.mem_append.1 hz).elim (h.f z) (h'.f z)⟩
theorem InL.sub {fp : List Nat} {w : World} {x y : Leads} (h : InL fp w x) (hb : ∀ z ∈ y.b, z ∈ x.b) (hp : ∀ z ∈ y.p, z ∈ x.p) (hf : ∀ z ∈ y.f, z ∈ x.f) : InL fp w y :=
  ⟨fun z hz => h.b z (hb z hz), fun z hz => h.p z (hp z hz), fun z hz => h.e z (hp z hz), fun z hz => h.f z (hf z hz)⟩
theorem InL.nil {fp : List Nat} {w : World} : InL fp w .nil := ⟨fun _ h => (by cases h), fun _ h => (by cases h), fun _ h => (by cases h), fun _ h => (by cases h)⟩
/-- Data of our own. -/
def dat (fp : List Nat) (x : Leads) : SA := ⟨fp, fun w => InL fp w x, fun _ _ hb h => h.keep (fun _ h => h) hb⟩
theorem RdL.own {w0 : World} {H : List SA} {fp : List Nat} {x : Leads} : RdL w0 (dat fp x :: H) x :=
  ⟨fun y hy w hw => ((hw.holds (dat fp x) (by simp)).b y hy).at, fun y hy w hw => ((hw.holds (dat fp x) (by simp)).p y hy).at, fun y hy z hz w hw => ((hw.holds (dat fp x) (by simp)).e y hy z hz).at, fun y hy w hw => ((hw.holds (dat fp x) (by simp)).f y hy).at⟩
instance Rd.own {T : Type} [Deep T] {w0 : World} {H : List SA} {fp : List Nat} {v : T} : Rd w0 (dat fp (Deep.leads v) :: H) v := ⟨.own⟩
instance Rds.own {T : Type} [Deep T] {w0 : World} {H : List SA} {fp : List Nat} {vs : List T} : Rds w0 (dat fp (leadsL vs) :: H) vs := .of .own
theorem St.datNil {w0 w : World} {H : List SA} (h : St w0 H w) : St w0 (dat [] .nil :: H) w :=
  h.fresh rfl rfl rfl (Nat.le_refl _) (fun _ _ => rfl) .nil (by simp [dat]) (by simp [dat])
theorem St.datAdd {w0 w : World} {H : List SA} {fp fp' : List Nat} {x y : Leads} (h : St w0 (dat fp x :: dat fp' y :: H) w) : St w0 (dat (fp ++ fp') (x.app y) :: H) w :=
  h.merge rfl fun h1 h2 => (h1.keep (fun b hb => List.mem_append_left _ hb) (fun _ _ => rfl)).app (h2.keep (fun b hb => List.mem_append_right _ hb) (fun _ _ => rfl))
theorem St.datSub {w0 w : World} {H : List SA} {fp : List Nat} {x y : Leads} (hb : ∀ z ∈ y.b, z ∈ x.b) (hp : ∀ z ∈ y.p, z ∈ x.p) (hf : ∀ z ∈ y.f, z ∈ x.f) (h : St w0 (dat fp x :: H) w) : St w0 (dat fp y :: H) w :=
  ⟨h.below, h.nodup, fun z hz => by
    rcases List.mem_cons.1 hz with rfl | hz
    · exact (h.holds (dat fp x) (by simp)).sub hb hp hf
    · exact h.holds z (by simp [hz]), fun z hz b hb => by
    rcases List.mem_cons.1 hz with rfl | hz
    · exact h.lo (dat fp x) (by simp) b hb
    · exact h.lo z (by simp [hz]) b hb⟩
theorem St.turn {w0 w : World} {H : List SA} {x y : SA} (h : St w0 (x :: H) w) (hfp : y.fp = x.fp) (hp : x.p w → y.p w) : St w0 (y :: H) w :=
  ⟨h.below, by have := h.nodup; simp only [List.flatMap_cons, hfp] at this ⊢; exact this, fun z hz => by
    rcases List.mem_cons.1 hz with rfl | hz
    · exact hp (h.holds x (by simp))
    · exact h.holds z (by simp [hz]), fun z hz b hb => by
    rcases List.mem_cons.1 hz with rfl | hz
    · exact h.lo x (by simp) b (hfp ▸ hb)
    · exact h.lo z (by simp [hz]) b hb⟩
/-- A byte row of our own is data. -/
theorem St.datB {w0 w : World} {H : List SA} {x : BS} {e : TypeId} (h : St w0 (row (.slice x.a x.l.length x.c) e 1 (bytesV x.l) :: H) w) : St w0 (dat (rowFp (.slice x.a x.l.length x.c)) ⟨[x], [], []⟩ :: H) w :=
  h.turn rfl fun hp => ⟨fun y hy => (by obtain rfl : y = x := (by simpa using hy)
                                        exact rowP_cellsIn hp), fun _ h => (by cases h), fun _ h => (by cases h), fun _ h => (by cases h)⟩
/-- A row of flat elements is. -/
theorem St.datF {w0 w : World} {H : List SA} {x : FSq} {e : TypeId} (h : St w0 (row (.slice x.a x.n x.c) e x.sz x.xs :: H) w) : St w0 (dat (rowFp (.slice x.a x.n x.c)) ⟨[], [], [x]⟩ :: H) w :=
  h.turn rfl fun hp => ⟨fun _ h => (by cases h), fun _ h => (by cases h), fun _ h => (by cases h), fun y hy => by
    obtain rfl : y = x := by simpa using hy
    exact rowP_cellsIn hp⟩
/-- A row of byte slices whose bytes are ours is. -/
theorem St.datP {w0 w : World} {H : List SA} {x : PS} {e : TypeId} {fp : List Nat} (h : St w0 (row (.slice x.a x.ls.length x.c) e 1 (x.ls.map BS.val) :: dat fp ⟨x.ls, [], []⟩ :: H) w) : St w0 (dat (rowFp (.slice x.a x.ls.length x.c) ++ fp) ⟨[], [x], []⟩ :: H) w :=
  h.merge rfl fun h1 h2 => ⟨fun _ h => (by cases h), fun y hy => (by obtain rfl : y = x := by simpa using hy
                                                                     exact (rowP_cellsIn h1).keep (fun b hb => List.mem_append_left _ hb) (fun _ _ => rfl)),
    fun y hy z hz => (by obtain rfl : y = x := by simpa using hy
                         exact (h2.b z hz).keep (fun b hb => List.mem_append_right _ hb) (fun _ _ => rfl)), fun _ h => (by cases h)⟩
instance RdE.own2 {w0 : World} {H : List SA} {fp : List Nat} {ls : List BS} : RdE w0 (dat fp ⟨ls, [], []⟩ :: H) ls := ⟨fun x hx w hw => ((hw.holds (dat fp ⟨ls, [], []⟩) (by simp)).b x hx).at⟩
instance PS.deep : Deep PS := ⟨fun x => ⟨[], [x], []⟩⟩
instance BS.deep : Deep BS := ⟨fun x => ⟨[x], [], []⟩⟩
instance (priority := low) RdB.ofBS {w0 : World} {H : List SA} {x : BS} [h : Rd w0 H x] : RdB w0 H (.slice x.a x.l.length x.c) x.l := ⟨h.ok.b x (by simp [Deep.leads])⟩
instance (priority := low) RdC.ofPS {w0 : World} {H : List SA} {x : PS} [h : Rd w0 H x] : RdC w0 H (.slice x.a x.ls.length x.c) 1 (x.ls.map BS.val) := ⟨h.ok.p x (by simp [Deep.leads])⟩
instance (priority := low) RdE.ofPS {w0 : World} {H : List SA} {x : PS} [h : Rd w0 H x] : RdE w0 H x.ls := ⟨h.ok.e x (by simp [Deep.leads])⟩

theorem row_formN {w0 w : World} {H : List SA} {v : Value} {e sz k : Nat} {xs : List Value} (h : St w0 (row v e sz xs :: H) w) (hk : xs.length = k * sz) (hsz : 0 < sz) : ∃ a c, v = .slice a k c := by
  obtain ⟨a, n, c, hv, hl, -⟩ := h.holds (row v e sz xs) (by simp)
  have : n = k := Nat.eq_of_mul_eq_mul_right hsz (hl.symm.trans hk)
  subst this
  exact ⟨a, c, hv⟩
section
variable {P : Program} {w0 : World} {σ : Env} {H : List SA} {d : Option Nat} {ty : TypeId} {pos : String} {aft : Array Edge} {g : Option (Nat × Bool)} {K : Value → List SA → Prop}
/-- append of elements of some cells each. -/
theorem Ef_appendS {α : Type} (enc : α → List Value) {s x : Operand} {t e sz bytes : Nat} {sv xv : Value} {xs ys : List α} {Hr : List SA} (hlen : ∀ x, (enc x).length = sz) (h1 : ∀ x, (enc x).all Value.oneCell' = true) (hs : ev σ s = sv) (hx : ev σ x = xv) [ht : TySl P t e sz bytes]
    [hr : PickR sv H e sz (xs.flatMap enc) Hr] [hn : RdC w0 H xv sz (ys.flatMap enc)] (hb : xs.length + ys.length ≤ 10000000) (hsz : Nat.ble sz 400 = true) (hby : Nat.ble bytes 4000 = true)
    (h : ∀ a c, K (.slice a (xs ++ ys).length c) (row (.slice a (xs ++ ys).length c) e sz ((xs ++ ys).flatMap enc) :: Hr)) : Ef P w0 H σ ⟨d, .call ⟨.builtin .append, #[s, x], #[t, t]⟩, ty, pos, aft, g⟩ K := by
  obtain ⟨i, z, hi, hz, hsz', hby', hzs⟩ := ht.spec
  have hby2 := Nat.le_of_ble_eq_true hby
  have hsz2 := Nat.le_of_ble_eq_true hsz
  have e1 := flat_len enc sz hlen xs
  have e2 := flat_len enc sz hlen ys
  have hle : (xs.flatMap enc).length + (ys.flatMap enc).length ≤ 10000000 * 400 := by
    rw [e1, e2, ← Nat.add_mul]; exact Nat.mul_le_mul hb hsz2
  refine (Ef_append (K := fun v H' => H' = row v e sz (xs.flatMap enc ++ ys.flatMap enc) :: Hr) (m := ys.length) sv xv hs hx (fun w hw => hr.st hw) hn.rd ht.ht hi hz hsz' hby' hzs ht.pos e2 ?_ (by omega) ?_ (fun _ => rfl)).mono ?_
  · intro u hu
    obtain ⟨y, _, hy⟩ := List.mem_flatMap.1 hu
    exact List.all_eq_true.1 (h1 y) u hy
  · exact Nat.le_trans (Nat.mul_le_mul hle hby2) (by decide)
  · intro v H' w hH hw
    subst hH
    rw [← List.flatMap_append] at hw
    obtain ⟨a, c, rfl⟩ := row_formN hw (flat_len enc sz hlen (xs ++ ys)) ht.pos
    exact ⟨_, h a c, hw⟩
end
end Go.Sx
namespace Go.Sx
open Go.RowKit
/-! ## Loops round by round -/
def LoopWp (P : Program) (n : Fr) (c : Code) (Q : Post) (a : Act) (w : World) : Prop :=
  ∀ b k cs, ∃ e a' w', lift n Q e a' w' ∧ Arrives P (lone (b.at a (.code c :: .inLoop c :: k)) cs w) b k cs e a' w'
def TU (P : Program) (n : Fr) (w0 : World) (c : Code) (σ : Env) (H : List SA) (Q : Post) : Prop := ∀ a w, Rep n a σ → St w0 H w → LoopWp P n c Q a w
def againQ (P : Program) (n : Fr) (c : Code) (Q : Post) : Post := fun e σ w => match e with
  | .normal => ∀ a, Rep n a σ → LoopWp P n c Q a w
  | e => Q e σ w
section
variable {P : Program} {n : Fr} {w0 : World} {σ : Env} {H : List SA} {Q : Post} {c : Code}
theorem T_unroll (h : TU P n w0 c σ H Q) : T P n w0 (.loop c) σ H Q := fun a w ha hw b k cs => by
  obtain ⟨e, a', w', hq, harr⟩ := h a w ha hw b k cs
  exact ⟨e, a', w', hq, .of_steps (.one step_loop) harr⟩
theorem TU_round (h : T P n w0 c σ H (againQ P n c Q)) : TU P n w0 c σ H Q := fun a w ha hw b k cs => by
  obtain ⟨e, a₁, w₁, hq, harr⟩ := h a w ha hw b (.inLoop c :: k) cs
  cases e with
  | normal =>
    obtain ⟨σ', g1, g2⟩ := hq
    obtain ⟨e₂, a₂, w₂, hq₂, harr₂⟩ := g2 a₁ g1 b k cs
    exact ⟨e₂, a₂, w₂, hq₂, .of_steps (Steps.trans harr (.one step_inLoop)) harr₂⟩
  | exit id => exact ⟨.exit id, a₁, w₁, hq, .pass (x := .inLoop c) rfl (fun _ _ => .inl (by simp)) harr⟩
  | goto l => exact ⟨.goto l, a₁, w₁, hq, .pass (x := .inLoop c) rfl (fun _ _ => .inl (by simp)) harr⟩
  | ret => exact ⟨.ret, a₁, w₁, hq, .pass (x := .inLoop c) rfl (fun _ _ => .inl (by simp)) harr⟩
  | panic ch => exact ⟨.panic ch, a₁, w₁, hq, .pass (x := .inLoop c) rfl (fun _ _ => .inl (by simp)) harr⟩
  | outgrown => exact ⟨.outgrown, a₁, w₁, hq, .pass (x := .inLoop c) rfl (fun _ _ => .inl (by simp)) harr⟩
theorem X_again (h : TU P n w0 c σ H Q) : X w0 .normal (againQ P n c Q) σ H := fun w hw a ha => h a w ha hw
theorem X_again_exit {j : Nat} (h : X w0 (.exit j) Q σ H) : X w0 (.exit j) (againQ P n c Q) σ H := h
theorem X_again_ret (h : X w0 .ret Q σ H) : X w0 .ret (againQ P n c Q) σ H := h
end
end Go.Sx
namespace Go.Sx
open Go.RowKit
/-! ## Parts of slices -/
def subA (a : Option Addr) (c i sz : Nat) : Option Addr := if c = i then a else a.map (·.add (i * sz))
theorem CellsAt.sub {w : World} {a : Option Addr} {n c sz : Nat} {xs : List Value} (h : CellsAt w (.slice a n c) sz xs) (hsz : 0 < sz) (i m : Nat) (hm : i + m ≤ n) : CellsAt w (.slice (subA a c i sz) m (c - i)) sz ((xs.drop (i * sz)).take (m * sz)) := by
  obtain ⟨a', n', c', hv, hl, hn, hc, hx⟩ := h
  obtain ⟨rfl, rfl, rfl⟩ : a' = a ∧ n' = n ∧ c' = c := by simp at hv; exact ⟨hv.1.symm, hv.2.1.symm, hv.2.2.symm⟩
  have hle : i * sz + m * sz ≤ n' * sz := by rw [← Nat.add_mul]; exact Nat.mul_le_mul_right _ hm
  refine ⟨_, _, _, rfl, by simp; omega, by omega, by omega, fun h0 => ?_⟩
  have hm0 : 0 < m := by
    rcases Nat.eq_zero_or_pos m with h | h
    · subst h; simp at h0
    · exact h
  have hpos : 0 < xs.length := by rw [hl]; exact Nat.mul_pos (by omega) hsz
  obtain ⟨b, o, rfl, hce⟩ := hx hpos
  refine ⟨b, o + i * sz, by simp only [subA]; rw [if_neg (by omega)]; simp only [Option.map_some, add_block], fun j u hj => ?_⟩
  rw [List.getElem?_take] at hj
  split at hj
  · rw [List.getElem?_drop] at hj
    rw [Nat.add_assoc]; exact hce _ u hj
  · cases hj
instance (priority := low) RdB.sub {w0 : World} {H : List SA} {a : Option Addr} {c i m : Nat} {l : List UInt8} [h : RdB w0 H (.slice a l.length c) l] : RdB w0 H (.slice (subA a c i 1) ((l.drop i).take m).length (c - i)) ((l.drop i).take m) := ⟨fun w hw => by
  by_cases hi : i ≤ l.length
  · have := (h.rd w hw).sub (by decide) i ((l.drop i).take m).length (by simp; omega)
    have e : (List.drop (i * 1) (bytesV l)).take (((l.drop i).take m).length * 1) = bytesV ((l.drop i).take m) := by
      simp only [bytesV, Nat.mul_one, List.map_take, List.map_drop, List.length_take, List.length_drop]
      rw [List.take_eq_take_iff]
      first | (simp; done) | (simp; omega)
    rw [e] at this; exact this
  · have e : (l.drop i).take m = [] := by rw [List.drop_eq_nil_of_le (by omega)]; simp
    rw [e]
    exact ⟨_, _, _, rfl, by simp [bytesV], by simp, (by obtain ⟨a', n', c', hv, hl, hn, hc, hx⟩ := h.rd w hw; simp at hv; omega), by simp [bytesV]⟩⟩
instance (priority := low) RdB.takeI {w0 : World} {H : List SA} {a : Option Addr} {c m : Nat} {l : List UInt8} [h : RdB w0 H (.slice a l.length c) l] : RdB w0 H (.slice a (l.take m).length c) (l.take m) := ⟨fun w hw => by
  obtain ⟨a', n', c', hv, hl, hn, hc, hx⟩ := h.rd w hw
  obtain ⟨rfl, rfl, rfl⟩ : a' = a ∧ n' = l.length ∧ c' = c := by simp at hv; exact ⟨hv.1.symm, hv.2.1.symm, hv.2.2.symm⟩
  refine ⟨_, _, _, rfl, by simp [bytesV], by simp; omega, hc, fun h0 => ?_⟩
  have hpos : 0 < (bytesV l).length := by simp [bytesV] at h0 ⊢; omega
  obtain ⟨b, o, ha, hce⟩ := hx hpos
  refine ⟨b, o, ha, fun j u hj => hce j u ?_⟩
  simp only [bytesV, List.map_take, List.getElem?_take] at hj
  split at hj
  · exact hj
  · cases hj⟩
instance (priority := low) RdB.dropI {w0 : World} {H : List SA} {a : Option Addr} {c i : Nat} {l : List UInt8} [h : RdB w0 H (.slice a l.length c) l] : RdB w0 H (.slice (subA a c i 1) (l.drop i).length (c - i)) (l.drop i) := ⟨fun w hw => by
  have := (RdB.sub (h := h) (i := i) (m := l.length)).rd w hw
  rwa [List.take_of_length_le (by simp)] at this⟩
section
variable {P : Program} {w0 : World} {σ : Env} {H : List SA} {d : Option Nat} {ty : TypeId} {pos : String} {aft : Array Edge} {g : Option (Nat × Bool)}
theorem elem_of {t e : TypeId} (h : P.underlying t = some (.slice e)) : P.underlying t = some (.slice (P.elem t)) := by simp [Program.elem, h]
theorem Qt_slice_lh {x lo hi : Operand} {t e sz bytes n c : Nat} {k k' : IntKind} {a : Option Addr} (i j : Nat) (hx : ev σ x = .slice a n c) (hl : ev σ lo = .int k (i : Int)) (hh : ev σ hi = .int k' (j : Int)) [ht : TySl P t e sz bytes] (hij : i ≤ j) (hjc : ∀ w, St w0 H w → j ≤ c) :
    Qt P w0 H σ ⟨d, .slice t x (some lo) (some hi) none, ty, pos, aft, g⟩ (.slice (subA a c i sz) (j - i) (c - i)) := fun w hw => by
  obtain ⟨ii, z, hi', -, hsz, -, -⟩ := ht.spec
  have hel : P.elem t = e := by simp [Program.elem, ht.ht]
  have hs : (sizeOf (P.elem t)).run P w = .ok sz w := by rw [hel, run_sizeOf_of hi', hsz]
  have := run_slice_lh (P := P) (w := w) t a n c (elem_of ht.ht) k k' (i : Int) (j : Int) (by omega) (by omega) (by have := hjc w hw; omega)
  simp only [execOp, hx, Option.map_some, Option.map_none, hl, hh, run_sliceAt_slice w t _ _ _ _ (elem_of ht.ht), Sem.run_bind, this, hs, Result.andThen_ok, Sem.run_pure, sliced, Int.toNat_natCast, subA]
theorem Qt_slice_h {x hi : Operand} {t e sz bytes n c : Nat} {k' : IntKind} {a : Option Addr} (j : Nat) (hx : ev σ x = .slice a n c) (hh : ev σ hi = .int k' (j : Int)) [ht : TySl P t e sz bytes] (hjc : ∀ w, St w0 H w → j ≤ c) :
    Qt P w0 H σ ⟨d, .slice t x none (some hi) none, ty, pos, aft, g⟩ (.slice a j c) := fun w hw => by
  obtain ⟨ii, z, hi', -, hsz, -, -⟩ := ht.spec
  have hel : P.elem t = e := by simp [Program.elem, ht.ht]
  have hs : (sizeOf (P.elem t)).run P w = .ok sz w := by rw [hel, run_sizeOf_of hi', hsz]
  have := run_slice_h (P := P) (w := w) t a n c (elem_of ht.ht) k' (j : Int) (by omega) (by have := hjc w hw; omega)
  have e0 : (if c = 0 then a else a.map (·.add (0 * sz))) = a := by
    split
    · rfl
    · cases a <;> simp [Addr.add]
  simp only [execOp, hx, Option.map_some, Option.map_none, hh, run_sliceAt_slice w t _ _ _ _ (elem_of ht.ht), Sem.run_bind, this, hs, Result.andThen_ok, Sem.run_pure, sliced, Int.toNat_natCast, e0, Nat.sub_zero]
theorem Qt_slice_l {x lo : Operand} {t e sz bytes n c : Nat} {k : IntKind} {a : Option Addr} (i : Nat) (hx : ev σ x = .slice a n c) (hl : ev σ lo = .int k (i : Int)) [ht : TySl P t e sz bytes] (hij : i ≤ n) :
    Qt P w0 H σ ⟨d, .slice t x (some lo) none none, ty, pos, aft, g⟩ (.slice (subA a c i sz) (n - i) (c - i)) := fun w hw => by
  obtain ⟨ii, z, hi', -, hsz, -, -⟩ := ht.spec
  have hel : P.elem t = e := by simp [Program.elem, ht.ht]
  have hs : (sizeOf (P.elem t)).run P w = .ok sz w := by rw [hel, run_sizeOf_of hi', hsz]
  have := run_slice_l (P := P) (w := w) t a n c (elem_of ht.ht) k (i : Int) (by omega) (by omega)
  simp only [execOp, hx, Option.map_some, Option.map_none, hl, run_sliceAt_slice w t _ _ _ _ (elem_of ht.ht), Sem.run_bind, this, hs, Result.andThen_ok, Sem.run_pure, sliced, Int.toNat_natCast, subA]
theorem RdB.cap {a : Option Addr} {n c : Nat} {l : List UInt8} (h : RdB w0 H (.slice a n c) l) {w : World} (hw : St w0 H w) : n ≤ c := by
  obtain ⟨a', n', c', hv, hl, hn, hc, hx⟩ := h.rd w hw
  simp at hv; omega
/-- Parts of byte slices. -/
theorem Qt_sliceB_lh {x lo hi : Operand} {t e bytes c : Nat} {k k' : IntKind} {a : Option Addr} {l : List UInt8} (i m : Nat) (hx : ev σ x = .slice a l.length c) (hl : ev σ lo = .int k (i : Int)) (hh : ev σ hi = .int k' ((i + m : Nat) : Int)) [ht : TySl P t e 1 bytes] [hr : RdB w0 H (.slice a l.length c) l] (him : i + m ≤ l.length) :
    Qt P w0 H σ ⟨d, .slice t x (some lo) (some hi) none, ty, pos, aft, g⟩ (.slice (subA a c i 1) ((l.drop i).take m).length (c - i)) := by
  have := Qt_slice_lh (P := P) (w0 := w0) (H := H) (d := d) (ty := ty) (pos := pos) (aft := aft) (g := g) (t := t) i (i + m) hx hl hh (by omega) (fun w hw => by have := hr.cap hw; omega)
  rwa [show i + m - i = ((l.drop i).take m).length from by simp; omega] at this
theorem Qt_sliceB_h {x hi : Operand} {t e bytes c : Nat} {k' : IntKind} {a : Option Addr} {l : List UInt8} (m : Nat) (hx : ev σ x = .slice a l.length c) (hh : ev σ hi = .int k' (m : Int)) [ht : TySl P t e 1 bytes] [hr : RdB w0 H (.slice a l.length c) l] (him : m ≤ l.length) :
    Qt P w0 H σ ⟨d, .slice t x none (some hi) none, ty, pos, aft, g⟩ (.slice a (l.take m).length c) := by
  have := Qt_slice_h (P := P) (w0 := w0) (H := H) (d := d) (ty := ty) (pos := pos) (aft := aft) (g := g) (t := t) m hx hh (fun w hw => by have := hr.cap hw; omega)
  rwa [show m = (l.take m).length from by simp; omega] at this
theorem Qt_sliceB_l {x lo : Operand} {t e bytes c : Nat} {k : IntKind} {a : Option Addr} {l : List UInt8} (i : Nat) (hx : ev σ x = .slice a l.length c) (hl : ev σ lo = .int k (i : Int)) [ht : TySl P t e 1 bytes] (hi : i ≤ l.length) :
    Qt P w0 H σ ⟨d, .slice t x (some lo) none none, ty, pos, aft, g⟩ (.slice (subA a c i 1) (l.drop i).length (c - i)) := by
  have := Qt_slice_l (P := P) (w0 := w0) (H := H) (d := d) (ty := ty) (pos := pos) (aft := aft) (g := g) (t := t) i hx hl hi
  rwa [show l.length - i = (l.drop i).length from by simp] at this
/-! ## Bits of natural numbers -/
theorem or_nat (k : IntKind) (hs : k.signed = false) {a b : Nat} (ha : a < 2 ^ k.bits) (hb : b < 2 ^ k.bits) : k.wrap ((BitVec.ofInt k.bits (a : Int) ||| BitVec.ofInt k.bits (b : Int)).toNat : Int) = ((a ||| b : Nat) : Int) := by
  have h := Nat.or_lt_two_pow ha hb
  have e : (BitVec.ofInt k.bits (a : Int) ||| BitVec.ofInt k.bits (b : Int)).toNat = a ||| b := by
    simp only [BitVec.ofInt_natCast, BitVec.toNat_or, BitVec.toNat_ofNat, Nat.mod_eq_of_lt ha, Nat.mod_eq_of_lt hb]
  rw [e]
  simp only [IntKind.wrap, hs, Bool.false_and, Bool.false_eq_true, if_false]
  exact Int.emod_eq_of_lt (by omega) (by exact_mod_cast h)
theorem xor_nat (k : IntKind) (hs : k.signed = false) {a b : Nat} (ha : a < 2 ^ k.bits) (hb : b < 2 ^ k.bits) : k.wrap ((BitVec.ofInt k.bits (a : Int) ^^^ BitVec.ofInt k.bits (b : Int)).toNat : Int) = ((a ^^^ b : Nat) : Int) := by
  have h := Nat.xor_lt_two_pow ha hb
  have e : (BitVec.ofInt k.bits (a : Int) ^^^ BitVec.ofInt k.bits (b : Int)).toNat = a ^^^ b := by
    simp only [BitVec.ofInt_natCast, BitVec.toNat_xor, BitVec.toNat_ofNat, Nat.mod_eq_of_lt ha, Nat.mod_eq_of_lt hb]
  rw [e]
  simp only [IntKind.wrap, hs, Bool.false_and, Bool.false_eq_true, if_false]
  exact Int.emod_eq_of_lt (by omega) (by exact_mod_cast h)
theorem and_nat (k : IntKind) (hs : k.signed = false) {a b : Nat} (ha : a < 2 ^ k.bits) (hb : b < 2 ^ k.bits) : k.wrap ((BitVec.ofInt k.bits (a : Int) &&& BitVec.ofInt k.bits (b : Int)).toNat : Int) = ((a &&& b : Nat) : Int) := by
  have h : a &&& b < 2 ^ k.bits := Nat.lt_of_le_of_lt Nat.and_le_left ha
  have e : (BitVec.ofInt k.bits (a : Int) &&& BitVec.ofInt k.bits (b : Int)).toNat = a &&& b := by
    simp only [BitVec.ofInt_natCast, BitVec.toNat_and, BitVec.toNat_ofNat, Nat.mod_eq_of_lt ha, Nat.mod_eq_of_lt hb]
  rw [e]
  simp only [IntKind.wrap, hs, Bool.false_and, Bool.false_eq_true, if_false]
  exact Int.emod_eq_of_lt (by omega) (by exact_mod_cast h)
theorem wrap_nat (k : IntKind) (hs : k.signed = false) {a : Nat} (ha : a < 2 ^ k.bits) : k.wrap (a : Int) = (a : Int) := by
  simp only [IntKind.wrap, hs, Bool.false_and, Bool.false_eq_true, if_false]
  exact Int.emod_eq_of_lt (by omega) (by exact_mod_cast ha)
theorem Qt_orN {t t' : TypeId} {x y : Operand} {k : IntKind} {a b : Nat} (hx : ev σ x = .int k (a : Int)) (hy : ev σ y = .int k (b : Int)) (hs : k.signed = false) (ha : a < 2 ^ k.bits) (hb : b < 2 ^ k.bits) : Qt P w0 H σ ⟨d, .binOp .or t x y t', ty, pos, aft, g⟩ (.int k ((a ||| b : Nat) : Int)) := by
  have := Qt_or (P := P) (w0 := w0) (H := H) (d := d) (ty := ty) (pos := pos) (aft := aft) (g := g) (t := t) (t' := t') hx hy
  rwa [or_nat k hs ha hb] at this
theorem Qt_andN {t t' : TypeId} {x y : Operand} {k : IntKind} {a b : Nat} (hx : ev σ x = .int k (a : Int)) (hy : ev σ y = .int k (b : Int)) (hs : k.signed = false) (ha : a < 2 ^ k.bits) (hb : b < 2 ^ k.bits) : Qt P w0 H σ ⟨d, .binOp .and t x y t', ty, pos, aft, g⟩ (.int k ((a &&& b : Nat) : Int)) := by
  have := Qt_and (P := P) (w0 := w0) (H := H) (d := d) (ty := ty) (pos := pos) (aft := aft) (g := g) (t := t) (t' := t') hx hy
  rwa [and_nat k hs ha hb] at this
theorem Qt_xorN {t t' : TypeId} {x y : Operand} {k : IntKind} {a b : Nat} (hx : ev σ x = .int k (a : Int)) (hy : ev σ y = .int k (b : Int)) (hs : k.signed = false) (ha : a < 2 ^ k.bits) (hb : b < 2 ^ k.bits) : Qt P w0 H σ ⟨d, .binOp .xor t x y t', ty, pos, aft, g⟩ (.int k ((a ^^^ b : Nat) : Int)) := by
  have := Qt_xor (P := P) (w0 := w0) (H := H) (d := d) (ty := ty) (pos := pos) (aft := aft) (g := g) (t := t) (t' := t') hx hy
  rwa [xor_nat k hs ha hb] at this
theorem Qt_shlN {t t' : TypeId} {x y : Operand} {k k' : IntKind} {a m : Nat} (hx : ev σ x = .int k (a : Int)) (hy : ev σ y = .int k' (m : Int)) (hm : m ≤ k.bits) (hr : a * 2 ^ m < 2 ^ k.bits) (hs : k.signed = false) : Qt P w0 H σ ⟨d, .binOp .shl t x y t', ty, pos, aft, g⟩ (.int k ((a * 2 ^ m : Nat) : Int)) := by
  have := Qt_shl (P := P) (w0 := w0) (H := H) (d := d) (ty := ty) (pos := pos) (aft := aft) (g := g) (t := t) (t' := t') hx hy (by omega)
  have e : (a : Int) * 2 ^ (min (m : Int).toNat k.bits) = ((a * 2 ^ m : Nat) : Int) := by
    rw [show min (m : Int).toNat k.bits = m from by simp; omega]; push_cast; rfl
  rw [e, wrap_nat k hs hr] at this
  exact this
theorem Qt_shl8 {t t' : TypeId} {x y : Operand} {k' : IntKind} {a : Nat} (hx : ev σ x = .int .u64 (a : Int)) (hy : ev σ y = .int k' 8) (hr : a < 72057594037927936) : Qt P w0 H σ ⟨d, .binOp .shl t x y t', ty, pos, aft, g⟩ (.int .u64 ((a * 2 ^ 8 : Nat) : Int)) :=
  Qt_shlN (m := 8) hx hy (by decide) (by show a * 2 ^ 8 < 2 ^ 64; omega) rfl
end
end Go.Sx
namespace Go.Sx
open Go.RowKit
section
variable {P : Program} {w0 : World} {σ : Env} {H : List SA} {d : Option Nat} {ty : TypeId} {pos : String} {aft : Array Edge} {g : Option (Nat × Bool)} {K : Value → List SA → Prop}
/-- append of one byte slice onto a row of them. -/
theorem Ef_appendP {s x : Operand} {t e bytes : Nat} {sv xv : Value} {ls : List BS} {Hr : List SA} (y : BS) (hs : ev σ s = sv) (hx : ev σ x = xv) [ht : TySl P t e 1 bytes] [hr : PickR sv H e 1 (ls.map BS.val) Hr] [hn : RdC w0 H xv 1 [y.val]]
    (hb : ls.length ≤ 4294967295) (hby : Nat.ble bytes 32768 = true)
    (h : ∀ a c, K (.slice a (ls ++ [y]).length c) (row (.slice a (ls ++ [y]).length c) e 1 ((ls ++ [y]).map BS.val) :: Hr)) : Ef P w0 H σ ⟨d, .call ⟨.builtin .append, #[s, x], #[t, t]⟩, ty, pos, aft, g⟩ K :=
  Ef_append1 hs hx (by intro u hu; obtain rfl : u = y.val := by simpa using hu
                       rfl) (by simp; omega) hby (fun a c => by
    have := h a c
    rw [List.map_append] at this
    simpa using this)
end
theorem drop_next {α : Type} {l x r : List α} {k : Nat} (h : l.drop k = x ++ r) : l.drop (k + x.length) = r := by
  rw [← List.drop_drop, h, List.drop_left]
theorem drop_le {α : Type} {l x r : List α} {k : Nat} (h : l.drop k = x ++ r) (hx : 0 < x.length) : k + x.length ≤ l.length := by
  have h1 := congrArg List.length h
  simp at h1; omega
end Go.Sx
namespace Go.Sx
open Go.RowKit
section
variable {P : Program} {w0 : World} {σ : Env} {H : List SA} {d : Option Nat} {ty : TypeId} {pos : String} {aft : Array Edge} {g : Option (Nat × Bool)}
theorem Qt_bool_eql {x y : Operand} {t t' : TypeId} {a b : Bool} (hx : ev σ x = .bool a) (hy : ev σ y = .bool b) (ht : P.underlying t = some .bool) : Qt P w0 H σ ⟨d, .binOp .eql t x y t', ty, pos, aft, g⟩ (.bool (decide (a = b))) := fun w _ => by
  have h1 : (eqGuard .eql t x y (.bool a) (.bool b)).run P w = .ok () w := by rfl
  have h2 : binOp .eql t (.bool a) (.bool b) = (do pure (.bool (← Op.equal t (.bool a) (.bool b)))) := by rfl
  have h3 : TyBo P t := ⟨ht⟩
  have h4 : (Op.equal t (.bool a) (.bool b)).run P w = .ok (decide (a = b)) w := equal_run w
  simp only [execOp, hx, hy, Sem.run_bind, h1, h2, Result.andThen_ok, h4, Sem.run_pure]
theorem Qt_bool_neq {x y : Operand} {t t' : TypeId} {a b : Bool} (hx : ev σ x = .bool a) (hy : ev σ y = .bool b) (ht : P.underlying t = some .bool) : Qt P w0 H σ ⟨d, .binOp .neq t x y t', ty, pos, aft, g⟩ (.bool (!decide (a = b))) := fun w _ => by
  have h1 : (eqGuard .neq t x y (.bool a) (.bool b)).run P w = .ok () w := by rfl
  have h2 : binOp .neq t (.bool a) (.bool b) = (do pure (.bool (!(← Op.equal t (.bool a) (.bool b))))) := by rfl
  have h3 : TyBo P t := ⟨ht⟩
  have h4 : (Op.equal t (.bool a) (.bool b)).run P w = .ok (decide (a = b)) w := equal_run w
  simp only [execOp, hx, hy, Sem.run_bind, h1, h2, Result.andThen_ok, h4, Sem.run_pure]
theorem Qt_str_op {op : BinOp} {x y : Operand} {t t' : TypeId} {a b : ByteArray} {v : Value} (hx : ev σ x = .string a) (hy : ev σ y = .string b) (hop : Op.stringOp op a b = pure v) : Qt P w0 H σ ⟨d, .binOp op t x y t', ty, pos, aft, g⟩ v := fun w _ => by
  have h1 : (eqGuard op t x y (.string a) (.string b)).run P w = .ok () w := by cases op <;> rfl
  have h2 : binOp op t (.string a) (.string b) = Op.stringOp op a b := by cases op <;> rfl
  simp only [execOp, hx, hy, Sem.run_bind, h1, h2, hop, Result.andThen_ok, Sem.run_pure]
theorem beq_bytes (a b : ByteArray) : (a.toList == b.toList) = decide (a = b) := by
  rw [← beq_toListBytes, Bool.eq_iff_iff]; obtain ⟨a⟩ := a; obtain ⟨b⟩ := b; show (a == b) = true ↔ _; simp
theorem Qt_str_eql {x y : Operand} {t t' : TypeId} {a b : ByteArray} (hx : ev σ x = .string a) (hy : ev σ y = .string b) : Qt P w0 H σ ⟨d, .binOp .eql t x y t', ty, pos, aft, g⟩ (.bool (decide (a = b))) :=
  Qt_str_op hx hy (by simp only [Op.stringOp, beq_bytes])
theorem Qt_str_neq {x y : Operand} {t t' : TypeId} {a b : ByteArray} (hx : ev σ x = .string a) (hy : ev σ y = .string b) : Qt P w0 H σ ⟨d, .binOp .neq t x y t', ty, pos, aft, g⟩ (.bool (!decide (a = b))) :=
  Qt_str_op hx hy (by simp only [Op.stringOp, beq_bytes])
end
end Go.Sx
namespace Go.Sx
section
variable {P : Program} {n : Fr} {w0 : World} {σ : Env} {H Hr : List SA} {Q : Post}
/-- A block comes to the front of what stands. -/
theorem TL_frontB {all : Array Oper} {l : List Oper} (b : Nat) {o : Obj} [h : Pick b H o Hr] (k : TL P n w0 all l σ (blk b o :: Hr) Q) : TL P n w0 all l σ H Q := TL_conv (fun _ hw => hw.sub h.sub) k
theorem T_frontB {c : Code} (b : Nat) {o : Obj} [h : Pick b H o Hr] (k : T P n w0 c σ (blk b o :: Hr) Q) : T P n w0 c σ H Q := T_conv (fun _ hw => hw.sub h.sub) k
theorem DL_frontB {S : List SA} {ops : Array Oper} {r : List (Nat × Bool)} (b : Nat) {o : Obj} [h : Pick b H o Hr] (k : DL P n w0 S ops r σ (blk b o :: Hr) Q) : DL P n w0 S ops r σ H Q := DL_conv (fun _ hw => hw.sub h.sub) k
theorem TL_frontA {all : Array Oper} {l : List Oper} (x : SA) [h : PickA x H Hr] (k : TL P n w0 all l σ (x :: Hr) Q) : TL P n w0 all l σ H Q := TL_conv (fun _ hw => hw.sub h.sub) k
theorem DL_frontA {S : List SA} {ops : Array Oper} {r : List (Nat × Bool)} (x : SA) [h : PickA x H Hr] (k : DL P n w0 S ops r σ (x :: Hr) Q) : DL P n w0 S ops r σ H Q := DL_conv (fun _ hw => hw.sub h.sub) k
end
end Go.Sx
