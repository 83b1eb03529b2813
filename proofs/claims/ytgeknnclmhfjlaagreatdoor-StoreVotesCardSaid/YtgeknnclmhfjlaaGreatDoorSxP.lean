/- A small symbolic-execution layer over the kit's 'Code.wp': frames are functions from slots to values, memory is a list of separate assertions ('SA'), judgements quantify over all worlds that meet the list. General theorems; no program. -/
import Derived.WalkKit
import Derived.OrdersHeld
import Derived.KernelRfl
set_option linter.unusedSimpArgs false
set_option linter.unusedVariables false
namespace Go.Sx
open Go.RowKit

/-! ## Frames as functions -/
abbrev Env := Nat → Value
def upd (σ : Env) (i : Nat) (v : Value) : Env := fun j => bif Nat.beq i j then v else σ j
def ev (σ : Env) : Operand → Value
  | .tmp t => σ t
  | .const v => v
  | .global g => .pointer (some ⟨g, 0, none⟩)
  | .func f => .func (.func f) #[] #[]
def env0 : Env := fun _ => undef
/-- How many temporaries a frame has, and what is deferred. -/
structure Fr where
  n : Nat
  ds : List Deferred
def Rep (n : Fr) (a : Act) (σ : Env) : Prop := a.tmps.size = n.n ∧ a.defers = n.ds ∧ ∀ t, a.tmps.getD t undef = σ t

theorem Rep.eval {n : Fr} {a : Act} {σ : Env} (h : Rep n a σ) : a.eval = ev σ := by
  funext x; cases x <;> simp [Act.eval, ev, h.2.2]

theorem Rep.put {n : Fr} {a : Act} {σ : Env} {d : Nat} {v : Value} (h : Rep n a σ) (hd : Nat.blt d n.n = true) : Rep n (a.put (some d) v) (upd σ d v) := by
  have hd' : d < n.n := by simpa [Nat.blt_eq] using hd
  refine ⟨by simp [Act.put, h.1], by simp [Act.put, h.2.1], fun t => ?_⟩
  have h2 := h.2.2 t
  have h1 := h.1
  simp only [Act.put, upd]
  by_cases e : d = t
  · subst e
    simp [Array.getD, h1, hd']
  · have e' : Nat.beq d t = false := by
      cases hb : Nat.beq d t
      · rfl
      · exact absurd (Nat.eq_of_beq_eq_true hb) e
    simp only [e', cond_false]
    rw [← h2]
    simp only [Array.getD, Array.size_setIfInBounds]
    split
    · rename_i ht
      exact Array.getElem_setIfInBounds_ne ht e
    · rfl

structure SA where
  fp : List Nat
  p : World → Prop
  stab : ∀ w w' : World, (∀ b ∈ fp, w'.heap[b]? = w.heap[b]?) → p w → p w'

structure St (w0 : World) (H : List SA) (w : World) : Prop where
  below : Below w0.heap.size w0 w
  nodup : (H.flatMap SA.fp).Nodup
  holds : ∀ x ∈ H, x.p w
  lo : ∀ x ∈ H, ∀ b ∈ x.fp, w0.heap.size ≤ b ∧ b < w.heap.size

theorem St.refl (w : World) : St w [] w := ⟨Below.refl _ _, by simp, by simp, by simp⟩

/-- From an inner start to the outer one: the callee's fresh assertions join the caller's. -/
theorem St.join {w0 w w' : World} {H H' : List SA} (h : St w0 H w) (h' : St w H' w') : St w0 (H' ++ H) w' := by
  have hsz := h.below.size
  have hsz' := h'.below.size
  refine ⟨⟨h'.below.os.trans h.below.os, h'.below.tape.trans h.below.tape, h'.below.output.trans h.below.output, Nat.le_trans hsz hsz',
    fun k hk => (h'.below.block k (by omega)).trans (h.below.block k hk)⟩, ?_, ?_, ?_⟩
  · rw [List.flatMap_append, List.nodup_append]
    refine ⟨h'.nodup, h.nodup, ?_⟩
    intro a ha b hb e
    subst e
    obtain ⟨x, hx, hax⟩ := List.mem_flatMap.1 ha
    obtain ⟨y, hy, hay⟩ := List.mem_flatMap.1 hb
    have := (h'.lo x hx a hax).1
    have := (h.lo y hy a hay).2
    omega
  · intro x hx
    rcases List.mem_append.1 hx with hx | hx
    · exact h'.holds x hx
    · exact x.stab w w' (fun b hb => h'.below.block b (h.lo x hx b hb).2) (h.holds x hx)
  · intro x hx b hb
    rcases List.mem_append.1 hx with hx | hx
    · have := h'.lo x hx b hb; omega
    · have := h.lo x hx b hb; omega

/-- H' is some of H, in whatever order. -/
def SubP (H' H : List SA) : Prop := ∃ l, List.Perm l H' ∧ List.Sublist l H

/-- Fewer assertions, in another order. -/
theorem St.sub {w0 w : World} {H H' : List SA} (h : St w0 H w) (hs : SubP H' H) : St w0 H' w := by
  obtain ⟨l, hp, hsub⟩ := hs
  have hin : ∀ x, x ∈ H' → x ∈ H := fun x hx => hsub.subset (hp.mem_iff.2 hx)
  refine ⟨h.below, ?_, fun x hx => h.holds x (hin x hx), fun x hx => h.lo x (hin x hx)⟩
  have h1 : (l.flatMap SA.fp).Nodup := by
    have : (l.flatMap SA.fp).Sublist (H.flatMap SA.fp) := by
      clear hp h hin
      induction hsub with
      | slnil => exact .slnil
      | cons a _ ih => exact ih.trans (by simp [List.flatMap_cons])
      | cons_cons a _ ih => simp only [List.flatMap_cons]; exact List.Sublist.append (List.Sublist.refl _) ih
    exact h.nodup.sublist this
  exact ((hp.flatMap_right SA.fp).nodup_iff).1 h1

theorem St.drew {w0 w : World} {H : List SA} (h : St w0 H w) : St w0 H w.drew :=
  ⟨⟨h.below.os, h.below.tape, h.below.output, h.below.size, h.below.block⟩, h.nodup, fun x hx => x.stab w _ (fun _ _ => rfl) (h.holds x hx), h.lo⟩

/-- Only the first assertion's blocks, and new ones, have turned. -/
theorem St.swap {w0 w w' : World} {x x' : SA} {H : List SA} (h : St w0 (x :: H) w) (hos : w'.os = w.os) (htape : w'.tape = w.tape) (hout : w'.output = w.output)
    (hsz : w.heap.size ≤ w'.heap.size) (hb : ∀ k, k < w.heap.size → k ∉ x.fp → w'.heap[k]? = w.heap[k]?) (hp : x'.p w') (hn : x'.fp.Nodup)
    (hfp : ∀ b ∈ x'.fp, (b ∈ x.fp ∨ w.heap.size ≤ b) ∧ b < w'.heap.size) : St w0 (x' :: H) w' := by
  have hnd := h.nodup
  simp only [List.flatMap_cons, List.nodup_append] at hnd
  refine ⟨⟨hos.trans h.below.os, htape.trans h.below.tape, hout.trans h.below.output, Nat.le_trans h.below.size hsz, fun k hk => ?_⟩, ?_, ?_, ?_⟩
  · have hlt := h.below.size
    rw [hb k (by omega) (fun hx => by have := (h.lo x (by simp) k hx).1; omega)]
    exact h.below.block k hk
  · simp only [List.flatMap_cons, List.nodup_append]
    refine ⟨hn, hnd.2.1, ?_⟩
    intro a ha b hb' e
    subst e
    obtain ⟨y, hy, hay⟩ := List.mem_flatMap.1 hb'
    rcases (hfp a ha).1 with hx | hx
    · exact hnd.2.2 a hx a hb' rfl
    · have := (h.lo y (by simp [hy]) a hay).2; omega
  · intro y hy
    rcases List.mem_cons.1 hy with rfl | hy
    · exact hp
    · refine y.stab w w' (fun b hb' => hb b (h.lo y (by simp [hy]) b hb').2 (fun hx => ?_)) (h.holds y (by simp [hy]))
      exact hnd.2.2 b hx b (List.mem_flatMap.2 ⟨y, hy, hb'⟩) rfl
  · intro y hy b hb'
    have hlt := h.below.size
    rcases List.mem_cons.1 hy with rfl | hy
    · refine ⟨?_, (hfp b hb').2⟩
      rcases (hfp b hb').1 with hx | hx
      · exact (h.lo x (by simp) b hx).1
      · omega
    · have := h.lo y (by simp [hy]) b hb'; omega

/-- Something new. -/
theorem St.fresh {w0 w w' : World} {x' : SA} {H : List SA} (h : St w0 H w) (hos : w'.os = w.os) (htape : w'.tape = w.tape) (hout : w'.output = w.output)
    (hsz : w.heap.size ≤ w'.heap.size) (hb : ∀ k, k < w.heap.size → w'.heap[k]? = w.heap[k]?) (hp : x'.p w') (hn : x'.fp.Nodup)
    (hfp : ∀ b ∈ x'.fp, w.heap.size ≤ b ∧ b < w'.heap.size) : St w0 (x' :: H) w' := by
  have := St.join h (H' := [x']) (w' := w') ⟨⟨hos, htape, hout, hsz, hb⟩, by simpa using hn, by simpa using hp, by simpa using hfp⟩
  simpa using this

/-- One block, whole. -/
def blk (b : Nat) (o : Obj) : SA := ⟨[b], fun w => w.heap[b]? = some o, fun w w' h hp => by rw [h b (by simp)]; exact hp⟩
/-- A plain fact. -/
def pu (p : Prop) : SA := ⟨[], fun _ => p, fun _ _ _ h => h⟩

theorem St.pure {w0 w : World} {H : List SA} {p : Prop} (h : St w0 (pu p :: H) w) : p := h.holds (pu p) (by simp)
theorem St.tail {w0 w : World} {x : SA} {H : List SA} (h : St w0 (x :: H) w) : St w0 H w := h.sub ⟨H, List.Perm.refl _, List.sublist_cons_self _ _⟩
theorem St.addPure {w0 w : World} {H : List SA} {p : Prop} (h : St w0 H w) (hp : p) : St w0 (pu p :: H) w :=
  h.fresh rfl rfl rfl (Nat.le_refl _) (fun _ _ => rfl) hp (by simp [pu]) (by simp [pu])

theorem St.alloc {w0 w : World} {H : List SA} (h : St w0 H w) (o : Obj) : St w0 (blk w.heap.size o :: H) (w.alloc o) :=
  h.fresh rfl rfl rfl (by simp) (fun k hk => heap_alloc_old w o hk) (heap_alloc_new w o) (by simp [blk]) (by simp [blk])

/-! ## Judgements -/
abbrev Post := Exit → Env → World → Prop
def lift (n : Fr) (Q : Post) : Exit → Act → World → Prop
  | .panic c, a, w => a.defers = n.ds ∧ Q (.panic c) env0 w
  | .outgrown, _, _ => False
  | e, a, w => ∃ σ, Rep n a σ ∧ Q e σ w

section
variable (P : Program) (n : Fr) (w0 : World)
def T (c : Code) (σ : Env) (H : List SA) (Q : Post) : Prop := ∀ a w, Rep n a σ → St w0 H w → c.wp P (lift n Q) a w
def TL (all : Array Oper) (l : List Oper) (σ : Env) (H : List SA) (Q : Post) : Prop := ∀ a w, Rep n a σ → St w0 H w → wpList P all (lift n Q) l a w
def X (e : Exit) (Q : Post) (σ : Env) (H : List SA) : Prop := ∀ w, St w0 H w → Q e σ w
end

def thenQ (P : Program) (n : Fr) (w0 : World) (y : Code) (Q : Post) : Post := fun e σ w => match e with
  | .normal => ∀ a, Rep n a σ → y.wp P (lift n Q) a w
  | e => Q e σ w
def blockQ (id : Nat) (Q : Post) : Post := fun e σ w => match e with
  | .exit j => bif Nat.beq j id then Q .normal σ w else Q (.exit j) σ w
  | e => Q e σ w

variable {P : Program} {n : Fr} {w0 : World} {σ : Env} {H : List SA} {Q : Post}

theorem T_seq {x y : Code} (h : T P n w0 x σ H (thenQ P n w0 y Q)) : T P n w0 (.seq x y) σ H Q := fun a w ha hw => by
  refine wp_seq (wp_mono (h a w ha hw) fun e a w hq => ?_)
  cases e with
  | normal => obtain ⟨σ', h1, h2⟩ := hq; exact h2 a h1
  | _ => exact hq

theorem T_skip (h : X w0 .normal Q σ H) : T P n w0 .skip σ H Q := fun _ w ha hw => wp_skip ⟨σ, ha, h w hw⟩
theorem T_exit {id : Nat} (h : X w0 (.exit id) Q σ H) : T P n w0 (.exit id) σ H Q := fun _ w ha hw => wp_exit ⟨σ, ha, h w hw⟩
theorem T_ret (h : X w0 .ret Q σ H) : T P n w0 .ret σ H Q := fun _ w ha hw => wp_ret ⟨σ, ha, h w hw⟩

theorem T_block {id : Nat} {c : Code} (h : T P n w0 c σ H (blockQ id Q)) : T P n w0 (.block id c) σ H Q := fun a w ha hw => by
  refine wp_block (wp_mono (h a w ha hw) fun e a w hq => ?_)
  cases e with
  | exit j =>
    obtain ⟨σ', h1, h2⟩ := hq
    simp only [blockQ] at h2
    simp only [Exit.inBlock]
    by_cases e : j = id
    · subst e
      have : Nat.beq j j = true := Nat.beq_refl j
      simp only [this, cond_true] at h2
      simp only [if_true]; exact ⟨σ', h1, h2⟩
    · have : Nat.beq j id = false := by
        cases hb : Nat.beq j id
        · rfl
        · exact absurd (Nat.eq_of_beq_eq_true hb) e
      simp only [this, cond_false] at h2
      simp only [e, if_false]; exact ⟨σ', h1, h2⟩
  | _ => exact hq

theorem T_cond_true {c : Operand} {x y : Code} {b : Bool} (hc : ev σ c = .bool b) (hb : b = true) (h : T P n w0 x σ H Q) : T P n w0 (.cond c x y) σ H Q := fun a w ha hw =>
  wp_cond_true (by rw [ha.eval, hc, hb]) (h a w ha hw)
theorem T_cond_false {c : Operand} {x y : Code} {b : Bool} (hc : ev σ c = .bool b) (hb : b = false) (h : T P n w0 y σ H Q) : T P n w0 (.cond c x y) σ H Q := fun a w ha hw =>
  wp_cond_false (by rw [ha.eval, hc, hb]) (h a w ha hw)
theorem T_cond {c : Operand} {x y : Code} {b : Bool} (hc : ev σ c = .bool b) (h1 : b = true → T P n w0 x σ H Q) (h2 : b = false → T P n w0 y σ H Q) :
    T P n w0 (.cond c x y) σ H Q := by
  cases b
  · exact T_cond_false hc rfl (h2 rfl)
  · exact T_cond_true hc rfl (h1 rfl)
theorem T_region {id : Nat} {l : List Oper} (h : TL P n w0 l.toArray l σ H Q) : T P n w0 (.region id l.toArray false) σ H Q := fun a w ha hw =>
  wp_region_lit (h a w ha hw)

theorem TL_nil {all : Array Oper} (h : X w0 .normal Q σ H) : TL P n w0 all [] σ H Q := fun _ w ha hw => wpList_nil ⟨σ, ha, h w hw⟩

/-! Exits through what stands around -/
theorem X_then {y : Code} (h : T P n w0 y σ H Q) : X w0 .normal (thenQ P n w0 y Q) σ H := fun w hw a ha => h a w ha hw
theorem X_then_exit {y : Code} {j : Nat} (h : X w0 (.exit j) Q σ H) : X w0 (.exit j) (thenQ P n w0 y Q) σ H := h
theorem X_then_ret {y : Code} (h : X w0 .ret Q σ H) : X w0 .ret (thenQ P n w0 y Q) σ H := h
theorem X_block {id : Nat} (h : X w0 .normal Q σ H) : X w0 .normal (blockQ id Q) σ H := h
theorem X_block_ret {id : Nat} (h : X w0 .ret Q σ H) : X w0 .ret (blockQ id Q) σ H := h
theorem X_block_exit {id : Nat} (h : X w0 .normal Q σ H) : X w0 (.exit id) (blockQ id Q) σ H := fun w hw => by
  have : Nat.beq id id = true := Nat.beq_refl id
  simp only [blockQ, this, cond_true]; exact h w hw
theorem X_block_far {id j : Nat} (hj : Nat.beq j id = false) (h : X w0 (.exit j) Q σ H) : X w0 (.exit j) (blockQ id Q) σ H := fun w hw => by
  simp only [blockQ, hj, cond_false]; exact h w hw

/-! ## What stands: weakening -/
theorem TL_pure {all : Array Oper} {l : List Oper} {p : Prop} (h : p → TL P n w0 all l σ H Q) : TL P n w0 all l σ (pu p :: H) Q := fun a w ha hw => h hw.pure a w ha hw.tail
theorem TL_conv {all : Array Oper} {l : List Oper} {H' : List SA} (hs : ∀ w, St w0 H w → St w0 H' w) (h : TL P n w0 all l σ H' Q) : TL P n w0 all l σ H Q := fun a w ha hw => h a w ha (hs w hw)

/-! ## Operations -/
/-- In every world that meets H the operation yields v, and leaves the world as it is. -/
def Qt (P : Program) (w0 : World) (H : List SA) (σ : Env) (o : Oper) (v : Value) : Prop := ∀ w, St w0 H w → (execOp (ev σ) o).run P w = .ok (.value v) w

def upon (P : Program) (K : Value → World → Prop) : Result Next → Prop
  | .ok (.value v) w' => K v w'
  | .ok .skip w' => K undef w'
  | .ok (.enter f args) w' => Calls P f args w' fun e w'' => ∃ v, e = .returned v ∧ K v w''
  | _ => False
/-- The operation, from every world that meets H, leaves a value and a world of which K says how to go on. -/
def Ef (P : Program) (w0 : World) (H : List SA) (σ : Env) (o : Oper) (K : Value → List SA → Prop) : Prop :=
  ∀ w, St w0 H w → upon P (fun v w' => ∃ H', K v H' ∧ St w0 H' w') ((execOp (ev σ) o).run P w)

theorem Ef.wp {o : Oper} {K : Value → List SA → Prop} (h : Ef P w0 H σ o K) {a : Act} {w : World} (ha : Rep n a σ) (hw : St w0 H w) {N : Act → World → Prop} {Q' : Exit → Act → World → Prop}
    (hK : ∀ v H' w', K v H' → St w0 H' w' → N (a.put o.dst v) w') : o.wp P a w N Q' := by
  have h1 := h w hw
  unfold Oper.wp
  rw [ha.eval]
  generalize (execOp (ev σ) o).run P w = r at h1
  cases r with
  | halt x w' => simp [upon] at h1
  | ok nx w' =>
    cases nx <;> simp only [upon, reduceCtorEq] at h1 <;> simp only [Oper.upon]
    case value v => obtain ⟨H', hk, hs⟩ := h1; exact hK _ _ _ hk hs
    case skip => obtain ⟨H', hk, hs⟩ := h1; exact hK _ _ _ hk hs
    case enter f args =>
      refine h1.mono fun e w'' ⟨v, he, H', hk, hs⟩ => ?_
      subst he
      exact hK _ _ _ hk hs

theorem Ef_of_Qt {o : Oper} {v : Value} {K : Value → List SA → Prop} (h : Qt P w0 H σ o v) (hk : K v H) : Ef P w0 H σ o K := fun w hw => by
  rw [h w hw]; exact ⟨H, hk, hw⟩

section
variable {all : Array Oper} {rest : List Oper} {d : Nat} {op : Op} {ty : TypeId} {pos : String} {aft : Array Edge}
theorem TL_q {v : Value} (hq : Qt P w0 H σ ⟨some d, op, ty, pos, aft, none⟩ v) (hd : Nat.blt d n.n = true) (h : TL P n w0 all rest (upd σ d v) H Q) :
    TL P n w0 all (⟨some d, op, ty, pos, aft, none⟩ :: rest) σ H Q := fun a w ha hw =>
  wpList_step fun N hN => by
    rw [if_pos (by rfl)]
    exact (Ef_of_Qt (K := fun v' H' => v' = v ∧ H' = H) hq ⟨rfl, rfl⟩).wp ha hw fun v' H' w' ⟨hv, hH⟩ hs => by
      subst hv; subst hH; exact hN _ _ (h _ w' (ha.put hd) hs)
theorem TL_e (hd : Nat.blt d n.n = true) (h : Ef P w0 H σ ⟨some d, op, ty, pos, aft, none⟩ fun v H' => TL P n w0 all rest (upd σ d v) H' Q) :
    TL P n w0 all (⟨some d, op, ty, pos, aft, none⟩ :: rest) σ H Q := fun a w ha hw =>
  wpList_step fun N hN => by
    rw [if_pos (by rfl)]
    exact h.wp ha hw fun v' H' w' hk hs => hN _ _ (hk _ w' (ha.put hd) hs)
theorem TL_n (h : Ef P w0 H σ ⟨none, op, ty, pos, aft, none⟩ fun _ H' => TL P n w0 all rest σ H' Q) :
    TL P n w0 all (⟨none, op, ty, pos, aft, none⟩ :: rest) σ H Q := fun a w ha hw =>
  wpList_step fun N hN => by
    rw [if_pos (by rfl)]
    exact h.wp ha hw fun v' H' w' hk hs => hN _ _ (hk _ w' ha hs)
/-- A guard that says yes. -/
theorem TL_take {dst : Option Nat} {j s : Nat} {want b : Bool} (hs : (all[j]?).bind (·.dst) = some s) (hb : σ s = .bool b) (hbw : b = want)
    (h : TL P n w0 all (⟨dst, op, ty, pos, aft, none⟩ :: rest) σ H Q) :
    TL P n w0 all (⟨dst, op, ty, pos, aft, some (j, want)⟩ :: rest) σ H Q := fun a w ha hw => by
  have h1 := h a w ha hw
  have hy : yielded all a.tmps j = some want := by
    have hb' := ha.2.2 s
    rw [hb] at hb'
    have hlt : s < a.tmps.size := by
      rcases Nat.lt_or_ge s a.tmps.size with h' | h'
      · exact h'
      · simp [Array.getD, Nat.not_lt.2 h', undef] at hb'
    simp [Array.getD, hlt] at hb'
    simp [yielded, hs, hlt, hb', hbw]
  simp only [wpList, Region.wanted, hy] at h1 ⊢
  simp only [beq_self_eq_true, if_true] at h1 ⊢
  exact h1
/-- A guard that says no. -/
theorem TL_pass {j s : Nat} {want b : Bool} (hs : (all[j]?).bind (·.dst) = some s) (hb : σ s = .bool b) (hbw : b = !want) (hd : Nat.blt d n.n = true)
    (h : TL P n w0 all rest (upd σ d undef) H Q) :
    TL P n w0 all (⟨some d, op, ty, pos, aft, some (j, want)⟩ :: rest) σ H Q := fun a w ha hw => by
  have h1 := h (a.put (some d) undef) w (ha.put hd) hw
  have hy : yielded all a.tmps j = some (!want) := by
    have hb' := ha.2.2 s
    rw [hb] at hb'
    have hlt : s < a.tmps.size := by
      rcases Nat.lt_or_ge s a.tmps.size with h' | h'
      · exact h'
      · simp [Array.getD, Nat.not_lt.2 h', undef] at hb'
    simp [Array.getD, hlt] at hb'
    simp [yielded, hs, hlt, hb', hbw]
  simp only [wpList, Region.wanted, hy] at h1 ⊢
  rw [if_neg (by cases want <;> simp)]
  exact h1
end

/-! ## Regions that draw their order: one order serves, quiet operations under S, the others as they come -/
/-- 'ord': the operations' numbers, each with whether it is taken as quiet. -/
def okOrd (ops : Array Oper) : List (Nat × Bool) → Array Bool → Bool
  | [], listed => (Region.ready .any ops listed).isEmpty
  | (i, true) :: r, listed => (Region.ready .any ops listed).contains i && Region.free .any ops listed i && okOrd ops r (listed.setIfInBounds i true)
  | (i, false) :: r, listed => (Region.ready .any ops listed == [i]) && okOrd ops r (listed.setIfInBounds i true)

def DL (P : Program) (n : Fr) (w0 : World) (S : List SA) (ops : Array Oper) (ord : List (Nat × Bool)) (σ : Env) (H : List SA) (Q : Post) : Prop :=
  ∀ a w, Rep n a σ → St w0 H w → St w0 S w → ∀ fuel listed, ord.length = fuel → okOrd ops ord listed = true → wpAnyH P .any ops (lift n Q) (St w0 S) fuel listed a w

theorem T_draw {id : Nat} {l : List Oper} (S : List SA) (ord : List (Nat × Bool)) (hm : P.follows .mixedOrders = true) (hns : Region.noSelect l.toArray = true) (hlen : ord.length = l.length)
    (hok : okOrd l.toArray ord (Array.replicate l.length false) = true) (hS : ∀ w, St w0 H w → St w0 S w)
    (h : Region.noSelect l.toArray = true → DL P n w0 S l.toArray ord σ H Q) : T P n w0 (.region id l.toArray true) σ H Q := fun a w ha hw => by
  have hw' := hw.drew
  refine wp_region_held (S := St w0 S) hm ?_
  exact h hns a _ ha hw' (hS _ hw') _ _ (by simpa using hlen) (by simpa using hok)

theorem DL_nil {S : List SA} {ops : Array Oper} (h : X w0 .normal Q σ H) : DL P n w0 S ops [] σ H Q := fun a w ha hw _ fuel listed hf hok => by
  subst hf
  exact wpAnyH_done (by simpa [okOrd] using hok) ⟨σ, ha, h w hw⟩ _

section
variable {S : List SA} {ops : Array Oper} {i d : Nat} {r : List (Nat × Bool)} {op : Op} {ty : TypeId} {pos : String} {aft : Array Edge}

theorem DL_yield {o : Oper} {v : Value} {σ' : Env} (hns : Region.noSelect ops = true) (hi : ops[i]? = some o) (hy : ∀ a, Rep n a σ → YieldsIf P ops (St w0 S) o v a)
    (hput : ∀ a, Rep n a σ → Rep n (a.put o.dst v) σ') (h : DL P n w0 S ops r σ' H Q) : DL P n w0 S ops ((i, true) :: r) σ H Q := fun a w ha hw hS fuel listed hf hok => by
  subst hf
  simp only [okOrd, Bool.and_eq_true] at hok
  refine wpAnyH_take hi hns hok.1.2 hok.1.1 ?_ (hy a ha) hS (h _ _ (hput a ha) hw hS _ _ rfl hok.2)
  intro c a' w' hq
  refine ⟨?_, hq.2⟩
  have := hq.1
  simp only [Act.put] at this
  cases hd : o.dst <;> simp [hd] at this <;> exact this

theorem DL_q {v : Value} (hns : Region.noSelect ops = true) (hi : ops[i]? = some ⟨some d, op, ty, pos, aft, none⟩) (hq : Qt P w0 S σ ⟨some d, op, ty, pos, aft, none⟩ v) (hd : Nat.blt d n.n = true)
    (h : DL P n w0 S ops r (upd σ d v) H Q) : DL P n w0 S ops ((i, true) :: r) σ H Q :=
  DL_yield hns hi (fun a ha => .inl ⟨rfl, fun w hw => by rw [ha.eval]; exact hq w hw⟩) (fun a ha => ha.put hd) h

theorem yielded_of {a : Act} {j s : Nat} {b : Bool} (ha : Rep n a σ) (hs : (ops[j]?).bind (·.dst) = some s) (hb : σ s = .bool b) : yielded ops a.tmps j = some b := by
  have hb' := ha.2.2 s
  rw [hb] at hb'
  have hlt : s < a.tmps.size := by
    rcases Nat.lt_or_ge s a.tmps.size with h' | h'
    · exact h'
    · simp [Array.getD, Nat.not_lt.2 h', undef] at hb'
  simp [Array.getD, hlt] at hb'
  simp [yielded, hs, hlt, hb']

theorem DL_qg {v : Value} {j s : Nat} {want b : Bool} (hns : Region.noSelect ops = true) (hi : ops[i]? = some ⟨some d, op, ty, pos, aft, some (j, want)⟩) (hs : (ops[j]?).bind (·.dst) = some s) (hb : σ s = .bool b) (hbw : b = want)
    (hq : Qt P w0 S σ ⟨some d, op, ty, pos, aft, none⟩ v) (hd : Nat.blt d n.n = true)
    (h : DL P n w0 S ops r (upd σ d v) H Q) : DL P n w0 S ops ((i, true) :: r) σ H Q :=
  DL_yield hns hi (fun a ha => .inl ⟨by simp only [Region.wanted, yielded_of ha hs hb, hbw, beq_self_eq_true], fun w hw => by rw [ha.eval]; exact hq w hw⟩) (fun a ha => ha.put hd) h

theorem DL_pass {j s : Nat} {want b : Bool} (hns : Region.noSelect ops = true) (hi : ops[i]? = some ⟨some d, op, ty, pos, aft, some (j, want)⟩) (hs : (ops[j]?).bind (·.dst) = some s) (hb : σ s = .bool b) (hbw : b = !want)
    (hd : Nat.blt d n.n = true) (h : DL P n w0 S ops r (upd σ d undef) H Q) : DL P n w0 S ops ((i, true) :: r) σ H Q :=
  DL_yield hns hi (fun a ha => .inr ⟨by simp only [Region.wanted, yielded_of ha hs hb, hbw]; cases want <;> rfl, rfl⟩) (fun a ha => ha.put hd) h

/-- Number i comes as it comes: nothing else may come up. -/
theorem DL_step {o : Oper} (hi : ops[i]? = some o) (hwant : ∀ a, Rep n a σ → Region.wanted o (yielded ops a.tmps) = true)
    (h : Ef P w0 H σ o fun v H' => (∀ w, St w0 H' w → St w0 S w) ∧ ∃ σ', (∀ a, Rep n a σ → Rep n (a.put o.dst v) σ') ∧ DL P n w0 S ops r σ' H' Q) :
    DL P n w0 S ops ((i, false) :: r) σ H Q := fun a w ha hw hS fuel listed hf hok => by
  subst hf
  simp only [okOrd, Bool.and_eq_true, beq_iff_eq] at hok
  refine wpAnyH_all hok.1 (by simp) fun j hj => ?_
  obtain rfl : j = i := by simpa using hj
  unfold wpOp
  simp only [hi, hwant a ha, if_true]
  exact .inl (h.wp ha hw fun v H' w' ⟨h1, σ', h2, h3⟩ hs => ⟨h1 _ hs, h3 _ _ (h2 a ha) hs (h1 _ hs) _ _ rfl hok.2⟩)
theorem DL_e (hi : ops[i]? = some ⟨some d, op, ty, pos, aft, none⟩) (hd : Nat.blt d n.n = true)
    (h : Ef P w0 H σ ⟨some d, op, ty, pos, aft, none⟩ fun v H' => (∀ w, St w0 H' w → St w0 S w) ∧ DL P n w0 S ops r (upd σ d v) H' Q) : DL P n w0 S ops ((i, false) :: r) σ H Q :=
  DL_step hi (fun _ _ => rfl) fun w hw => by
    have := h w hw
    revert this
    generalize (execOp (ev σ) _).run P w = res
    cases res with
    | halt _ _ => exact id
    | ok nx w' =>
      cases nx <;> simp only [upon] <;> try exact id
      case value v => exact fun ⟨H', ⟨h1, h2⟩, hs⟩ => ⟨H', ⟨h1, _, fun a ha => ha.put hd, h2⟩, hs⟩
      case skip => exact fun ⟨H', ⟨h1, h2⟩, hs⟩ => ⟨H', ⟨h1, _, fun a ha => ha.put hd, h2⟩, hs⟩
      case enter f args => exact fun hc => hc.mono fun e w'' ⟨v, he, H', ⟨h1, h2⟩, hs⟩ => ⟨v, he, H', ⟨h1, _, fun a ha => ha.put hd, h2⟩, hs⟩
theorem DL_n (hi : ops[i]? = some ⟨none, op, ty, pos, aft, none⟩)
    (h : Ef P w0 H σ ⟨none, op, ty, pos, aft, none⟩ fun _ H' => (∀ w, St w0 H' w → St w0 S w) ∧ DL P n w0 S ops r σ H' Q) : DL P n w0 S ops ((i, false) :: r) σ H Q :=
  DL_step hi (fun _ _ => rfl) fun w hw => by
    have := h w hw
    revert this
    generalize (execOp (ev σ) _).run P w = res
    cases res with
    | halt _ _ => exact id
    | ok nx w' =>
      cases nx <;> simp only [upon] <;> try exact id
      case value v => exact fun ⟨H', ⟨h1, h2⟩, hs⟩ => ⟨H', ⟨h1, _, fun a ha => ha, h2⟩, hs⟩
      case skip => exact fun ⟨H', ⟨h1, h2⟩, hs⟩ => ⟨H', ⟨h1, _, fun a ha => ha, h2⟩, hs⟩
      case enter f args => exact fun hc => hc.mono fun e w'' ⟨v, he, H', ⟨h1, h2⟩, hs⟩ => ⟨v, he, H', ⟨h1, _, fun a ha => ha, h2⟩, hs⟩
end
end Go.Sx
