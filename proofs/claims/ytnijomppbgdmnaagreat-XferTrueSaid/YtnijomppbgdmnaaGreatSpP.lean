/- Panics, deferred functions and recover in the small symbolic-execution layer. General. -/
import Derived.Test.YtnijomppbgdmnaaGreatSwP
import Derived.Defers
import Derived.Recover
set_option linter.unusedSimpArgs false
set_option linter.unusedVariables false
namespace Go.Sx
open Go.RowKit

def uponP (P : Program) (K : Value → World → Prop) (Kp : List PanicEntry → World → Prop) : Result Next → Prop
  | .ok (.value v) w' => K v w'
  | .ok .skip w' => K undef w'
  | .ok (.enter f args) w' => Calls P f args w' fun e w'' => match e with
    | .returned v => K v w''
    | .panicked c => Kp c w''
    | .outgrown => False
  | .halt (.panic v) w' => Kp [{ v, recovered := false }] w'
  | _ => False
/-- As 'Ef', but the operation may panic. -/
def EfP (P : Program) (w0 : World) (H : List SA) (σ : Env) (o : Oper) (K : Value → List SA → Prop) (Kp : List PanicEntry → List SA → Prop) : Prop :=
  ∀ w, St w0 H w → uponP P (fun v w' => ∃ H', K v H' ∧ St w0 H' w') (fun c w' => ∃ H', Kp c H' ∧ St w0 H' w') ((execOp (ev σ) o).run P w)
section
variable {P : Program} {n : Fr} {w0 : World} {σ : Env} {H : List SA} {Q : Post}
theorem EfP.wp {o : Oper} {K : Value → List SA → Prop} {Kp : List PanicEntry → List SA → Prop} (h : EfP P w0 H σ o K Kp) {a : Act} {w : World} (ha : Rep n a σ) (hw : St w0 H w) {N : Act → World → Prop} {Q' : Exit → Act → World → Prop}
    (hK : ∀ v H' w', K v H' → St w0 H' w' → N (a.put o.dst v) w') (hp : ∀ c H' w', Kp c H' → St w0 H' w' → Q' (.panic c) a w') : o.wp P a w N Q' := by
  have h1 := h w hw
  unfold Oper.wp
  rw [ha.eval]
  generalize (execOp (ev σ) o).run P w = r at h1
  cases r with
  | halt x w' =>
    cases x <;> simp only [uponP] at h1
    case panic v => obtain ⟨H', hk, hs⟩ := h1; exact hp _ _ _ hk hs
  | ok nx w' =>
    cases nx <;> simp only [uponP, reduceCtorEq] at h1 <;> simp only [Oper.upon]
    case value v => obtain ⟨H', hk, hs⟩ := h1; exact hK _ _ _ hk hs
    case skip => obtain ⟨H', hk, hs⟩ := h1; exact hK _ _ _ hk hs
    case enter f args =>
      refine h1.mono fun e w'' he => ?_
      cases e with
      | returned v => obtain ⟨H', hk, hs⟩ := he; exact hK _ _ _ hk hs
      | panicked c => obtain ⟨H', hk, hs⟩ := he; exact hp _ _ _ hk hs
      | outgrown => exact he.elim
section
variable {all : Array Oper} {rest : List Oper} {d : Nat} {op : Op} {ty : TypeId} {pos : String} {aft : Array Edge}
theorem TL_eP (hd : Nat.blt d n.n = true) (h : EfP P w0 H σ ⟨some d, op, ty, pos, aft, none⟩ (fun v H' => TL P n w0 all rest (upd σ d v) H' Q) (fun c H' => X w0 (.panic c) Q env0 H')) :
    TL P n w0 all (⟨some d, op, ty, pos, aft, none⟩ :: rest) σ H Q := fun a w ha hw =>
  wpList_step fun N hN => by
    rw [if_pos (by rfl)]
    exact h.wp ha hw (fun v H' w' hk hs => hN _ _ (hk _ w' (ha.put hd) hs)) (fun c H' w' hk hs => ⟨ha.2.1, hk w' hs⟩)
theorem TL_nP (h : EfP P w0 H σ ⟨none, op, ty, pos, aft, none⟩ (fun _ H' => TL P n w0 all rest σ H' Q) (fun c H' => X w0 (.panic c) Q env0 H')) :
    TL P n w0 all (⟨none, op, ty, pos, aft, none⟩ :: rest) σ H Q := fun a w ha hw =>
  wpList_step fun N hN => by
    rw [if_pos (by rfl)]
    exact h.wp ha hw (fun v H' w' hk hs => hN _ _ (hk _ w' ha hs)) (fun c H' w' hk hs => ⟨ha.2.1, hk w' hs⟩)
theorem DL_eP {S : List SA} {ops : Array Oper} {i : Nat} {r : List (Nat × Bool)} (hi : ops[i]? = some ⟨some d, op, ty, pos, aft, none⟩) (hd : Nat.blt d n.n = true)
    (h : EfP P w0 H σ ⟨some d, op, ty, pos, aft, none⟩ (fun v H' => (∀ w, St w0 H' w → St w0 S w) ∧ DL P n w0 S ops r (upd σ d v) H' Q) (fun c H' => X w0 (.panic c) Q env0 H')) : DL P n w0 S ops ((i, false) :: r) σ H Q := fun a w ha hw hS fuel listed hf hok => by
  subst hf
  simp only [okOrd, Bool.and_eq_true, beq_iff_eq] at hok
  refine wpAnyH_all hok.1 (by simp) fun j hj => ?_
  obtain rfl : j = i := by simpa using hj
  unfold wpOp
  simp only [hi, Region.wanted, if_true]
  exact .inl (h.wp ha hw (fun v H' w' ⟨h1, h2⟩ hs => ⟨h1 _ hs, h2 _ _ (ha.put hd) hs (h1 _ hs) _ _ rfl hok.2⟩) (fun c H' w' hk hs => ⟨ha.2.1, hk w' hs⟩))
end
/-! ## Contracts that may panic -/
def CTP (P : Program) (w0 : World) (H : List SA) (f : FuncId) (args : List Value) {α β : Type} (val : α → Value) (H' : α → List SA) (pv : β → List PanicEntry) (Hp : β → List SA) : Prop :=
  ∀ w, St w0 H w → Calls P f args.toArray w fun e w' => match e with
    | .returned v => ∃ x, v = val x ∧ St w0 (H' x) w'
    | .panicked c => ∃ y, c = pv y ∧ St w0 (Hp y) w'
    | .outgrown => False
theorem EfP_call {d : Option Nat} {ty : TypeId} {pos : String} {aft : Array Edge} {g : Option (Nat × Bool)} {K : Value → List SA → Prop} {Kp : List PanicEntry → List SA → Prop}
    {f : FuncId} {args : List Operand} {ats : Array TypeId} {argv : List Value} {α β : Type} {val : α → Value} {H' : α → List SA} {pv : β → List PanicEntry} {Hp : β → List SA} [hf : FnOk P f] (hc : CTP P w0 H f argv val H' pv Hp) (ha : args.map (ev σ) = argv) (h : ∀ x, K (val x) (H' x)) (hp : ∀ y, Kp (pv y) (Hp y)) :
    EfP P w0 H σ ⟨d, .call ⟨.value (.func f), args.toArray, ats⟩, ty, pos, aft, g⟩ K Kp := fun w hw => by
  have hok := hf.ok
  split at hok
  · rename_i fn hfn
    simp only [Bool.and_eq_true, Bool.not_eq_true', beq_eq_false_iff_ne, ne_eq] at hok
    obtain ⟨h1, h2⟩ := hok
    obtain ⟨bd, hbd⟩ := Option.isSome_iff_exists.1 h2
    have : (execOp (ev σ) ⟨d, .call ⟨.value (.func f), args.toArray, ats⟩, ty, pos, aft, g⟩).run P w = .ok (.enter f argv.toArray) w := by
      subst ha
      simp [execOp, resolve, invoke, ev, Deferred.ofValue, callFunc, hfn, h1, hbd]
    rw [this]
    refine (hc w hw).mono fun e w' he => ?_
    cases e with
    | returned v => obtain ⟨x, rfl, hs⟩ := he; exact ⟨H' x, h x, hs⟩
    | panicked c => obtain ⟨y, rfl, hs⟩ := he; exact ⟨Hp y, hp y, hs⟩
    | outgrown => exact he.elim
  · cases hok
theorem EfP_panic {x : Operand} {t : TypeId} {v : Value} {ty : TypeId} {pos : String} {aft : Array Edge} {K : Value → List SA → Prop} {Kp : List PanicEntry → List SA → Prop} (hx : ev σ x = .iface t v) (h : Kp [{ v := .iface t v, recovered := false }] H) :
    EfP P w0 H σ ⟨none, .panic x, ty, pos, aft, none⟩ K Kp := fun w hw => by
  have : (execOp (ev σ) ⟨none, .panic x, ty, pos, aft, none⟩).run P w = .halt (.panic (.iface t v)) w := by
    simp [execOp, hx, Instr.panic, goPanic, Sem.run]
  rw [this]
  exact ⟨H, h, hw⟩
theorem Qt_makeIface {x : Operand} {t : TypeId} {v : Value} {d : Option Nat} {ty : TypeId} {pos : String} {aft : Array Edge} {g : Option (Nat × Bool)} {k : IntKind} (hx : ev σ x = v) (ht : P.underlying t = some (.int k)) : Qt P w0 H σ ⟨d, .makeInterface t x, ty, pos, aft, g⟩ (.iface t v) := fun w _ => by
  simp only [execOp, hx, Instr.makeInterface, Sem.run_bind, run_underlying ht, Result.andThen_ok, Sem.run_pure]
def retQP (P : Program) (n : Fr) (w0 : World) (fn : Func) {α β : Type} (val : α → Value) (H' : α → List SA) (pv : β → List PanicEntry) (Hp : β → List SA) : Post := fun e σ w => match e with
  | .normal | .ret => ∃ x, (∀ a, Rep n a σ → (results fn a.tmps).run P w = .ok (val x) w) ∧ St w0 (H' x) w
  | .panic c => ∃ y, c = pv y ∧ St w0 (Hp y) w
  | _ => False
theorem X_retP {fn : Func} {α β : Type} {val : α → Value} {H' : α → List SA} {pv : β → List PanicEntry} {Hp : β → List SA} {rs : List ResultVar} {e : Exit} (x : α) (vs : List Value) (hr : fn.results = rs.toArray)
    (hv : ResAre P w0 H σ rs vs) (hx : retVal vs = val x) (hH : ∀ w, St w0 H w → St w0 (H' x) w) (he : e = .normal ∨ e = .ret := by simp) : X w0 e (retQP P n w0 fn val H' pv Hp) σ H := by
  have h := X_ret (n := n) (P := P) (w0 := w0) (H := H) (σ := σ) (fn := fn) (val := val) (H' := H') x vs hr hv hx hH he
  rcases he with rfl | rfl <;> exact h
theorem X_pan {fn : Func} {α β : Type} {val : α → Value} {H' : α → List SA} {pv : β → List PanicEntry} {Hp : β → List SA} {c : List PanicEntry} (y : β) (hc : c = pv y) (hH : ∀ w, St w0 H w → St w0 (Hp y) w) : X w0 (.panic c) (retQP P n w0 fn val H' pv Hp) env0 H := fun w hw => ⟨y, hc, hH w hw⟩
theorem X_then_panic {y : Code} {c : List PanicEntry} (h : X w0 (.panic c) Q σ H) : X w0 (.panic c) (thenQ P n w0 y Q) σ H := h
theorem X_block_panic {id : Nat} {c : List PanicEntry} (h : X w0 (.panic c) Q σ H) : X w0 (.panic c) (blockQ id Q) σ H := h
theorem X_again_panic {x : Code} {c : List PanicEntry} (h : X w0 (.panic c) Q σ H) : X w0 (.panic c) (againQ P n x Q) σ H := h
theorem X_loop_panic {σ0 : Env} {ws slots : List Nat} {I : List Value → List SA → Prop} {μ : List Value → Nat} {m : Nat} {c : List PanicEntry} (h : X w0 (.panic c) Q σ H) : X w0 (.panic c) (loopQ w0 σ0 ws slots I μ m Q) σ H := h
end
theorem CTP_intro {P : Program} {w0 : World} {H : List SA} {f n : Nat} {args : List Value} {α β : Type} {val : α → Value} {H' : α → List SA} {pv : β → List PanicEntry} {Hp : β → List SA} {fn : Func} {c : Code} (hf : P.funcs[f]? = some fn) (hb : fn.body = some c) (hn : fn.ntmps = n) (hl : Nat.ble args.length n = true)
    (h : T P ⟨n, []⟩ w0 c (initE 0 args env0) H (retQP P ⟨n, []⟩ w0 fn val H' pv Hp)) : CTP P w0 H f args val H' pv Hp := fun w hw => by
  refine calls_of_wp hf hb ?_
  have ha := rep_init (args := args) (n := n) (Nat.le_of_ble_eq_true hl)
  rw [hn]
  refine wp_mono (h _ w ha hw) fun e a w' hq => ?_
  cases e with
  | normal =>
    obtain ⟨σ', h1, x, h2, h3⟩ := hq
    exact ⟨h1.2.1, val x, h2 a h1, x, rfl, h3⟩
  | ret =>
    obtain ⟨σ', h1, x, h2, h3⟩ := hq
    exact ⟨h1.2.1, val x, h2 a h1, x, rfl, h3⟩
  | panic c => obtain ⟨h1, y, h2, h3⟩ := hq; exact ⟨h1, y, h2, h3⟩
  | outgrown => exact hq.elim
  | exit j => obtain ⟨σ', _, h2⟩ := hq; exact h2.elim
  | goto j => obtain ⟨σ', _, h2⟩ := hq; exact h2.elim
/-! ## One deferred function -/
end Go.Sx
