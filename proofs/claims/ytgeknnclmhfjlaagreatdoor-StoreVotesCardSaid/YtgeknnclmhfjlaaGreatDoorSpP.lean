/- Panics, deferred functions and recover in the small symbolic-execution layer. General. -/
import Derived.Test.YtgeknnclmhfjlaaGreatDoorSwP
import Derived.Defers
import Derived.Recover
set_option linter.unusedSimpArgs false
set_option linter.unusedVariables false
namespace Go.Sx
open Go.RowKit

def uponP (P : Program) (K : Value → World → Prop) (Kp : List PanicEntry → World → Prop) : Result Next → Prop
  | .ok (.value v) w' => K v w'
  | .ok .skip w' => K undef w'
  | .ok (.enter f args) w' => Calls P f args w' fun e w'' => match e with
    | .returned v => K v w''
    | .panicked c => Kp c w''
    | .outgrown => False
  | .halt (.panic v) w' => Kp [{ v, recovered := false }] w'
  | _ => False
/-- As 'Ef', but the operation may panic. -/
def EfP (P : Program) (w0 : World) (H : List SA) (σ : Env) (o : Oper) (K : Value → List SA → Prop) (Kp : List PanicEntry → List SA → Prop) : Prop :=
  ∀ w, St w0 H w → uponP P (fun v w' => ∃ H', K v H' ∧ St w0 H' w') (fun c w' => ∃ H', Kp c H' ∧ St w0 H' w') ((execOp (ev σ) o).run P w)
section
variable {P : Program} {n : Fr} {w0 : World} {σ : Env} {H : List SA} {Q : Post}
theorem EfP.wp {o : Oper} {K : Value → List SA → Prop} {Kp : List PanicEntry → List SA → Prop} (h : EfP P w0 H σ o K Kp) {a : Act} {w : World} (ha : Rep n a σ) (hw : St w0 H w) {N : Act → World → Prop} {Q' : Exit → Act → World → Prop}
    (hK : ∀ v H' w', K v H' → St w0 H' w' → N (a.put o.dst v) w') (hp : ∀ c H' w', Kp c H' → St w0 H' w' → Q' (.panic c) a w') : o.wp P a w N Q' := by
  have h1 := h w hw
  unfold Oper.wp
  rw [ha.eval]
  generalize (execOp (ev σ) o).run P w = r at h1
  cases r with
  | halt x w' =>
    cases x <;> simp only [uponP] at h1
    case panic v => obtain ⟨H', hk, hs⟩ := h1; exact hp _ _ _ hk hs
  | ok nx w' =>
    cases nx <;> simp only [uponP, reduceCtorEq] at h1 <;> simp only [Oper.upon]
    case value v => obtain ⟨H', hk, hs⟩ := h1; exact hK _ _ _ hk hs
    case skip => obtain ⟨H', hk, hs⟩ := h1; exact hK _ _ _ hk hs
    case enter f args =>
      refine h1.mono fun e w'' he => ?_
      cases e with
      | returned v => obtain ⟨H', hk, hs⟩ := he; exact hK _ _ _ hk hs
      | panicked c => obtain ⟨H', hk, hs⟩ := he; exact hp _ _ _ hk hs
      | outgrown => exact he.elim
section
variable {all : Array Oper} {rest : List Oper} {d : Nat} {op : Op} {ty : TypeId} {pos : String} {aft : Array Edge}
end
/-! ## Contracts that may panic -/
end
end Go.Sx
