/- Function values that are called; slices of slices put behind each other: more rules of the small symbolic-execution layer. General. -/
import Derived.Test.YtgeknnclmhfjlaaGreatDoorSrP
set_option linter.unusedSimpArgs false
set_option linter.unusedVariables false
namespace Go.Sx
open Go.RowKit
section
variable {P : Program} {n : Fr} {w0 : World} {σ : Env} {H : List SA} {d : Option Nat} {ty : TypeId} {pos : String} {aft : Array Edge} {g : Option (Nat × Bool)} {K : Value → List SA → Prop}
theorem Qt_makeFunc {f : FuncId} {caps : List Operand} {args : List Value} (hc : caps.map (ev σ) = args) :
    Qt P w0 H σ ⟨d, .makeFunc (.func f) #[] caps.toArray, ty, pos, aft, g⟩ (.func (.func f) #[] args.toArray) := fun w _ => by
  simp [execOp, Instr.makeFunc, hc]
theorem Ef_callF {f : FuncId} {x : Operand} {args : List Operand} {ats : Array TypeId} {argv caps : List Value} {α : Type} {val : α → Value} {H' : α → List SA} [hf : FnOk P f] (hc : CT P w0 H f (argv ++ caps) val H') (hx : ev σ x = .func (.func f) #[] caps.toArray) (ha : args.map (ev σ) = argv) (h : ∀ x, K (val x) (H' x)) :
    Ef P w0 H σ ⟨d, .call ⟨.value x, args.toArray, ats⟩, ty, pos, aft, g⟩ K := fun w hw => by
  have hok := hf.ok
  split at hok
  · rename_i fn hfn
    simp only [Bool.and_eq_true, Bool.not_eq_true', beq_eq_false_iff_ne, ne_eq] at hok
    obtain ⟨h1, h2⟩ := hok
    obtain ⟨bd, hbd⟩ := Option.isSome_iff_exists.1 h2
    have : (execOp (ev σ) ⟨d, .call ⟨.value x, args.toArray, ats⟩, ty, pos, aft, g⟩).run P w = .ok (.enter f (argv ++ caps).toArray) w := by
      subst ha
      simp [execOp, resolve, invoke, hx, Deferred.ofValue, callFunc, hfn, h1, hbd]
    rw [this]
    refine (hc w hw).mono fun e w' ⟨x, he, hs⟩ => ⟨val x, he, H' x, h x, hs⟩
  · cases hok
end
instance RdE.append {w0 : World} {H : List SA} {xs ys : List BS} [h : RdE w0 H xs] [h2 : RdE w0 H ys] : RdE w0 H (xs ++ ys) := ⟨fun z hz w hw => by
  rcases List.mem_append.1 hz with hz | hz
  · exact h.rd z hz w hw
  · exact h2.rd z hz w hw⟩
section
variable {κ ν : Type} [DecidableEq κ] {P : Program} {K : TypeId} {enc : κ → Value} {ev : ν → Value}
variable {w0 : World} {σ : Env} {H : List SA} {d : Option Nat} {ty : TypeId} {pos : String} {aft : Array Edge} {g : Option (Nat × Bool)}
theorem putE_keys : ∀ (es : List (Ent κ ν)) (k : κ) (v : ν) (c : Nat), hasE es k = true → (putE es k v c).map (·.k) = es.map (·.k) ∧ (putE es k v c).map (·.b) = es.map (·.b)
  | [], _, _, _, h => by simp [hasE, getE] at h
  | e :: es, k, v, c, h => by
    by_cases hk : k = e.k
    · simp [putE, hk]
    · have h' : hasE es k = true := by simpa [hasE, getE, hk] using h
      obtain ⟨h1, h2⟩ := putE_keys es k v c h'
      simp [putE, hk, h1, h2]
end
end Go.Sx
