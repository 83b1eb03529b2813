/- Maps that are cloned, maps in interfaces: more rules of the small symbolic-execution layer. General. -/
import Derived.Test.YtgeknnclmhfjlaaGreatDoorSrP
import Derived.Laws.Externs
import Derived.MapKept
set_option linter.unusedSimpArgs false
set_option linter.unusedVariables false
namespace Go.Sx
open Go.RowKit
section
variable {P : Program} {n : Fr} {w0 : World} {σ : Env} {H : List SA} {Q : Post} {d : Option Nat} {ty : TypeId} {pos : String} {aft : Array Edge} {g : Option (Nat × Bool)}
theorem Qt_makeIfaceM {x : Operand} {t : TypeId} {v : Value} {K E : TypeId} (hx : ev σ x = v) (ht : P.underlying t = some (.map K E)) : Qt P w0 H σ ⟨d, .makeInterface t x, ty, pos, aft, g⟩ (.iface t v) := fun w _ => by
  simp only [execOp, hx, Instr.makeInterface, Sem.run_bind, run_underlying ht, Result.andThen_ok, Sem.run_pure]
theorem Qt_assertMap {x : Operand} {xt at_ : TypeId} {v : Value} {K E : TypeId} (hx : ev σ x = .iface at_ v) (ht : P.underlying at_ = some (.map K E)) :
    Qt P w0 H σ ⟨d, .typeAssert x xt at_ false, ty, pos, aft, g⟩ v := fun w _ => by
  simp [execOp, hx, Instr.typeAssert, run_underlying ht]
theorem Ef_mapsClone {κ ν : Type} [DecidableEq κ] {enc : κ → Value} {ev : ν → Value} {x : Operand} {f : FuncId} {fn : Func} {ats : Array TypeId} {t : TypeId} {r c : Nat} {es : List (Ent κ ν)} {K : Value → List SA → Prop} (hx : Sx.ev σ x = .iface t (.map (some r)))
    (hf : P.funcs[f]? = some fn) (hname : (fn.name == "runtime.NumGoroutine") = false) (hb : fn.body.isNone = true) (hn : Extern.findNext fn = none) (he : Extern.find fn = some Extern.MapsClone.clone)
    [hm : Mem w0 H r (mapO enc ev es c)] (h : ∀ q, K (.iface t (.map (some q))) (blk q (mapO enc ev es c) :: H)) : Ef P w0 H σ ⟨d, .call ⟨.value (.func f), #[x], ats⟩, ty, pos, aft, g⟩ K := fun w hw => by
  have hg := getObj_run (P := P) (hm.get w hw)
  have hcl : (Extern.MapsClone.clone #[.iface t (.map (some r))]).run P w = .ok (.iface t (.map (some w.heap.size))) (w.alloc (mapO enc ev es c)) := by
    have e : Extern.MapsClone.clone #[.iface t (.map (some r))] = (getObj r >>= fun o => match o with
        | .map entries clock => (newObj (.map entries clock) >>= fun n => pure (.iface t (.map (some n))))
        | _ => stuck "maps.clone: a map expected") := rfl
    rw [e]
    simp only [Sem.run_bind, hg, Result.andThen_ok, run_newObj, Sem.run_pure]
    rfl
  have hrun := run_callFunc_extern (P := P) hf hname hb hn he #[.iface t (.map (some r))] w
  rw [hcl] at hrun
  have : (execOp (Sx.ev σ) ⟨d, .call ⟨.value (.func f), #[x], ats⟩, ty, pos, aft, g⟩).run P w = .ok (.value (.iface t (.map (some w.heap.size)))) (w.alloc (mapO enc ev es c)) := by
    have hxf : Sx.ev σ (.func f) = .func (.func f) #[] #[] := rfl
    simp only [execOp, resolve, hxf, Deferred.ofValue, List.map_toArray, List.map_cons, List.map_nil, hx, Sem.run_bind, Sem.run_pure, Result.andThen_ok, invoke]
    simpa using hrun
  rw [this]
  exact ⟨_, h _, hw.alloc _⟩
theorem Qt_map_nil {x y : Operand} {t t' K E : TypeId} {p : Option Nat} (hx : Sx.ev σ x = .map p) (hy : Sx.ev σ y = .map none) (ht : P.underlying t = some (.map K E)) :
    Qt P w0 H σ ⟨d, .binOp .eql t x y t', ty, pos, aft, g⟩ (.bool p.isNone) := fun w _ => by
  have h1 : (eqGuard .eql t x y (.map p) (.map none)).run P w = .ok () w := by rfl
  have h2 : (binOp .eql t (.map p) (.map none)) = (do pure (.bool (← Op.equalIn (9999 + 1) t (.map p) (.map none)))) := by rfl
  have h3 : (Op.equalIn (9999 + 1) t (.map p) (.map none)).run P w = .ok p.isNone w := by
    have h : ∀ n, (Op.equalIn (n + 1) t (.map p) (.map none)).run P w = .ok p.isNone w := fun n => by cases p <;> simp [Op.equalIn, run_underlying ht]
    exact h 9999
  simp only [execOp, hx, hy, Sem.run_bind, h1, h2, Result.andThen_ok, h3, Sem.run_pure]
theorem beqBytes (a b : ByteArray) : (a == b) = true ↔ a = b := MapKept.bytes_beq a b
end
end Go.Sx
