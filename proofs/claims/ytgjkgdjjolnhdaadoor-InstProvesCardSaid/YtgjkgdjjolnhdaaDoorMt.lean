/- Walks: the reference on messages: Long, Copied, Same. -/
import Derived.Test.YtgjkgdjjolnhdaaDoorMs
namespace Go.Proofs.YtgjkgdjjolnhdaaDoor
open Go.RowKit Go.Sx
set_option maxRecDepth 100000
set_option linter.unusedSimpArgs false
set_option linter.unusedVariables false
def longM (m : MsgD) : Bool := decide (3000 < m.body.length) || decide (20 < m.parts.length) || m.parts.any fun c => decide (3000 < c.length)
theorem small_of_longM {m : MsgD} (h : longM m = false) : SmallM m := by
  simp only [longM, Bool.or_eq_false_iff, decide_eq_false_iff_not, List.any_eq_false, decide_eq_true_eq] at h
  exact ⟨by omega, by omega, fun x hx => by have := h.2 x hx; omega⟩
theorem MsgD.ext_iff' (x y : MsgD) : x = y ↔ x.kind = y.kind ∧ x.frm = y.frm ∧ x.view = y.view ∧ x.reg = y.reg ∧ x.slot = y.slot ∧ x.hash = y.hash ∧ x.body = y.body ∧ x.parts = y.parts := by cases x; cases y; simp
instance : DecidableEq MsgD := fun x y => decidable_of_iff _ (MsgD.ext_iff' x y).symm
theorem longM_1 {m : MsgV} (h : 3000 < m.body.l.length) : longM m.abs = true := by simp [longM, MsgV.abs, h]
theorem longM_2 {m : MsgV} (h : 20 < m.parts.ls.length) : longM m.abs = true := by simp [longM, MsgV.abs, h]
theorem longM_3 {m : MsgV} (k : Nat) (hk : k < m.parts.ls.length) (h : 3000 < m.parts.ls[k].l.length) : longM m.abs = true := by
  have : (m.abs.parts.any fun c => decide (3000 < c.length)) = true := any_of_get _ m.abs.parts k (by rw [parts_len]; exact hk) (by simpa [MsgV.abs] using h)
  simp [longM, this]
theorem longM_no {m : MsgV} (h1 : ¬ 3000 < m.body.l.length) (h2 : ¬ 20 < m.parts.ls.length) (h3 : (m.parts.ls.map BS.l).any (fun c => decide (3000 < c.length)) = false) : longM m.abs = false := by
  have e1 : decide (3000 < m.abs.body.length) = false := decide_eq_false h1
  have e2 : decide (20 < m.abs.parts.length) = false := decide_eq_false (by rw [parts_len]; exact h2)
  have e3 : (m.abs.parts.any fun c => decide (3000 < c.length)) = false := h3
  simp only [longM, e1, e2, e3, Bool.or_self]

end Go.Proofs.YtgjkgdjjolnhdaaDoor
