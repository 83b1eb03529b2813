/- Short names for frequent steps. General theorems; no program. -/
import Derived.Test.YtgeknnclmhfjlaaGreatDoorSzP
namespace Go.Sx
open Go.RowKit
theorem dp : (∀ (p : Prop) [Decidable p], (decide p = true) = p) ∧ (∀ (p : Prop) [Decidable p], decide p = false ↔ ¬p) ∧ (∀ b : Bool, ((!b) = true) = (b = false)) ∧ (∀ b : Bool, ((!b) = false) = (b = true)) ∧
    (∀ {α : Type} (o : Option α), o.isNone = true ↔ o = none) ∧ (∀ {α : Type} (a b : α), (a ≠ b) = ¬a = b) ∧ (∀ (p : Prop) [Decidable p], ¬¬p ↔ p) ∧ (∀ a b : Int, ¬a < b ↔ b ≤ a) ∧ (∀ a b : Int, ¬a ≤ b ↔ b < a) :=
  ⟨fun _ _ => decide_eq_true_eq, fun _ _ => decide_eq_false_iff_not, Bool.not_eq_true', Bool.not_eq_false', fun _ => Option.isNone_iff_eq_none, fun _ _ => rfl, fun _ _ => Decidable.not_not, fun _ _ => Int.not_lt, fun _ _ => Int.not_le⟩
section
variable {P : Program} {n : Fr} {w0 : World} {σ : Env} {H : List SA} {Q : Post}
theorem T2 {id : Nat} {l : List Oper} {y : Code} (h : TL P n w0 l.toArray l σ H (thenQ P n w0 y Q)) : T P n w0 (.seq (.region id l.toArray false) y) σ H Q := T_seq (T_region h)
theorem TX {all : Array Oper} {y : Code} (h : T P n w0 y σ H Q) : TL P n w0 all [] σ H (thenQ P n w0 y Q) := TL_nil (X_then h)
theorem T4 {all : Array Oper} {id : Nat} {l : List Oper} {y : Code} (h : TL P n w0 l.toArray l σ H (thenQ P n w0 y Q)) : TL P n w0 all [] σ H (thenQ P n w0 (.seq (.region id l.toArray false) y) Q) := TX (T2 h)
theorem S4 {id : Nat} {l : List Oper} {y : Code} (h : TL P n w0 l.toArray l σ H (thenQ P n w0 y Q)) : T P n w0 .skip σ H (thenQ P n w0 (.seq (.region id l.toArray false) y) Q) := T_skip (X_then (T2 h))
variable {all : Array Oper} {rest : List Oper} {d : Nat} {ty : TypeId} {pos : String} {aft : Array Edge} {x : Operand}
theorem Qmi {z : Int} (h : ev σ x = .int .i64 z) (hd : Nat.blt d n.n = true) (k : TL P n w0 all rest (upd σ d (.int .i64 z)) H Q) : TL P n w0 all (⟨some d, .move x, ty, pos, aft, none⟩ :: rest) σ H Q := TL_q (Qt_move _ h) hd k
theorem Qai {z : Int} (h : ev σ x = .int .i64 z) (hd : Nat.blt d n.n = true) (k : TL P n w0 all rest (upd σ d (.int .i64 z)) H Q) : TL P n w0 all (⟨some d, .assign x, ty, pos, aft, none⟩ :: rest) σ H Q := TL_q (Qt_assign _ h) hd k
theorem Qms {a : Option Addr} {i c : Nat} (h : ev σ x = .slice a i c) (hd : Nat.blt d n.n = true) (k : TL P n w0 all rest (upd σ d (.slice a i c)) H Q) : TL P n w0 all (⟨some d, .move x, ty, pos, aft, none⟩ :: rest) σ H Q := TL_q (Qt_move _ h) hd k
theorem Qas {a : Option Addr} {i c : Nat} (h : ev σ x = .slice a i c) (hd : Nat.blt d n.n = true) (k : TL P n w0 all rest (upd σ d (.slice a i c)) H Q) : TL P n w0 all (⟨some d, .assign x, ty, pos, aft, none⟩ :: rest) σ H Q := TL_q (Qt_assign _ h) hd k
theorem Qmb {b : Bool} (h : ev σ x = .bool b) (hd : Nat.blt d n.n = true) (k : TL P n w0 all rest (upd σ d (.bool b)) H Q) : TL P n w0 all (⟨some d, .move x, ty, pos, aft, none⟩ :: rest) σ H Q := TL_q (Qt_move _ h) hd k
theorem Qab {b : Bool} (h : ev σ x = .bool b) (hd : Nat.blt d n.n = true) (k : TL P n w0 all rest (upd σ d (.bool b)) H Q) : TL P n w0 all (⟨some d, .assign x, ty, pos, aft, none⟩ :: rest) σ H Q := TL_q (Qt_assign _ h) hd k
end
theorem SB {w0 : World} {H H' : List SA} [h : Subs H' H] : ∀ w, St w0 H w → St w0 H' w := h.st
abbrev zq := @TL_q
abbrev zf := @Qt_fieldAddr
abbrev zp := @TL_pass
abbrev zt := @TL_take
abbrev zl := @Qt_load1
abbrev zn := @Qt_loadN
abbrev zm := @Qt_move
abbrev za := @Qt_assign
abbrev zs := @Ef_storeN
abbrev zc := @Ef_call
abbrev ze := @TL_e
abbrev zd := @DL_q
abbrev zx := @X_then
abbrev zr := @X_then_ret
abbrev zb := @X_block_ret
abbrev zS := @T_seq
abbrev zR := @T_region
abbrev zF := @Qt_pick_f
abbrev zT := @Qt_pick_t
abbrev zN := @TL_n
abbrev zX := @X_ret
abbrev zC := @T_cond
abbrev zk := @T_skip
abbrev zB := @T_block
abbrev zL := @Qt_len_slice
abbrev zE := @X_block_exit
abbrev zG := @X_then_exit
abbrev zz := @TL_nil
abbrev zQ := @T_ret
abbrev zW := @X_loop_exit
abbrev zY := @T_exit
end Go.Sx
