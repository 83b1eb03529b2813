/- Short names for frequent steps. General theorems; no program. -/
import Derived.Test.YtnijomppbgdmnaaGreatSzP
import Derived.Test.YtnijomppbgdmnaaGreatSeP
import Derived.Test.YtnijomppbgdmnaaGreatSrP
set_option linter.unusedSimpArgs false
set_option linter.unusedVariables false
namespace Go.Sx
open Go.RowKit
theorem dp : (∀ (p : Prop) [Decidable p], (decide p = true) = p) ∧ (∀ (p : Prop) [Decidable p], decide p = false ↔ ¬p) ∧ (∀ b : Bool, ((!b) = true) = (b = false)) ∧ (∀ b : Bool, ((!b) = false) = (b = true)) ∧
    (∀ {α : Type} (o : Option α), o.isNone = true ↔ o = none) ∧ (∀ {α : Type} (a b : α), (a ≠ b) = ¬a = b) ∧ (∀ (p : Prop) [Decidable p], ¬¬p ↔ p) ∧ (∀ a b : Int, ¬a < b ↔ b ≤ a) ∧ (∀ a b : Int, ¬a ≤ b ↔ b < a) :=
  ⟨fun _ _ => decide_eq_true_eq, fun _ _ => decide_eq_false_iff_not, Bool.not_eq_true', Bool.not_eq_false', fun _ => Option.isNone_iff_eq_none, fun _ _ => rfl, fun _ _ => Decidable.not_not, fun _ _ => Int.not_lt, fun _ _ => Int.not_le⟩
section
variable {P : Program} {n : Fr} {w0 : World} {σ : Env} {H : List SA} {Q : Post}
theorem T2 {id : Nat} {l : List Oper} {y : Code} (h : TL P n w0 l.toArray l σ H (thenQ P n w0 y Q)) : T P n w0 (.seq (.region id l.toArray false) y) σ H Q := T_seq (T_region h)
theorem TX {all : Array Oper} {y : Code} (h : T P n w0 y σ H Q) : TL P n w0 all [] σ H (thenQ P n w0 y Q) := TL_nil (X_then h)
theorem T4 {all : Array Oper} {id : Nat} {l : List Oper} {y : Code} (h : TL P n w0 l.toArray l σ H (thenQ P n w0 y Q)) : TL P n w0 all [] σ H (thenQ P n w0 (.seq (.region id l.toArray false) y) Q) := TX (T2 h)
theorem S4 {id : Nat} {l : List Oper} {y : Code} (h : TL P n w0 l.toArray l σ H (thenQ P n w0 y Q)) : T P n w0 .skip σ H (thenQ P n w0 (.seq (.region id l.toArray false) y) Q) := T_skip (X_then (T2 h))
variable {all : Array Oper} {rest : List Oper} {d : Nat} {ty : TypeId} {pos : String} {aft : Array Edge} {x : Operand}
theorem Qmi {z : Int} (h : ev σ x = .int .i64 z) (hd : Nat.blt d n.n = true) (k : TL P n w0 all rest (upd σ d (.int .i64 z)) H Q) : TL P n w0 all (⟨some d, .move x, ty, pos, aft, none⟩ :: rest) σ H Q := TL_q (Qt_move _ h) hd k
theorem Qai {z : Int} (h : ev σ x = .int .i64 z) (hd : Nat.blt d n.n = true) (k : TL P n w0 all rest (upd σ d (.int .i64 z)) H Q) : TL P n w0 all (⟨some d, .assign x, ty, pos, aft, none⟩ :: rest) σ H Q := TL_q (Qt_assign _ h) hd k
theorem Qms {a : Option Addr} {i c : Nat} (h : ev σ x = .slice a i c) (hd : Nat.blt d n.n = true) (k : TL P n w0 all rest (upd σ d (.slice a i c)) H Q) : TL P n w0 all (⟨some d, .move x, ty, pos, aft, none⟩ :: rest) σ H Q := TL_q (Qt_move _ h) hd k
theorem Qas {a : Option Addr} {i c : Nat} (h : ev σ x = .slice a i c) (hd : Nat.blt d n.n = true) (k : TL P n w0 all rest (upd σ d (.slice a i c)) H Q) : TL P n w0 all (⟨some d, .assign x, ty, pos, aft, none⟩ :: rest) σ H Q := TL_q (Qt_assign _ h) hd k
theorem Qmb {b : Bool} (h : ev σ x = .bool b) (hd : Nat.blt d n.n = true) (k : TL P n w0 all rest (upd σ d (.bool b)) H Q) : TL P n w0 all (⟨some d, .move x, ty, pos, aft, none⟩ :: rest) σ H Q := TL_q (Qt_move _ h) hd k
theorem Qab {b : Bool} (h : ev σ x = .bool b) (hd : Nat.blt d n.n = true) (k : TL P n w0 all rest (upd σ d (.bool b)) H Q) : TL P n w0 all (⟨some d, .assign x, ty, pos, aft, none⟩ :: rest) σ H Q := TL_q (Qt_assign _ h) hd k
end
theorem SB {w0 : World} {H H' : List SA} [h : Subs H' H] : ∀ w, St w0 H w → St w0 H' w := h.st
abbrev zq := @TL_q
abbrev zf := @Qt_fieldAddr
abbrev zp := @TL_pass
abbrev zt := @TL_take
abbrev zl := @Qt_load1
abbrev zn := @Qt_loadN
abbrev zm := @Qt_move
abbrev za := @Qt_assign
abbrev zs := @Ef_storeN
abbrev zc := @Ef_call
abbrev ze := @TL_e
abbrev zd := @DL_q
abbrev zx := @X_then
abbrev zr := @X_then_ret
abbrev zb := @X_block_ret
abbrev zS := @T_seq
abbrev zR := @T_region
abbrev zF := @Qt_pick_f
abbrev zT := @Qt_pick_t
abbrev zN := @TL_n
abbrev zX := @X_ret
abbrev zC := @T_cond
abbrev zk := @T_skip
abbrev zB := @T_block
abbrev zL := @Qt_len_slice
abbrev zE := @X_block_exit
abbrev zG := @X_then_exit
abbrev zz := @TL_nil
abbrev zQ := @T_ret
abbrev zW := @X_loop_exit
abbrev zY := @T_exit
/-- What a test tells, cleaned. -/
class Cl (p : Prop) (q : outParam Prop) : Prop where mp : p → q
theorem cL {p q : Prop} [c : Cl p q] (h : p) : q := c.mp h
instance (priority := low) cl0 {p : Prop} : Cl p p := ⟨id⟩
instance cl1 {p q : Prop} {i : Decidable p} [c : Cl p q] : Cl (@decide p i = true) q := ⟨fun h => c.mp (of_decide_eq_true h)⟩
instance cl2 {p q : Prop} {i : Decidable p} [c : Cl (¬p) q] : Cl (@decide p i = false) q := ⟨fun h => c.mp (of_decide_eq_false h)⟩
instance cl3 {b : Bool} {q : Prop} [c : Cl (b = false) q] : Cl ((!b) = true) q := ⟨fun h => c.mp (by simpa using h)⟩
instance cl4 {b : Bool} {q : Prop} [c : Cl (b = true) q] : Cl ((!b) = false) q := ⟨fun h => c.mp (by simpa using h)⟩
instance cl5 {α : Type} {o : Option α} : Cl (o.isNone = true) (o = none) := ⟨Option.isNone_iff_eq_none.1⟩
instance cl6 {p q : Prop} [c : Cl p q] : Cl (¬¬p) q := ⟨fun h => c.mp (Classical.not_not.1 h)⟩
instance cl7 {a b : Int} : Cl (¬a < b) (b ≤ a) := ⟨Int.not_lt.1⟩
instance cl8 {a b : Int} : Cl (¬a ≤ b) (b < a) := ⟨Int.not_le.1⟩
instance cl9 {α : Type} {a b : α} {q : Prop} [c : Cl (¬¬a = b) q] : Cl (¬a ≠ b) q := ⟨fun h => c.mp h⟩
instance cl10 {α : Type} {a b : α} : Cl (a ≠ b) (¬a = b) := ⟨id⟩
section
variable {P : Program} {n : Fr} {w0 : World} {σ : Env} {H S : List SA} {Q : Post} {all : Array Oper} {rest : List Oper} {op : Op} {d : Nat} {ty : TypeId} {pos : String} {aft : Array Edge}
theorem zA {ws : List Nat} {σ σ' : Env} (h : agree ws σ σ' := by repeat (first | with_reducible exact agree_refl | refine agree_upd rfl ?_ | refine agree_mix rfl ?_ | refine agree_setAll rfl ?_)) : agree ws σ σ' := h
theorem zy {v : Value} (hq : Qt P w0 H σ ⟨some d, op, ty, pos, aft, none⟩ v) (h : TL P n w0 all rest (upd σ d v) H Q) (hd : Nat.blt d n.n = true := by exact rfl) : TL P n w0 all (⟨some d, op, ty, pos, aft, none⟩ :: rest) σ H Q := TL_q hq hd h
theorem zo {j s : Nat} {want b : Bool} (h : TL P n w0 all rest (upd σ d undef) H Q) (hs : (all[j]?).bind (·.dst) = some s := by exact rfl) (hb : σ s = .bool b := by exact rfl) (hbw : b = !want := by exact rfl) (hd : Nat.blt d n.n = true := by exact rfl) : TL P n w0 all (⟨some d, op, ty, pos, aft, some (j, want)⟩ :: rest) σ H Q := TL_pass hs hb hbw hd h
variable {ops : Array Oper} {fuel : Nat} {listed : Array Bool} {i : Nat}
theorem zI {v : Value} (hi : ops[i]? = some ⟨some d, op, ty, pos, aft, none⟩) (hq : Qt P w0 S σ ⟨some d, op, ty, pos, aft, none⟩ v) (h : DLF P n w0 S ops fuel (listed.setIfInBounds i true) (upd σ d v) H Q) (hns : Region.noSelect ops = true := by kernel_rfl) (hf : Region.free .any ops listed i = true := by kernel_rfl) (hr : (Region.ready .any ops listed).contains i = true := by kernel_rfl) (hd : Nat.blt d n.n = true := by exact rfl) : DLF P n w0 S ops (fuel + 1) listed σ H Q := DLF_q hns hi hf hr hq hd h
theorem zV (h : DLS P n w0 S ops fuel listed i σ H Q) (hr : (Region.ready .any ops listed == [i]) = true := by kernel_rfl) : DLF P n w0 S ops (fuel + 1) listed σ H Q := DLF_1 hr h
theorem zD {id : Nat} {l : List Oper} (S : List SA) (ord : List (Nat × Bool)) (hS : ∀ w, St w0 H w → St w0 S w) (h : Region.noSelect l.toArray = true → DL P n w0 S l.toArray ord σ H Q) (hm : P.follows .mixedOrders = true := by kernel_rfl) (hns : Region.noSelect l.toArray = true := by kernel_rfl) (hlen : ord.length = l.length := by exact rfl) (hok : okOrd l.toArray ord (Array.replicate l.length false) = true := by kernel_rfl) : T P n w0 (.region id l.toArray true) σ H Q := T_draw S ord hm hns hlen hok hS h
variable {d : Option Nat} {g : Option (Nat × Bool)} {t t' : TypeId} {x y : Operand}
theorem zj {a b : Int} (hx : ev σ x = .int .i64 a) (hy : ev σ y = .int .i64 b) (h1 : -9223372036854775808 ≤ a + b := by omega) (h2 : a + b ≤ 9223372036854775807 := by omega) : Qt P w0 H σ ⟨d, .binOp .add t x y t', ty, pos, aft, g⟩ (.int .i64 (a + b)) := Qt_add hx hy h1 h2
theorem zh {a b : Int} (hx : ev σ x = .int .i64 a) (hy : ev σ y = .int .i64 b) (h1 : -9223372036854775808 ≤ a - b := by omega) (h2 : a - b ≤ 9223372036854775807 := by omega) : Qt P w0 H σ ⟨d, .binOp .sub t x y t', ty, pos, aft, g⟩ (.int .i64 (a - b)) := Qt_sub hx hy h1 h2
theorem zw {parts : Array (Nat × Operand)} (pv : List (Nat × Value)) {z cs : Array Value} (hp : parts.toList.map (fun p => (p.1, ev σ p.2)) = pv) [hz : TyZ P t (.agg z)] [hf : Fill P t z pv cs] (hs : fieldsSized P t = true := by kernel_rfl) : Qt P w0 H σ ⟨d, .build t parts, ty, pos, aft, g⟩ (.agg cs) := Qt_build pv hp hs
end
end Go.Sx
