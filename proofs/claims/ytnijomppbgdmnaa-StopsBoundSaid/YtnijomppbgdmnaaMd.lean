/- Messages as data: their bytes, whether they are formed. -/
import Derived.Test.YtnijomppbgdmnaaMc
namespace Go.Proofs.Ytnijomppbgdmnaa
open Go.RowKit Go.Sx
set_option maxRecDepth 100000
set_option linter.unusedSimpArgs false
set_option linter.unusedVariables false

structure MsgD where
  kind : Int
  frm : Int
  view : Int
  reg : Int
  slot : Int
  hash : Vector UInt8 32
  body : List UInt8
  parts : List (List UInt8)
def MsgV.abs (v : MsgV) : MsgD := ⟨v.kind, v.frm, v.view, v.reg, v.slot, v.hash, v.body.l, v.parts.ls.map BS.l⟩
theorem parts_len (m : MsgV) : m.abs.parts.length = m.parts.ls.length := by simp [MsgV.abs]
def withinB (n b : Int) : Bool := decide (0 ≤ n) && decide (n ≤ b)
theorem within_iff (n b : Int) : withinB n b = true ↔ 0 ≤ n ∧ n ≤ b := by simp [withinB]
theorem within_not (n b : Int) : withinB n b = false ↔ ¬ (0 ≤ n ∧ n ≤ b) := by rw [← within_iff]; simp
def formedM (m : MsgD) : Bool := decide (1 ≤ m.kind ∧ m.kind ≤ 12 ∧ 0 ≤ m.frm ∧ m.frm ≤ 15 ∧ 0 ≤ m.view ∧ m.view ≤ 60 ∧ 0 ≤ m.reg ∧ m.reg ≤ 40 ∧ 0 ≤ m.slot ∧ m.slot ≤ 60)
theorem formedM_iff (m : MsgD) : formedM m = true ↔ 1 ≤ m.kind ∧ m.kind ≤ 12 ∧ 0 ≤ m.frm ∧ m.frm ≤ 15 ∧ 0 ≤ m.view ∧ m.view ≤ 60 ∧ 0 ≤ m.reg ∧ m.reg ≤ 40 ∧ 0 ≤ m.slot ∧ m.slot ≤ 60 := by simp only [formedM, decide_eq_true_eq]
def numM (m : MsgD) (k : Nat) : Int := match k with | 0 => m.kind | 1 => m.frm | 2 => m.view | 3 => m.reg | _ => m.slot
def wid (k : Nat) : Nat := match k with | 0 => 1 | 1 => 1 | _ => 2
theorem wid_le (k : Nat) : wid k ≤ 2 := by unfold wid; split <;> decide
theorem wid_wide (k : Nat) : wideB ((wid k : Nat) : Int) = true := by unfold wid; split <;> rfl
def preM (m : MsgD) : Nat → List UInt8
  | 0 => []
  | k + 1 => preM m k ++ fixed (u64 (numM m k)).toNat (wid k)
theorem preM_le (m : MsgD) : ∀ k, (preM m k).length ≤ 2 * k
  | 0 => by simp [preM]
  | k + 1 => by have := preM_le m k; have := wid_le k; simp [preM, fixed_length]; omega
theorem preM_5 (m : MsgD) : (preM m 5).length = 8 := by simp [preM, fixed_length, wid]
def headM (m : MsgD) : List UInt8 := preM m 5 ++ m.hash.toList ++ textB m.body ++ packed m.parts.length
def msgB (m : MsgD) : List UInt8 := headM m ++ texts m.parts
structure SmallM (m : MsgD) : Prop where
  body : m.body.length ≤ 3000
  parts : m.parts.length ≤ 20
  each : ∀ x ∈ m.parts, x.length ≤ 3000
theorem headM_len (m : MsgD) : (headM m).length = 40 + (textB m.body).length + (packed m.parts.length).length := by
  simp only [headM, List.length_append, preM_5, Vector.length_toList]
theorem headM_le (m : MsgD) (h : SmallM m) : (headM m).length ≤ 4000 := by
  have h1 := textB_length m.body (by have := h.body; omega)
  have h2 := packed_length_le m.parts.length (by have := h.parts; omega)
  have h3 := h.body
  rw [headM_len]; omega
theorem told_le (m : MsgD) (h : SmallM m) (k : Nat) : (headM m ++ texts (m.parts.take k)).length ≤ 80000 := by
  have h1 := headM_le m h
  have h2 := texts_length 3000 (m.parts.take k) (fun x hx => h.each x (List.mem_of_mem_take hx)) (by decide)
  have h3 : (m.parts.take k).length ≤ 20 := by have := h.parts; simp; omega
  have h4 := Nat.mul_le_mul_right (10 + 3000) h3
  rw [List.length_append]; omega
theorem textsM_le (m : MsgD) (h : SmallM m) (k : Nat) : (texts (m.parts.take k)).length ≤ 80000 := by
  have := told_le m h k
  rw [List.length_append] at this; omega
theorem msgB_len (m : MsgD) : (msgB m).length = (headM m).length + (texts m.parts).length := by simp [msgB]
/-- wire.Put: the bytes, the error. -/
def putM (m : MsgD) : List UInt8 × Int := if 16 < m.parts.length ∨ 65504 < (msgB m).length then ([], 4) else if formedM m then (msgB m, 0) else ([], 15)
theorem putM_le (m : MsgD) : (putM m).1.length ≤ 65504 := by
  unfold putM
  split
  · simp
  · split
    · show (msgB m).length ≤ _; omega
    · simp
theorem putFixed_w (l : List UInt8) (x : Int) (k : Nat) : putFixed l x ((wid k : Nat) : Int) = l ++ fixed x.toNat (wid k) := by rw [putFixed, if_pos (wid_wide k)]; rfl
theorem SmallM.each' {m : MsgV} (h : SmallM m.abs) {k : Nat} (hk : k < m.parts.ls.length) : m.parts.ls[k].l.length ≤ 3000 := h.each _ (List.mem_map.2 ⟨_, List.getElem_mem hk, rfl⟩)
theorem texts_succ (m : MsgV) {k : Nat} (hk : k < m.parts.ls.length) : texts (m.abs.parts.take (k + 1)) = texts (m.abs.parts.take k) ++ textB m.parts.ls[k].l := by
  rw [take_get _ _ (by rw [parts_len]; exact hk), texts_snoc]; simp [MsgV.abs]
theorem parts_all (m : MsgV) {k : Nat} (hk : ¬ k < m.parts.ls.length) : m.abs.parts.take k = m.abs.parts := List.take_of_length_le (by rw [parts_len]; omega)
def w5 : Array Value := #[.int .i64 1, .int .i64 1, .int .i64 2, .int .i64 2, .int .i64 2]
theorem w5_at {k n : Nat} (hn : n = k) (hk : k < 5) : w5[n]? = some (.int .i64 ((wid k : Nat) : Int)) := by
  subst hn
  rcases (by omega : n = 0 ∨ n = 1 ∨ n = 2 ∨ n = 3 ∨ n = 4) with rfl | rfl | rfl | rfl | rfl <;> rfl
theorem putWholeL {l l' : List Value} (h : l'.length = l.length) : Put l.toArray 0 (.agg l'.toArray) l'.toArray := by
  have := Put.mid [] l [] (cs := l.toArray) (o := 0) (n := l.length) (v := .agg l'.toArray) (by simp) rfl (by simp) (by simp [Value.cells, h])
  simpa [Value.cells] using this
instance putW5 : Put #[.int .i64 0, .int .i64 0, .int .i64 0, .int .i64 0, .int .i64 0] 0 (.agg w5) w5 := putWholeL (l := [.int .i64 0, .int .i64 0, .int .i64 0, .int .i64 0, .int .i64 0]) (l' := [.int .i64 1, .int .i64 1, .int .i64 2, .int .i64 2, .int .i64 2]) rfl
instance subW5 : SubAt w5 0 5 w5 := ⟨rfl⟩
instance cellsW5 : Cells w5 5 := ⟨rfl, by decide⟩
def nums5 (m : MsgD) : Array Value := #[.int .i64 m.kind, .int .i64 m.frm, .int .i64 m.view, .int .i64 m.reg, .int .i64 m.slot]
theorem nums5_at (m : MsgD) {k n : Nat} (hn : n = k) (hk : k < 5) : (nums5 m)[n]? = some (.int .i64 (numM m k)) := by
  subst hn
  rcases (by omega : n = 0 ∨ n = 1 ∨ n = 2 ∨ n = 3 ∨ n = 4) with rfl | rfl | rfl | rfl | rfl <;> rfl
theorem fill5 (a b c d e : Int) : Instr.fill (fun i => some (i * 1, 1)) #[.int .i64 0, .int .i64 0, .int .i64 0, .int .i64 0, .int .i64 0] [(0, .int .i64 a), (1, .int .i64 b), (2, .int .i64 c), (3, .int .i64 d), (4, .int .i64 e)] = some #[.int .i64 a, .int .i64 b, .int .i64 c, .int .i64 d, .int .i64 e] := by
  rfl

end Go.Proofs.Ytnijomppbgdmnaa
