/- Structures for the struct types of this translation that hold others, with their cells. Printed by program. -/
import Derived.Test.YtnijomppbgdmnaaGreatTyP
set_option linter.unusedSimpArgs false
set_option linter.unusedVariables false
set_option linter.unnecessarySimpa false
namespace Go.Proofs.YtnijomppbgdmnaaGreat
open Go.RowKit Go.Sx
set_option maxRecDepth 100000
structure MGotV where
  m : MsgV
  e : Int
def MGotV.list (v : MGotV) : List Value := v.m.list ++ ([.int .i64 v.e])
def MGotV.cells (v : MGotV) : Array Value := v.list.toArray
theorem MGotV.list_len (v : MGotV) : v.list.length = 40 := by simp [MGotV.list, MsgV.list_len]
theorem MGotV.list_one (v : MGotV) : v.list.all Value.oneCell' = true := by simp [MGotV.list, Value.oneCell', MsgV.list_one]
instance tz7 {v : MGotV} : Cells v.cells 40 := Cells.list v.list_len v.list_one
theorem MGotV.size (v : MGotV) : v.cells.size = 40 := by simp [MGotV.cells, MGotV.list_len]
instance tz9 {v : MGotV} : SubAt v.cells 0 40 v.cells := ⟨by have h := v.size; apply Array.ext <;> simp [h]⟩
instance tz10 {v u : MGotV} : Put v.cells 0 (.agg u.cells) u.cells := ⟨by have := put_mid [] v.list [] (v := .agg u.cells) (o := 0) (n := 40) rfl v.list_len u.size; simpa [MGotV.cells, Value.cells] using this, by simp [Value.cells, MGotV.size]⟩
instance tz11 {v : MGotV} : SubAt v.cells 0 39 v.m.cells := ⟨by first | (simp [MGotV.cells, MGotV.list, MsgV.list_len]; done) | (have := sub_mid ([] : List Value) (v.m.list) ([.int .i64 v.e]) (o := 0) (n := 39) (by simp [MsgV.list_len]) (by simp [MsgV.list_len]); simpa [MGotV.cells, MGotV.list, MsgV.cells] using this)⟩
instance tz12 {v : MGotV} {u : MsgV} : Put v.cells 0 (.agg u.cells) { v with m := u }.cells := by have := Put.mid ([] : List Value) (v.m.list) ([.int .i64 v.e]) (cs := v.cells) (o := 0) (n := 39) (v := .agg u.cells) (by simp [MGotV.cells, MGotV.list]) (by simp [MsgV.list_len]) (by simp [MsgV.list_len]) (by simp [Value.cells, MsgV.size]); simp only [Value.cells, MGotV.cells, MGotV.list, MsgV.cells, List.append_assoc, List.nil_append, List.cons_append] at this ⊢; first | exact this | simpa using this
instance tz13 {v : MGotV} : CellAt v.cells 0 (.int .i64 v.m.kind) := ⟨by simp [MGotV.cells, MGotV.list, MsgV.list, List.getElem?_append, hlist_length, MsgV.list_len]⟩
instance tz15 {v : MGotV} : CellAt v.cells 1 (.int .i64 v.m.frm) := ⟨by simp [MGotV.cells, MGotV.list, MsgV.list, List.getElem?_append, hlist_length, MsgV.list_len]⟩
instance tz21 {v : MGotV} : CellAt v.cells 4 (.int .i64 v.m.slot) := ⟨by simp [MGotV.cells, MGotV.list, MsgV.list, List.getElem?_append, hlist_length, MsgV.list_len]⟩
instance tz28 {v : MGotV} : CellAt v.cells 39 (.int .i64 v.e) := ⟨by simp [MGotV.cells, MGotV.list, List.getElem?_append, hlist_length, MsgV.list_len]⟩
instance tz29 {v : MGotV} {u : Int} : Put v.cells 39 (.int .i64 u) { v with e := u }.cells := by have := Put.mid (v.m.list) ([.int .i64 v.e]) ([] : List Value) (cs := v.cells) (o := 39) (n := 1) (v := .int .i64 u) (by simp [MGotV.cells, MGotV.list]) (by simp [MsgV.list_len]) rfl rfl; simpa [MGotV.cells, MGotV.list, Value.cells] using this
instance tz30 {f0 : MsgV} {f1 : Int} : CellAt (MGotV.mk f0 f1).cells 39 (.int .i64 f1) := inferInstanceAs (CellAt (MGotV.mk f0 f1).cells 39 (.int .i64 (MGotV.mk f0 f1).e))
instance tz31 {f0 : MsgV} {f1 : Int} {u : Int} : Put (MGotV.mk f0 f1).cells 39 (.int .i64 u) (MGotV.mk f0 u).cells := inferInstanceAs (Put (MGotV.mk f0 f1).cells 39 (.int .i64 u) { (MGotV.mk f0 f1) with e := u }.cells)
@[reducible] def MGotV.zero : MGotV := { m := MsgV.zero, e := 0 }
instance tz33 : TyZ Tryz.prog 98 (.agg MGotV.zero.cells) := ⟨by kernel_rfl⟩
end Go.Proofs.YtnijomppbgdmnaaGreat
