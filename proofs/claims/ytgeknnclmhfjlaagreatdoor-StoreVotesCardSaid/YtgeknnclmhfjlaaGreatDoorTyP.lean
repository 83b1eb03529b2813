/- Structures for the struct types of this translation, with their cells. Printed by program. -/
import Derived.Test.YtgeknnclmhfjlaaGreatDoorTfP
namespace Go.Proofs.YtgeknnclmhfjlaaGreatDoor
open Go.RowKit Go.Sx
set_option maxRecDepth 100000
set_option linter.unusedSimpArgs false
set_option linter.unusedVariables false
set_option linter.unnecessarySimpa false
structure ReaderV where
 b : BS
 at_ : Int
def ReaderV.list (v : ReaderV) : List Value := [.slice v.b.a v.b.l.length v.b.c] ++ ([.int .i64 v.at_])
def ReaderV.cells (v : ReaderV) : Array Value := v.list.toArray
theorem ReaderV.list_len (v : ReaderV) : v.list.length = 2 := by simp [ReaderV.list]
theorem ReaderV.list_one (v : ReaderV) : v.list.all Value.oneCell' = true := by simp [ReaderV.list, Value.oneCell']
theorem ReaderV.size (v : ReaderV) : v.cells.size = 2 := by simp [ReaderV.cells, ReaderV.list_len]
instance {v : ReaderV} : CellAt v.cells 0 (.slice v.b.a v.b.l.length v.b.c) := ⟨by simp [ReaderV.cells, ReaderV.list, List.getElem?_append, hlist_length]⟩
instance {v : ReaderV} {a : Option Addr} {l : List UInt8} {c : Nat} : Put v.cells 0 (.slice a l.length c) { v with b := ⟨a, c, l⟩ }.cells := by have := Put.mid ([] : List Value) ([.slice v.b.a v.b.l.length v.b.c]) ([.int .i64 v.at_]) (cs := v.cells) (o := 0) (n := 1) (v := .slice a l.length c) (by simp [ReaderV.cells, ReaderV.list]) (by simp) rfl rfl; simpa [ReaderV.cells, ReaderV.list, Value.cells] using this
instance {v : ReaderV} : CellAt v.cells 1 (.int .i64 v.at_) := ⟨by simp [ReaderV.cells, ReaderV.list, List.getElem?_append, hlist_length]⟩
instance {v : ReaderV} {u : Int} : Put v.cells 1 (.int .i64 u) { v with at_ := u }.cells := by have := Put.mid ([.slice v.b.a v.b.l.length v.b.c]) ([.int .i64 v.at_]) ([] : List Value) (cs := v.cells) (o := 1) (n := 1) (v := .int .i64 u) (by simp [ReaderV.cells, ReaderV.list]) (by simp) rfl rfl; simpa [ReaderV.cells, ReaderV.list, Value.cells] using this
instance {f0 : BS} {f1 : Int} : CellAt (ReaderV.mk f0 f1).cells 0 (.slice f0.a f0.l.length f0.c) := inferInstanceAs (CellAt (ReaderV.mk f0 f1).cells 0 (.slice (ReaderV.mk f0 f1).b.a (ReaderV.mk f0 f1).b.l.length (ReaderV.mk f0 f1).b.c))
instance {f0 : BS} {f1 : Int} {a : Option Addr} {c : Nat} {l : List UInt8} : Put (ReaderV.mk f0 f1).cells 0 (.slice a l.length c) (ReaderV.mk (BS.mk a c l) f1).cells := inferInstanceAs (Put (ReaderV.mk f0 f1).cells 0 (.slice a l.length c) { (ReaderV.mk f0 f1) with b := (BS.mk a c l) }.cells)
instance {f0 : BS} {f1 : Int} : CellAt (ReaderV.mk f0 f1).cells 1 (.int .i64 f1) := inferInstanceAs (CellAt (ReaderV.mk f0 f1).cells 1 (.int .i64 (ReaderV.mk f0 f1).at_))
instance {f0 : BS} {f1 : Int} {u : Int} : Put (ReaderV.mk f0 f1).cells 1 (.int .i64 u) (ReaderV.mk f0 u).cells := inferInstanceAs (Put (ReaderV.mk f0 f1).cells 1 (.int .i64 u) { (ReaderV.mk f0 f1) with at_ := u }.cells)
@[reducible] def ReaderV.zero : ReaderV := { b := ⟨none, 0, []⟩, at_ := 0 }
instance : TyZ Tryz.prog 167 (.agg ReaderV.zero.cells) := ⟨by kernel_rfl⟩
structure ViewV where
 num : Int
 mask : Int
def ViewV.list (v : ViewV) : List Value := [.int .i64 v.num] ++ ([.int .u16 v.mask])
def ViewV.cells (v : ViewV) : Array Value := v.list.toArray
theorem ViewV.list_len (v : ViewV) : v.list.length = 2 := by simp [ViewV.list]
theorem ViewV.list_one (v : ViewV) : v.list.all Value.oneCell' = true := by simp [ViewV.list, Value.oneCell']
instance {v : ViewV} : Cells v.cells 2 := Cells.list v.list_len v.list_one
theorem ViewV.size (v : ViewV) : v.cells.size = 2 := by simp [ViewV.cells, ViewV.list_len]
instance {v : ViewV} : SubAt v.cells 0 2 v.cells := ⟨by have h := v.size; apply Array.ext <;> simp [h]⟩
instance {v u : ViewV} : Put v.cells 0 (.agg u.cells) u.cells := ⟨by have := put_mid [] v.list [] (v := .agg u.cells) (o := 0) (n := 2) rfl v.list_len u.size; simpa [ViewV.cells, Value.cells] using this, by simp [Value.cells, ViewV.size]⟩
instance {v : ViewV} : CellAt v.cells 0 (.int .i64 v.num) := ⟨by simp [ViewV.cells, ViewV.list, List.getElem?_append, hlist_length]⟩
instance {v : ViewV} : CellAt v.cells 1 (.int .u16 v.mask) := ⟨by simp [ViewV.cells, ViewV.list, List.getElem?_append, hlist_length]⟩
instance {v : ViewV} {u : Int} : Put v.cells 1 (.int .u16 u) { v with mask := u }.cells := by have := Put.mid ([.int .i64 v.num]) ([.int .u16 v.mask]) ([] : List Value) (cs := v.cells) (o := 1) (n := 1) (v := .int .u16 u) (by simp [ViewV.cells, ViewV.list]) (by simp) rfl rfl; simpa [ViewV.cells, ViewV.list, Value.cells] using this
instance {f0 : Int} {f1 : Int} : CellAt (ViewV.mk f0 f1).cells 0 (.int .i64 f0) := inferInstanceAs (CellAt (ViewV.mk f0 f1).cells 0 (.int .i64 (ViewV.mk f0 f1).num))
instance {f0 : Int} {f1 : Int} : CellAt (ViewV.mk f0 f1).cells 1 (.int .u16 f1) := inferInstanceAs (CellAt (ViewV.mk f0 f1).cells 1 (.int .u16 (ViewV.mk f0 f1).mask))
instance {f0 : Int} {f1 : Int} {u : Int} : Put (ViewV.mk f0 f1).cells 1 (.int .u16 u) (ViewV.mk f0 u).cells := inferInstanceAs (Put (ViewV.mk f0 f1).cells 1 (.int .u16 u) { (ViewV.mk f0 f1) with mask := u }.cells)
@[reducible] def ViewV.zero : ViewV := { num := 0, mask := 0 }
instance : TyZ Tryz.prog 36 (.agg ViewV.zero.cells) := ⟨by kernel_rfl⟩
theorem ViewV.ext_iff' (x y : ViewV) : x = y ↔ x.num = y.num ∧ x.mask = y.mask := by cases x; cases y; simp
end Go.Proofs.YtgeknnclmhfjlaaGreatDoor
