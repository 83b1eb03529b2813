/- The structure for the type File, with its cells. Printed by program. -/
import Derived.Test.YtededghplnoajaaTy
namespace Go.Proofs.Ytededghplnoajaa
open Go.RowKit Go.Sx
set_option maxRecDepth 100000
set_option linter.unusedSimpArgs false
set_option linter.unusedVariables false
set_option linter.unnecessarySimpa false
structure FileV where
  name : ByteArray
  b : BS
def FileV.list (v : FileV) : List Value := [.string v.name] ++ ([.slice v.b.a v.b.l.length v.b.c])
def FileV.cells (v : FileV) : Array Value := v.list.toArray
theorem FileV.list_len (v : FileV) : v.list.length = 2 := by simp [FileV.list]
theorem FileV.list_one (v : FileV) : v.list.all Value.oneCell' = true := by simp [FileV.list, Value.oneCell']
instance tx7 {v : FileV} : Cells v.cells 2 := Cells.list v.list_len v.list_one
theorem FileV.size (v : FileV) : v.cells.size = 2 := by simp [FileV.cells, FileV.list_len]
instance tx9 {v : FileV} : SubAt v.cells 0 2 v.cells := ⟨by have h := v.size; apply Array.ext <;> simp [h]⟩
instance tx10 {v u : FileV} : Put v.cells 0 (.agg u.cells) u.cells := ⟨by have := put_mid [] v.list [] (v := .agg u.cells) (o := 0) (n := 2) rfl v.list_len u.size; simpa [FileV.cells, Value.cells] using this, by simp [Value.cells, FileV.size]⟩
instance tx11 {v : FileV} : CellAt v.cells 0 (.string v.name) := ⟨by simp [FileV.cells, FileV.list, List.getElem?_append, hlist_length]⟩
instance tx12 {v : FileV} {u : ByteArray} : Put v.cells 0 (.string u) { v with name := u }.cells := by have := Put.mid ([] : List Value) ([.string v.name]) ([.slice v.b.a v.b.l.length v.b.c]) (cs := v.cells) (o := 0) (n := 1) (v := .string u) (by simp [FileV.cells, FileV.list]) (by simp) rfl rfl; simpa [FileV.cells, FileV.list, Value.cells] using this
instance tx13 {v : FileV} : CellAt v.cells 1 (.slice v.b.a v.b.l.length v.b.c) := ⟨by simp [FileV.cells, FileV.list, List.getElem?_append, hlist_length]⟩
instance tx14 {v : FileV} {a : Option Addr} {l : List UInt8} {c : Nat} : Put v.cells 1 (.slice a l.length c) { v with b := ⟨a, c, l⟩ }.cells := by have := Put.mid ([.string v.name]) ([.slice v.b.a v.b.l.length v.b.c]) ([] : List Value) (cs := v.cells) (o := 1) (n := 1) (v := .slice a l.length c) (by simp [FileV.cells, FileV.list]) (by simp) rfl rfl; simpa [FileV.cells, FileV.list, Value.cells] using this
instance (priority := high) tx15 {v : FileV} : Put v.cells 1 (.slice none 0 0) { v with b := ⟨none, 0, []⟩ }.cells := by have := Put.mid ([.string v.name]) ([.slice v.b.a v.b.l.length v.b.c]) ([] : List Value) (cs := v.cells) (o := 1) (n := 1) (v := .slice none 0 0) (by simp [FileV.cells, FileV.list]) (by simp) rfl rfl; simpa [FileV.cells, FileV.list, Value.cells] using this
instance tx16 {f0 : ByteArray} {f1 : BS} : CellAt (FileV.mk f0 f1).cells 0 (.string f0) := inferInstanceAs (CellAt (FileV.mk f0 f1).cells 0 (.string (FileV.mk f0 f1).name))
instance tx17 {f0 : ByteArray} {f1 : BS} {u : ByteArray} : Put (FileV.mk f0 f1).cells 0 (.string u) (FileV.mk u f1).cells := inferInstanceAs (Put (FileV.mk f0 f1).cells 0 (.string u) { (FileV.mk f0 f1) with name := u }.cells)
instance tx18 {f0 : ByteArray} {f1 : BS} : CellAt (FileV.mk f0 f1).cells 1 (.slice f1.a f1.l.length f1.c) := inferInstanceAs (CellAt (FileV.mk f0 f1).cells 1 (.slice (FileV.mk f0 f1).b.a (FileV.mk f0 f1).b.l.length (FileV.mk f0 f1).b.c))
instance tx19 {f0 : ByteArray} {a : Option Addr} {c : Nat} {l : List UInt8} : CellAt (FileV.mk f0 (BS.mk a c l)).cells 1 (.slice a l.length c) := inferInstanceAs (CellAt (FileV.mk f0 (BS.mk a c l)).cells 1 (.slice (FileV.mk f0 (BS.mk a c l)).b.a (FileV.mk f0 (BS.mk a c l)).b.l.length (FileV.mk f0 (BS.mk a c l)).b.c))
instance tx20 {f0 : ByteArray} {f1 : BS} {a : Option Addr} {c : Nat} {l : List UInt8} : Put (FileV.mk f0 f1).cells 1 (.slice a l.length c) (FileV.mk f0 (BS.mk a c l)).cells := inferInstanceAs (Put (FileV.mk f0 f1).cells 1 (.slice a l.length c) { (FileV.mk f0 f1) with b := (BS.mk a c l) }.cells)
instance (priority := high) tx21 {f0 : ByteArray} {f1 : BS} : Put (FileV.mk f0 f1).cells 1 (.slice none 0 0) (FileV.mk f0 ⟨none, 0, []⟩).cells := inferInstanceAs (Put (FileV.mk f0 f1).cells 1 (.slice none 0 0) { (FileV.mk f0 f1) with b := ⟨none, 0, []⟩ }.cells)
@[reducible] def FileV.zero : FileV := { name := ⟨#[]⟩, b := ⟨none, 0, []⟩ }
instance tx23 : TyZ Try.prog 81 (.agg FileV.zero.cells) := ⟨by kernel_rfl⟩
end Go.Proofs.Ytededghplnoajaa
