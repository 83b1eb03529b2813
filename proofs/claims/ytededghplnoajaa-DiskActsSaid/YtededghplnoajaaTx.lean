/- The structure for the type File, with its cells. Printed by program. -/
import Derived.Test.YtededghplnoajaaTy
namespace Go.Proofs.Ytededghplnoajaa
open Go.RowKit Go.Sx
set_option maxRecDepth 100000
set_option linter.unusedSimpArgs false
set_option linter.unusedVariables false
set_option linter.unnecessarySimpa false
structure FileV where
  name : ByteArray
  b : BS
def FileV.list (v : FileV) : List Value := [.string v.name] ++ ([.slice v.b.a v.b.l.length v.b.c])
def FileV.cells (v : FileV) : Array Value := v.list.toArray
theorem FileV.list_len (v : FileV) : v.list.length = 2 := by simp [FileV.list]
theorem FileV.list_one (v : FileV) : v.list.all Value.oneCell' = true := by simp [FileV.list, Value.oneCell']
instance tx7 {v : FileV} : Cells v.cells 2 := Cells.list v.list_len v.list_one
theorem FileV.size (v : FileV) : v.cells.size = 2 := by simp [FileV.cells, FileV.list_len]
instance tx9 {v : FileV} : SubAt v.cells 0 2 v.cells := ⟨by have h := v.size; apply Array.ext <;> simp [h]⟩
instance tx10 {v u : FileV} : Put v.cells 0 (.agg u.cells) u.cells := ⟨by have := put_mid [] v.list [] (v := .agg u.cells) (o := 0) (n := 2) rfl v.list_len u.size; simpa [FileV.cells, Value.cells] using this, by simp [Value.cells, FileV.size]⟩
instance tx11 {v : FileV} : CellAt v.cells 0 (.string v.name) := ⟨by simp [FileV.cells, FileV.list, List.getElem?_append, hlist_length]⟩
instance tx12 {v : FileV} {u : ByteArray} : Put v.cells 0 (.string u) { v with name := u }.cells := by have := Put.mid ([] : List Value) ([.string v.name]) ([.slice v.b.a v.b.l.length v.b.c]) (cs := v.cells) (o := 0) (n := 1) (v := .string u) (by simp [FileV.cells, FileV.list]) (by simp) rfl rfl; simpa [FileV.cells, FileV.list, Value.cells] using this
instance tx13 {v : FileV} : CellAt v.cells 1 (.slice v.b.a v.b.l.length v.b.c) := ⟨by simp [FileV.cells, FileV.list, List.getElem?_append, hlist_length]⟩
instance tx14 {v : FileV} {a : Option Addr} {l : List UInt8} {c : Nat} : Put v.cells 1 (.slice a l.length c) { v with b := ⟨a, c, l⟩ }.cells := by have := Put.mid ([.string v.name]) ([.slice v.b.a v.b.l.length v.b.c]) ([] : List Value) (cs := v.cells) (o := 1) (n := 1) (v := .slice a l.length c) (by simp [FileV.cells, FileV.list]) (by simp) rfl rfl; simpa [FileV.cells, FileV.list, Value.cells] using this
instance (priority := high) tx15 {v : FileV} : Put v.cells 1 (.slice none 0 0) { v with b := ⟨none, 0, []⟩ }.cells := by have := Put.mid ([.string v.name]) ([.slice v.b.a v.b.l.length v.b.c]) ([] : List Value) (cs := v.cells) (o := 1) (n := 1) (v := .slice none 0 0) (by simp [FileV.cells, FileV.list]) (by simp) rfl rfl; simpa [FileV.cells, FileV.list, Value.cells] using this
instance tx16 {f0 : ByteArray} {f1 : BS} : CellAt (FileV.mk f0 f1).cells 0 (.string f0) := inferInstanceAs (CellAt (FileV.mk f0 f1).cells 0 (.string (FileV.mk f0 f1).name))
instance tx17 {f0 : ByteArray} {f1 : BS} {u : ByteArray} : Put (FileV.mk f0 f1).cells 0 (.string u) (FileV.mk u f1).cells := inferInstanceAs (Put (FileV.mk f0 f1).cells 0 (.string u) { (FileV.mk f0 f1) with name := u }.cells)
instance tx18 {f0 : ByteArray} {f1 : BS} : CellAt (FileV.mk f0 f1).cells 1 (.slice f1.a f1.l.length f1.c) := inferInstanceAs (CellAt (FileV.mk f0 f1).cells 1 (.slice (FileV.mk f0 f1).b.a (FileV.mk f0 f1).b.l.length (FileV.mk f0 f1).b.c))
instance tx19 {f0 : ByteArray} {a : Option Addr} {c : Nat} {l : List UInt8} : CellAt (FileV.mk f0 (BS.mk a c l)).cells 1 (.slice a l.length c) := inferInstanceAs (CellAt (FileV.mk f0 (BS.mk a c l)).cells 1 (.slice (FileV.mk f0 (BS.mk a c l)).b.a (FileV.mk f0 (BS.mk a c l)).b.l.length (FileV.mk f0 (BS.mk a c l)).b.c))
instance tx20 {f0 : ByteArray} {f1 : BS} {a : Option Addr} {c : Nat} {l : List UInt8} : Put (FileV.mk f0 f1).cells 1 (.slice a l.length c) (FileV.mk f0 (BS.mk a c l)).cells := inferInstanceAs (Put (FileV.mk f0 f1).cells 1 (.slice a l.length c) { (FileV.mk f0 f1) with b := (BS.mk a c l) }.cells)
instance (priority := high) tx21 {f0 : ByteArray} {f1 : BS} : Put (FileV.mk f0 f1).cells 1 (.slice none 0 0) (FileV.mk f0 ⟨none, 0, []⟩).cells := inferInstanceAs (Put (FileV.mk f0 f1).cells 1 (.slice none 0 0) { (FileV.mk f0 f1) with b := ⟨none, 0, []⟩ }.cells)
@[reducible] def FileV.zero : FileV := { name := ⟨#[]⟩, b := ⟨none, 0, []⟩ }
instance tx23 : TyZ Try.prog 81 (.agg FileV.zero.cells) := ⟨by kernel_rfl⟩
structure RDiskV where
  room : Int
  synced : Sl
  pending : Sl
  fuse : Int
  down : Bool
def RDiskV.list (v : RDiskV) : List Value := [.int .i64 v.room] ++ ([.slice v.synced.a v.synced.n v.synced.c] ++ ([.slice v.pending.a v.pending.n v.pending.c] ++ ([.int .i64 v.fuse] ++ ([.bool v.down]))))
def RDiskV.cells (v : RDiskV) : Array Value := v.list.toArray
theorem RDiskV.list_len (v : RDiskV) : v.list.length = 5 := by simp [RDiskV.list]
theorem RDiskV.list_one (v : RDiskV) : v.list.all Value.oneCell' = true := by simp [RDiskV.list, Value.oneCell']
instance tx34 {v : RDiskV} : Cells v.cells 5 := Cells.list v.list_len v.list_one
theorem RDiskV.size (v : RDiskV) : v.cells.size = 5 := by simp [RDiskV.cells, RDiskV.list_len]
instance tx36 {v : RDiskV} : SubAt v.cells 0 5 v.cells := ⟨by have h := v.size; apply Array.ext <;> simp [h]⟩
instance tx37 {v u : RDiskV} : Put v.cells 0 (.agg u.cells) u.cells := ⟨by have := put_mid [] v.list [] (v := .agg u.cells) (o := 0) (n := 5) rfl v.list_len u.size; simpa [RDiskV.cells, Value.cells] using this, by simp [Value.cells, RDiskV.size]⟩
instance tx38 {v : RDiskV} : CellAt v.cells 0 (.int .i64 v.room) := ⟨by simp [RDiskV.cells, RDiskV.list, List.getElem?_append, hlist_length]⟩
instance tx39 {v : RDiskV} {u : Int} : Put v.cells 0 (.int .i64 u) { v with room := u }.cells := by have := Put.mid ([] : List Value) ([.int .i64 v.room]) ([.slice v.synced.a v.synced.n v.synced.c] ++ [.slice v.pending.a v.pending.n v.pending.c] ++ [.int .i64 v.fuse] ++ [.bool v.down]) (cs := v.cells) (o := 0) (n := 1) (v := .int .i64 u) (by simp [RDiskV.cells, RDiskV.list]) (by simp) rfl rfl; simpa [RDiskV.cells, RDiskV.list, Value.cells] using this
instance tx40 {v : RDiskV} : CellAt v.cells 1 (.slice v.synced.a v.synced.n v.synced.c) := ⟨by simp [RDiskV.cells, RDiskV.list, List.getElem?_append, hlist_length]⟩
instance tx41 {v : RDiskV} {a : Option Addr} {n c : Nat} : Put v.cells 1 (.slice a n c) { v with synced := ⟨a, n, c⟩ }.cells := by have := Put.mid ([.int .i64 v.room]) ([.slice v.synced.a v.synced.n v.synced.c]) ([.slice v.pending.a v.pending.n v.pending.c] ++ [.int .i64 v.fuse] ++ [.bool v.down]) (cs := v.cells) (o := 1) (n := 1) (v := .slice a n c) (by simp [RDiskV.cells, RDiskV.list]) (by simp) rfl rfl; simpa [RDiskV.cells, RDiskV.list, Value.cells] using this
instance tx42 {v : RDiskV} : CellAt v.cells 2 (.slice v.pending.a v.pending.n v.pending.c) := ⟨by simp [RDiskV.cells, RDiskV.list, List.getElem?_append, hlist_length]⟩
instance tx43 {v : RDiskV} {a : Option Addr} {n c : Nat} : Put v.cells 2 (.slice a n c) { v with pending := ⟨a, n, c⟩ }.cells := by have := Put.mid ([.int .i64 v.room] ++ [.slice v.synced.a v.synced.n v.synced.c]) ([.slice v.pending.a v.pending.n v.pending.c]) ([.int .i64 v.fuse] ++ [.bool v.down]) (cs := v.cells) (o := 2) (n := 1) (v := .slice a n c) (by simp [RDiskV.cells, RDiskV.list]) (by simp) rfl rfl; simpa [RDiskV.cells, RDiskV.list, Value.cells] using this
instance tx44 {v : RDiskV} : CellAt v.cells 3 (.int .i64 v.fuse) := ⟨by simp [RDiskV.cells, RDiskV.list, List.getElem?_append, hlist_length]⟩
instance tx45 {v : RDiskV} {u : Int} : Put v.cells 3 (.int .i64 u) { v with fuse := u }.cells := by have := Put.mid ([.int .i64 v.room] ++ [.slice v.synced.a v.synced.n v.synced.c] ++ [.slice v.pending.a v.pending.n v.pending.c]) ([.int .i64 v.fuse]) ([.bool v.down]) (cs := v.cells) (o := 3) (n := 1) (v := .int .i64 u) (by simp [RDiskV.cells, RDiskV.list]) (by simp) rfl rfl; simpa [RDiskV.cells, RDiskV.list, Value.cells] using this
instance tx46 {v : RDiskV} : CellAt v.cells 4 (.bool v.down) := ⟨by simp [RDiskV.cells, RDiskV.list, List.getElem?_append, hlist_length]⟩
instance tx47 {v : RDiskV} {u : Bool} : Put v.cells 4 (.bool u) { v with down := u }.cells := by have := Put.mid ([.int .i64 v.room] ++ [.slice v.synced.a v.synced.n v.synced.c] ++ [.slice v.pending.a v.pending.n v.pending.c] ++ [.int .i64 v.fuse]) ([.bool v.down]) ([] : List Value) (cs := v.cells) (o := 4) (n := 1) (v := .bool u) (by simp [RDiskV.cells, RDiskV.list]) (by simp) rfl rfl; simpa [RDiskV.cells, RDiskV.list, Value.cells] using this
instance tx48 {f0 : Int} {f1 : Sl} {f2 : Sl} {f3 : Int} {f4 : Bool} : CellAt (RDiskV.mk f0 f1 f2 f3 f4).cells 0 (.int .i64 f0) := inferInstanceAs (CellAt (RDiskV.mk f0 f1 f2 f3 f4).cells 0 (.int .i64 (RDiskV.mk f0 f1 f2 f3 f4).room))
instance tx49 {f0 : Int} {f1 : Sl} {f2 : Sl} {f3 : Int} {f4 : Bool} {u : Int} : Put (RDiskV.mk f0 f1 f2 f3 f4).cells 0 (.int .i64 u) (RDiskV.mk u f1 f2 f3 f4).cells := inferInstanceAs (Put (RDiskV.mk f0 f1 f2 f3 f4).cells 0 (.int .i64 u) { (RDiskV.mk f0 f1 f2 f3 f4) with room := u }.cells)
instance tx50 {f0 : Int} {f1 : Sl} {f2 : Sl} {f3 : Int} {f4 : Bool} : CellAt (RDiskV.mk f0 f1 f2 f3 f4).cells 1 (.slice f1.a f1.n f1.c) := inferInstanceAs (CellAt (RDiskV.mk f0 f1 f2 f3 f4).cells 1 (.slice (RDiskV.mk f0 f1 f2 f3 f4).synced.a (RDiskV.mk f0 f1 f2 f3 f4).synced.n (RDiskV.mk f0 f1 f2 f3 f4).synced.c))
instance tx51 {f0 : Int} {f2 : Sl} {f3 : Int} {f4 : Bool} {a : Option Addr} {n c : Nat} : CellAt (RDiskV.mk f0 (Sl.mk a n c) f2 f3 f4).cells 1 (.slice a n c) := inferInstanceAs (CellAt (RDiskV.mk f0 (Sl.mk a n c) f2 f3 f4).cells 1 (.slice (RDiskV.mk f0 (Sl.mk a n c) f2 f3 f4).synced.a (RDiskV.mk f0 (Sl.mk a n c) f2 f3 f4).synced.n (RDiskV.mk f0 (Sl.mk a n c) f2 f3 f4).synced.c))
instance tx52 {f0 : Int} {f1 : Sl} {f2 : Sl} {f3 : Int} {f4 : Bool} {a : Option Addr} {n c : Nat} : Put (RDiskV.mk f0 f1 f2 f3 f4).cells 1 (.slice a n c) (RDiskV.mk f0 (Sl.mk a n c) f2 f3 f4).cells := inferInstanceAs (Put (RDiskV.mk f0 f1 f2 f3 f4).cells 1 (.slice a n c) { (RDiskV.mk f0 f1 f2 f3 f4) with synced := (Sl.mk a n c) }.cells)
instance tx53 {f0 : Int} {f1 : Sl} {f2 : Sl} {f3 : Int} {f4 : Bool} : CellAt (RDiskV.mk f0 f1 f2 f3 f4).cells 2 (.slice f2.a f2.n f2.c) := inferInstanceAs (CellAt (RDiskV.mk f0 f1 f2 f3 f4).cells 2 (.slice (RDiskV.mk f0 f1 f2 f3 f4).pending.a (RDiskV.mk f0 f1 f2 f3 f4).pending.n (RDiskV.mk f0 f1 f2 f3 f4).pending.c))
instance tx54 {f0 : Int} {f1 : Sl} {f3 : Int} {f4 : Bool} {a : Option Addr} {n c : Nat} : CellAt (RDiskV.mk f0 f1 (Sl.mk a n c) f3 f4).cells 2 (.slice a n c) := inferInstanceAs (CellAt (RDiskV.mk f0 f1 (Sl.mk a n c) f3 f4).cells 2 (.slice (RDiskV.mk f0 f1 (Sl.mk a n c) f3 f4).pending.a (RDiskV.mk f0 f1 (Sl.mk a n c) f3 f4).pending.n (RDiskV.mk f0 f1 (Sl.mk a n c) f3 f4).pending.c))
instance tx55 {f0 : Int} {f1 : Sl} {f2 : Sl} {f3 : Int} {f4 : Bool} {a : Option Addr} {n c : Nat} : Put (RDiskV.mk f0 f1 f2 f3 f4).cells 2 (.slice a n c) (RDiskV.mk f0 f1 (Sl.mk a n c) f3 f4).cells := inferInstanceAs (Put (RDiskV.mk f0 f1 f2 f3 f4).cells 2 (.slice a n c) { (RDiskV.mk f0 f1 f2 f3 f4) with pending := (Sl.mk a n c) }.cells)
instance tx56 {f0 : Int} {f1 : Sl} {f2 : Sl} {f3 : Int} {f4 : Bool} : CellAt (RDiskV.mk f0 f1 f2 f3 f4).cells 3 (.int .i64 f3) := inferInstanceAs (CellAt (RDiskV.mk f0 f1 f2 f3 f4).cells 3 (.int .i64 (RDiskV.mk f0 f1 f2 f3 f4).fuse))
instance tx57 {f0 : Int} {f1 : Sl} {f2 : Sl} {f3 : Int} {f4 : Bool} {u : Int} : Put (RDiskV.mk f0 f1 f2 f3 f4).cells 3 (.int .i64 u) (RDiskV.mk f0 f1 f2 u f4).cells := inferInstanceAs (Put (RDiskV.mk f0 f1 f2 f3 f4).cells 3 (.int .i64 u) { (RDiskV.mk f0 f1 f2 f3 f4) with fuse := u }.cells)
instance tx58 {f0 : Int} {f1 : Sl} {f2 : Sl} {f3 : Int} {f4 : Bool} : CellAt (RDiskV.mk f0 f1 f2 f3 f4).cells 4 (.bool f4) := inferInstanceAs (CellAt (RDiskV.mk f0 f1 f2 f3 f4).cells 4 (.bool (RDiskV.mk f0 f1 f2 f3 f4).down))
instance tx59 {f0 : Int} {f1 : Sl} {f2 : Sl} {f3 : Int} {f4 : Bool} {u : Bool} : Put (RDiskV.mk f0 f1 f2 f3 f4).cells 4 (.bool u) (RDiskV.mk f0 f1 f2 f3 u).cells := inferInstanceAs (Put (RDiskV.mk f0 f1 f2 f3 f4).cells 4 (.bool u) { (RDiskV.mk f0 f1 f2 f3 f4) with down := u }.cells)
@[reducible] def RDiskV.zero : RDiskV := { room := 0, synced := ⟨none, 0, 0⟩, pending := ⟨none, 0, 0⟩, fuse := 0, down := false }
instance tx61 : TyZ Try.prog 54 (.agg RDiskV.zero.cells) := ⟨by kernel_rfl⟩
end Go.Proofs.Ytededghplnoajaa
