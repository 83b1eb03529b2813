/- Structures for the struct types of this translation, with their cells. Printed by program. -/
import Derived.Test.YtededghplnoajaaTf
namespace Go.Proofs.Ytededghplnoajaa
open Go.RowKit Go.Sx
set_option maxRecDepth 100000
set_option linter.unusedSimpArgs false
set_option linter.unusedVariables false
set_option linter.unnecessarySimpa false
structure ActV where
  kind : Int
  name : ByteArray
  to : ByteArray
  b : BS
def ActV.list (v : ActV) : List Value := [.int .i64 v.kind] ++ ([.string v.name] ++ ([.string v.to] ++ ([.slice v.b.a v.b.l.length v.b.c])))
def ActV.cells (v : ActV) : Array Value := v.list.toArray
theorem ActV.list_len (v : ActV) : v.list.length = 4 := by simp [ActV.list]
theorem ActV.list_one (v : ActV) : v.list.all Value.oneCell' = true := by simp [ActV.list, Value.oneCell']
instance {v : ActV} : Cells v.cells 4 := Cells.list v.list_len v.list_one
theorem ActV.size (v : ActV) : v.cells.size = 4 := by simp [ActV.cells, ActV.list_len]
instance {v : ActV} : SubAt v.cells 0 4 v.cells := ⟨by have h := v.size; apply Array.ext <;> simp [h]⟩
instance {v u : ActV} : Put v.cells 0 (.agg u.cells) u.cells := ⟨by have := put_mid [] v.list [] (v := .agg u.cells) (o := 0) (n := 4) rfl v.list_len u.size; simpa [ActV.cells, Value.cells] using this, by simp [Value.cells, ActV.size]⟩
instance {v : ActV} : CellAt v.cells 0 (.int .i64 v.kind) := ⟨by simp [ActV.cells, ActV.list, List.getElem?_append, hlist_length]⟩
instance {v : ActV} {u : Int} : Put v.cells 0 (.int .i64 u) { v with kind := u }.cells := by have := Put.mid ([] : List Value) ([.int .i64 v.kind]) ([.string v.name] ++ [.string v.to] ++ [.slice v.b.a v.b.l.length v.b.c]) (cs := v.cells) (o := 0) (n := 1) (v := .int .i64 u) (by simp [ActV.cells, ActV.list]) (by simp) rfl rfl; simpa [ActV.cells, ActV.list, Value.cells] using this
instance {v : ActV} : CellAt v.cells 1 (.string v.name) := ⟨by simp [ActV.cells, ActV.list, List.getElem?_append, hlist_length]⟩
instance {v : ActV} {u : ByteArray} : Put v.cells 1 (.string u) { v with name := u }.cells := by have := Put.mid ([.int .i64 v.kind]) ([.string v.name]) ([.string v.to] ++ [.slice v.b.a v.b.l.length v.b.c]) (cs := v.cells) (o := 1) (n := 1) (v := .string u) (by simp [ActV.cells, ActV.list]) (by simp) rfl rfl; simpa [ActV.cells, ActV.list, Value.cells] using this
instance {v : ActV} : CellAt v.cells 2 (.string v.to) := ⟨by simp [ActV.cells, ActV.list, List.getElem?_append, hlist_length]⟩
instance {v : ActV} {u : ByteArray} : Put v.cells 2 (.string u) { v with to := u }.cells := by have := Put.mid ([.int .i64 v.kind] ++ [.string v.name]) ([.string v.to]) ([.slice v.b.a v.b.l.length v.b.c]) (cs := v.cells) (o := 2) (n := 1) (v := .string u) (by simp [ActV.cells, ActV.list]) (by simp) rfl rfl; simpa [ActV.cells, ActV.list, Value.cells] using this
instance {v : ActV} : CellAt v.cells 3 (.slice v.b.a v.b.l.length v.b.c) := ⟨by simp [ActV.cells, ActV.list, List.getElem?_append, hlist_length]⟩
instance {v : ActV} {a : Option Addr} {l : List UInt8} {c : Nat} : Put v.cells 3 (.slice a l.length c) { v with b := ⟨a, c, l⟩ }.cells := by have := Put.mid ([.int .i64 v.kind] ++ [.string v.name] ++ [.string v.to]) ([.slice v.b.a v.b.l.length v.b.c]) ([] : List Value) (cs := v.cells) (o := 3) (n := 1) (v := .slice a l.length c) (by simp [ActV.cells, ActV.list]) (by simp) rfl rfl; simpa [ActV.cells, ActV.list, Value.cells] using this
instance (priority := high) {v : ActV} : Put v.cells 3 (.slice none 0 0) { v with b := ⟨none, 0, []⟩ }.cells := by have := Put.mid ([.int .i64 v.kind] ++ [.string v.name] ++ [.string v.to]) ([.slice v.b.a v.b.l.length v.b.c]) ([] : List Value) (cs := v.cells) (o := 3) (n := 1) (v := .slice none 0 0) (by simp [ActV.cells, ActV.list]) (by simp) rfl rfl; simpa [ActV.cells, ActV.list, Value.cells] using this
instance {f0 : Int} {f1 : ByteArray} {f2 : ByteArray} {f3 : BS} : CellAt (ActV.mk f0 f1 f2 f3).cells 0 (.int .i64 f0) := inferInstanceAs (CellAt (ActV.mk f0 f1 f2 f3).cells 0 (.int .i64 (ActV.mk f0 f1 f2 f3).kind))
instance {f0 : Int} {f1 : ByteArray} {f2 : ByteArray} {f3 : BS} {u : Int} : Put (ActV.mk f0 f1 f2 f3).cells 0 (.int .i64 u) (ActV.mk u f1 f2 f3).cells := inferInstanceAs (Put (ActV.mk f0 f1 f2 f3).cells 0 (.int .i64 u) { (ActV.mk f0 f1 f2 f3) with kind := u }.cells)
instance {f0 : Int} {f1 : ByteArray} {f2 : ByteArray} {f3 : BS} : CellAt (ActV.mk f0 f1 f2 f3).cells 1 (.string f1) := inferInstanceAs (CellAt (ActV.mk f0 f1 f2 f3).cells 1 (.string (ActV.mk f0 f1 f2 f3).name))
instance {f0 : Int} {f1 : ByteArray} {f2 : ByteArray} {f3 : BS} {u : ByteArray} : Put (ActV.mk f0 f1 f2 f3).cells 1 (.string u) (ActV.mk f0 u f2 f3).cells := inferInstanceAs (Put (ActV.mk f0 f1 f2 f3).cells 1 (.string u) { (ActV.mk f0 f1 f2 f3) with name := u }.cells)
instance {f0 : Int} {f1 : ByteArray} {f2 : ByteArray} {f3 : BS} : CellAt (ActV.mk f0 f1 f2 f3).cells 2 (.string f2) := inferInstanceAs (CellAt (ActV.mk f0 f1 f2 f3).cells 2 (.string (ActV.mk f0 f1 f2 f3).to))
instance {f0 : Int} {f1 : ByteArray} {f2 : ByteArray} {f3 : BS} {u : ByteArray} : Put (ActV.mk f0 f1 f2 f3).cells 2 (.string u) (ActV.mk f0 f1 u f3).cells := inferInstanceAs (Put (ActV.mk f0 f1 f2 f3).cells 2 (.string u) { (ActV.mk f0 f1 f2 f3) with to := u }.cells)
instance {f0 : Int} {f1 : ByteArray} {f2 : ByteArray} {f3 : BS} : CellAt (ActV.mk f0 f1 f2 f3).cells 3 (.slice f3.a f3.l.length f3.c) := inferInstanceAs (CellAt (ActV.mk f0 f1 f2 f3).cells 3 (.slice (ActV.mk f0 f1 f2 f3).b.a (ActV.mk f0 f1 f2 f3).b.l.length (ActV.mk f0 f1 f2 f3).b.c))
instance {f0 : Int} {f1 : ByteArray} {f2 : ByteArray} {a : Option Addr} {c : Nat} {l : List UInt8} : CellAt (ActV.mk f0 f1 f2 (BS.mk a c l)).cells 3 (.slice a l.length c) := inferInstanceAs (CellAt (ActV.mk f0 f1 f2 (BS.mk a c l)).cells 3 (.slice (ActV.mk f0 f1 f2 (BS.mk a c l)).b.a (ActV.mk f0 f1 f2 (BS.mk a c l)).b.l.length (ActV.mk f0 f1 f2 (BS.mk a c l)).b.c))
instance {f0 : Int} {f1 : ByteArray} {f2 : ByteArray} {f3 : BS} {a : Option Addr} {c : Nat} {l : List UInt8} : Put (ActV.mk f0 f1 f2 f3).cells 3 (.slice a l.length c) (ActV.mk f0 f1 f2 (BS.mk a c l)).cells := inferInstanceAs (Put (ActV.mk f0 f1 f2 f3).cells 3 (.slice a l.length c) { (ActV.mk f0 f1 f2 f3) with b := (BS.mk a c l) }.cells)
instance (priority := high) {f0 : Int} {f1 : ByteArray} {f2 : ByteArray} {f3 : BS} : Put (ActV.mk f0 f1 f2 f3).cells 3 (.slice none 0 0) (ActV.mk f0 f1 f2 ⟨none, 0, []⟩).cells := inferInstanceAs (Put (ActV.mk f0 f1 f2 f3).cells 3 (.slice none 0 0) { (ActV.mk f0 f1 f2 f3) with b := ⟨none, 0, []⟩ }.cells)
@[reducible] def ActV.zero : ActV := { kind := 0, name := ⟨#[]⟩, to := ⟨#[]⟩, b := ⟨none, 0, []⟩ }
instance : TyZ Try.prog 70 (.agg ActV.zero.cells) := ⟨by kernel_rfl⟩
structure DiskV where
  room : Int
  synced : Option Nat
  now : Option Nat
  pending : Sl
  fuse : Int
  down : Bool
def DiskV.list (v : DiskV) : List Value := [.int .i64 v.room] ++ ([.map v.synced] ++ ([.map v.now] ++ ([.slice v.pending.a v.pending.n v.pending.c] ++ ([.int .i64 v.fuse] ++ ([.bool v.down])))))
def DiskV.cells (v : DiskV) : Array Value := v.list.toArray
theorem DiskV.list_len (v : DiskV) : v.list.length = 6 := by simp [DiskV.list]
theorem DiskV.list_one (v : DiskV) : v.list.all Value.oneCell' = true := by simp [DiskV.list, Value.oneCell']
instance {v : DiskV} : Cells v.cells 6 := Cells.list v.list_len v.list_one
theorem DiskV.size (v : DiskV) : v.cells.size = 6 := by simp [DiskV.cells, DiskV.list_len]
instance {v : DiskV} : SubAt v.cells 0 6 v.cells := ⟨by have h := v.size; apply Array.ext <;> simp [h]⟩
instance {v u : DiskV} : Put v.cells 0 (.agg u.cells) u.cells := ⟨by have := put_mid [] v.list [] (v := .agg u.cells) (o := 0) (n := 6) rfl v.list_len u.size; simpa [DiskV.cells, Value.cells] using this, by simp [Value.cells, DiskV.size]⟩
instance {v : DiskV} : CellAt v.cells 0 (.int .i64 v.room) := ⟨by simp [DiskV.cells, DiskV.list, List.getElem?_append, hlist_length]⟩
instance {v : DiskV} {u : Int} : Put v.cells 0 (.int .i64 u) { v with room := u }.cells := by have := Put.mid ([] : List Value) ([.int .i64 v.room]) ([.map v.synced] ++ [.map v.now] ++ [.slice v.pending.a v.pending.n v.pending.c] ++ [.int .i64 v.fuse] ++ [.bool v.down]) (cs := v.cells) (o := 0) (n := 1) (v := .int .i64 u) (by simp [DiskV.cells, DiskV.list]) (by simp) rfl rfl; simpa [DiskV.cells, DiskV.list, Value.cells] using this
instance {v : DiskV} : CellAt v.cells 1 (.map v.synced) := ⟨by simp [DiskV.cells, DiskV.list, List.getElem?_append, hlist_length]⟩
instance {v : DiskV} {u : Option Nat} : Put v.cells 1 (.map u) { v with synced := u }.cells := by have := Put.mid ([.int .i64 v.room]) ([.map v.synced]) ([.map v.now] ++ [.slice v.pending.a v.pending.n v.pending.c] ++ [.int .i64 v.fuse] ++ [.bool v.down]) (cs := v.cells) (o := 1) (n := 1) (v := .map u) (by simp [DiskV.cells, DiskV.list]) (by simp) rfl rfl; simpa [DiskV.cells, DiskV.list, Value.cells] using this
instance {v : DiskV} : CellAt v.cells 2 (.map v.now) := ⟨by simp [DiskV.cells, DiskV.list, List.getElem?_append, hlist_length]⟩
instance {v : DiskV} {u : Option Nat} : Put v.cells 2 (.map u) { v with now := u }.cells := by have := Put.mid ([.int .i64 v.room] ++ [.map v.synced]) ([.map v.now]) ([.slice v.pending.a v.pending.n v.pending.c] ++ [.int .i64 v.fuse] ++ [.bool v.down]) (cs := v.cells) (o := 2) (n := 1) (v := .map u) (by simp [DiskV.cells, DiskV.list]) (by simp) rfl rfl; simpa [DiskV.cells, DiskV.list, Value.cells] using this
instance {v : DiskV} : CellAt v.cells 3 (.slice v.pending.a v.pending.n v.pending.c) := ⟨by simp [DiskV.cells, DiskV.list, List.getElem?_append, hlist_length]⟩
instance {v : DiskV} {a : Option Addr} {n c : Nat} : Put v.cells 3 (.slice a n c) { v with pending := ⟨a, n, c⟩ }.cells := by have := Put.mid ([.int .i64 v.room] ++ [.map v.synced] ++ [.map v.now]) ([.slice v.pending.a v.pending.n v.pending.c]) ([.int .i64 v.fuse] ++ [.bool v.down]) (cs := v.cells) (o := 3) (n := 1) (v := .slice a n c) (by simp [DiskV.cells, DiskV.list]) (by simp) rfl rfl; simpa [DiskV.cells, DiskV.list, Value.cells] using this
instance {v : DiskV} : CellAt v.cells 4 (.int .i64 v.fuse) := ⟨by simp [DiskV.cells, DiskV.list, List.getElem?_append, hlist_length]⟩
instance {v : DiskV} {u : Int} : Put v.cells 4 (.int .i64 u) { v with fuse := u }.cells := by have := Put.mid ([.int .i64 v.room] ++ [.map v.synced] ++ [.map v.now] ++ [.slice v.pending.a v.pending.n v.pending.c]) ([.int .i64 v.fuse]) ([.bool v.down]) (cs := v.cells) (o := 4) (n := 1) (v := .int .i64 u) (by simp [DiskV.cells, DiskV.list]) (by simp) rfl rfl; simpa [DiskV.cells, DiskV.list, Value.cells] using this
instance {v : DiskV} : CellAt v.cells 5 (.bool v.down) := ⟨by simp [DiskV.cells, DiskV.list, List.getElem?_append, hlist_length]⟩
instance {v : DiskV} {u : Bool} : Put v.cells 5 (.bool u) { v with down := u }.cells := by have := Put.mid ([.int .i64 v.room] ++ [.map v.synced] ++ [.map v.now] ++ [.slice v.pending.a v.pending.n v.pending.c] ++ [.int .i64 v.fuse]) ([.bool v.down]) ([] : List Value) (cs := v.cells) (o := 5) (n := 1) (v := .bool u) (by simp [DiskV.cells, DiskV.list]) (by simp) rfl rfl; simpa [DiskV.cells, DiskV.list, Value.cells] using this
instance {f0 : Int} {f1 : Option Nat} {f2 : Option Nat} {f3 : Sl} {f4 : Int} {f5 : Bool} : CellAt (DiskV.mk f0 f1 f2 f3 f4 f5).cells 0 (.int .i64 f0) := inferInstanceAs (CellAt (DiskV.mk f0 f1 f2 f3 f4 f5).cells 0 (.int .i64 (DiskV.mk f0 f1 f2 f3 f4 f5).room))
instance {f0 : Int} {f1 : Option Nat} {f2 : Option Nat} {f3 : Sl} {f4 : Int} {f5 : Bool} {u : Int} : Put (DiskV.mk f0 f1 f2 f3 f4 f5).cells 0 (.int .i64 u) (DiskV.mk u f1 f2 f3 f4 f5).cells := inferInstanceAs (Put (DiskV.mk f0 f1 f2 f3 f4 f5).cells 0 (.int .i64 u) { (DiskV.mk f0 f1 f2 f3 f4 f5) with room := u }.cells)
instance {f0 : Int} {f1 : Option Nat} {f2 : Option Nat} {f3 : Sl} {f4 : Int} {f5 : Bool} : CellAt (DiskV.mk f0 f1 f2 f3 f4 f5).cells 1 (.map f1) := inferInstanceAs (CellAt (DiskV.mk f0 f1 f2 f3 f4 f5).cells 1 (.map (DiskV.mk f0 f1 f2 f3 f4 f5).synced))
instance {f0 : Int} {f1 : Option Nat} {f2 : Option Nat} {f3 : Sl} {f4 : Int} {f5 : Bool} {u : Option Nat} : Put (DiskV.mk f0 f1 f2 f3 f4 f5).cells 1 (.map u) (DiskV.mk f0 u f2 f3 f4 f5).cells := inferInstanceAs (Put (DiskV.mk f0 f1 f2 f3 f4 f5).cells 1 (.map u) { (DiskV.mk f0 f1 f2 f3 f4 f5) with synced := u }.cells)
instance {f0 : Int} {f1 : Option Nat} {f2 : Option Nat} {f3 : Sl} {f4 : Int} {f5 : Bool} : CellAt (DiskV.mk f0 f1 f2 f3 f4 f5).cells 2 (.map f2) := inferInstanceAs (CellAt (DiskV.mk f0 f1 f2 f3 f4 f5).cells 2 (.map (DiskV.mk f0 f1 f2 f3 f4 f5).now))
instance {f0 : Int} {f1 : Option Nat} {f2 : Option Nat} {f3 : Sl} {f4 : Int} {f5 : Bool} {u : Option Nat} : Put (DiskV.mk f0 f1 f2 f3 f4 f5).cells 2 (.map u) (DiskV.mk f0 f1 u f3 f4 f5).cells := inferInstanceAs (Put (DiskV.mk f0 f1 f2 f3 f4 f5).cells 2 (.map u) { (DiskV.mk f0 f1 f2 f3 f4 f5) with now := u }.cells)
instance {f0 : Int} {f1 : Option Nat} {f2 : Option Nat} {f3 : Sl} {f4 : Int} {f5 : Bool} : CellAt (DiskV.mk f0 f1 f2 f3 f4 f5).cells 3 (.slice f3.a f3.n f3.c) := inferInstanceAs (CellAt (DiskV.mk f0 f1 f2 f3 f4 f5).cells 3 (.slice (DiskV.mk f0 f1 f2 f3 f4 f5).pending.a (DiskV.mk f0 f1 f2 f3 f4 f5).pending.n (DiskV.mk f0 f1 f2 f3 f4 f5).pending.c))
instance {f0 : Int} {f1 : Option Nat} {f2 : Option Nat} {f4 : Int} {f5 : Bool} {a : Option Addr} {n c : Nat} : CellAt (DiskV.mk f0 f1 f2 (Sl.mk a n c) f4 f5).cells 3 (.slice a n c) := inferInstanceAs (CellAt (DiskV.mk f0 f1 f2 (Sl.mk a n c) f4 f5).cells 3 (.slice (DiskV.mk f0 f1 f2 (Sl.mk a n c) f4 f5).pending.a (DiskV.mk f0 f1 f2 (Sl.mk a n c) f4 f5).pending.n (DiskV.mk f0 f1 f2 (Sl.mk a n c) f4 f5).pending.c))
instance {f0 : Int} {f1 : Option Nat} {f2 : Option Nat} {f3 : Sl} {f4 : Int} {f5 : Bool} {a : Option Addr} {n c : Nat} : Put (DiskV.mk f0 f1 f2 f3 f4 f5).cells 3 (.slice a n c) (DiskV.mk f0 f1 f2 (Sl.mk a n c) f4 f5).cells := inferInstanceAs (Put (DiskV.mk f0 f1 f2 f3 f4 f5).cells 3 (.slice a n c) { (DiskV.mk f0 f1 f2 f3 f4 f5) with pending := (Sl.mk a n c) }.cells)
instance {f0 : Int} {f1 : Option Nat} {f2 : Option Nat} {f3 : Sl} {f4 : Int} {f5 : Bool} : CellAt (DiskV.mk f0 f1 f2 f3 f4 f5).cells 4 (.int .i64 f4) := inferInstanceAs (CellAt (DiskV.mk f0 f1 f2 f3 f4 f5).cells 4 (.int .i64 (DiskV.mk f0 f1 f2 f3 f4 f5).fuse))
instance {f0 : Int} {f1 : Option Nat} {f2 : Option Nat} {f3 : Sl} {f4 : Int} {f5 : Bool} {u : Int} : Put (DiskV.mk f0 f1 f2 f3 f4 f5).cells 4 (.int .i64 u) (DiskV.mk f0 f1 f2 f3 u f5).cells := inferInstanceAs (Put (DiskV.mk f0 f1 f2 f3 f4 f5).cells 4 (.int .i64 u) { (DiskV.mk f0 f1 f2 f3 f4 f5) with fuse := u }.cells)
instance {f0 : Int} {f1 : Option Nat} {f2 : Option Nat} {f3 : Sl} {f4 : Int} {f5 : Bool} : CellAt (DiskV.mk f0 f1 f2 f3 f4 f5).cells 5 (.bool f5) := inferInstanceAs (CellAt (DiskV.mk f0 f1 f2 f3 f4 f5).cells 5 (.bool (DiskV.mk f0 f1 f2 f3 f4 f5).down))
instance {f0 : Int} {f1 : Option Nat} {f2 : Option Nat} {f3 : Sl} {f4 : Int} {f5 : Bool} {u : Bool} : Put (DiskV.mk f0 f1 f2 f3 f4 f5).cells 5 (.bool u) (DiskV.mk f0 f1 f2 f3 f4 u).cells := inferInstanceAs (Put (DiskV.mk f0 f1 f2 f3 f4 f5).cells 5 (.bool u) { (DiskV.mk f0 f1 f2 f3 f4 f5) with down := u }.cells)
@[reducible] def DiskV.zero : DiskV := { room := 0, synced := none, now := none, pending := ⟨none, 0, 0⟩, fuse := 0, down := false }
instance : TyZ Try.prog 64 (.agg DiskV.zero.cells) := ⟨by kernel_rfl⟩
structure PlanV where
  keep : Int
  torn : Int
  cut : Int
def PlanV.list (v : PlanV) : List Value := [.int .u64 v.keep] ++ ([.int .i64 v.torn] ++ ([.int .i64 v.cut]))
def PlanV.cells (v : PlanV) : Array Value := v.list.toArray
theorem PlanV.list_len (v : PlanV) : v.list.length = 3 := by simp [PlanV.list]
theorem PlanV.list_one (v : PlanV) : v.list.all Value.oneCell' = true := by simp [PlanV.list, Value.oneCell']
instance {v : PlanV} : Cells v.cells 3 := Cells.list v.list_len v.list_one
theorem PlanV.size (v : PlanV) : v.cells.size = 3 := by simp [PlanV.cells, PlanV.list_len]
instance {v : PlanV} : SubAt v.cells 0 3 v.cells := ⟨by have h := v.size; apply Array.ext <;> simp [h]⟩
instance {v u : PlanV} : Put v.cells 0 (.agg u.cells) u.cells := ⟨by have := put_mid [] v.list [] (v := .agg u.cells) (o := 0) (n := 3) rfl v.list_len u.size; simpa [PlanV.cells, Value.cells] using this, by simp [Value.cells, PlanV.size]⟩
instance {v : PlanV} : CellAt v.cells 0 (.int .u64 v.keep) := ⟨by simp [PlanV.cells, PlanV.list, List.getElem?_append, hlist_length]⟩
instance {v : PlanV} {u : Int} : Put v.cells 0 (.int .u64 u) { v with keep := u }.cells := by have := Put.mid ([] : List Value) ([.int .u64 v.keep]) ([.int .i64 v.torn] ++ [.int .i64 v.cut]) (cs := v.cells) (o := 0) (n := 1) (v := .int .u64 u) (by simp [PlanV.cells, PlanV.list]) (by simp) rfl rfl; simpa [PlanV.cells, PlanV.list, Value.cells] using this
instance {v : PlanV} : CellAt v.cells 1 (.int .i64 v.torn) := ⟨by simp [PlanV.cells, PlanV.list, List.getElem?_append, hlist_length]⟩
instance {v : PlanV} {u : Int} : Put v.cells 1 (.int .i64 u) { v with torn := u }.cells := by have := Put.mid ([.int .u64 v.keep]) ([.int .i64 v.torn]) ([.int .i64 v.cut]) (cs := v.cells) (o := 1) (n := 1) (v := .int .i64 u) (by simp [PlanV.cells, PlanV.list]) (by simp) rfl rfl; simpa [PlanV.cells, PlanV.list, Value.cells] using this
instance {v : PlanV} : CellAt v.cells 2 (.int .i64 v.cut) := ⟨by simp [PlanV.cells, PlanV.list, List.getElem?_append, hlist_length]⟩
instance {v : PlanV} {u : Int} : Put v.cells 2 (.int .i64 u) { v with cut := u }.cells := by have := Put.mid ([.int .u64 v.keep] ++ [.int .i64 v.torn]) ([.int .i64 v.cut]) ([] : List Value) (cs := v.cells) (o := 2) (n := 1) (v := .int .i64 u) (by simp [PlanV.cells, PlanV.list]) (by simp) rfl rfl; simpa [PlanV.cells, PlanV.list, Value.cells] using this
instance {f0 : Int} {f1 : Int} {f2 : Int} : CellAt (PlanV.mk f0 f1 f2).cells 0 (.int .u64 f0) := inferInstanceAs (CellAt (PlanV.mk f0 f1 f2).cells 0 (.int .u64 (PlanV.mk f0 f1 f2).keep))
instance {f0 : Int} {f1 : Int} {f2 : Int} {u : Int} : Put (PlanV.mk f0 f1 f2).cells 0 (.int .u64 u) (PlanV.mk u f1 f2).cells := inferInstanceAs (Put (PlanV.mk f0 f1 f2).cells 0 (.int .u64 u) { (PlanV.mk f0 f1 f2) with keep := u }.cells)
instance {f0 : Int} {f1 : Int} {f2 : Int} : CellAt (PlanV.mk f0 f1 f2).cells 1 (.int .i64 f1) := inferInstanceAs (CellAt (PlanV.mk f0 f1 f2).cells 1 (.int .i64 (PlanV.mk f0 f1 f2).torn))
instance {f0 : Int} {f1 : Int} {f2 : Int} {u : Int} : Put (PlanV.mk f0 f1 f2).cells 1 (.int .i64 u) (PlanV.mk f0 u f2).cells := inferInstanceAs (Put (PlanV.mk f0 f1 f2).cells 1 (.int .i64 u) { (PlanV.mk f0 f1 f2) with torn := u }.cells)
instance {f0 : Int} {f1 : Int} {f2 : Int} : CellAt (PlanV.mk f0 f1 f2).cells 2 (.int .i64 f2) := inferInstanceAs (CellAt (PlanV.mk f0 f1 f2).cells 2 (.int .i64 (PlanV.mk f0 f1 f2).cut))
instance {f0 : Int} {f1 : Int} {f2 : Int} {u : Int} : Put (PlanV.mk f0 f1 f2).cells 2 (.int .i64 u) (PlanV.mk f0 f1 u).cells := inferInstanceAs (Put (PlanV.mk f0 f1 f2).cells 2 (.int .i64 u) { (PlanV.mk f0 f1 f2) with cut := u }.cells)
@[reducible] def PlanV.zero : PlanV := { keep := 0, torn := 0, cut := 0 }
instance : TyZ Try.prog 25 (.agg PlanV.zero.cells) := ⟨by kernel_rfl⟩
structure RActV where
  kind : Int
  name : ByteArray
  to : ByteArray
  b : BS
  p : PlanV
  n : Int
def RActV.list (v : RActV) : List Value := [.int .i64 v.kind] ++ ([.string v.name] ++ ([.string v.to] ++ ([.slice v.b.a v.b.l.length v.b.c] ++ (v.p.list ++ ([.int .i64 v.n])))))
def RActV.cells (v : RActV) : Array Value := v.list.toArray
theorem RActV.list_len (v : RActV) : v.list.length = 8 := by simp [RActV.list, PlanV.list_len]
theorem RActV.list_one (v : RActV) : v.list.all Value.oneCell' = true := by simp [RActV.list, Value.oneCell', PlanV.list_one]
instance {v : RActV} : Cells v.cells 8 := Cells.list v.list_len v.list_one
theorem RActV.size (v : RActV) : v.cells.size = 8 := by simp [RActV.cells, RActV.list_len]
instance {v : RActV} : SubAt v.cells 0 8 v.cells := ⟨by have h := v.size; apply Array.ext <;> simp [h]⟩
instance {v u : RActV} : Put v.cells 0 (.agg u.cells) u.cells := ⟨by have := put_mid [] v.list [] (v := .agg u.cells) (o := 0) (n := 8) rfl v.list_len u.size; simpa [RActV.cells, Value.cells] using this, by simp [Value.cells, RActV.size]⟩
instance {v : RActV} : CellAt v.cells 0 (.int .i64 v.kind) := ⟨by simp [RActV.cells, RActV.list, List.getElem?_append, hlist_length, PlanV.list_len]⟩
instance {v : RActV} {u : Int} : Put v.cells 0 (.int .i64 u) { v with kind := u }.cells := by have := Put.mid ([] : List Value) ([.int .i64 v.kind]) ([.string v.name] ++ [.string v.to] ++ [.slice v.b.a v.b.l.length v.b.c] ++ v.p.list ++ [.int .i64 v.n]) (cs := v.cells) (o := 0) (n := 1) (v := .int .i64 u) (by simp [RActV.cells, RActV.list]) (by simp [PlanV.list_len]) rfl rfl; simpa [RActV.cells, RActV.list, Value.cells] using this
instance {v : RActV} : CellAt v.cells 1 (.string v.name) := ⟨by simp [RActV.cells, RActV.list, List.getElem?_append, hlist_length, PlanV.list_len]⟩
instance {v : RActV} {u : ByteArray} : Put v.cells 1 (.string u) { v with name := u }.cells := by have := Put.mid ([.int .i64 v.kind]) ([.string v.name]) ([.string v.to] ++ [.slice v.b.a v.b.l.length v.b.c] ++ v.p.list ++ [.int .i64 v.n]) (cs := v.cells) (o := 1) (n := 1) (v := .string u) (by simp [RActV.cells, RActV.list]) (by simp [PlanV.list_len]) rfl rfl; simpa [RActV.cells, RActV.list, Value.cells] using this
instance {v : RActV} : CellAt v.cells 2 (.string v.to) := ⟨by simp [RActV.cells, RActV.list, List.getElem?_append, hlist_length, PlanV.list_len]⟩
instance {v : RActV} {u : ByteArray} : Put v.cells 2 (.string u) { v with to := u }.cells := by have := Put.mid ([.int .i64 v.kind] ++ [.string v.name]) ([.string v.to]) ([.slice v.b.a v.b.l.length v.b.c] ++ v.p.list ++ [.int .i64 v.n]) (cs := v.cells) (o := 2) (n := 1) (v := .string u) (by simp [RActV.cells, RActV.list]) (by simp [PlanV.list_len]) rfl rfl; simpa [RActV.cells, RActV.list, Value.cells] using this
instance {v : RActV} : CellAt v.cells 3 (.slice v.b.a v.b.l.length v.b.c) := ⟨by simp [RActV.cells, RActV.list, List.getElem?_append, hlist_length, PlanV.list_len]⟩
instance {v : RActV} {a : Option Addr} {l : List UInt8} {c : Nat} : Put v.cells 3 (.slice a l.length c) { v with b := ⟨a, c, l⟩ }.cells := by have := Put.mid ([.int .i64 v.kind] ++ [.string v.name] ++ [.string v.to]) ([.slice v.b.a v.b.l.length v.b.c]) (v.p.list ++ [.int .i64 v.n]) (cs := v.cells) (o := 3) (n := 1) (v := .slice a l.length c) (by simp [RActV.cells, RActV.list]) (by simp [PlanV.list_len]) rfl rfl; simpa [RActV.cells, RActV.list, Value.cells] using this
instance (priority := high) {v : RActV} : Put v.cells 3 (.slice none 0 0) { v with b := ⟨none, 0, []⟩ }.cells := by have := Put.mid ([.int .i64 v.kind] ++ [.string v.name] ++ [.string v.to]) ([.slice v.b.a v.b.l.length v.b.c]) (v.p.list ++ [.int .i64 v.n]) (cs := v.cells) (o := 3) (n := 1) (v := .slice none 0 0) (by simp [RActV.cells, RActV.list]) (by simp [PlanV.list_len]) rfl rfl; simpa [RActV.cells, RActV.list, Value.cells] using this
instance {v : RActV} : SubAt v.cells 4 3 v.p.cells := ⟨by first | (simp [RActV.cells, RActV.list, PlanV.list_len]; done) | (have := sub_mid ([.int .i64 v.kind] ++ [.string v.name] ++ [.string v.to] ++ [.slice v.b.a v.b.l.length v.b.c]) (v.p.list) ([.int .i64 v.n]) (o := 4) (n := 3) (by simp [PlanV.list_len]) (by simp [PlanV.list_len]); simpa [RActV.cells, RActV.list, PlanV.cells] using this)⟩
instance {v : RActV} {u : PlanV} : Put v.cells 4 (.agg u.cells) { v with p := u }.cells := by have := Put.mid ([.int .i64 v.kind] ++ [.string v.name] ++ [.string v.to] ++ [.slice v.b.a v.b.l.length v.b.c]) (v.p.list) ([.int .i64 v.n]) (cs := v.cells) (o := 4) (n := 3) (v := .agg u.cells) (by simp [RActV.cells, RActV.list]) (by simp [PlanV.list_len]) (by simp [PlanV.list_len]) (by simp [Value.cells, PlanV.size]); simp only [Value.cells, RActV.cells, RActV.list, PlanV.cells, List.append_assoc, List.nil_append, List.cons_append] at this ⊢; first | exact this | simpa using this
instance {v : RActV} : CellAt v.cells 4 (.int .u64 v.p.keep) := ⟨by simp [RActV.cells, RActV.list, PlanV.list, List.getElem?_append, hlist_length, PlanV.list_len]⟩
instance {v : RActV} {u : Int} : Put v.cells 4 (.int .u64 u) { v with p := { v.p with keep := u } }.cells := by have := Put.mid (([.int .i64 v.kind] ++ [.string v.name] ++ [.string v.to] ++ [.slice v.b.a v.b.l.length v.b.c]) ++ (([] : List Value))) ([.int .u64 v.p.keep]) (([.int .i64 v.p.torn] ++ [.int .i64 v.p.cut] ++ ([] : List Value)) ++ ([.int .i64 v.n])) (cs := v.cells) (o := 4) (n := 1) (v := .int .u64 u) (by simp [RActV.cells, RActV.list, PlanV.list]) (by simp [PlanV.list_len]) rfl rfl; simpa [RActV.cells, RActV.list, PlanV.list, Value.cells] using this
instance {v : RActV} : CellAt v.cells 5 (.int .i64 v.p.torn) := ⟨by simp [RActV.cells, RActV.list, PlanV.list, List.getElem?_append, hlist_length, PlanV.list_len]⟩
instance {v : RActV} {u : Int} : Put v.cells 5 (.int .i64 u) { v with p := { v.p with torn := u } }.cells := by have := Put.mid (([.int .i64 v.kind] ++ [.string v.name] ++ [.string v.to] ++ [.slice v.b.a v.b.l.length v.b.c]) ++ (([] : List Value) ++ [.int .u64 v.p.keep])) ([.int .i64 v.p.torn]) (([.int .i64 v.p.cut] ++ ([] : List Value)) ++ ([.int .i64 v.n])) (cs := v.cells) (o := 5) (n := 1) (v := .int .i64 u) (by simp [RActV.cells, RActV.list, PlanV.list]) (by simp [PlanV.list_len]) rfl rfl; simpa [RActV.cells, RActV.list, PlanV.list, Value.cells] using this
instance {v : RActV} : CellAt v.cells 6 (.int .i64 v.p.cut) := ⟨by simp [RActV.cells, RActV.list, PlanV.list, List.getElem?_append, hlist_length, PlanV.list_len]⟩
instance {v : RActV} {u : Int} : Put v.cells 6 (.int .i64 u) { v with p := { v.p with cut := u } }.cells := by have := Put.mid (([.int .i64 v.kind] ++ [.string v.name] ++ [.string v.to] ++ [.slice v.b.a v.b.l.length v.b.c]) ++ (([] : List Value) ++ [.int .u64 v.p.keep] ++ [.int .i64 v.p.torn])) ([.int .i64 v.p.cut]) ((([] : List Value)) ++ ([.int .i64 v.n])) (cs := v.cells) (o := 6) (n := 1) (v := .int .i64 u) (by simp [RActV.cells, RActV.list, PlanV.list]) (by simp [PlanV.list_len]) rfl rfl; simpa [RActV.cells, RActV.list, PlanV.list, Value.cells] using this
instance {v : RActV} : CellAt v.cells 7 (.int .i64 v.n) := ⟨by simp [RActV.cells, RActV.list, List.getElem?_append, hlist_length, PlanV.list_len]⟩
instance {v : RActV} {u : Int} : Put v.cells 7 (.int .i64 u) { v with n := u }.cells := by have := Put.mid ([.int .i64 v.kind] ++ [.string v.name] ++ [.string v.to] ++ [.slice v.b.a v.b.l.length v.b.c] ++ v.p.list) ([.int .i64 v.n]) ([] : List Value) (cs := v.cells) (o := 7) (n := 1) (v := .int .i64 u) (by simp [RActV.cells, RActV.list]) (by simp [PlanV.list_len]) rfl rfl; simpa [RActV.cells, RActV.list, Value.cells] using this
instance {f0 : Int} {f1 : ByteArray} {f2 : ByteArray} {f3 : BS} {f4 : PlanV} {f5 : Int} : CellAt (RActV.mk f0 f1 f2 f3 f4 f5).cells 0 (.int .i64 f0) := inferInstanceAs (CellAt (RActV.mk f0 f1 f2 f3 f4 f5).cells 0 (.int .i64 (RActV.mk f0 f1 f2 f3 f4 f5).kind))
instance {f0 : Int} {f1 : ByteArray} {f2 : ByteArray} {f3 : BS} {f4 : PlanV} {f5 : Int} {u : Int} : Put (RActV.mk f0 f1 f2 f3 f4 f5).cells 0 (.int .i64 u) (RActV.mk u f1 f2 f3 f4 f5).cells := inferInstanceAs (Put (RActV.mk f0 f1 f2 f3 f4 f5).cells 0 (.int .i64 u) { (RActV.mk f0 f1 f2 f3 f4 f5) with kind := u }.cells)
instance {f0 : Int} {f1 : ByteArray} {f2 : ByteArray} {f3 : BS} {f4 : PlanV} {f5 : Int} : CellAt (RActV.mk f0 f1 f2 f3 f4 f5).cells 1 (.string f1) := inferInstanceAs (CellAt (RActV.mk f0 f1 f2 f3 f4 f5).cells 1 (.string (RActV.mk f0 f1 f2 f3 f4 f5).name))
instance {f0 : Int} {f1 : ByteArray} {f2 : ByteArray} {f3 : BS} {f4 : PlanV} {f5 : Int} {u : ByteArray} : Put (RActV.mk f0 f1 f2 f3 f4 f5).cells 1 (.string u) (RActV.mk f0 u f2 f3 f4 f5).cells := inferInstanceAs (Put (RActV.mk f0 f1 f2 f3 f4 f5).cells 1 (.string u) { (RActV.mk f0 f1 f2 f3 f4 f5) with name := u }.cells)
instance {f0 : Int} {f1 : ByteArray} {f2 : ByteArray} {f3 : BS} {f4 : PlanV} {f5 : Int} : CellAt (RActV.mk f0 f1 f2 f3 f4 f5).cells 2 (.string f2) := inferInstanceAs (CellAt (RActV.mk f0 f1 f2 f3 f4 f5).cells 2 (.string (RActV.mk f0 f1 f2 f3 f4 f5).to))
instance {f0 : Int} {f1 : ByteArray} {f2 : ByteArray} {f3 : BS} {f4 : PlanV} {f5 : Int} {u : ByteArray} : Put (RActV.mk f0 f1 f2 f3 f4 f5).cells 2 (.string u) (RActV.mk f0 f1 u f3 f4 f5).cells := inferInstanceAs (Put (RActV.mk f0 f1 f2 f3 f4 f5).cells 2 (.string u) { (RActV.mk f0 f1 f2 f3 f4 f5) with to := u }.cells)
instance {f0 : Int} {f1 : ByteArray} {f2 : ByteArray} {f3 : BS} {f4 : PlanV} {f5 : Int} : CellAt (RActV.mk f0 f1 f2 f3 f4 f5).cells 3 (.slice f3.a f3.l.length f3.c) := inferInstanceAs (CellAt (RActV.mk f0 f1 f2 f3 f4 f5).cells 3 (.slice (RActV.mk f0 f1 f2 f3 f4 f5).b.a (RActV.mk f0 f1 f2 f3 f4 f5).b.l.length (RActV.mk f0 f1 f2 f3 f4 f5).b.c))
instance {f0 : Int} {f1 : ByteArray} {f2 : ByteArray} {f4 : PlanV} {f5 : Int} {a : Option Addr} {c : Nat} {l : List UInt8} : CellAt (RActV.mk f0 f1 f2 (BS.mk a c l) f4 f5).cells 3 (.slice a l.length c) := inferInstanceAs (CellAt (RActV.mk f0 f1 f2 (BS.mk a c l) f4 f5).cells 3 (.slice (RActV.mk f0 f1 f2 (BS.mk a c l) f4 f5).b.a (RActV.mk f0 f1 f2 (BS.mk a c l) f4 f5).b.l.length (RActV.mk f0 f1 f2 (BS.mk a c l) f4 f5).b.c))
instance {f0 : Int} {f1 : ByteArray} {f2 : ByteArray} {f3 : BS} {f4 : PlanV} {f5 : Int} {a : Option Addr} {c : Nat} {l : List UInt8} : Put (RActV.mk f0 f1 f2 f3 f4 f5).cells 3 (.slice a l.length c) (RActV.mk f0 f1 f2 (BS.mk a c l) f4 f5).cells := inferInstanceAs (Put (RActV.mk f0 f1 f2 f3 f4 f5).cells 3 (.slice a l.length c) { (RActV.mk f0 f1 f2 f3 f4 f5) with b := (BS.mk a c l) }.cells)
instance (priority := high) {f0 : Int} {f1 : ByteArray} {f2 : ByteArray} {f3 : BS} {f4 : PlanV} {f5 : Int} : Put (RActV.mk f0 f1 f2 f3 f4 f5).cells 3 (.slice none 0 0) (RActV.mk f0 f1 f2 ⟨none, 0, []⟩ f4 f5).cells := inferInstanceAs (Put (RActV.mk f0 f1 f2 f3 f4 f5).cells 3 (.slice none 0 0) { (RActV.mk f0 f1 f2 f3 f4 f5) with b := ⟨none, 0, []⟩ }.cells)
instance {f0 : Int} {f1 : ByteArray} {f2 : ByteArray} {f3 : BS} {f4 : PlanV} {f5 : Int} : CellAt (RActV.mk f0 f1 f2 f3 f4 f5).cells 7 (.int .i64 f5) := inferInstanceAs (CellAt (RActV.mk f0 f1 f2 f3 f4 f5).cells 7 (.int .i64 (RActV.mk f0 f1 f2 f3 f4 f5).n))
instance {f0 : Int} {f1 : ByteArray} {f2 : ByteArray} {f3 : BS} {f4 : PlanV} {f5 : Int} {u : Int} : Put (RActV.mk f0 f1 f2 f3 f4 f5).cells 7 (.int .i64 u) (RActV.mk f0 f1 f2 f3 f4 u).cells := inferInstanceAs (Put (RActV.mk f0 f1 f2 f3 f4 f5).cells 7 (.int .i64 u) { (RActV.mk f0 f1 f2 f3 f4 f5) with n := u }.cells)
@[reducible] def RActV.zero : RActV := { kind := 0, name := ⟨#[]⟩, to := ⟨#[]⟩, b := ⟨none, 0, []⟩, p := PlanV.zero, n := 0 }
instance : TyZ Try.prog 34 (.agg RActV.zero.cells) := ⟨by kernel_rfl⟩
end Go.Proofs.Ytededghplnoajaa
