/- Structures for the struct types of disks and logs, with their cells. Printed by program. -/
import Derived.Test.YtgeknnclmhfjlaaGreatDoorTyP
namespace Go.Proofs.YtgeknnclmhfjlaaGreatDoor
open Go.RowKit Go.Sx
set_option maxRecDepth 100000
set_option linter.unusedSimpArgs false
set_option linter.unusedVariables false
set_option linter.unnecessarySimpa false
structure ActV where
 kind : Int
 name : ByteArray
 to : ByteArray
 b : BS
def ActV.list (v : ActV) : List Value := [.int .i64 v.kind] ++ ([.string v.name] ++ ([.string v.to] ++ ([.slice v.b.a v.b.l.length v.b.c])))
def ActV.cells (v : ActV) : Array Value := v.list.toArray
theorem ActV.list_len (v : ActV) : v.list.length = 4 := by simp [ActV.list]
theorem ActV.list_one (v : ActV) : v.list.all Value.oneCell' = true := by simp [ActV.list, Value.oneCell']
instance tl9 {v : ActV} : Cells v.cells 4 := Cells.list v.list_len v.list_one
theorem ActV.size (v : ActV) : v.cells.size = 4 := by simp [ActV.cells, ActV.list_len]
instance tl11 {v : ActV} : SubAt v.cells 0 4 v.cells := ⟨by have h := v.size; apply Array.ext <;> simp [h]⟩
instance tl12 {v u : ActV} : Put v.cells 0 (.agg u.cells) u.cells := ⟨by have := put_mid [] v.list [] (v := .agg u.cells) (o := 0) (n := 4) rfl v.list_len u.size; simpa [ActV.cells, Value.cells] using this, by simp [Value.cells, ActV.size]⟩
instance tl13 {v : ActV} : CellAt v.cells 0 (.int .i64 v.kind) := ⟨by simp [ActV.cells, ActV.list, List.getElem?_append, hlist_length]⟩
instance tl14 {v : ActV} {u : Int} : Put v.cells 0 (.int .i64 u) { v with kind := u }.cells := by have := Put.mid ([] : List Value) ([.int .i64 v.kind]) ([.string v.name] ++ [.string v.to] ++ [.slice v.b.a v.b.l.length v.b.c]) (cs := v.cells) (o := 0) (n := 1) (v := .int .i64 u) (by simp [ActV.cells, ActV.list]) (by simp) rfl rfl; simpa [ActV.cells, ActV.list, Value.cells] using this
instance tl15 {v : ActV} : CellAt v.cells 1 (.string v.name) := ⟨by simp [ActV.cells, ActV.list, List.getElem?_append, hlist_length]⟩
instance tl16 {v : ActV} {u : ByteArray} : Put v.cells 1 (.string u) { v with name := u }.cells := by have := Put.mid ([.int .i64 v.kind]) ([.string v.name]) ([.string v.to] ++ [.slice v.b.a v.b.l.length v.b.c]) (cs := v.cells) (o := 1) (n := 1) (v := .string u) (by simp [ActV.cells, ActV.list]) (by simp) rfl rfl; simpa [ActV.cells, ActV.list, Value.cells] using this
instance tl17 {v : ActV} : CellAt v.cells 2 (.string v.to) := ⟨by simp [ActV.cells, ActV.list, List.getElem?_append, hlist_length]⟩
instance tl18 {v : ActV} {u : ByteArray} : Put v.cells 2 (.string u) { v with to := u }.cells := by have := Put.mid ([.int .i64 v.kind] ++ [.string v.name]) ([.string v.to]) ([.slice v.b.a v.b.l.length v.b.c]) (cs := v.cells) (o := 2) (n := 1) (v := .string u) (by simp [ActV.cells, ActV.list]) (by simp) rfl rfl; simpa [ActV.cells, ActV.list, Value.cells] using this
instance tl19 {v : ActV} : CellAt v.cells 3 (.slice v.b.a v.b.l.length v.b.c) := ⟨by simp [ActV.cells, ActV.list, List.getElem?_append, hlist_length]⟩
instance tl20 {v : ActV} {a : Option Addr} {l : List UInt8} {c : Nat} : Put v.cells 3 (.slice a l.length c) { v with b := ⟨a, c, l⟩ }.cells := by have := Put.mid ([.int .i64 v.kind] ++ [.string v.name] ++ [.string v.to]) ([.slice v.b.a v.b.l.length v.b.c]) ([] : List Value) (cs := v.cells) (o := 3) (n := 1) (v := .slice a l.length c) (by simp [ActV.cells, ActV.list]) (by simp) rfl rfl; simpa [ActV.cells, ActV.list, Value.cells] using this
instance tl23 {f0 : Int} {f1 : ByteArray} {f2 : ByteArray} {f3 : BS} {u : Int} : Put (ActV.mk f0 f1 f2 f3).cells 0 (.int .i64 u) (ActV.mk u f1 f2 f3).cells := inferInstanceAs (Put (ActV.mk f0 f1 f2 f3).cells 0 (.int .i64 u) { (ActV.mk f0 f1 f2 f3) with kind := u }.cells)
instance tl25 {f0 : Int} {f1 : ByteArray} {f2 : ByteArray} {f3 : BS} {u : ByteArray} : Put (ActV.mk f0 f1 f2 f3).cells 1 (.string u) (ActV.mk f0 u f2 f3).cells := inferInstanceAs (Put (ActV.mk f0 f1 f2 f3).cells 1 (.string u) { (ActV.mk f0 f1 f2 f3) with name := u }.cells)
instance tl27 {f0 : Int} {f1 : ByteArray} {f2 : ByteArray} {f3 : BS} {u : ByteArray} : Put (ActV.mk f0 f1 f2 f3).cells 2 (.string u) (ActV.mk f0 f1 u f3).cells := inferInstanceAs (Put (ActV.mk f0 f1 f2 f3).cells 2 (.string u) { (ActV.mk f0 f1 f2 f3) with to := u }.cells)
instance tl30 {f0 : Int} {f1 : ByteArray} {f2 : ByteArray} {f3 : BS} {a : Option Addr} {c : Nat} {l : List UInt8} : Put (ActV.mk f0 f1 f2 f3).cells 3 (.slice a l.length c) (ActV.mk f0 f1 f2 (BS.mk a c l)).cells := inferInstanceAs (Put (ActV.mk f0 f1 f2 f3).cells 3 (.slice a l.length c) { (ActV.mk f0 f1 f2 f3) with b := (BS.mk a c l) }.cells)
@[reducible] def ActV.zero : ActV := { kind := 0, name := ⟨#[]⟩, to := ⟨#[]⟩, b := ⟨none, 0, []⟩ }
instance tl33 : TyZ Tryz.prog 102 (.agg ActV.zero.cells) := ⟨by kernel_rfl⟩
structure DiskV where
 room : Int
 synced : Option Nat
 now : Option Nat
 pending : Sl
 fuse : Int
 down : Bool
def DiskV.list (v : DiskV) : List Value := [.int .i64 v.room] ++ ([.map v.synced] ++ ([.map v.now] ++ ([.slice v.pending.a v.pending.n v.pending.c] ++ ([.int .i64 v.fuse] ++ ([.bool v.down])))))
def DiskV.cells (v : DiskV) : Array Value := v.list.toArray
theorem DiskV.list_len (v : DiskV) : v.list.length = 6 := by simp [DiskV.list]
theorem DiskV.list_one (v : DiskV) : v.list.all Value.oneCell' = true := by simp [DiskV.list, Value.oneCell']
theorem DiskV.size (v : DiskV) : v.cells.size = 6 := by simp [DiskV.cells, DiskV.list_len]
instance tl49 {v : DiskV} : CellAt v.cells 0 (.int .i64 v.room) := ⟨by simp [DiskV.cells, DiskV.list, List.getElem?_append, hlist_length]⟩
instance tl50 {v : DiskV} {u : Int} : Put v.cells 0 (.int .i64 u) { v with room := u }.cells := by have := Put.mid ([] : List Value) ([.int .i64 v.room]) ([.map v.synced] ++ [.map v.now] ++ [.slice v.pending.a v.pending.n v.pending.c] ++ [.int .i64 v.fuse] ++ [.bool v.down]) (cs := v.cells) (o := 0) (n := 1) (v := .int .i64 u) (by simp [DiskV.cells, DiskV.list]) (by simp) rfl rfl; simpa [DiskV.cells, DiskV.list, Value.cells] using this
instance tl51 {v : DiskV} : CellAt v.cells 1 (.map v.synced) := ⟨by simp [DiskV.cells, DiskV.list, List.getElem?_append, hlist_length]⟩
instance tl52 {v : DiskV} {u : Option Nat} : Put v.cells 1 (.map u) { v with synced := u }.cells := by have := Put.mid ([.int .i64 v.room]) ([.map v.synced]) ([.map v.now] ++ [.slice v.pending.a v.pending.n v.pending.c] ++ [.int .i64 v.fuse] ++ [.bool v.down]) (cs := v.cells) (o := 1) (n := 1) (v := .map u) (by simp [DiskV.cells, DiskV.list]) (by simp) rfl rfl; simpa [DiskV.cells, DiskV.list, Value.cells] using this
instance tl53 {v : DiskV} : CellAt v.cells 2 (.map v.now) := ⟨by simp [DiskV.cells, DiskV.list, List.getElem?_append, hlist_length]⟩
instance tl54 {v : DiskV} {u : Option Nat} : Put v.cells 2 (.map u) { v with now := u }.cells := by have := Put.mid ([.int .i64 v.room] ++ [.map v.synced]) ([.map v.now]) ([.slice v.pending.a v.pending.n v.pending.c] ++ [.int .i64 v.fuse] ++ [.bool v.down]) (cs := v.cells) (o := 2) (n := 1) (v := .map u) (by simp [DiskV.cells, DiskV.list]) (by simp) rfl rfl; simpa [DiskV.cells, DiskV.list, Value.cells] using this
instance tl55 {v : DiskV} : CellAt v.cells 3 (.slice v.pending.a v.pending.n v.pending.c) := ⟨by simp [DiskV.cells, DiskV.list, List.getElem?_append, hlist_length]⟩
instance tl56 {v : DiskV} {a : Option Addr} {n c : Nat} : Put v.cells 3 (.slice a n c) { v with pending := ⟨a, n, c⟩ }.cells := by have := Put.mid ([.int .i64 v.room] ++ [.map v.synced] ++ [.map v.now]) ([.slice v.pending.a v.pending.n v.pending.c]) ([.int .i64 v.fuse] ++ [.bool v.down]) (cs := v.cells) (o := 3) (n := 1) (v := .slice a n c) (by simp [DiskV.cells, DiskV.list]) (by simp) rfl rfl; simpa [DiskV.cells, DiskV.list, Value.cells] using this
instance tl57 {v : DiskV} : CellAt v.cells 4 (.int .i64 v.fuse) := ⟨by simp [DiskV.cells, DiskV.list, List.getElem?_append, hlist_length]⟩
instance tl58 {v : DiskV} {u : Int} : Put v.cells 4 (.int .i64 u) { v with fuse := u }.cells := by have := Put.mid ([.int .i64 v.room] ++ [.map v.synced] ++ [.map v.now] ++ [.slice v.pending.a v.pending.n v.pending.c]) ([.int .i64 v.fuse]) ([.bool v.down]) (cs := v.cells) (o := 4) (n := 1) (v := .int .i64 u) (by simp [DiskV.cells, DiskV.list]) (by simp) rfl rfl; simpa [DiskV.cells, DiskV.list, Value.cells] using this
instance tl59 {v : DiskV} : CellAt v.cells 5 (.bool v.down) := ⟨by simp [DiskV.cells, DiskV.list, List.getElem?_append, hlist_length]⟩
instance tl60 {v : DiskV} {u : Bool} : Put v.cells 5 (.bool u) { v with down := u }.cells := by have := Put.mid ([.int .i64 v.room] ++ [.map v.synced] ++ [.map v.now] ++ [.slice v.pending.a v.pending.n v.pending.c] ++ [.int .i64 v.fuse]) ([.bool v.down]) ([] : List Value) (cs := v.cells) (o := 5) (n := 1) (v := .bool u) (by simp [DiskV.cells, DiskV.list]) (by simp) rfl rfl; simpa [DiskV.cells, DiskV.list, Value.cells] using this
instance tl61 {f0 : Int} {f1 : Option Nat} {f2 : Option Nat} {f3 : Sl} {f4 : Int} {f5 : Bool} : CellAt (DiskV.mk f0 f1 f2 f3 f4 f5).cells 0 (.int .i64 f0) := inferInstanceAs (CellAt (DiskV.mk f0 f1 f2 f3 f4 f5).cells 0 (.int .i64 (DiskV.mk f0 f1 f2 f3 f4 f5).room))
instance tl62 {f0 : Int} {f1 : Option Nat} {f2 : Option Nat} {f3 : Sl} {f4 : Int} {f5 : Bool} {u : Int} : Put (DiskV.mk f0 f1 f2 f3 f4 f5).cells 0 (.int .i64 u) (DiskV.mk u f1 f2 f3 f4 f5).cells := inferInstanceAs (Put (DiskV.mk f0 f1 f2 f3 f4 f5).cells 0 (.int .i64 u) { (DiskV.mk f0 f1 f2 f3 f4 f5) with room := u }.cells)
instance tl63 {f0 : Int} {f1 : Option Nat} {f2 : Option Nat} {f3 : Sl} {f4 : Int} {f5 : Bool} : CellAt (DiskV.mk f0 f1 f2 f3 f4 f5).cells 1 (.map f1) := inferInstanceAs (CellAt (DiskV.mk f0 f1 f2 f3 f4 f5).cells 1 (.map (DiskV.mk f0 f1 f2 f3 f4 f5).synced))
instance tl64 {f0 : Int} {f1 : Option Nat} {f2 : Option Nat} {f3 : Sl} {f4 : Int} {f5 : Bool} {u : Option Nat} : Put (DiskV.mk f0 f1 f2 f3 f4 f5).cells 1 (.map u) (DiskV.mk f0 u f2 f3 f4 f5).cells := inferInstanceAs (Put (DiskV.mk f0 f1 f2 f3 f4 f5).cells 1 (.map u) { (DiskV.mk f0 f1 f2 f3 f4 f5) with synced := u }.cells)
instance tl65 {f0 : Int} {f1 : Option Nat} {f2 : Option Nat} {f3 : Sl} {f4 : Int} {f5 : Bool} : CellAt (DiskV.mk f0 f1 f2 f3 f4 f5).cells 2 (.map f2) := inferInstanceAs (CellAt (DiskV.mk f0 f1 f2 f3 f4 f5).cells 2 (.map (DiskV.mk f0 f1 f2 f3 f4 f5).now))
instance tl66 {f0 : Int} {f1 : Option Nat} {f2 : Option Nat} {f3 : Sl} {f4 : Int} {f5 : Bool} {u : Option Nat} : Put (DiskV.mk f0 f1 f2 f3 f4 f5).cells 2 (.map u) (DiskV.mk f0 f1 u f3 f4 f5).cells := inferInstanceAs (Put (DiskV.mk f0 f1 f2 f3 f4 f5).cells 2 (.map u) { (DiskV.mk f0 f1 f2 f3 f4 f5) with now := u }.cells)
instance tl67 {f0 : Int} {f1 : Option Nat} {f2 : Option Nat} {f3 : Sl} {f4 : Int} {f5 : Bool} : CellAt (DiskV.mk f0 f1 f2 f3 f4 f5).cells 3 (.slice f3.a f3.n f3.c) := inferInstanceAs (CellAt (DiskV.mk f0 f1 f2 f3 f4 f5).cells 3 (.slice (DiskV.mk f0 f1 f2 f3 f4 f5).pending.a (DiskV.mk f0 f1 f2 f3 f4 f5).pending.n (DiskV.mk f0 f1 f2 f3 f4 f5).pending.c))
instance tl68 {f0 : Int} {f1 : Option Nat} {f2 : Option Nat} {f4 : Int} {f5 : Bool} {a : Option Addr} {n c : Nat} : CellAt (DiskV.mk f0 f1 f2 (Sl.mk a n c) f4 f5).cells 3 (.slice a n c) := inferInstanceAs (CellAt (DiskV.mk f0 f1 f2 (Sl.mk a n c) f4 f5).cells 3 (.slice (DiskV.mk f0 f1 f2 (Sl.mk a n c) f4 f5).pending.a (DiskV.mk f0 f1 f2 (Sl.mk a n c) f4 f5).pending.n (DiskV.mk f0 f1 f2 (Sl.mk a n c) f4 f5).pending.c))
instance tl69 {f0 : Int} {f1 : Option Nat} {f2 : Option Nat} {f3 : Sl} {f4 : Int} {f5 : Bool} {a : Option Addr} {n c : Nat} : Put (DiskV.mk f0 f1 f2 f3 f4 f5).cells 3 (.slice a n c) (DiskV.mk f0 f1 f2 (Sl.mk a n c) f4 f5).cells := inferInstanceAs (Put (DiskV.mk f0 f1 f2 f3 f4 f5).cells 3 (.slice a n c) { (DiskV.mk f0 f1 f2 f3 f4 f5) with pending := (Sl.mk a n c) }.cells)
instance tl70 {f0 : Int} {f1 : Option Nat} {f2 : Option Nat} {f3 : Sl} {f4 : Int} {f5 : Bool} : CellAt (DiskV.mk f0 f1 f2 f3 f4 f5).cells 4 (.int .i64 f4) := inferInstanceAs (CellAt (DiskV.mk f0 f1 f2 f3 f4 f5).cells 4 (.int .i64 (DiskV.mk f0 f1 f2 f3 f4 f5).fuse))
instance tl71 {f0 : Int} {f1 : Option Nat} {f2 : Option Nat} {f3 : Sl} {f4 : Int} {f5 : Bool} {u : Int} : Put (DiskV.mk f0 f1 f2 f3 f4 f5).cells 4 (.int .i64 u) (DiskV.mk f0 f1 f2 f3 u f5).cells := inferInstanceAs (Put (DiskV.mk f0 f1 f2 f3 f4 f5).cells 4 (.int .i64 u) { (DiskV.mk f0 f1 f2 f3 f4 f5) with fuse := u }.cells)
instance tl72 {f0 : Int} {f1 : Option Nat} {f2 : Option Nat} {f3 : Sl} {f4 : Int} {f5 : Bool} : CellAt (DiskV.mk f0 f1 f2 f3 f4 f5).cells 5 (.bool f5) := inferInstanceAs (CellAt (DiskV.mk f0 f1 f2 f3 f4 f5).cells 5 (.bool (DiskV.mk f0 f1 f2 f3 f4 f5).down))
instance tl73 {f0 : Int} {f1 : Option Nat} {f2 : Option Nat} {f3 : Sl} {f4 : Int} {f5 : Bool} {u : Bool} : Put (DiskV.mk f0 f1 f2 f3 f4 f5).cells 5 (.bool u) (DiskV.mk f0 f1 f2 f3 f4 u).cells := inferInstanceAs (Put (DiskV.mk f0 f1 f2 f3 f4 f5).cells 5 (.bool u) { (DiskV.mk f0 f1 f2 f3 f4 f5) with down := u }.cells)
@[reducible] def DiskV.zero : DiskV := { room := 0, synced := none, now := none, pending := ⟨none, 0, 0⟩, fuse := 0, down := false }
instance tl75 : TyZ Tryz.prog 73 (.agg DiskV.zero.cells) := ⟨by kernel_rfl⟩
structure PlanV where
 keep : Int
 torn : Int
 cut : Int
def PlanV.list (v : PlanV) : List Value := [.int .u64 v.keep] ++ ([.int .i64 v.torn] ++ ([.int .i64 v.cut]))
def PlanV.cells (v : PlanV) : Array Value := v.list.toArray
theorem PlanV.list_len (v : PlanV) : v.list.length = 3 := by simp [PlanV.list]
theorem PlanV.list_one (v : PlanV) : v.list.all Value.oneCell' = true := by simp [PlanV.list, Value.oneCell']
instance tl84 {v : PlanV} : Cells v.cells 3 := Cells.list v.list_len v.list_one
theorem PlanV.size (v : PlanV) : v.cells.size = 3 := by simp [PlanV.cells, PlanV.list_len]
instance tl86 {v : PlanV} : SubAt v.cells 0 3 v.cells := ⟨by have h := v.size; apply Array.ext <;> simp [h]⟩
instance tl88 {v : PlanV} : CellAt v.cells 0 (.int .u64 v.keep) := ⟨by simp [PlanV.cells, PlanV.list, List.getElem?_append, hlist_length]⟩
instance tl90 {v : PlanV} : CellAt v.cells 1 (.int .i64 v.torn) := ⟨by simp [PlanV.cells, PlanV.list, List.getElem?_append, hlist_length]⟩
instance tl92 {v : PlanV} : CellAt v.cells 2 (.int .i64 v.cut) := ⟨by simp [PlanV.cells, PlanV.list, List.getElem?_append, hlist_length]⟩
instance tl94 {f0 : Int} {f1 : Int} {f2 : Int} : CellAt (PlanV.mk f0 f1 f2).cells 0 (.int .u64 f0) := inferInstanceAs (CellAt (PlanV.mk f0 f1 f2).cells 0 (.int .u64 (PlanV.mk f0 f1 f2).keep))
instance tl96 {f0 : Int} {f1 : Int} {f2 : Int} : CellAt (PlanV.mk f0 f1 f2).cells 1 (.int .i64 f1) := inferInstanceAs (CellAt (PlanV.mk f0 f1 f2).cells 1 (.int .i64 (PlanV.mk f0 f1 f2).torn))
instance tl98 {f0 : Int} {f1 : Int} {f2 : Int} : CellAt (PlanV.mk f0 f1 f2).cells 2 (.int .i64 f2) := inferInstanceAs (CellAt (PlanV.mk f0 f1 f2).cells 2 (.int .i64 (PlanV.mk f0 f1 f2).cut))
@[reducible] def PlanV.zero : PlanV := { keep := 0, torn := 0, cut := 0 }
structure LogV where
 d : Option Addr
 prefix_ : ByteArray
 segs : Sl
 siz : Int
 next : Int
 begun : Bool
def LogV.list (v : LogV) : List Value := [.pointer v.d] ++ ([.string v.prefix_] ++ ([.slice v.segs.a v.segs.n v.segs.c] ++ ([.int .i64 v.siz] ++ ([.int .u64 v.next] ++ ([.bool v.begun])))))
def LogV.cells (v : LogV) : Array Value := v.list.toArray
theorem LogV.list_len (v : LogV) : v.list.length = 6 := by simp [LogV.list]
theorem LogV.list_one (v : LogV) : v.list.all Value.oneCell' = true := by simp [LogV.list, Value.oneCell']
theorem LogV.size (v : LogV) : v.cells.size = 6 := by simp [LogV.cells, LogV.list_len]
instance tl117 {v : LogV} : CellAt v.cells 0 (.pointer v.d) := ⟨by simp [LogV.cells, LogV.list, List.getElem?_append, hlist_length]⟩
instance tl118 {v : LogV} {u : Option Addr} : Put v.cells 0 (.pointer u) { v with d := u }.cells := by have := Put.mid ([] : List Value) ([.pointer v.d]) ([.string v.prefix_] ++ [.slice v.segs.a v.segs.n v.segs.c] ++ [.int .i64 v.siz] ++ [.int .u64 v.next] ++ [.bool v.begun]) (cs := v.cells) (o := 0) (n := 1) (v := .pointer u) (by simp [LogV.cells, LogV.list]) (by simp) rfl rfl; simpa [LogV.cells, LogV.list, Value.cells] using this
instance tl119 {v : LogV} : CellAt v.cells 1 (.string v.prefix_) := ⟨by simp [LogV.cells, LogV.list, List.getElem?_append, hlist_length]⟩
instance tl120 {v : LogV} {u : ByteArray} : Put v.cells 1 (.string u) { v with prefix_ := u }.cells := by have := Put.mid ([.pointer v.d]) ([.string v.prefix_]) ([.slice v.segs.a v.segs.n v.segs.c] ++ [.int .i64 v.siz] ++ [.int .u64 v.next] ++ [.bool v.begun]) (cs := v.cells) (o := 1) (n := 1) (v := .string u) (by simp [LogV.cells, LogV.list]) (by simp) rfl rfl; simpa [LogV.cells, LogV.list, Value.cells] using this
instance tl121 {v : LogV} : CellAt v.cells 2 (.slice v.segs.a v.segs.n v.segs.c) := ⟨by simp [LogV.cells, LogV.list, List.getElem?_append, hlist_length]⟩
instance tl122 {v : LogV} {a : Option Addr} {n c : Nat} : Put v.cells 2 (.slice a n c) { v with segs := ⟨a, n, c⟩ }.cells := by have := Put.mid ([.pointer v.d] ++ [.string v.prefix_]) ([.slice v.segs.a v.segs.n v.segs.c]) ([.int .i64 v.siz] ++ [.int .u64 v.next] ++ [.bool v.begun]) (cs := v.cells) (o := 2) (n := 1) (v := .slice a n c) (by simp [LogV.cells, LogV.list]) (by simp) rfl rfl; simpa [LogV.cells, LogV.list, Value.cells] using this
instance tl123 {v : LogV} : CellAt v.cells 3 (.int .i64 v.siz) := ⟨by simp [LogV.cells, LogV.list, List.getElem?_append, hlist_length]⟩
instance tl124 {v : LogV} {u : Int} : Put v.cells 3 (.int .i64 u) { v with siz := u }.cells := by have := Put.mid ([.pointer v.d] ++ [.string v.prefix_] ++ [.slice v.segs.a v.segs.n v.segs.c]) ([.int .i64 v.siz]) ([.int .u64 v.next] ++ [.bool v.begun]) (cs := v.cells) (o := 3) (n := 1) (v := .int .i64 u) (by simp [LogV.cells, LogV.list]) (by simp) rfl rfl; simpa [LogV.cells, LogV.list, Value.cells] using this
instance tl125 {v : LogV} : CellAt v.cells 4 (.int .u64 v.next) := ⟨by simp [LogV.cells, LogV.list, List.getElem?_append, hlist_length]⟩
instance tl126 {v : LogV} {u : Int} : Put v.cells 4 (.int .u64 u) { v with next := u }.cells := by have := Put.mid ([.pointer v.d] ++ [.string v.prefix_] ++ [.slice v.segs.a v.segs.n v.segs.c] ++ [.int .i64 v.siz]) ([.int .u64 v.next]) ([.bool v.begun]) (cs := v.cells) (o := 4) (n := 1) (v := .int .u64 u) (by simp [LogV.cells, LogV.list]) (by simp) rfl rfl; simpa [LogV.cells, LogV.list, Value.cells] using this
instance tl127 {v : LogV} : CellAt v.cells 5 (.bool v.begun) := ⟨by simp [LogV.cells, LogV.list, List.getElem?_append, hlist_length]⟩
instance tl128 {v : LogV} {u : Bool} : Put v.cells 5 (.bool u) { v with begun := u }.cells := by have := Put.mid ([.pointer v.d] ++ [.string v.prefix_] ++ [.slice v.segs.a v.segs.n v.segs.c] ++ [.int .i64 v.siz] ++ [.int .u64 v.next]) ([.bool v.begun]) ([] : List Value) (cs := v.cells) (o := 5) (n := 1) (v := .bool u) (by simp [LogV.cells, LogV.list]) (by simp) rfl rfl; simpa [LogV.cells, LogV.list, Value.cells] using this
instance tl129 {f0 : Option Addr} {f1 : ByteArray} {f2 : Sl} {f3 : Int} {f4 : Int} {f5 : Bool} : CellAt (LogV.mk f0 f1 f2 f3 f4 f5).cells 0 (.pointer f0) := inferInstanceAs (CellAt (LogV.mk f0 f1 f2 f3 f4 f5).cells 0 (.pointer (LogV.mk f0 f1 f2 f3 f4 f5).d))
instance tl130 {f0 : Option Addr} {f1 : ByteArray} {f2 : Sl} {f3 : Int} {f4 : Int} {f5 : Bool} {u : Option Addr} : Put (LogV.mk f0 f1 f2 f3 f4 f5).cells 0 (.pointer u) (LogV.mk u f1 f2 f3 f4 f5).cells := inferInstanceAs (Put (LogV.mk f0 f1 f2 f3 f4 f5).cells 0 (.pointer u) { (LogV.mk f0 f1 f2 f3 f4 f5) with d := u }.cells)
instance tl131 {f0 : Option Addr} {f1 : ByteArray} {f2 : Sl} {f3 : Int} {f4 : Int} {f5 : Bool} : CellAt (LogV.mk f0 f1 f2 f3 f4 f5).cells 1 (.string f1) := inferInstanceAs (CellAt (LogV.mk f0 f1 f2 f3 f4 f5).cells 1 (.string (LogV.mk f0 f1 f2 f3 f4 f5).prefix_))
instance tl132 {f0 : Option Addr} {f1 : ByteArray} {f2 : Sl} {f3 : Int} {f4 : Int} {f5 : Bool} {u : ByteArray} : Put (LogV.mk f0 f1 f2 f3 f4 f5).cells 1 (.string u) (LogV.mk f0 u f2 f3 f4 f5).cells := inferInstanceAs (Put (LogV.mk f0 f1 f2 f3 f4 f5).cells 1 (.string u) { (LogV.mk f0 f1 f2 f3 f4 f5) with prefix_ := u }.cells)
instance tl133 {f0 : Option Addr} {f1 : ByteArray} {f2 : Sl} {f3 : Int} {f4 : Int} {f5 : Bool} : CellAt (LogV.mk f0 f1 f2 f3 f4 f5).cells 2 (.slice f2.a f2.n f2.c) := inferInstanceAs (CellAt (LogV.mk f0 f1 f2 f3 f4 f5).cells 2 (.slice (LogV.mk f0 f1 f2 f3 f4 f5).segs.a (LogV.mk f0 f1 f2 f3 f4 f5).segs.n (LogV.mk f0 f1 f2 f3 f4 f5).segs.c))
instance tl134 {f0 : Option Addr} {f1 : ByteArray} {f3 : Int} {f4 : Int} {f5 : Bool} {a : Option Addr} {n c : Nat} : CellAt (LogV.mk f0 f1 (Sl.mk a n c) f3 f4 f5).cells 2 (.slice a n c) := inferInstanceAs (CellAt (LogV.mk f0 f1 (Sl.mk a n c) f3 f4 f5).cells 2 (.slice (LogV.mk f0 f1 (Sl.mk a n c) f3 f4 f5).segs.a (LogV.mk f0 f1 (Sl.mk a n c) f3 f4 f5).segs.n (LogV.mk f0 f1 (Sl.mk a n c) f3 f4 f5).segs.c))
instance tl135 {f0 : Option Addr} {f1 : ByteArray} {f2 : Sl} {f3 : Int} {f4 : Int} {f5 : Bool} {a : Option Addr} {n c : Nat} : Put (LogV.mk f0 f1 f2 f3 f4 f5).cells 2 (.slice a n c) (LogV.mk f0 f1 (Sl.mk a n c) f3 f4 f5).cells := inferInstanceAs (Put (LogV.mk f0 f1 f2 f3 f4 f5).cells 2 (.slice a n c) { (LogV.mk f0 f1 f2 f3 f4 f5) with segs := (Sl.mk a n c) }.cells)
instance tl136 {f0 : Option Addr} {f1 : ByteArray} {f2 : Sl} {f3 : Int} {f4 : Int} {f5 : Bool} : CellAt (LogV.mk f0 f1 f2 f3 f4 f5).cells 3 (.int .i64 f3) := inferInstanceAs (CellAt (LogV.mk f0 f1 f2 f3 f4 f5).cells 3 (.int .i64 (LogV.mk f0 f1 f2 f3 f4 f5).siz))
instance tl137 {f0 : Option Addr} {f1 : ByteArray} {f2 : Sl} {f3 : Int} {f4 : Int} {f5 : Bool} {u : Int} : Put (LogV.mk f0 f1 f2 f3 f4 f5).cells 3 (.int .i64 u) (LogV.mk f0 f1 f2 u f4 f5).cells := inferInstanceAs (Put (LogV.mk f0 f1 f2 f3 f4 f5).cells 3 (.int .i64 u) { (LogV.mk f0 f1 f2 f3 f4 f5) with siz := u }.cells)
instance tl138 {f0 : Option Addr} {f1 : ByteArray} {f2 : Sl} {f3 : Int} {f4 : Int} {f5 : Bool} : CellAt (LogV.mk f0 f1 f2 f3 f4 f5).cells 4 (.int .u64 f4) := inferInstanceAs (CellAt (LogV.mk f0 f1 f2 f3 f4 f5).cells 4 (.int .u64 (LogV.mk f0 f1 f2 f3 f4 f5).next))
instance tl139 {f0 : Option Addr} {f1 : ByteArray} {f2 : Sl} {f3 : Int} {f4 : Int} {f5 : Bool} {u : Int} : Put (LogV.mk f0 f1 f2 f3 f4 f5).cells 4 (.int .u64 u) (LogV.mk f0 f1 f2 f3 u f5).cells := inferInstanceAs (Put (LogV.mk f0 f1 f2 f3 f4 f5).cells 4 (.int .u64 u) { (LogV.mk f0 f1 f2 f3 f4 f5) with next := u }.cells)
instance tl140 {f0 : Option Addr} {f1 : ByteArray} {f2 : Sl} {f3 : Int} {f4 : Int} {f5 : Bool} : CellAt (LogV.mk f0 f1 f2 f3 f4 f5).cells 5 (.bool f5) := inferInstanceAs (CellAt (LogV.mk f0 f1 f2 f3 f4 f5).cells 5 (.bool (LogV.mk f0 f1 f2 f3 f4 f5).begun))
instance tl141 {f0 : Option Addr} {f1 : ByteArray} {f2 : Sl} {f3 : Int} {f4 : Int} {f5 : Bool} {u : Bool} : Put (LogV.mk f0 f1 f2 f3 f4 f5).cells 5 (.bool u) (LogV.mk f0 f1 f2 f3 f4 u).cells := inferInstanceAs (Put (LogV.mk f0 f1 f2 f3 f4 f5).cells 5 (.bool u) { (LogV.mk f0 f1 f2 f3 f4 f5) with begun := u }.cells)
@[reducible] def LogV.zero : LogV := { d := none, prefix_ := ⟨#[]⟩, segs := ⟨none, 0, 0⟩, siz := 0, next := 0, begun := false }
instance tl143 : TyZ Tryz.prog 131 (.agg LogV.zero.cells) := ⟨by kernel_rfl⟩
end Go.Proofs.YtgeknnclmhfjlaaGreatDoor
