/- Structures for the struct types of worlds, replies, slots, with their cells. Printed by program. -/
import Derived.Test.YtgeknnclmhfjlaaGreatDoorTyP
import Derived.Test.YtgeknnclmhfjlaaGreatDoorSkP
namespace Go.Proofs.YtgeknnclmhfjlaaGreatDoor
open Go.RowKit Go.Sx
set_option maxRecDepth 100000
set_option linter.unusedSimpArgs false
set_option linter.unusedVariables false
set_option linter.unnecessarySimpa false
structure CellV where
 there : Bool
 n : Int
def CellV.list (v : CellV) : List Value := [.bool v.there] ++ ([.int .i64 v.n])
def CellV.cells (v : CellV) : Array Value := v.list.toArray
theorem CellV.list_len (v : CellV) : v.list.length = 2 := by simp [CellV.list]
theorem CellV.list_one (v : CellV) : v.list.all Value.oneCell' = true := by simp [CellV.list, Value.oneCell']
instance tk7 {v : CellV} : Cells v.cells 2 := Cells.list v.list_len v.list_one
theorem CellV.size (v : CellV) : v.cells.size = 2 := by simp [CellV.cells, CellV.list_len]
instance tk10 {v u : CellV} : Put v.cells 0 (.agg u.cells) u.cells := ⟨by have := put_mid [] v.list [] (v := .agg u.cells) (o := 0) (n := 2) rfl v.list_len u.size; simpa [CellV.cells, Value.cells] using this, by simp [Value.cells, CellV.size]⟩
instance tk11 {v : CellV} : CellAt v.cells 0 (.bool v.there) := ⟨by simp [CellV.cells, CellV.list, List.getElem?_append, hlist_length]⟩
instance tk13 {v : CellV} : CellAt v.cells 1 (.int .i64 v.n) := ⟨by simp [CellV.cells, CellV.list, List.getElem?_append, hlist_length]⟩
@[reducible] def CellV.zero : CellV := { there := false, n := 0 }
instance tk20 : TyZ Tryz.prog 58 (.agg CellV.zero.cells) := ⟨by kernel_rfl⟩
theorem CellV.ext_iff' (x y : CellV) : x = y ↔ x.there = y.there ∧ x.n = y.n := by cases x; cases y; simp
structure ResV where
 oK : Bool
 n : Int
def ResV.list (v : ResV) : List Value := [.bool v.oK] ++ ([.int .i64 v.n])
def ResV.cells (v : ResV) : Array Value := v.list.toArray
theorem ResV.list_len (v : ResV) : v.list.length = 2 := by simp [ResV.list]
theorem ResV.list_one (v : ResV) : v.list.all Value.oneCell' = true := by simp [ResV.list, Value.oneCell']
theorem ResV.size (v : ResV) : v.cells.size = 2 := by simp [ResV.cells, ResV.list_len]
@[reducible] def ResV.zero : ResV := { oK := false, n := 0 }
theorem ResV.ext_iff' (x y : ResV) : x = y ↔ x.oK = y.oK ∧ x.n = y.n := by cases x; cases y; simp
structure ReplyV where
 client : Int
 seq : Int
 slot : Int
 res : ResV
def ReplyV.list (v : ReplyV) : List Value := [.int .i64 v.client] ++ ([.int .i64 v.seq] ++ ([.int .i64 v.slot] ++ (v.res.list)))
def ReplyV.cells (v : ReplyV) : Array Value := v.list.toArray
theorem ReplyV.list_len (v : ReplyV) : v.list.length = 5 := by simp [ReplyV.list, ResV.list_len]
theorem ReplyV.list_one (v : ReplyV) : v.list.all Value.oneCell' = true := by simp [ReplyV.list, Value.oneCell', ResV.list_one]
instance tk69 {v : ReplyV} : Cells v.cells 5 := Cells.list v.list_len v.list_one
theorem ReplyV.size (v : ReplyV) : v.cells.size = 5 := by simp [ReplyV.cells, ReplyV.list_len]
instance tk71 {v : ReplyV} : SubAt v.cells 0 5 v.cells := ⟨by have h := v.size; apply Array.ext <;> simp [h]⟩
instance tk72 {v u : ReplyV} : Put v.cells 0 (.agg u.cells) u.cells := ⟨by have := put_mid [] v.list [] (v := .agg u.cells) (o := 0) (n := 5) rfl v.list_len u.size; simpa [ReplyV.cells, Value.cells] using this, by simp [Value.cells, ReplyV.size]⟩
instance tk73 {v : ReplyV} : CellAt v.cells 0 (.int .i64 v.client) := ⟨by simp [ReplyV.cells, ReplyV.list, List.getElem?_append, hlist_length, ResV.list_len]⟩
instance tk75 {v : ReplyV} : CellAt v.cells 1 (.int .i64 v.seq) := ⟨by simp [ReplyV.cells, ReplyV.list, List.getElem?_append, hlist_length, ResV.list_len]⟩
instance tk77 {v : ReplyV} : CellAt v.cells 2 (.int .i64 v.slot) := ⟨by simp [ReplyV.cells, ReplyV.list, List.getElem?_append, hlist_length, ResV.list_len]⟩
instance tk81 {v : ReplyV} : CellAt v.cells 3 (.bool v.res.oK) := ⟨by simp [ReplyV.cells, ReplyV.list, ResV.list, List.getElem?_append, hlist_length, ResV.list_len]⟩
instance tk83 {v : ReplyV} : CellAt v.cells 4 (.int .i64 v.res.n) := ⟨by simp [ReplyV.cells, ReplyV.list, ResV.list, List.getElem?_append, hlist_length, ResV.list_len]⟩
@[reducible] def ReplyV.zero : ReplyV := { client := 0, seq := 0, slot := 0, res := ResV.zero }
instance tk92 : TyZ Tryz.prog 63 (.agg ReplyV.zero.cells) := ⟨by kernel_rfl⟩
structure SlotV where
 n : Int
 hash : Vector UInt8 32
 batch : BS
 parts : PS
def SlotV.list (v : SlotV) : List Value := [.int .i64 v.n] ++ (hlist v.hash ++ ([.slice v.batch.a v.batch.l.length v.batch.c] ++ ([.slice v.parts.a v.parts.ls.length v.parts.c])))
def SlotV.cells (v : SlotV) : Array Value := v.list.toArray
theorem SlotV.list_len (v : SlotV) : v.list.length = 35 := by simp [SlotV.list]
theorem SlotV.list_one (v : SlotV) : v.list.all Value.oneCell' = true := by simp [SlotV.list, Value.oneCell']
instance tk102 {v : SlotV} : Cells v.cells 35 := Cells.list v.list_len v.list_one
theorem SlotV.size (v : SlotV) : v.cells.size = 35 := by simp [SlotV.cells, SlotV.list_len]
instance tk104 {v : SlotV} : SubAt v.cells 0 35 v.cells := ⟨by have h := v.size; apply Array.ext <;> simp [h]⟩
instance tk105 {v u : SlotV} : Put v.cells 0 (.agg u.cells) u.cells := ⟨by have := put_mid [] v.list [] (v := .agg u.cells) (o := 0) (n := 35) rfl v.list_len u.size; simpa [SlotV.cells, Value.cells] using this, by simp [Value.cells, SlotV.size]⟩
instance tk110 {v : SlotV} : CellAt v.cells 33 (.slice v.batch.a v.batch.l.length v.batch.c) := ⟨by simp [SlotV.cells, SlotV.list, List.getElem?_append, hlist_length]⟩
instance (priority := high) tk112 {v : SlotV} : Put v.cells 33 (.slice none 0 0) { v with batch := ⟨none, 0, []⟩ }.cells := by have := Put.mid ([.int .i64 v.n] ++ hlist v.hash) ([.slice v.batch.a v.batch.l.length v.batch.c]) ([.slice v.parts.a v.parts.ls.length v.parts.c]) (cs := v.cells) (o := 33) (n := 1) (v := .slice none 0 0) (by simp [SlotV.cells, SlotV.list]) (by simp) rfl rfl; simpa [SlotV.cells, SlotV.list, Value.cells] using this
instance tk113 {v : SlotV} : CellAt v.cells 34 (.slice v.parts.a v.parts.ls.length v.parts.c) := ⟨by simp [SlotV.cells, SlotV.list, List.getElem?_append, hlist_length]⟩
instance (priority := high) tk115 {v : SlotV} : Put v.cells 34 (.slice none 0 0) { v with parts := ⟨none, 0, []⟩ }.cells := by have := Put.mid ([.int .i64 v.n] ++ hlist v.hash ++ [.slice v.batch.a v.batch.l.length v.batch.c]) ([.slice v.parts.a v.parts.ls.length v.parts.c]) ([] : List Value) (cs := v.cells) (o := 34) (n := 1) (v := .slice none 0 0) (by simp [SlotV.cells, SlotV.list]) (by simp) rfl rfl; simpa [SlotV.cells, SlotV.list, Value.cells] using this
instance tk120 {f0 : Int} {f1 : Vector UInt8 32} {f2 : BS} {f3 : PS} : CellAt (SlotV.mk f0 f1 f2 f3).cells 33 (.slice f2.a f2.l.length f2.c) := inferInstanceAs (CellAt (SlotV.mk f0 f1 f2 f3).cells 33 (.slice (SlotV.mk f0 f1 f2 f3).batch.a (SlotV.mk f0 f1 f2 f3).batch.l.length (SlotV.mk f0 f1 f2 f3).batch.c))
instance tk121 {f0 : Int} {f1 : Vector UInt8 32} {f3 : PS} {a : Option Addr} {c : Nat} {l : List UInt8} : CellAt (SlotV.mk f0 f1 (BS.mk a c l) f3).cells 33 (.slice a l.length c) := inferInstanceAs (CellAt (SlotV.mk f0 f1 (BS.mk a c l) f3).cells 33 (.slice (SlotV.mk f0 f1 (BS.mk a c l) f3).batch.a (SlotV.mk f0 f1 (BS.mk a c l) f3).batch.l.length (SlotV.mk f0 f1 (BS.mk a c l) f3).batch.c))
instance (priority := high) tk123 {f0 : Int} {f1 : Vector UInt8 32} {f2 : BS} {f3 : PS} : Put (SlotV.mk f0 f1 f2 f3).cells 33 (.slice none 0 0) (SlotV.mk f0 f1 ⟨none, 0, []⟩ f3).cells := inferInstanceAs (Put (SlotV.mk f0 f1 f2 f3).cells 33 (.slice none 0 0) { (SlotV.mk f0 f1 f2 f3) with batch := ⟨none, 0, []⟩ }.cells)
instance tk124 {f0 : Int} {f1 : Vector UInt8 32} {f2 : BS} {f3 : PS} : CellAt (SlotV.mk f0 f1 f2 f3).cells 34 (.slice f3.a f3.ls.length f3.c) := inferInstanceAs (CellAt (SlotV.mk f0 f1 f2 f3).cells 34 (.slice (SlotV.mk f0 f1 f2 f3).parts.a (SlotV.mk f0 f1 f2 f3).parts.ls.length (SlotV.mk f0 f1 f2 f3).parts.c))
instance tk125 {f0 : Int} {f1 : Vector UInt8 32} {f2 : BS} {a : Option Addr} {c : Nat} {l : List BS} : CellAt (SlotV.mk f0 f1 f2 (PS.mk a c l)).cells 34 (.slice a l.length c) := inferInstanceAs (CellAt (SlotV.mk f0 f1 f2 (PS.mk a c l)).cells 34 (.slice (SlotV.mk f0 f1 f2 (PS.mk a c l)).parts.a (SlotV.mk f0 f1 f2 (PS.mk a c l)).parts.ls.length (SlotV.mk f0 f1 f2 (PS.mk a c l)).parts.c))
instance (priority := high) tk127 {f0 : Int} {f1 : Vector UInt8 32} {f2 : BS} {f3 : PS} : Put (SlotV.mk f0 f1 f2 f3).cells 34 (.slice none 0 0) (SlotV.mk f0 f1 f2 ⟨none, 0, []⟩).cells := inferInstanceAs (Put (SlotV.mk f0 f1 f2 f3).cells 34 (.slice none 0 0) { (SlotV.mk f0 f1 f2 f3) with parts := ⟨none, 0, []⟩ }.cells)
@[reducible] def SlotV.zero : SlotV := { n := 0, hash := zeroV 32, batch := ⟨none, 0, []⟩, parts := ⟨none, 0, []⟩ }
instance tk129 : TyZ Tryz.prog 82 (.agg SlotV.zero.cells) := ⟨by kernel_rfl⟩
structure OpV where
 kind : Int
 key : Int
 a : Int
 b : Int
def OpV.list (v : OpV) : List Value := [.int .i64 v.kind] ++ ([.int .i64 v.key] ++ ([.int .i64 v.a] ++ ([.int .i64 v.b])))
def OpV.cells (v : OpV) : Array Value := v.list.toArray
theorem OpV.list_len (v : OpV) : v.list.length = 4 := by simp [OpV.list]
theorem OpV.list_one (v : OpV) : v.list.all Value.oneCell' = true := by simp [OpV.list, Value.oneCell']
theorem OpV.size (v : OpV) : v.cells.size = 4 := by simp [OpV.cells, OpV.list_len]
@[reducible] def OpV.zero : OpV := { kind := 0, key := 0, a := 0, b := 0 }
structure WorldV where
 slot : Int
 first : Int
 view : ViewV
 was : ViewV
 cs : Vector CellV 16
 last : Vector ReplyV 6
abbrev WorldV.p0 (v : WorldV) : List Value := [.int .i64 v.slot]
abbrev WorldV.p1 (v : WorldV) : List Value := [.int .i64 v.first]
abbrev WorldV.p4 (v : WorldV) : List Value := flatV CellV.list v.cs
abbrev WorldV.p5 (v : WorldV) : List Value := flatV ReplyV.list v.last
theorem WorldV.l4 (v : WorldV) : v.p4.length = 32 := flatV_length _ 2 CellV.list_len v.cs
theorem WorldV.l5 (v : WorldV) : v.p5.length = 30 := flatV_length _ 5 ReplyV.list_len v.last
def WorldV.list (v : WorldV) : List Value := v.p0 ++ (v.p1 ++ (v.view.list ++ (v.was.list ++ (v.p4 ++ (v.p5)))))
def WorldV.cells (v : WorldV) : Array Value := v.list.toArray
theorem WorldV.list_len (v : WorldV) : v.list.length = 68 := by simp only [WorldV.list, List.length_append, ViewV.list_len, v.l4, v.l5, List.length_singleton]
theorem WorldV.list_one (v : WorldV) : v.list.all Value.oneCell' = true := by
 simp only [WorldV.list, List.all_append, ViewV.list_one, flatV_one _ CellV.list_one, flatV_one _ ReplyV.list_one]; rfl
instance wdcells {v : WorldV} : Cells v.cells 68 := Cells.list v.list_len v.list_one
theorem WorldV.size (v : WorldV) : v.cells.size = 68 := by simp [WorldV.cells, WorldV.list_len]
instance wdsub {v : WorldV} : SubAt v.cells 0 68 v.cells := ⟨by have h := v.size; apply Array.ext <;> simp [h]⟩
instance wdput {v u : WorldV} : Put v.cells 0 (.agg u.cells) u.cells := ⟨by have := put_mid [] v.list [] (v := .agg u.cells) (o := 0) (n := 68) rfl v.list_len u.size; simpa [WorldV.cells, Value.cells] using this, by simp [Value.cells, WorldV.size]⟩
instance wdc0 {v : WorldV} : CellAt v.cells 0 (.int .i64 v.slot) := ⟨by simp [WorldV.cells, WorldV.list]⟩
instance wdc1 {v : WorldV} : CellAt v.cells 1 (.int .i64 v.first) := ⟨by simp [WorldV.cells, WorldV.list]⟩
instance wds2 {v : WorldV} : SubAt v.cells 2 2 v.view.cells := ⟨by have := sub_mid (v.p0 ++ v.p1) v.view.list (v.was.list ++ (v.p4 ++ v.p5)) (o := 2) (n := 2) rfl v.view.list_len; simpa [WorldV.cells, WorldV.list, ViewV.cells, List.append_assoc] using this⟩
instance wds4 {v : WorldV} : SubAt v.cells 4 2 v.was.cells := ⟨by have := sub_mid (v.p0 ++ v.p1 ++ v.view.list) v.was.list (v.p4 ++ v.p5) (o := 4) (n := 2) (by simp [ViewV.list_len]) v.was.list_len; simpa [WorldV.cells, WorldV.list, ViewV.cells, List.append_assoc] using this⟩
instance wds6 {v : WorldV} : SubAt v.cells 6 32 (flatV CellV.list v.cs).toArray := ⟨by have := sub_mid (v.p0 ++ v.p1 ++ v.view.list ++ v.was.list) v.p4 v.p5 (o := 6) (n := 32) (by simp [ViewV.list_len]) v.l4; simpa [WorldV.cells, WorldV.list, List.append_assoc] using this⟩
instance wds38 {v : WorldV} : SubAt v.cells 38 30 (flatV ReplyV.list v.last).toArray := ⟨by have := sub_mid (v.p0 ++ v.p1 ++ v.view.list ++ v.was.list ++ v.p4) v.p5 [] (o := 38) (n := 30) (by simp [ViewV.list_len, v.l4]) v.l5; simpa [WorldV.cells, WorldV.list, List.append_assoc] using this⟩
instance cells_arr16 {v : Vector CellV 16} : Cells (flatV CellV.list v).toArray 32 := Cells.list (flatV_length _ 2 CellV.list_len v) (flatV_one _ CellV.list_one v)
instance sub_arr16 {v : Vector CellV 16} : SubAt (flatV CellV.list v).toArray 0 32 (flatV CellV.list v).toArray := ⟨by have h := flatV_length _ 2 CellV.list_len v; apply Array.ext <;> simp [h]⟩
@[reducible] def WorldV.zero : WorldV := ⟨0, 0, ViewV.zero, ViewV.zero, Vector.replicate 16 CellV.zero, Vector.replicate 6 ReplyV.zero⟩
instance wdzero : TyZ Tryz.prog 66 (.agg WorldV.zero.cells) := ⟨by kernel_rfl⟩
end Go.Proofs.YtgeknnclmhfjlaaGreatDoor
