/- Structures for the struct types of worlds, replies, slots, with their cells. Printed by program. -/
import Derived.Test.YtldnfbghjnhklaaGreatDoorTy
import Derived.Test.YtldnfbghjnhklaaGreatDoorSk
namespace Go.Proofs.YtldnfbghjnhklaaGreatDoor
open Go.RowKit Go.Sx
set_option maxRecDepth 100000
set_option linter.unusedSimpArgs false
set_option linter.unusedVariables false
set_option linter.unnecessarySimpa false
structure CellV where
  there : Bool
  n : Int
def CellV.list (v : CellV) : List Value := [.bool v.there] ++ ([.int .i64 v.n])
def CellV.cells (v : CellV) : Array Value := v.list.toArray
theorem CellV.list_len (v : CellV) : v.list.length = 2 := by simp [CellV.list]
theorem CellV.list_one (v : CellV) : v.list.all Value.oneCell' = true := by simp [CellV.list, Value.oneCell']
instance tk7 {v : CellV} : Cells v.cells 2 := Cells.list v.list_len v.list_one
theorem CellV.size (v : CellV) : v.cells.size = 2 := by simp [CellV.cells, CellV.list_len]
instance tk9 {v : CellV} : SubAt v.cells 0 2 v.cells := ⟨by have h := v.size; apply Array.ext <;> simp [h]⟩
instance tk10 {v u : CellV} : Put v.cells 0 (.agg u.cells) u.cells := ⟨by have := put_mid [] v.list [] (v := .agg u.cells) (o := 0) (n := 2) rfl v.list_len u.size; simpa [CellV.cells, Value.cells] using this, by simp [Value.cells, CellV.size]⟩
instance tk11 {v : CellV} : CellAt v.cells 0 (.bool v.there) := ⟨by simp [CellV.cells, CellV.list, List.getElem?_append, hlist_length]⟩
instance tk12 {v : CellV} {u : Bool} : Put v.cells 0 (.bool u) { v with there := u }.cells := by have := Put.mid ([] : List Value) ([.bool v.there]) ([.int .i64 v.n]) (cs := v.cells) (o := 0) (n := 1) (v := .bool u) (by simp [CellV.cells, CellV.list]) (by simp) rfl rfl; simpa [CellV.cells, CellV.list, Value.cells] using this
instance tk13 {v : CellV} : CellAt v.cells 1 (.int .i64 v.n) := ⟨by simp [CellV.cells, CellV.list, List.getElem?_append, hlist_length]⟩
instance tk14 {v : CellV} {u : Int} : Put v.cells 1 (.int .i64 u) { v with n := u }.cells := by have := Put.mid ([.bool v.there]) ([.int .i64 v.n]) ([] : List Value) (cs := v.cells) (o := 1) (n := 1) (v := .int .i64 u) (by simp [CellV.cells, CellV.list]) (by simp) rfl rfl; simpa [CellV.cells, CellV.list, Value.cells] using this
instance tk15 {f0 : Bool} {f1 : Int} : CellAt (CellV.mk f0 f1).cells 0 (.bool f0) := inferInstanceAs (CellAt (CellV.mk f0 f1).cells 0 (.bool (CellV.mk f0 f1).there))
instance tk16 {f0 : Bool} {f1 : Int} {u : Bool} : Put (CellV.mk f0 f1).cells 0 (.bool u) (CellV.mk u f1).cells := inferInstanceAs (Put (CellV.mk f0 f1).cells 0 (.bool u) { (CellV.mk f0 f1) with there := u }.cells)
instance tk17 {f0 : Bool} {f1 : Int} : CellAt (CellV.mk f0 f1).cells 1 (.int .i64 f1) := inferInstanceAs (CellAt (CellV.mk f0 f1).cells 1 (.int .i64 (CellV.mk f0 f1).n))
instance tk18 {f0 : Bool} {f1 : Int} {u : Int} : Put (CellV.mk f0 f1).cells 1 (.int .i64 u) (CellV.mk f0 u).cells := inferInstanceAs (Put (CellV.mk f0 f1).cells 1 (.int .i64 u) { (CellV.mk f0 f1) with n := u }.cells)
@[reducible] def CellV.zero : CellV := { there := false, n := 0 }
instance tk20 : TyZ Tryz.prog 34 (.agg CellV.zero.cells) := ⟨by kernel_rfl⟩
theorem CellV.ext_iff' (x y : CellV) : x = y ↔ x.there = y.there ∧ x.n = y.n := by cases x; cases y; simp
instance tk22 : DecidableEq CellV := fun x y => decidable_of_iff _ (CellV.ext_iff' x y).symm
instance tk23 {x y : CellV} : EqV Tryz.prog 34 (.agg x.cells) (.agg y.cells) (decide (x = y)) := ⟨fun d w => by
  rw [run_equalIn_struct w (d + 3) 34 _ _ (by kernel_rfl) (by kernel_rfl)]
  simp only [Program.fieldsOf, Tryz.underlying34]
  simp only [Op.eqFields, ne_eq, Sem.run_bind, Sem.run_ite, Sem.run_pure, Result.andThen_ok, part1, partN, eqB_run]
  rw [show decide (x = y) = (decide (x.there = y.there) && (decide (x.n = y.n) && true)) from by rw [Bool.eq_iff_iff]; simp [CellV.ext_iff']]
  try simp only [String.reduceEq, not_false_eq_true, if_true, Result.andThen_ok]
  cases decide (x.there = y.there) <;> cases decide (x.n = y.n) <;> rfl⟩
structure ResV where
  oK : Bool
  n : Int
def ResV.list (v : ResV) : List Value := [.bool v.oK] ++ ([.int .i64 v.n])
def ResV.cells (v : ResV) : Array Value := v.list.toArray
theorem ResV.list_len (v : ResV) : v.list.length = 2 := by simp [ResV.list]
theorem ResV.list_one (v : ResV) : v.list.all Value.oneCell' = true := by simp [ResV.list, Value.oneCell']
instance tk37 {v : ResV} : Cells v.cells 2 := Cells.list v.list_len v.list_one
theorem ResV.size (v : ResV) : v.cells.size = 2 := by simp [ResV.cells, ResV.list_len]
instance tk39 {v : ResV} : SubAt v.cells 0 2 v.cells := ⟨by have h := v.size; apply Array.ext <;> simp [h]⟩
instance tk40 {v u : ResV} : Put v.cells 0 (.agg u.cells) u.cells := ⟨by have := put_mid [] v.list [] (v := .agg u.cells) (o := 0) (n := 2) rfl v.list_len u.size; simpa [ResV.cells, Value.cells] using this, by simp [Value.cells, ResV.size]⟩
instance tk41 {v : ResV} : CellAt v.cells 0 (.bool v.oK) := ⟨by simp [ResV.cells, ResV.list, List.getElem?_append, hlist_length]⟩
instance tk42 {v : ResV} {u : Bool} : Put v.cells 0 (.bool u) { v with oK := u }.cells := by have := Put.mid ([] : List Value) ([.bool v.oK]) ([.int .i64 v.n]) (cs := v.cells) (o := 0) (n := 1) (v := .bool u) (by simp [ResV.cells, ResV.list]) (by simp) rfl rfl; simpa [ResV.cells, ResV.list, Value.cells] using this
instance tk43 {v : ResV} : CellAt v.cells 1 (.int .i64 v.n) := ⟨by simp [ResV.cells, ResV.list, List.getElem?_append, hlist_length]⟩
instance tk44 {v : ResV} {u : Int} : Put v.cells 1 (.int .i64 u) { v with n := u }.cells := by have := Put.mid ([.bool v.oK]) ([.int .i64 v.n]) ([] : List Value) (cs := v.cells) (o := 1) (n := 1) (v := .int .i64 u) (by simp [ResV.cells, ResV.list]) (by simp) rfl rfl; simpa [ResV.cells, ResV.list, Value.cells] using this
instance tk45 {f0 : Bool} {f1 : Int} : CellAt (ResV.mk f0 f1).cells 0 (.bool f0) := inferInstanceAs (CellAt (ResV.mk f0 f1).cells 0 (.bool (ResV.mk f0 f1).oK))
instance tk46 {f0 : Bool} {f1 : Int} {u : Bool} : Put (ResV.mk f0 f1).cells 0 (.bool u) (ResV.mk u f1).cells := inferInstanceAs (Put (ResV.mk f0 f1).cells 0 (.bool u) { (ResV.mk f0 f1) with oK := u }.cells)
instance tk47 {f0 : Bool} {f1 : Int} : CellAt (ResV.mk f0 f1).cells 1 (.int .i64 f1) := inferInstanceAs (CellAt (ResV.mk f0 f1).cells 1 (.int .i64 (ResV.mk f0 f1).n))
instance tk48 {f0 : Bool} {f1 : Int} {u : Int} : Put (ResV.mk f0 f1).cells 1 (.int .i64 u) (ResV.mk f0 u).cells := inferInstanceAs (Put (ResV.mk f0 f1).cells 1 (.int .i64 u) { (ResV.mk f0 f1) with n := u }.cells)
@[reducible] def ResV.zero : ResV := { oK := false, n := 0 }
instance tk50 : TyZ Tryz.prog 37 (.agg ResV.zero.cells) := ⟨by kernel_rfl⟩
theorem ResV.ext_iff' (x y : ResV) : x = y ↔ x.oK = y.oK ∧ x.n = y.n := by cases x; cases y; simp
instance tk52 : DecidableEq ResV := fun x y => decidable_of_iff _ (ResV.ext_iff' x y).symm
instance tk53 {x y : ResV} : EqV Tryz.prog 37 (.agg x.cells) (.agg y.cells) (decide (x = y)) := ⟨fun d w => by
  rw [run_equalIn_struct w (d + 3) 37 _ _ (by kernel_rfl) (by kernel_rfl)]
  simp only [Program.fieldsOf, Tryz.underlying37]
  simp only [Op.eqFields, ne_eq, Sem.run_bind, Sem.run_ite, Sem.run_pure, Result.andThen_ok, part1, partN, eqB_run]
  rw [show decide (x = y) = (decide (x.oK = y.oK) && (decide (x.n = y.n) && true)) from by rw [Bool.eq_iff_iff]; simp [ResV.ext_iff']]
  try simp only [String.reduceEq, not_false_eq_true, if_true, Result.andThen_ok]
  cases decide (x.oK = y.oK) <;> cases decide (x.n = y.n) <;> rfl⟩
structure ReplyV where
  client : Int
  seq : Int
  slot : Int
  res : ResV
def ReplyV.list (v : ReplyV) : List Value := [.int .i64 v.client] ++ ([.int .i64 v.seq] ++ ([.int .i64 v.slot] ++ (v.res.list)))
def ReplyV.cells (v : ReplyV) : Array Value := v.list.toArray
theorem ReplyV.list_len (v : ReplyV) : v.list.length = 5 := by simp [ReplyV.list, ResV.list_len]
theorem ReplyV.list_one (v : ReplyV) : v.list.all Value.oneCell' = true := by simp [ReplyV.list, Value.oneCell', ResV.list_one]
instance tk69 {v : ReplyV} : Cells v.cells 5 := Cells.list v.list_len v.list_one
theorem ReplyV.size (v : ReplyV) : v.cells.size = 5 := by simp [ReplyV.cells, ReplyV.list_len]
instance tk71 {v : ReplyV} : SubAt v.cells 0 5 v.cells := ⟨by have h := v.size; apply Array.ext <;> simp [h]⟩
instance tk72 {v u : ReplyV} : Put v.cells 0 (.agg u.cells) u.cells := ⟨by have := put_mid [] v.list [] (v := .agg u.cells) (o := 0) (n := 5) rfl v.list_len u.size; simpa [ReplyV.cells, Value.cells] using this, by simp [Value.cells, ReplyV.size]⟩
instance tk73 {v : ReplyV} : CellAt v.cells 0 (.int .i64 v.client) := ⟨by simp [ReplyV.cells, ReplyV.list, List.getElem?_append, hlist_length, ResV.list_len]⟩
instance tk74 {v : ReplyV} {u : Int} : Put v.cells 0 (.int .i64 u) { v with client := u }.cells := by have := Put.mid ([] : List Value) ([.int .i64 v.client]) ([.int .i64 v.seq] ++ [.int .i64 v.slot] ++ v.res.list) (cs := v.cells) (o := 0) (n := 1) (v := .int .i64 u) (by simp [ReplyV.cells, ReplyV.list]) (by simp [ResV.list_len]) rfl rfl; simpa [ReplyV.cells, ReplyV.list, Value.cells] using this
instance tk75 {v : ReplyV} : CellAt v.cells 1 (.int .i64 v.seq) := ⟨by simp [ReplyV.cells, ReplyV.list, List.getElem?_append, hlist_length, ResV.list_len]⟩
instance tk76 {v : ReplyV} {u : Int} : Put v.cells 1 (.int .i64 u) { v with seq := u }.cells := by have := Put.mid ([.int .i64 v.client]) ([.int .i64 v.seq]) ([.int .i64 v.slot] ++ v.res.list) (cs := v.cells) (o := 1) (n := 1) (v := .int .i64 u) (by simp [ReplyV.cells, ReplyV.list]) (by simp [ResV.list_len]) rfl rfl; simpa [ReplyV.cells, ReplyV.list, Value.cells] using this
instance tk77 {v : ReplyV} : CellAt v.cells 2 (.int .i64 v.slot) := ⟨by simp [ReplyV.cells, ReplyV.list, List.getElem?_append, hlist_length, ResV.list_len]⟩
instance tk78 {v : ReplyV} {u : Int} : Put v.cells 2 (.int .i64 u) { v with slot := u }.cells := by have := Put.mid ([.int .i64 v.client] ++ [.int .i64 v.seq]) ([.int .i64 v.slot]) (v.res.list) (cs := v.cells) (o := 2) (n := 1) (v := .int .i64 u) (by simp [ReplyV.cells, ReplyV.list]) (by simp [ResV.list_len]) rfl rfl; simpa [ReplyV.cells, ReplyV.list, Value.cells] using this
instance tk79 {v : ReplyV} : SubAt v.cells 3 2 v.res.cells := ⟨by first | (simp [ReplyV.cells, ReplyV.list, ResV.list_len]; done) | (have := sub_mid ([.int .i64 v.client] ++ [.int .i64 v.seq] ++ [.int .i64 v.slot]) (v.res.list) ([] : List Value) (o := 3) (n := 2) (by simp [ResV.list_len]) (by simp [ResV.list_len]); simpa [ReplyV.cells, ReplyV.list, ResV.cells] using this)⟩
instance tk80 {v : ReplyV} {u : ResV} : Put v.cells 3 (.agg u.cells) { v with res := u }.cells := by have := Put.mid ([.int .i64 v.client] ++ [.int .i64 v.seq] ++ [.int .i64 v.slot]) (v.res.list) ([] : List Value) (cs := v.cells) (o := 3) (n := 2) (v := .agg u.cells) (by simp [ReplyV.cells, ReplyV.list]) (by simp [ResV.list_len]) (by simp [ResV.list_len]) (by simp [Value.cells, ResV.size]); simp only [Value.cells, ReplyV.cells, ReplyV.list, ResV.cells, List.append_assoc, List.nil_append, List.cons_append] at this ⊢; first | exact this | simpa using this
instance tk81 {v : ReplyV} : CellAt v.cells 3 (.bool v.res.oK) := ⟨by simp [ReplyV.cells, ReplyV.list, ResV.list, List.getElem?_append, hlist_length, ResV.list_len]⟩
instance tk82 {v : ReplyV} {u : Bool} : Put v.cells 3 (.bool u) { v with res := { v.res with oK := u } }.cells := by have := Put.mid (([.int .i64 v.client] ++ [.int .i64 v.seq] ++ [.int .i64 v.slot]) ++ (([] : List Value))) ([.bool v.res.oK]) (([.int .i64 v.res.n] ++ ([] : List Value)) ++ ([] : List Value)) (cs := v.cells) (o := 3) (n := 1) (v := .bool u) (by simp [ReplyV.cells, ReplyV.list, ResV.list]) (by simp [ResV.list_len]) rfl rfl; simpa [ReplyV.cells, ReplyV.list, ResV.list, Value.cells] using this
instance tk83 {v : ReplyV} : CellAt v.cells 4 (.int .i64 v.res.n) := ⟨by simp [ReplyV.cells, ReplyV.list, ResV.list, List.getElem?_append, hlist_length, ResV.list_len]⟩
instance tk84 {v : ReplyV} {u : Int} : Put v.cells 4 (.int .i64 u) { v with res := { v.res with n := u } }.cells := by have := Put.mid (([.int .i64 v.client] ++ [.int .i64 v.seq] ++ [.int .i64 v.slot]) ++ (([] : List Value) ++ [.bool v.res.oK])) ([.int .i64 v.res.n]) ((([] : List Value)) ++ ([] : List Value)) (cs := v.cells) (o := 4) (n := 1) (v := .int .i64 u) (by simp [ReplyV.cells, ReplyV.list, ResV.list]) (by simp [ResV.list_len]) rfl rfl; simpa [ReplyV.cells, ReplyV.list, ResV.list, Value.cells] using this
instance tk85 {f0 : Int} {f1 : Int} {f2 : Int} {f3 : ResV} : CellAt (ReplyV.mk f0 f1 f2 f3).cells 0 (.int .i64 f0) := inferInstanceAs (CellAt (ReplyV.mk f0 f1 f2 f3).cells 0 (.int .i64 (ReplyV.mk f0 f1 f2 f3).client))
instance tk86 {f0 : Int} {f1 : Int} {f2 : Int} {f3 : ResV} {u : Int} : Put (ReplyV.mk f0 f1 f2 f3).cells 0 (.int .i64 u) (ReplyV.mk u f1 f2 f3).cells := inferInstanceAs (Put (ReplyV.mk f0 f1 f2 f3).cells 0 (.int .i64 u) { (ReplyV.mk f0 f1 f2 f3) with client := u }.cells)
instance tk87 {f0 : Int} {f1 : Int} {f2 : Int} {f3 : ResV} : CellAt (ReplyV.mk f0 f1 f2 f3).cells 1 (.int .i64 f1) := inferInstanceAs (CellAt (ReplyV.mk f0 f1 f2 f3).cells 1 (.int .i64 (ReplyV.mk f0 f1 f2 f3).seq))
instance tk88 {f0 : Int} {f1 : Int} {f2 : Int} {f3 : ResV} {u : Int} : Put (ReplyV.mk f0 f1 f2 f3).cells 1 (.int .i64 u) (ReplyV.mk f0 u f2 f3).cells := inferInstanceAs (Put (ReplyV.mk f0 f1 f2 f3).cells 1 (.int .i64 u) { (ReplyV.mk f0 f1 f2 f3) with seq := u }.cells)
instance tk89 {f0 : Int} {f1 : Int} {f2 : Int} {f3 : ResV} : CellAt (ReplyV.mk f0 f1 f2 f3).cells 2 (.int .i64 f2) := inferInstanceAs (CellAt (ReplyV.mk f0 f1 f2 f3).cells 2 (.int .i64 (ReplyV.mk f0 f1 f2 f3).slot))
instance tk90 {f0 : Int} {f1 : Int} {f2 : Int} {f3 : ResV} {u : Int} : Put (ReplyV.mk f0 f1 f2 f3).cells 2 (.int .i64 u) (ReplyV.mk f0 f1 u f3).cells := inferInstanceAs (Put (ReplyV.mk f0 f1 f2 f3).cells 2 (.int .i64 u) { (ReplyV.mk f0 f1 f2 f3) with slot := u }.cells)
@[reducible] def ReplyV.zero : ReplyV := { client := 0, seq := 0, slot := 0, res := ResV.zero }
instance tk92 : TyZ Tryz.prog 39 (.agg ReplyV.zero.cells) := ⟨by kernel_rfl⟩
structure SlotV where
  n : Int
  hash : Vector UInt8 32
  batch : BS
  parts : PS
def SlotV.list (v : SlotV) : List Value := [.int .i64 v.n] ++ (hlist v.hash ++ ([.slice v.batch.a v.batch.l.length v.batch.c] ++ ([.slice v.parts.a v.parts.ls.length v.parts.c])))
def SlotV.cells (v : SlotV) : Array Value := v.list.toArray
theorem SlotV.list_len (v : SlotV) : v.list.length = 35 := by simp [SlotV.list]
theorem SlotV.list_one (v : SlotV) : v.list.all Value.oneCell' = true := by simp [SlotV.list, Value.oneCell']
instance tk102 {v : SlotV} : Cells v.cells 35 := Cells.list v.list_len v.list_one
theorem SlotV.size (v : SlotV) : v.cells.size = 35 := by simp [SlotV.cells, SlotV.list_len]
instance tk104 {v : SlotV} : SubAt v.cells 0 35 v.cells := ⟨by have h := v.size; apply Array.ext <;> simp [h]⟩
instance tk105 {v u : SlotV} : Put v.cells 0 (.agg u.cells) u.cells := ⟨by have := put_mid [] v.list [] (v := .agg u.cells) (o := 0) (n := 35) rfl v.list_len u.size; simpa [SlotV.cells, Value.cells] using this, by simp [Value.cells, SlotV.size]⟩
instance tk106 {v : SlotV} : CellAt v.cells 0 (.int .i64 v.n) := ⟨by simp [SlotV.cells, SlotV.list, List.getElem?_append, hlist_length]⟩
instance tk107 {v : SlotV} {u : Int} : Put v.cells 0 (.int .i64 u) { v with n := u }.cells := by have := Put.mid ([] : List Value) ([.int .i64 v.n]) (hlist v.hash ++ [.slice v.batch.a v.batch.l.length v.batch.c] ++ [.slice v.parts.a v.parts.ls.length v.parts.c]) (cs := v.cells) (o := 0) (n := 1) (v := .int .i64 u) (by simp [SlotV.cells, SlotV.list]) (by simp) rfl rfl; simpa [SlotV.cells, SlotV.list, Value.cells] using this
instance tk108 {v : SlotV} : SubAt v.cells 1 32 (hlist v.hash).toArray := ⟨by first | (simp [SlotV.cells, SlotV.list]; done) | (have := sub_mid ([.int .i64 v.n]) (hlist v.hash) ([.slice v.batch.a v.batch.l.length v.batch.c] ++ [.slice v.parts.a v.parts.ls.length v.parts.c]) (o := 1) (n := 32) (by simp) (by simp); simpa [SlotV.cells, SlotV.list] using this)⟩
instance tk109 {v : SlotV} {u : Vector UInt8 32} : Put v.cells 1 (.agg (hlist u).toArray) { v with hash := u }.cells := by have := Put.mid ([.int .i64 v.n]) (hlist v.hash) ([.slice v.batch.a v.batch.l.length v.batch.c] ++ [.slice v.parts.a v.parts.ls.length v.parts.c]) (cs := v.cells) (o := 1) (n := 32) (v := .agg (hlist u).toArray) (by simp [SlotV.cells, SlotV.list]) (by simp) (by simp) (by simp [Value.cells]); simp only [Value.cells, SlotV.cells, SlotV.list, List.append_assoc, List.nil_append, List.cons_append] at this ⊢; first | exact this | simpa using this
instance tk110 {v : SlotV} : CellAt v.cells 33 (.slice v.batch.a v.batch.l.length v.batch.c) := ⟨by simp [SlotV.cells, SlotV.list, List.getElem?_append, hlist_length]⟩
instance tk111 {v : SlotV} {a : Option Addr} {l : List UInt8} {c : Nat} : Put v.cells 33 (.slice a l.length c) { v with batch := ⟨a, c, l⟩ }.cells := by have := Put.mid ([.int .i64 v.n] ++ hlist v.hash) ([.slice v.batch.a v.batch.l.length v.batch.c]) ([.slice v.parts.a v.parts.ls.length v.parts.c]) (cs := v.cells) (o := 33) (n := 1) (v := .slice a l.length c) (by simp [SlotV.cells, SlotV.list]) (by simp) rfl rfl; simpa [SlotV.cells, SlotV.list, Value.cells] using this
instance (priority := high) tk112 {v : SlotV} : Put v.cells 33 (.slice none 0 0) { v with batch := ⟨none, 0, []⟩ }.cells := by have := Put.mid ([.int .i64 v.n] ++ hlist v.hash) ([.slice v.batch.a v.batch.l.length v.batch.c]) ([.slice v.parts.a v.parts.ls.length v.parts.c]) (cs := v.cells) (o := 33) (n := 1) (v := .slice none 0 0) (by simp [SlotV.cells, SlotV.list]) (by simp) rfl rfl; simpa [SlotV.cells, SlotV.list, Value.cells] using this
instance tk113 {v : SlotV} : CellAt v.cells 34 (.slice v.parts.a v.parts.ls.length v.parts.c) := ⟨by simp [SlotV.cells, SlotV.list, List.getElem?_append, hlist_length]⟩
instance tk114 {v : SlotV} {a : Option Addr} {l : List BS} {c : Nat} : Put v.cells 34 (.slice a l.length c) { v with parts := ⟨a, c, l⟩ }.cells := by have := Put.mid ([.int .i64 v.n] ++ hlist v.hash ++ [.slice v.batch.a v.batch.l.length v.batch.c]) ([.slice v.parts.a v.parts.ls.length v.parts.c]) ([] : List Value) (cs := v.cells) (o := 34) (n := 1) (v := .slice a l.length c) (by simp [SlotV.cells, SlotV.list]) (by simp) rfl rfl; simpa [SlotV.cells, SlotV.list, Value.cells] using this
instance (priority := high) tk115 {v : SlotV} : Put v.cells 34 (.slice none 0 0) { v with parts := ⟨none, 0, []⟩ }.cells := by have := Put.mid ([.int .i64 v.n] ++ hlist v.hash ++ [.slice v.batch.a v.batch.l.length v.batch.c]) ([.slice v.parts.a v.parts.ls.length v.parts.c]) ([] : List Value) (cs := v.cells) (o := 34) (n := 1) (v := .slice none 0 0) (by simp [SlotV.cells, SlotV.list]) (by simp) rfl rfl; simpa [SlotV.cells, SlotV.list, Value.cells] using this
instance tk116 {f0 : Int} {f1 : Vector UInt8 32} {f2 : BS} {f3 : PS} : CellAt (SlotV.mk f0 f1 f2 f3).cells 0 (.int .i64 f0) := inferInstanceAs (CellAt (SlotV.mk f0 f1 f2 f3).cells 0 (.int .i64 (SlotV.mk f0 f1 f2 f3).n))
instance tk117 {f0 : Int} {f1 : Vector UInt8 32} {f2 : BS} {f3 : PS} {u : Int} : Put (SlotV.mk f0 f1 f2 f3).cells 0 (.int .i64 u) (SlotV.mk u f1 f2 f3).cells := inferInstanceAs (Put (SlotV.mk f0 f1 f2 f3).cells 0 (.int .i64 u) { (SlotV.mk f0 f1 f2 f3) with n := u }.cells)
instance tk118 {f0 : Int} {f1 : Vector UInt8 32} {f2 : BS} {f3 : PS} {u : Vector UInt8 32} : Put (SlotV.mk f0 f1 f2 f3).cells 1 (.agg (hlist u).toArray) (SlotV.mk f0 u f2 f3).cells := inferInstanceAs (Put (SlotV.mk f0 f1 f2 f3).cells 1 (.agg (hlist u).toArray) { (SlotV.mk f0 f1 f2 f3) with hash := u }.cells)
instance tk119 {f0 : Int} {f1 : Vector UInt8 32} {f2 : BS} {f3 : PS} : SubAt (SlotV.mk f0 f1 f2 f3).cells 1 32 (hlist f1).toArray := inferInstanceAs (SubAt (SlotV.mk f0 f1 f2 f3).cells 1 32 (hlist (SlotV.mk f0 f1 f2 f3).hash).toArray)
instance tk120 {f0 : Int} {f1 : Vector UInt8 32} {f2 : BS} {f3 : PS} : CellAt (SlotV.mk f0 f1 f2 f3).cells 33 (.slice f2.a f2.l.length f2.c) := inferInstanceAs (CellAt (SlotV.mk f0 f1 f2 f3).cells 33 (.slice (SlotV.mk f0 f1 f2 f3).batch.a (SlotV.mk f0 f1 f2 f3).batch.l.length (SlotV.mk f0 f1 f2 f3).batch.c))
instance tk121 {f0 : Int} {f1 : Vector UInt8 32} {f3 : PS} {a : Option Addr} {c : Nat} {l : List UInt8} : CellAt (SlotV.mk f0 f1 (BS.mk a c l) f3).cells 33 (.slice a l.length c) := inferInstanceAs (CellAt (SlotV.mk f0 f1 (BS.mk a c l) f3).cells 33 (.slice (SlotV.mk f0 f1 (BS.mk a c l) f3).batch.a (SlotV.mk f0 f1 (BS.mk a c l) f3).batch.l.length (SlotV.mk f0 f1 (BS.mk a c l) f3).batch.c))
instance tk122 {f0 : Int} {f1 : Vector UInt8 32} {f2 : BS} {f3 : PS} {a : Option Addr} {c : Nat} {l : List UInt8} : Put (SlotV.mk f0 f1 f2 f3).cells 33 (.slice a l.length c) (SlotV.mk f0 f1 (BS.mk a c l) f3).cells := inferInstanceAs (Put (SlotV.mk f0 f1 f2 f3).cells 33 (.slice a l.length c) { (SlotV.mk f0 f1 f2 f3) with batch := (BS.mk a c l) }.cells)
instance (priority := high) tk123 {f0 : Int} {f1 : Vector UInt8 32} {f2 : BS} {f3 : PS} : Put (SlotV.mk f0 f1 f2 f3).cells 33 (.slice none 0 0) (SlotV.mk f0 f1 ⟨none, 0, []⟩ f3).cells := inferInstanceAs (Put (SlotV.mk f0 f1 f2 f3).cells 33 (.slice none 0 0) { (SlotV.mk f0 f1 f2 f3) with batch := ⟨none, 0, []⟩ }.cells)
instance tk124 {f0 : Int} {f1 : Vector UInt8 32} {f2 : BS} {f3 : PS} : CellAt (SlotV.mk f0 f1 f2 f3).cells 34 (.slice f3.a f3.ls.length f3.c) := inferInstanceAs (CellAt (SlotV.mk f0 f1 f2 f3).cells 34 (.slice (SlotV.mk f0 f1 f2 f3).parts.a (SlotV.mk f0 f1 f2 f3).parts.ls.length (SlotV.mk f0 f1 f2 f3).parts.c))
instance tk125 {f0 : Int} {f1 : Vector UInt8 32} {f2 : BS} {a : Option Addr} {c : Nat} {l : List BS} : CellAt (SlotV.mk f0 f1 f2 (PS.mk a c l)).cells 34 (.slice a l.length c) := inferInstanceAs (CellAt (SlotV.mk f0 f1 f2 (PS.mk a c l)).cells 34 (.slice (SlotV.mk f0 f1 f2 (PS.mk a c l)).parts.a (SlotV.mk f0 f1 f2 (PS.mk a c l)).parts.ls.length (SlotV.mk f0 f1 f2 (PS.mk a c l)).parts.c))
instance tk126 {f0 : Int} {f1 : Vector UInt8 32} {f2 : BS} {f3 : PS} {a : Option Addr} {c : Nat} {l : List BS} : Put (SlotV.mk f0 f1 f2 f3).cells 34 (.slice a l.length c) (SlotV.mk f0 f1 f2 (PS.mk a c l)).cells := inferInstanceAs (Put (SlotV.mk f0 f1 f2 f3).cells 34 (.slice a l.length c) { (SlotV.mk f0 f1 f2 f3) with parts := (PS.mk a c l) }.cells)
instance (priority := high) tk127 {f0 : Int} {f1 : Vector UInt8 32} {f2 : BS} {f3 : PS} : Put (SlotV.mk f0 f1 f2 f3).cells 34 (.slice none 0 0) (SlotV.mk f0 f1 f2 ⟨none, 0, []⟩).cells := inferInstanceAs (Put (SlotV.mk f0 f1 f2 f3).cells 34 (.slice none 0 0) { (SlotV.mk f0 f1 f2 f3) with parts := ⟨none, 0, []⟩ }.cells)
@[reducible] def SlotV.zero : SlotV := { n := 0, hash := zeroV 32, batch := ⟨none, 0, []⟩, parts := ⟨none, 0, []⟩ }
instance tk129 : TyZ Tryz.prog 48 (.agg SlotV.zero.cells) := ⟨by kernel_rfl⟩
structure OpV where
  kind : Int
  key : Int
  a : Int
  b : Int
def OpV.list (v : OpV) : List Value := [.int .i64 v.kind] ++ ([.int .i64 v.key] ++ ([.int .i64 v.a] ++ ([.int .i64 v.b])))
def OpV.cells (v : OpV) : Array Value := v.list.toArray
theorem OpV.list_len (v : OpV) : v.list.length = 4 := by simp [OpV.list]
theorem OpV.list_one (v : OpV) : v.list.all Value.oneCell' = true := by simp [OpV.list, Value.oneCell']
instance tk139 {v : OpV} : Cells v.cells 4 := Cells.list v.list_len v.list_one
theorem OpV.size (v : OpV) : v.cells.size = 4 := by simp [OpV.cells, OpV.list_len]
instance tk141 {v : OpV} : SubAt v.cells 0 4 v.cells := ⟨by have h := v.size; apply Array.ext <;> simp [h]⟩
instance tk142 {v u : OpV} : Put v.cells 0 (.agg u.cells) u.cells := ⟨by have := put_mid [] v.list [] (v := .agg u.cells) (o := 0) (n := 4) rfl v.list_len u.size; simpa [OpV.cells, Value.cells] using this, by simp [Value.cells, OpV.size]⟩
instance tk143 {v : OpV} : CellAt v.cells 0 (.int .i64 v.kind) := ⟨by simp [OpV.cells, OpV.list, List.getElem?_append, hlist_length]⟩
instance tk144 {v : OpV} {u : Int} : Put v.cells 0 (.int .i64 u) { v with kind := u }.cells := by have := Put.mid ([] : List Value) ([.int .i64 v.kind]) ([.int .i64 v.key] ++ [.int .i64 v.a] ++ [.int .i64 v.b]) (cs := v.cells) (o := 0) (n := 1) (v := .int .i64 u) (by simp [OpV.cells, OpV.list]) (by simp) rfl rfl; simpa [OpV.cells, OpV.list, Value.cells] using this
instance tk145 {v : OpV} : CellAt v.cells 1 (.int .i64 v.key) := ⟨by simp [OpV.cells, OpV.list, List.getElem?_append, hlist_length]⟩
instance tk146 {v : OpV} {u : Int} : Put v.cells 1 (.int .i64 u) { v with key := u }.cells := by have := Put.mid ([.int .i64 v.kind]) ([.int .i64 v.key]) ([.int .i64 v.a] ++ [.int .i64 v.b]) (cs := v.cells) (o := 1) (n := 1) (v := .int .i64 u) (by simp [OpV.cells, OpV.list]) (by simp) rfl rfl; simpa [OpV.cells, OpV.list, Value.cells] using this
instance tk147 {v : OpV} : CellAt v.cells 2 (.int .i64 v.a) := ⟨by simp [OpV.cells, OpV.list, List.getElem?_append, hlist_length]⟩
instance tk148 {v : OpV} {u : Int} : Put v.cells 2 (.int .i64 u) { v with a := u }.cells := by have := Put.mid ([.int .i64 v.kind] ++ [.int .i64 v.key]) ([.int .i64 v.a]) ([.int .i64 v.b]) (cs := v.cells) (o := 2) (n := 1) (v := .int .i64 u) (by simp [OpV.cells, OpV.list]) (by simp) rfl rfl; simpa [OpV.cells, OpV.list, Value.cells] using this
instance tk149 {v : OpV} : CellAt v.cells 3 (.int .i64 v.b) := ⟨by simp [OpV.cells, OpV.list, List.getElem?_append, hlist_length]⟩
instance tk150 {v : OpV} {u : Int} : Put v.cells 3 (.int .i64 u) { v with b := u }.cells := by have := Put.mid ([.int .i64 v.kind] ++ [.int .i64 v.key] ++ [.int .i64 v.a]) ([.int .i64 v.b]) ([] : List Value) (cs := v.cells) (o := 3) (n := 1) (v := .int .i64 u) (by simp [OpV.cells, OpV.list]) (by simp) rfl rfl; simpa [OpV.cells, OpV.list, Value.cells] using this
instance tk151 {f0 : Int} {f1 : Int} {f2 : Int} {f3 : Int} : CellAt (OpV.mk f0 f1 f2 f3).cells 0 (.int .i64 f0) := inferInstanceAs (CellAt (OpV.mk f0 f1 f2 f3).cells 0 (.int .i64 (OpV.mk f0 f1 f2 f3).kind))
instance tk152 {f0 : Int} {f1 : Int} {f2 : Int} {f3 : Int} {u : Int} : Put (OpV.mk f0 f1 f2 f3).cells 0 (.int .i64 u) (OpV.mk u f1 f2 f3).cells := inferInstanceAs (Put (OpV.mk f0 f1 f2 f3).cells 0 (.int .i64 u) { (OpV.mk f0 f1 f2 f3) with kind := u }.cells)
instance tk153 {f0 : Int} {f1 : Int} {f2 : Int} {f3 : Int} : CellAt (OpV.mk f0 f1 f2 f3).cells 1 (.int .i64 f1) := inferInstanceAs (CellAt (OpV.mk f0 f1 f2 f3).cells 1 (.int .i64 (OpV.mk f0 f1 f2 f3).key))
instance tk154 {f0 : Int} {f1 : Int} {f2 : Int} {f3 : Int} {u : Int} : Put (OpV.mk f0 f1 f2 f3).cells 1 (.int .i64 u) (OpV.mk f0 u f2 f3).cells := inferInstanceAs (Put (OpV.mk f0 f1 f2 f3).cells 1 (.int .i64 u) { (OpV.mk f0 f1 f2 f3) with key := u }.cells)
instance tk155 {f0 : Int} {f1 : Int} {f2 : Int} {f3 : Int} : CellAt (OpV.mk f0 f1 f2 f3).cells 2 (.int .i64 f2) := inferInstanceAs (CellAt (OpV.mk f0 f1 f2 f3).cells 2 (.int .i64 (OpV.mk f0 f1 f2 f3).a))
instance tk156 {f0 : Int} {f1 : Int} {f2 : Int} {f3 : Int} {u : Int} : Put (OpV.mk f0 f1 f2 f3).cells 2 (.int .i64 u) (OpV.mk f0 f1 u f3).cells := inferInstanceAs (Put (OpV.mk f0 f1 f2 f3).cells 2 (.int .i64 u) { (OpV.mk f0 f1 f2 f3) with a := u }.cells)
instance tk157 {f0 : Int} {f1 : Int} {f2 : Int} {f3 : Int} : CellAt (OpV.mk f0 f1 f2 f3).cells 3 (.int .i64 f3) := inferInstanceAs (CellAt (OpV.mk f0 f1 f2 f3).cells 3 (.int .i64 (OpV.mk f0 f1 f2 f3).b))
instance tk158 {f0 : Int} {f1 : Int} {f2 : Int} {f3 : Int} {u : Int} : Put (OpV.mk f0 f1 f2 f3).cells 3 (.int .i64 u) (OpV.mk f0 f1 f2 u).cells := inferInstanceAs (Put (OpV.mk f0 f1 f2 f3).cells 3 (.int .i64 u) { (OpV.mk f0 f1 f2 f3) with b := u }.cells)
@[reducible] def OpV.zero : OpV := { kind := 0, key := 0, a := 0, b := 0 }
instance tk160 : TyZ Tryz.prog 85 (.agg OpV.zero.cells) := ⟨by kernel_rfl⟩
structure MarkV where
  frm : Int
  slot : Int
def MarkV.list (v : MarkV) : List Value := [.int .i64 v.frm] ++ ([.int .i64 v.slot])
def MarkV.cells (v : MarkV) : Array Value := v.list.toArray
theorem MarkV.list_len (v : MarkV) : v.list.length = 2 := by simp [MarkV.list]
theorem MarkV.list_one (v : MarkV) : v.list.all Value.oneCell' = true := by simp [MarkV.list, Value.oneCell']
instance tk168 {v : MarkV} : Cells v.cells 2 := Cells.list v.list_len v.list_one
theorem MarkV.size (v : MarkV) : v.cells.size = 2 := by simp [MarkV.cells, MarkV.list_len]
instance tk170 {v : MarkV} : SubAt v.cells 0 2 v.cells := ⟨by have h := v.size; apply Array.ext <;> simp [h]⟩
instance tk171 {v u : MarkV} : Put v.cells 0 (.agg u.cells) u.cells := ⟨by have := put_mid [] v.list [] (v := .agg u.cells) (o := 0) (n := 2) rfl v.list_len u.size; simpa [MarkV.cells, Value.cells] using this, by simp [Value.cells, MarkV.size]⟩
instance tk172 {v : MarkV} : CellAt v.cells 0 (.int .i64 v.frm) := ⟨by simp [MarkV.cells, MarkV.list, List.getElem?_append, hlist_length]⟩
instance tk173 {v : MarkV} {u : Int} : Put v.cells 0 (.int .i64 u) { v with frm := u }.cells := by have := Put.mid ([] : List Value) ([.int .i64 v.frm]) ([.int .i64 v.slot]) (cs := v.cells) (o := 0) (n := 1) (v := .int .i64 u) (by simp [MarkV.cells, MarkV.list]) (by simp) rfl rfl; simpa [MarkV.cells, MarkV.list, Value.cells] using this
instance tk174 {v : MarkV} : CellAt v.cells 1 (.int .i64 v.slot) := ⟨by simp [MarkV.cells, MarkV.list, List.getElem?_append, hlist_length]⟩
instance tk175 {v : MarkV} {u : Int} : Put v.cells 1 (.int .i64 u) { v with slot := u }.cells := by have := Put.mid ([.int .i64 v.frm]) ([.int .i64 v.slot]) ([] : List Value) (cs := v.cells) (o := 1) (n := 1) (v := .int .i64 u) (by simp [MarkV.cells, MarkV.list]) (by simp) rfl rfl; simpa [MarkV.cells, MarkV.list, Value.cells] using this
instance tk176 {f0 : Int} {f1 : Int} : CellAt (MarkV.mk f0 f1).cells 0 (.int .i64 f0) := inferInstanceAs (CellAt (MarkV.mk f0 f1).cells 0 (.int .i64 (MarkV.mk f0 f1).frm))
instance tk177 {f0 : Int} {f1 : Int} {u : Int} : Put (MarkV.mk f0 f1).cells 0 (.int .i64 u) (MarkV.mk u f1).cells := inferInstanceAs (Put (MarkV.mk f0 f1).cells 0 (.int .i64 u) { (MarkV.mk f0 f1) with frm := u }.cells)
instance tk178 {f0 : Int} {f1 : Int} : CellAt (MarkV.mk f0 f1).cells 1 (.int .i64 f1) := inferInstanceAs (CellAt (MarkV.mk f0 f1).cells 1 (.int .i64 (MarkV.mk f0 f1).slot))
instance tk179 {f0 : Int} {f1 : Int} {u : Int} : Put (MarkV.mk f0 f1).cells 1 (.int .i64 u) (MarkV.mk f0 u).cells := inferInstanceAs (Put (MarkV.mk f0 f1).cells 1 (.int .i64 u) { (MarkV.mk f0 f1) with slot := u }.cells)
@[reducible] def MarkV.zero : MarkV := { frm := 0, slot := 0 }
instance tk181 : TyZ Tryz.prog 201 (.agg MarkV.zero.cells) := ⟨by kernel_rfl⟩
theorem MarkV.ext_iff' (x y : MarkV) : x = y ↔ x.frm = y.frm ∧ x.slot = y.slot := by cases x; cases y; simp
instance tk183 : DecidableEq MarkV := fun x y => decidable_of_iff _ (MarkV.ext_iff' x y).symm
instance tk184 {x y : MarkV} : EqV Tryz.prog 201 (.agg x.cells) (.agg y.cells) (decide (x = y)) := ⟨fun d w => by
  rw [run_equalIn_struct w (d + 3) 201 _ _ (by kernel_rfl) (by kernel_rfl)]
  simp only [Program.fieldsOf, Tryz.underlying201]
  simp only [Op.eqFields, ne_eq, Sem.run_bind, Sem.run_ite, Sem.run_pure, Result.andThen_ok, part1, partN, eqB_run]
  rw [show decide (x = y) = (decide (x.frm = y.frm) && (decide (x.slot = y.slot) && true)) from by rw [Bool.eq_iff_iff]; simp [MarkV.ext_iff']]
  try simp only [String.reduceEq, not_false_eq_true, if_true, Result.andThen_ok]
  cases decide (x.frm = y.frm) <;> cases decide (x.slot = y.slot) <;> rfl⟩
structure TallyV where
  slot : Int
  hash : Vector UInt8 32
def TallyV.list (v : TallyV) : List Value := [.int .i64 v.slot] ++ (hlist v.hash)
def TallyV.cells (v : TallyV) : Array Value := v.list.toArray
theorem TallyV.list_len (v : TallyV) : v.list.length = 33 := by simp [TallyV.list]
theorem TallyV.list_one (v : TallyV) : v.list.all Value.oneCell' = true := by simp [TallyV.list, Value.oneCell']
instance tk198 {v : TallyV} : Cells v.cells 33 := Cells.list v.list_len v.list_one
theorem TallyV.size (v : TallyV) : v.cells.size = 33 := by simp [TallyV.cells, TallyV.list_len]
instance tk200 {v : TallyV} : SubAt v.cells 0 33 v.cells := ⟨by have h := v.size; apply Array.ext <;> simp [h]⟩
instance tk201 {v u : TallyV} : Put v.cells 0 (.agg u.cells) u.cells := ⟨by have := put_mid [] v.list [] (v := .agg u.cells) (o := 0) (n := 33) rfl v.list_len u.size; simpa [TallyV.cells, Value.cells] using this, by simp [Value.cells, TallyV.size]⟩
instance tk202 {v : TallyV} : CellAt v.cells 0 (.int .i64 v.slot) := ⟨by simp [TallyV.cells, TallyV.list, List.getElem?_append, hlist_length]⟩
instance tk203 {v : TallyV} {u : Int} : Put v.cells 0 (.int .i64 u) { v with slot := u }.cells := by have := Put.mid ([] : List Value) ([.int .i64 v.slot]) (hlist v.hash) (cs := v.cells) (o := 0) (n := 1) (v := .int .i64 u) (by simp [TallyV.cells, TallyV.list]) (by simp) rfl rfl; simpa [TallyV.cells, TallyV.list, Value.cells] using this
instance tk204 {v : TallyV} : SubAt v.cells 1 32 (hlist v.hash).toArray := ⟨by first | (simp [TallyV.cells, TallyV.list]; done) | (have := sub_mid ([.int .i64 v.slot]) (hlist v.hash) ([] : List Value) (o := 1) (n := 32) (by simp) (by simp); simpa [TallyV.cells, TallyV.list] using this)⟩
instance tk205 {v : TallyV} {u : Vector UInt8 32} : Put v.cells 1 (.agg (hlist u).toArray) { v with hash := u }.cells := by have := Put.mid ([.int .i64 v.slot]) (hlist v.hash) ([] : List Value) (cs := v.cells) (o := 1) (n := 32) (v := .agg (hlist u).toArray) (by simp [TallyV.cells, TallyV.list]) (by simp) (by simp) (by simp [Value.cells]); simp only [Value.cells, TallyV.cells, TallyV.list, List.append_assoc, List.nil_append, List.cons_append] at this ⊢; first | exact this | simpa using this
instance tk206 {f0 : Int} {f1 : Vector UInt8 32} : CellAt (TallyV.mk f0 f1).cells 0 (.int .i64 f0) := inferInstanceAs (CellAt (TallyV.mk f0 f1).cells 0 (.int .i64 (TallyV.mk f0 f1).slot))
instance tk207 {f0 : Int} {f1 : Vector UInt8 32} {u : Int} : Put (TallyV.mk f0 f1).cells 0 (.int .i64 u) (TallyV.mk u f1).cells := inferInstanceAs (Put (TallyV.mk f0 f1).cells 0 (.int .i64 u) { (TallyV.mk f0 f1) with slot := u }.cells)
instance tk208 {f0 : Int} {f1 : Vector UInt8 32} {u : Vector UInt8 32} : Put (TallyV.mk f0 f1).cells 1 (.agg (hlist u).toArray) (TallyV.mk f0 u).cells := inferInstanceAs (Put (TallyV.mk f0 f1).cells 1 (.agg (hlist u).toArray) { (TallyV.mk f0 f1) with hash := u }.cells)
instance tk209 {f0 : Int} {f1 : Vector UInt8 32} : SubAt (TallyV.mk f0 f1).cells 1 32 (hlist f1).toArray := inferInstanceAs (SubAt (TallyV.mk f0 f1).cells 1 32 (hlist (TallyV.mk f0 f1).hash).toArray)
@[reducible] def TallyV.zero : TallyV := { slot := 0, hash := zeroV 32 }
instance tk211 : TyZ Tryz.prog 203 (.agg TallyV.zero.cells) := ⟨by kernel_rfl⟩
theorem TallyV.ext_iff' (x y : TallyV) : x = y ↔ x.slot = y.slot ∧ x.hash = y.hash := by cases x; cases y; simp
instance tk213 : DecidableEq TallyV := fun x y => decidable_of_iff _ (TallyV.ext_iff' x y).symm
instance tk214 {x y : TallyV} : EqV Tryz.prog 203 (.agg x.cells) (.agg y.cells) (decide (x = y)) := ⟨fun d w => by
  rw [run_equalIn_struct w (d + 3) 203 _ _ (by kernel_rfl) (by kernel_rfl)]
  simp only [Program.fieldsOf, Tryz.underlying203]
  simp only [Op.eqFields, ne_eq, Sem.run_bind, Sem.run_ite, Sem.run_pure, Result.andThen_ok, part1, partN, eqB_run]
  rw [show decide (x = y) = (decide (x.slot = y.slot) && (decide (x.hash = y.hash) && true)) from by rw [Bool.eq_iff_iff]; simp [TallyV.ext_iff']]
  try simp only [String.reduceEq, not_false_eq_true, if_true, Result.andThen_ok]
  cases decide (x.slot = y.slot) <;> cases decide (x.hash = y.hash) <;> rfl⟩
structure WorldV where
  slot : Int
  first : Int
  view : ViewV
  was : ViewV
  cs : Vector CellV 16
  last : Vector ReplyV 6
abbrev WorldV.p0 (v : WorldV) : List Value := [.int .i64 v.slot]
abbrev WorldV.p1 (v : WorldV) : List Value := [.int .i64 v.first]
abbrev WorldV.p4 (v : WorldV) : List Value := flatV CellV.list v.cs
abbrev WorldV.p5 (v : WorldV) : List Value := flatV ReplyV.list v.last
theorem WorldV.l4 (v : WorldV) : v.p4.length = 32 := flatV_length _ 2 CellV.list_len v.cs
theorem WorldV.l5 (v : WorldV) : v.p5.length = 30 := flatV_length _ 5 ReplyV.list_len v.last
def WorldV.list (v : WorldV) : List Value := v.p0 ++ (v.p1 ++ (v.view.list ++ (v.was.list ++ (v.p4 ++ (v.p5)))))
def WorldV.cells (v : WorldV) : Array Value := v.list.toArray
theorem WorldV.list_len (v : WorldV) : v.list.length = 68 := by simp only [WorldV.list, List.length_append, ViewV.list_len, v.l4, v.l5, List.length_singleton]
theorem WorldV.list_one (v : WorldV) : v.list.all Value.oneCell' = true := by
  simp only [WorldV.list, List.all_append, ViewV.list_one, flatV_one _ CellV.list_one, flatV_one _ ReplyV.list_one]; rfl
instance wdcells {v : WorldV} : Cells v.cells 68 := Cells.list v.list_len v.list_one
theorem WorldV.size (v : WorldV) : v.cells.size = 68 := by simp [WorldV.cells, WorldV.list_len]
instance wdsub {v : WorldV} : SubAt v.cells 0 68 v.cells := ⟨by have h := v.size; apply Array.ext <;> simp [h]⟩
instance wdput {v u : WorldV} : Put v.cells 0 (.agg u.cells) u.cells := ⟨by have := put_mid [] v.list [] (v := .agg u.cells) (o := 0) (n := 68) rfl v.list_len u.size; simpa [WorldV.cells, Value.cells] using this, by simp [Value.cells, WorldV.size]⟩
instance wdc0 {v : WorldV} : CellAt v.cells 0 (.int .i64 v.slot) := ⟨by simp [WorldV.cells, WorldV.list]⟩
instance wdc1 {v : WorldV} : CellAt v.cells 1 (.int .i64 v.first) := ⟨by simp [WorldV.cells, WorldV.list]⟩
instance wdc2 {v : WorldV} : CellAt v.cells 2 (.int .i64 v.view.num) := ⟨by simp [WorldV.cells, WorldV.list, ViewV.list]⟩
instance wdc3 {v : WorldV} : CellAt v.cells 3 (.int .u16 v.view.mask) := ⟨by simp [WorldV.cells, WorldV.list, ViewV.list]⟩
instance wdc4 {v : WorldV} : CellAt v.cells 4 (.int .i64 v.was.num) := ⟨by simp [WorldV.cells, WorldV.list, ViewV.list]⟩
instance wdc5 {v : WorldV} : CellAt v.cells 5 (.int .u16 v.was.mask) := ⟨by simp [WorldV.cells, WorldV.list, ViewV.list]⟩
instance wds2 {v : WorldV} : SubAt v.cells 2 2 v.view.cells := ⟨by have := sub_mid (v.p0 ++ v.p1) v.view.list (v.was.list ++ (v.p4 ++ v.p5)) (o := 2) (n := 2) rfl v.view.list_len; simpa [WorldV.cells, WorldV.list, ViewV.cells, List.append_assoc] using this⟩
instance wds4 {v : WorldV} : SubAt v.cells 4 2 v.was.cells := ⟨by have := sub_mid (v.p0 ++ v.p1 ++ v.view.list) v.was.list (v.p4 ++ v.p5) (o := 4) (n := 2) (by simp [ViewV.list_len]) v.was.list_len; simpa [WorldV.cells, WorldV.list, ViewV.cells, List.append_assoc] using this⟩
instance wds6 {v : WorldV} : SubAt v.cells 6 32 (flatV CellV.list v.cs).toArray := ⟨by have := sub_mid (v.p0 ++ v.p1 ++ v.view.list ++ v.was.list) v.p4 v.p5 (o := 6) (n := 32) (by simp [ViewV.list_len]) v.l4; simpa [WorldV.cells, WorldV.list, List.append_assoc] using this⟩
instance wds38 {v : WorldV} : SubAt v.cells 38 30 (flatV ReplyV.list v.last).toArray := ⟨by have := sub_mid (v.p0 ++ v.p1 ++ v.view.list ++ v.was.list ++ v.p4) v.p5 [] (o := 38) (n := 30) (by simp [ViewV.list_len, v.l4]) v.l5; simpa [WorldV.cells, WorldV.list, List.append_assoc] using this⟩
instance wdsl0 {v : WorldV} {u : Int} : Put v.cells 0 (.int .i64 u) { v with slot := u }.cells := by have := Put.mid ([] : List Value) v.p0 (v.p1 ++ (v.view.list ++ (v.was.list ++ (v.p4 ++ v.p5)))) (cs := v.cells) (o := 0) (n := 1) (v := .int .i64 u) rfl rfl rfl rfl; simpa [WorldV.cells, WorldV.list, Value.cells] using this
instance cells_arr16 {v : Vector CellV 16} : Cells (flatV CellV.list v).toArray 32 := Cells.list (flatV_length _ 2 CellV.list_len v) (flatV_one _ CellV.list_one v)
instance cells_arr6 {v : Vector ReplyV 6} : Cells (flatV ReplyV.list v).toArray 30 := Cells.list (flatV_length _ 5 ReplyV.list_len v) (flatV_one _ ReplyV.list_one v)
instance sub_arr16 {v : Vector CellV 16} : SubAt (flatV CellV.list v).toArray 0 32 (flatV CellV.list v).toArray := ⟨by have h := flatV_length _ 2 CellV.list_len v; apply Array.ext <;> simp [h]⟩
instance sub_arr6 {v : Vector ReplyV 6} : SubAt (flatV ReplyV.list v).toArray 0 30 (flatV ReplyV.list v).toArray := ⟨by have h := flatV_length _ 5 ReplyV.list_len v; apply Array.ext <;> simp [h]⟩
@[reducible] def WorldV.zero : WorldV := ⟨0, 0, ViewV.zero, ViewV.zero, Vector.replicate 16 CellV.zero, Vector.replicate 6 ReplyV.zero⟩
instance wdzero : TyZ Tryz.prog 42 (.agg WorldV.zero.cells) := ⟨by kernel_rfl⟩
end Go.Proofs.YtldnfbghjnhklaaGreatDoor
