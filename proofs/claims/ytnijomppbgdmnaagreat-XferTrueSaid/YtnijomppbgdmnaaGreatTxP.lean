/- Structures for the struct types of worlds, replies, slots, what fetches keep, with their cells. Printed by program. -/
import Derived.Test.YtnijomppbgdmnaaGreatTyP
import Derived.Test.YtnijomppbgdmnaaGreatSkP
set_option linter.unusedSimpArgs false
set_option linter.unusedVariables false
set_option linter.unnecessarySimpa false
namespace Go.Proofs.YtnijomppbgdmnaaGreat
open Go.RowKit Go.Sx
set_option maxRecDepth 100000
structure CellV where
  there : Bool
  n : Int
def CellV.list (v : CellV) : List Value := [.bool v.there] ++ ([.int .i64 v.n])
def CellV.cells (v : CellV) : Array Value := v.list.toArray
theorem CellV.list_len (v : CellV) : v.list.length = 2 := by simp [CellV.list]
theorem CellV.list_one (v : CellV) : v.list.all Value.oneCell' = true := by simp [CellV.list, Value.oneCell']
instance tq7 {v : CellV} : Cells v.cells 2 := Cells.list v.list_len v.list_one
theorem CellV.size (v : CellV) : v.cells.size = 2 := by simp [CellV.cells, CellV.list_len]
instance tq9 {v : CellV} : SubAt v.cells 0 2 v.cells := ⟨by have h := v.size; apply Array.ext <;> simp [h]⟩
instance tq10 {v u : CellV} : Put v.cells 0 (.agg u.cells) u.cells := ⟨by have := put_mid [] v.list [] (v := .agg u.cells) (o := 0) (n := 2) rfl v.list_len u.size; simpa [CellV.cells, Value.cells] using this, by simp [Value.cells, CellV.size]⟩
instance tq11 {v : CellV} : CellAt v.cells 0 (.bool v.there) := ⟨by simp [CellV.cells, CellV.list, List.getElem?_append, hlist_length]⟩
instance tq12 {v : CellV} {u : Bool} : Put v.cells 0 (.bool u) { v with there := u }.cells := by have := Put.mid ([] : List Value) ([.bool v.there]) ([.int .i64 v.n]) (cs := v.cells) (o := 0) (n := 1) (v := .bool u) (by simp [CellV.cells, CellV.list]) (by simp) rfl rfl; simpa [CellV.cells, CellV.list, Value.cells] using this
instance tq13 {v : CellV} : CellAt v.cells 1 (.int .i64 v.n) := ⟨by simp [CellV.cells, CellV.list, List.getElem?_append, hlist_length]⟩
instance tq14 {v : CellV} {u : Int} : Put v.cells 1 (.int .i64 u) { v with n := u }.cells := by have := Put.mid ([.bool v.there]) ([.int .i64 v.n]) ([] : List Value) (cs := v.cells) (o := 1) (n := 1) (v := .int .i64 u) (by simp [CellV.cells, CellV.list]) (by simp) rfl rfl; simpa [CellV.cells, CellV.list, Value.cells] using this
instance tq16 {f0 : Bool} {f1 : Int} {u : Bool} : Put (CellV.mk f0 f1).cells 0 (.bool u) (CellV.mk u f1).cells := inferInstanceAs (Put (CellV.mk f0 f1).cells 0 (.bool u) { (CellV.mk f0 f1) with there := u }.cells)
instance tq18 {f0 : Bool} {f1 : Int} {u : Int} : Put (CellV.mk f0 f1).cells 1 (.int .i64 u) (CellV.mk f0 u).cells := inferInstanceAs (Put (CellV.mk f0 f1).cells 1 (.int .i64 u) { (CellV.mk f0 f1) with n := u }.cells)
@[reducible] def CellV.zero : CellV := { there := false, n := 0 }
instance tq20 : TyZ Tryz.prog 59 (.agg CellV.zero.cells) := ⟨by kernel_rfl⟩
theorem CellV.ext_iff' (x y : CellV) : x = y ↔ x.there = y.there ∧ x.n = y.n := by cases x; cases y; simp
structure ResV where
  oK : Bool
  n : Int
def ResV.list (v : ResV) : List Value := [.bool v.oK] ++ ([.int .i64 v.n])
def ResV.cells (v : ResV) : Array Value := v.list.toArray
theorem ResV.list_len (v : ResV) : v.list.length = 2 := by simp [ResV.list]
theorem ResV.list_one (v : ResV) : v.list.all Value.oneCell' = true := by simp [ResV.list, Value.oneCell']
instance tq37 {v : ResV} : Cells v.cells 2 := Cells.list v.list_len v.list_one
theorem ResV.size (v : ResV) : v.cells.size = 2 := by simp [ResV.cells, ResV.list_len]
instance tq42 {v : ResV} {u : Bool} : Put v.cells 0 (.bool u) { v with oK := u }.cells := by have := Put.mid ([] : List Value) ([.bool v.oK]) ([.int .i64 v.n]) (cs := v.cells) (o := 0) (n := 1) (v := .bool u) (by simp [ResV.cells, ResV.list]) (by simp) rfl rfl; simpa [ResV.cells, ResV.list, Value.cells] using this
instance tq44 {v : ResV} {u : Int} : Put v.cells 1 (.int .i64 u) { v with n := u }.cells := by have := Put.mid ([.bool v.oK]) ([.int .i64 v.n]) ([] : List Value) (cs := v.cells) (o := 1) (n := 1) (v := .int .i64 u) (by simp [ResV.cells, ResV.list]) (by simp) rfl rfl; simpa [ResV.cells, ResV.list, Value.cells] using this
instance tq46 {f0 : Bool} {f1 : Int} {u : Bool} : Put (ResV.mk f0 f1).cells 0 (.bool u) (ResV.mk u f1).cells := inferInstanceAs (Put (ResV.mk f0 f1).cells 0 (.bool u) { (ResV.mk f0 f1) with oK := u }.cells)
instance tq48 {f0 : Bool} {f1 : Int} {u : Int} : Put (ResV.mk f0 f1).cells 1 (.int .i64 u) (ResV.mk f0 u).cells := inferInstanceAs (Put (ResV.mk f0 f1).cells 1 (.int .i64 u) { (ResV.mk f0 f1) with n := u }.cells)
@[reducible] def ResV.zero : ResV := { oK := false, n := 0 }
instance tq50 : TyZ Tryz.prog 62 (.agg ResV.zero.cells) := ⟨by kernel_rfl⟩
theorem ResV.ext_iff' (x y : ResV) : x = y ↔ x.oK = y.oK ∧ x.n = y.n := by cases x; cases y; simp
structure ReplyV where
  client : Int
  seq : Int
  slot : Int
  res : ResV
def ReplyV.list (v : ReplyV) : List Value := [.int .i64 v.client] ++ ([.int .i64 v.seq] ++ ([.int .i64 v.slot] ++ (v.res.list)))
def ReplyV.cells (v : ReplyV) : Array Value := v.list.toArray
theorem ReplyV.list_len (v : ReplyV) : v.list.length = 5 := by simp [ReplyV.list, ResV.list_len]
theorem ReplyV.list_one (v : ReplyV) : v.list.all Value.oneCell' = true := by simp [ReplyV.list, Value.oneCell', ResV.list_one]
instance tq69 {v : ReplyV} : Cells v.cells 5 := Cells.list v.list_len v.list_one
theorem ReplyV.size (v : ReplyV) : v.cells.size = 5 := by simp [ReplyV.cells, ReplyV.list_len]
instance tq71 {v : ReplyV} : SubAt v.cells 0 5 v.cells := ⟨by have h := v.size; apply Array.ext <;> simp [h]⟩
instance tq72 {v u : ReplyV} : Put v.cells 0 (.agg u.cells) u.cells := ⟨by have := put_mid [] v.list [] (v := .agg u.cells) (o := 0) (n := 5) rfl v.list_len u.size; simpa [ReplyV.cells, Value.cells] using this, by simp [Value.cells, ReplyV.size]⟩
instance tq73 {v : ReplyV} : CellAt v.cells 0 (.int .i64 v.client) := ⟨by simp [ReplyV.cells, ReplyV.list, List.getElem?_append, hlist_length, ResV.list_len]⟩
instance tq74 {v : ReplyV} {u : Int} : Put v.cells 0 (.int .i64 u) { v with client := u }.cells := by have := Put.mid ([] : List Value) ([.int .i64 v.client]) ([.int .i64 v.seq] ++ [.int .i64 v.slot] ++ v.res.list) (cs := v.cells) (o := 0) (n := 1) (v := .int .i64 u) (by simp [ReplyV.cells, ReplyV.list]) (by simp [ResV.list_len]) rfl rfl; simpa [ReplyV.cells, ReplyV.list, Value.cells] using this
instance tq75 {v : ReplyV} : CellAt v.cells 1 (.int .i64 v.seq) := ⟨by simp [ReplyV.cells, ReplyV.list, List.getElem?_append, hlist_length, ResV.list_len]⟩
instance tq76 {v : ReplyV} {u : Int} : Put v.cells 1 (.int .i64 u) { v with seq := u }.cells := by have := Put.mid ([.int .i64 v.client]) ([.int .i64 v.seq]) ([.int .i64 v.slot] ++ v.res.list) (cs := v.cells) (o := 1) (n := 1) (v := .int .i64 u) (by simp [ReplyV.cells, ReplyV.list]) (by simp [ResV.list_len]) rfl rfl; simpa [ReplyV.cells, ReplyV.list, Value.cells] using this
instance tq77 {v : ReplyV} : CellAt v.cells 2 (.int .i64 v.slot) := ⟨by simp [ReplyV.cells, ReplyV.list, List.getElem?_append, hlist_length, ResV.list_len]⟩
instance tq78 {v : ReplyV} {u : Int} : Put v.cells 2 (.int .i64 u) { v with slot := u }.cells := by have := Put.mid ([.int .i64 v.client] ++ [.int .i64 v.seq]) ([.int .i64 v.slot]) (v.res.list) (cs := v.cells) (o := 2) (n := 1) (v := .int .i64 u) (by simp [ReplyV.cells, ReplyV.list]) (by simp [ResV.list_len]) rfl rfl; simpa [ReplyV.cells, ReplyV.list, Value.cells] using this
instance tq80 {v : ReplyV} {u : ResV} : Put v.cells 3 (.agg u.cells) { v with res := u }.cells := by have := Put.mid ([.int .i64 v.client] ++ [.int .i64 v.seq] ++ [.int .i64 v.slot]) (v.res.list) ([] : List Value) (cs := v.cells) (o := 3) (n := 2) (v := .agg u.cells) (by simp [ReplyV.cells, ReplyV.list]) (by simp [ResV.list_len]) (by simp [ResV.list_len]) (by simp [Value.cells, ResV.size]); simp only [Value.cells, ReplyV.cells, ReplyV.list, ResV.cells, List.append_assoc, List.nil_append, List.cons_append] at this ⊢; first | exact this | simpa using this
instance tq81 {v : ReplyV} : CellAt v.cells 3 (.bool v.res.oK) := ⟨by simp [ReplyV.cells, ReplyV.list, ResV.list, List.getElem?_append, hlist_length, ResV.list_len]⟩
instance tq83 {v : ReplyV} : CellAt v.cells 4 (.int .i64 v.res.n) := ⟨by simp [ReplyV.cells, ReplyV.list, ResV.list, List.getElem?_append, hlist_length, ResV.list_len]⟩
instance tq86 {f0 : Int} {f1 : Int} {f2 : Int} {f3 : ResV} {u : Int} : Put (ReplyV.mk f0 f1 f2 f3).cells 0 (.int .i64 u) (ReplyV.mk u f1 f2 f3).cells := inferInstanceAs (Put (ReplyV.mk f0 f1 f2 f3).cells 0 (.int .i64 u) { (ReplyV.mk f0 f1 f2 f3) with client := u }.cells)
instance tq88 {f0 : Int} {f1 : Int} {f2 : Int} {f3 : ResV} {u : Int} : Put (ReplyV.mk f0 f1 f2 f3).cells 1 (.int .i64 u) (ReplyV.mk f0 u f2 f3).cells := inferInstanceAs (Put (ReplyV.mk f0 f1 f2 f3).cells 1 (.int .i64 u) { (ReplyV.mk f0 f1 f2 f3) with seq := u }.cells)
instance tq90 {f0 : Int} {f1 : Int} {f2 : Int} {f3 : ResV} {u : Int} : Put (ReplyV.mk f0 f1 f2 f3).cells 2 (.int .i64 u) (ReplyV.mk f0 f1 u f3).cells := inferInstanceAs (Put (ReplyV.mk f0 f1 f2 f3).cells 2 (.int .i64 u) { (ReplyV.mk f0 f1 f2 f3) with slot := u }.cells)
@[reducible] def ReplyV.zero : ReplyV := { client := 0, seq := 0, slot := 0, res := ResV.zero }
instance tq92 : TyZ Tryz.prog 64 (.agg ReplyV.zero.cells) := ⟨by kernel_rfl⟩
structure SlotV where
  n : Int
  hash : Vector UInt8 32
  batch : BS
  parts : PS
def SlotV.list (v : SlotV) : List Value := [.int .i64 v.n] ++ (hlist v.hash ++ ([.slice v.batch.a v.batch.l.length v.batch.c] ++ ([.slice v.parts.a v.parts.ls.length v.parts.c])))
def SlotV.cells (v : SlotV) : Array Value := v.list.toArray
theorem SlotV.list_len (v : SlotV) : v.list.length = 35 := by simp [SlotV.list]
theorem SlotV.list_one (v : SlotV) : v.list.all Value.oneCell' = true := by simp [SlotV.list, Value.oneCell']
instance tq102 {v : SlotV} : Cells v.cells 35 := Cells.list v.list_len v.list_one
theorem SlotV.size (v : SlotV) : v.cells.size = 35 := by simp [SlotV.cells, SlotV.list_len]
instance tq104 {v : SlotV} : SubAt v.cells 0 35 v.cells := ⟨by have h := v.size; apply Array.ext <;> simp [h]⟩
instance tq105 {v u : SlotV} : Put v.cells 0 (.agg u.cells) u.cells := ⟨by have := put_mid [] v.list [] (v := .agg u.cells) (o := 0) (n := 35) rfl v.list_len u.size; simpa [SlotV.cells, Value.cells] using this, by simp [Value.cells, SlotV.size]⟩
instance tq106 {v : SlotV} : CellAt v.cells 0 (.int .i64 v.n) := ⟨by simp [SlotV.cells, SlotV.list, List.getElem?_append, hlist_length]⟩
instance tq107 {v : SlotV} {u : Int} : Put v.cells 0 (.int .i64 u) { v with n := u }.cells := by have := Put.mid ([] : List Value) ([.int .i64 v.n]) (hlist v.hash ++ [.slice v.batch.a v.batch.l.length v.batch.c] ++ [.slice v.parts.a v.parts.ls.length v.parts.c]) (cs := v.cells) (o := 0) (n := 1) (v := .int .i64 u) (by simp [SlotV.cells, SlotV.list]) (by simp) rfl rfl; simpa [SlotV.cells, SlotV.list, Value.cells] using this
instance tq109 {v : SlotV} {u : Vector UInt8 32} : Put v.cells 1 (.agg (hlist u).toArray) { v with hash := u }.cells := by have := Put.mid ([.int .i64 v.n]) (hlist v.hash) ([.slice v.batch.a v.batch.l.length v.batch.c] ++ [.slice v.parts.a v.parts.ls.length v.parts.c]) (cs := v.cells) (o := 1) (n := 32) (v := .agg (hlist u).toArray) (by simp [SlotV.cells, SlotV.list]) (by simp) (by simp) (by simp [Value.cells]); simp only [Value.cells, SlotV.cells, SlotV.list, List.append_assoc, List.nil_append, List.cons_append] at this ⊢; first | exact this | simpa using this
instance tq110 {v : SlotV} : CellAt v.cells 33 (.slice v.batch.a v.batch.l.length v.batch.c) := ⟨by simp [SlotV.cells, SlotV.list, List.getElem?_append, hlist_length]⟩
instance tq111 {v : SlotV} {a : Option Addr} {l : List UInt8} {c : Nat} : Put v.cells 33 (.slice a l.length c) { v with batch := ⟨a, c, l⟩ }.cells := by have := Put.mid ([.int .i64 v.n] ++ hlist v.hash) ([.slice v.batch.a v.batch.l.length v.batch.c]) ([.slice v.parts.a v.parts.ls.length v.parts.c]) (cs := v.cells) (o := 33) (n := 1) (v := .slice a l.length c) (by simp [SlotV.cells, SlotV.list]) (by simp) rfl rfl; simpa [SlotV.cells, SlotV.list, Value.cells] using this
instance tq113 {v : SlotV} : CellAt v.cells 34 (.slice v.parts.a v.parts.ls.length v.parts.c) := ⟨by simp [SlotV.cells, SlotV.list, List.getElem?_append, hlist_length]⟩
instance tq114 {v : SlotV} {a : Option Addr} {l : List BS} {c : Nat} : Put v.cells 34 (.slice a l.length c) { v with parts := ⟨a, c, l⟩ }.cells := by have := Put.mid ([.int .i64 v.n] ++ hlist v.hash ++ [.slice v.batch.a v.batch.l.length v.batch.c]) ([.slice v.parts.a v.parts.ls.length v.parts.c]) ([] : List Value) (cs := v.cells) (o := 34) (n := 1) (v := .slice a l.length c) (by simp [SlotV.cells, SlotV.list]) (by simp) rfl rfl; simpa [SlotV.cells, SlotV.list, Value.cells] using this
instance tq117 {f0 : Int} {f1 : Vector UInt8 32} {f2 : BS} {f3 : PS} {u : Int} : Put (SlotV.mk f0 f1 f2 f3).cells 0 (.int .i64 u) (SlotV.mk u f1 f2 f3).cells := inferInstanceAs (Put (SlotV.mk f0 f1 f2 f3).cells 0 (.int .i64 u) { (SlotV.mk f0 f1 f2 f3) with n := u }.cells)
instance tq118 {f0 : Int} {f1 : Vector UInt8 32} {f2 : BS} {f3 : PS} {u : Vector UInt8 32} : Put (SlotV.mk f0 f1 f2 f3).cells 1 (.agg (hlist u).toArray) (SlotV.mk f0 u f2 f3).cells := inferInstanceAs (Put (SlotV.mk f0 f1 f2 f3).cells 1 (.agg (hlist u).toArray) { (SlotV.mk f0 f1 f2 f3) with hash := u }.cells)
instance tq122 {f0 : Int} {f1 : Vector UInt8 32} {f2 : BS} {f3 : PS} {a : Option Addr} {c : Nat} {l : List UInt8} : Put (SlotV.mk f0 f1 f2 f3).cells 33 (.slice a l.length c) (SlotV.mk f0 f1 (BS.mk a c l) f3).cells := inferInstanceAs (Put (SlotV.mk f0 f1 f2 f3).cells 33 (.slice a l.length c) { (SlotV.mk f0 f1 f2 f3) with batch := (BS.mk a c l) }.cells)
instance tq126 {f0 : Int} {f1 : Vector UInt8 32} {f2 : BS} {f3 : PS} {a : Option Addr} {c : Nat} {l : List BS} : Put (SlotV.mk f0 f1 f2 f3).cells 34 (.slice a l.length c) (SlotV.mk f0 f1 f2 (PS.mk a c l)).cells := inferInstanceAs (Put (SlotV.mk f0 f1 f2 f3).cells 34 (.slice a l.length c) { (SlotV.mk f0 f1 f2 f3) with parts := (PS.mk a c l) }.cells)
@[reducible] def SlotV.zero : SlotV := { n := 0, hash := zeroV 32, batch := ⟨none, 0, []⟩, parts := ⟨none, 0, []⟩ }
instance tq129 : TyZ Tryz.prog 69 (.agg SlotV.zero.cells) := ⟨by kernel_rfl⟩
structure MarkV where
  frm : Int
  slot : Int
def MarkV.list (v : MarkV) : List Value := [.int .i64 v.frm] ++ ([.int .i64 v.slot])
def MarkV.cells (v : MarkV) : Array Value := v.list.toArray
theorem MarkV.list_len (v : MarkV) : v.list.length = 2 := by simp [MarkV.list]
theorem MarkV.list_one (v : MarkV) : v.list.all Value.oneCell' = true := by simp [MarkV.list, Value.oneCell']
instance tq137 {v : MarkV} : Cells v.cells 2 := Cells.list v.list_len v.list_one
theorem MarkV.size (v : MarkV) : v.cells.size = 2 := by simp [MarkV.cells, MarkV.list_len]
instance tq139 {v : MarkV} : SubAt v.cells 0 2 v.cells := ⟨by have h := v.size; apply Array.ext <;> simp [h]⟩
instance tq140 {v u : MarkV} : Put v.cells 0 (.agg u.cells) u.cells := ⟨by have := put_mid [] v.list [] (v := .agg u.cells) (o := 0) (n := 2) rfl v.list_len u.size; simpa [MarkV.cells, Value.cells] using this, by simp [Value.cells, MarkV.size]⟩
instance tq141 {v : MarkV} : CellAt v.cells 0 (.int .i64 v.frm) := ⟨by simp [MarkV.cells, MarkV.list, List.getElem?_append, hlist_length]⟩
instance tq142 {v : MarkV} {u : Int} : Put v.cells 0 (.int .i64 u) { v with frm := u }.cells := by have := Put.mid ([] : List Value) ([.int .i64 v.frm]) ([.int .i64 v.slot]) (cs := v.cells) (o := 0) (n := 1) (v := .int .i64 u) (by simp [MarkV.cells, MarkV.list]) (by simp) rfl rfl; simpa [MarkV.cells, MarkV.list, Value.cells] using this
instance tq143 {v : MarkV} : CellAt v.cells 1 (.int .i64 v.slot) := ⟨by simp [MarkV.cells, MarkV.list, List.getElem?_append, hlist_length]⟩
instance tq144 {v : MarkV} {u : Int} : Put v.cells 1 (.int .i64 u) { v with slot := u }.cells := by have := Put.mid ([.int .i64 v.frm]) ([.int .i64 v.slot]) ([] : List Value) (cs := v.cells) (o := 1) (n := 1) (v := .int .i64 u) (by simp [MarkV.cells, MarkV.list]) (by simp) rfl rfl; simpa [MarkV.cells, MarkV.list, Value.cells] using this
instance tq146 {f0 : Int} {f1 : Int} {u : Int} : Put (MarkV.mk f0 f1).cells 0 (.int .i64 u) (MarkV.mk u f1).cells := inferInstanceAs (Put (MarkV.mk f0 f1).cells 0 (.int .i64 u) { (MarkV.mk f0 f1) with frm := u }.cells)
instance tq148 {f0 : Int} {f1 : Int} {u : Int} : Put (MarkV.mk f0 f1).cells 1 (.int .i64 u) (MarkV.mk f0 u).cells := inferInstanceAs (Put (MarkV.mk f0 f1).cells 1 (.int .i64 u) { (MarkV.mk f0 f1) with slot := u }.cells)
@[reducible] def MarkV.zero : MarkV := { frm := 0, slot := 0 }
instance tq150 : TyZ Tryz.prog 131 (.agg MarkV.zero.cells) := ⟨by kernel_rfl⟩
theorem MarkV.ext_iff' (x y : MarkV) : x = y ↔ x.frm = y.frm ∧ x.slot = y.slot := by cases x; cases y; simp
instance tq152 : DecidableEq MarkV := fun x y => decidable_of_iff _ (MarkV.ext_iff' x y).symm
instance tq153 {x y : MarkV} : EqV Tryz.prog 131 (.agg x.cells) (.agg y.cells) (decide (x = y)) := ⟨fun d w => by
  rw [run_equalIn_struct w (d + 3) 131 _ _ (by kernel_rfl) (by kernel_rfl)]
  simp only [Program.fieldsOf, Tryz.underlying131]
  simp only [Op.eqFields, ne_eq, Sem.run_bind, Sem.run_ite, Sem.run_pure, Result.andThen_ok, part1, partN, eqB_run]
  rw [show decide (x = y) = (decide (x.frm = y.frm) && (decide (x.slot = y.slot) && true)) from by rw [Bool.eq_iff_iff]; simp [MarkV.ext_iff']]
  try simp only [String.reduceEq, not_false_eq_true, if_true, Result.andThen_ok]
  cases decide (x.frm = y.frm) <;> cases decide (x.slot = y.slot) <;> rfl⟩
structure TallyV where
  slot : Int
  hash : Vector UInt8 32
def TallyV.list (v : TallyV) : List Value := [.int .i64 v.slot] ++ (hlist v.hash)
def TallyV.cells (v : TallyV) : Array Value := v.list.toArray
theorem TallyV.list_len (v : TallyV) : v.list.length = 33 := by simp [TallyV.list]
theorem TallyV.list_one (v : TallyV) : v.list.all Value.oneCell' = true := by simp [TallyV.list, Value.oneCell']
theorem TallyV.size (v : TallyV) : v.cells.size = 33 := by simp [TallyV.cells, TallyV.list_len]
instance tq171 {v : TallyV} : CellAt v.cells 0 (.int .i64 v.slot) := ⟨by simp [TallyV.cells, TallyV.list, List.getElem?_append, hlist_length]⟩
instance tq172 {v : TallyV} {u : Int} : Put v.cells 0 (.int .i64 u) { v with slot := u }.cells := by have := Put.mid ([] : List Value) ([.int .i64 v.slot]) (hlist v.hash) (cs := v.cells) (o := 0) (n := 1) (v := .int .i64 u) (by simp [TallyV.cells, TallyV.list]) (by simp) rfl rfl; simpa [TallyV.cells, TallyV.list, Value.cells] using this
instance tq173 {v : TallyV} : SubAt v.cells 1 32 (hlist v.hash).toArray := ⟨by first | (simp [TallyV.cells, TallyV.list]; done) | (have := sub_mid ([.int .i64 v.slot]) (hlist v.hash) ([] : List Value) (o := 1) (n := 32) (by simp) (by simp); simpa [TallyV.cells, TallyV.list] using this)⟩
instance tq174 {v : TallyV} {u : Vector UInt8 32} : Put v.cells 1 (.agg (hlist u).toArray) { v with hash := u }.cells := by have := Put.mid ([.int .i64 v.slot]) (hlist v.hash) ([] : List Value) (cs := v.cells) (o := 1) (n := 32) (v := .agg (hlist u).toArray) (by simp [TallyV.cells, TallyV.list]) (by simp) (by simp) (by simp [Value.cells]); simp only [Value.cells, TallyV.cells, TallyV.list, List.append_assoc, List.nil_append, List.cons_append] at this ⊢; first | exact this | simpa using this
instance tq176 {f0 : Int} {f1 : Vector UInt8 32} {u : Int} : Put (TallyV.mk f0 f1).cells 0 (.int .i64 u) (TallyV.mk u f1).cells := inferInstanceAs (Put (TallyV.mk f0 f1).cells 0 (.int .i64 u) { (TallyV.mk f0 f1) with slot := u }.cells)
instance tq177 {f0 : Int} {f1 : Vector UInt8 32} {u : Vector UInt8 32} : Put (TallyV.mk f0 f1).cells 1 (.agg (hlist u).toArray) (TallyV.mk f0 u).cells := inferInstanceAs (Put (TallyV.mk f0 f1).cells 1 (.agg (hlist u).toArray) { (TallyV.mk f0 f1) with hash := u }.cells)
@[reducible] def TallyV.zero : TallyV := { slot := 0, hash := zeroV 32 }
instance tq180 : TyZ Tryz.prog 133 (.agg TallyV.zero.cells) := ⟨by kernel_rfl⟩
theorem TallyV.ext_iff' (x y : TallyV) : x = y ↔ x.slot = y.slot ∧ x.hash = y.hash := by cases x; cases y; simp
instance tq182 : DecidableEq TallyV := fun x y => decidable_of_iff _ (TallyV.ext_iff' x y).symm
instance tq183 {x y : TallyV} : EqV Tryz.prog 133 (.agg x.cells) (.agg y.cells) (decide (x = y)) := ⟨fun d w => by
  rw [run_equalIn_struct w (d + 3) 133 _ _ (by kernel_rfl) (by kernel_rfl)]
  simp only [Program.fieldsOf, Tryz.underlying133]
  simp only [Op.eqFields, ne_eq, Sem.run_bind, Sem.run_ite, Sem.run_pure, Result.andThen_ok, part1, partN, eqB_run]
  rw [show decide (x = y) = (decide (x.slot = y.slot) && (decide (x.hash = y.hash) && true)) from by rw [Bool.eq_iff_iff]; simp [TallyV.ext_iff']]
  try simp only [String.reduceEq, not_false_eq_true, if_true, Result.andThen_ok]
  cases decide (x.slot = y.slot) <;> cases decide (x.hash = y.hash) <;> rfl⟩
structure WorldV where
  slot : Int
  first : Int
  view : ViewV
  was : ViewV
  cs : Vector CellV 16
  last : Vector ReplyV 6
abbrev WorldV.p0 (v : WorldV) : List Value := [.int .i64 v.slot]
abbrev WorldV.p1 (v : WorldV) : List Value := [.int .i64 v.first]
abbrev WorldV.p4 (v : WorldV) : List Value := flatV CellV.list v.cs
abbrev WorldV.p5 (v : WorldV) : List Value := flatV ReplyV.list v.last
theorem WorldV.l4 (v : WorldV) : v.p4.length = 32 := flatV_length _ 2 CellV.list_len v.cs
theorem WorldV.l5 (v : WorldV) : v.p5.length = 30 := flatV_length _ 5 ReplyV.list_len v.last
def WorldV.list (v : WorldV) : List Value := v.p0 ++ (v.p1 ++ (v.view.list ++ (v.was.list ++ (v.p4 ++ (v.p5)))))
def WorldV.cells (v : WorldV) : Array Value := v.list.toArray
theorem WorldV.list_len (v : WorldV) : v.list.length = 68 := by simp only [WorldV.list, List.length_append, ViewV.list_len, v.l4, v.l5, List.length_singleton]
theorem WorldV.list_one (v : WorldV) : v.list.all Value.oneCell' = true := by
  simp only [WorldV.list, List.all_append, ViewV.list_one, flatV_one _ CellV.list_one, flatV_one _ ReplyV.list_one]; rfl
instance wdcells {v : WorldV} : Cells v.cells 68 := Cells.list v.list_len v.list_one
theorem WorldV.size (v : WorldV) : v.cells.size = 68 := by simp [WorldV.cells, WorldV.list_len]
instance wdsub {v : WorldV} : SubAt v.cells 0 68 v.cells := ⟨by have h := v.size; apply Array.ext <;> simp [h]⟩
instance wdput {v u : WorldV} : Put v.cells 0 (.agg u.cells) u.cells := ⟨by have := put_mid [] v.list [] (v := .agg u.cells) (o := 0) (n := 68) rfl v.list_len u.size; simpa [WorldV.cells, Value.cells] using this, by simp [Value.cells, WorldV.size]⟩
instance wdc0 {v : WorldV} : CellAt v.cells 0 (.int .i64 v.slot) := ⟨by simp [WorldV.cells, WorldV.list]⟩
instance wdc1 {v : WorldV} : CellAt v.cells 1 (.int .i64 v.first) := ⟨by simp [WorldV.cells, WorldV.list]⟩
instance wdc2 {v : WorldV} : CellAt v.cells 2 (.int .i64 v.view.num) := ⟨by simp [WorldV.cells, WorldV.list, ViewV.list]⟩
instance wds2 {v : WorldV} : SubAt v.cells 2 2 v.view.cells := ⟨by have := sub_mid (v.p0 ++ v.p1) v.view.list (v.was.list ++ (v.p4 ++ v.p5)) (o := 2) (n := 2) rfl v.view.list_len; simpa [WorldV.cells, WorldV.list, ViewV.cells, List.append_assoc] using this⟩
instance wds4 {v : WorldV} : SubAt v.cells 4 2 v.was.cells := ⟨by have := sub_mid (v.p0 ++ v.p1 ++ v.view.list) v.was.list (v.p4 ++ v.p5) (o := 4) (n := 2) (by simp [ViewV.list_len]) v.was.list_len; simpa [WorldV.cells, WorldV.list, ViewV.cells, List.append_assoc] using this⟩
instance wds6 {v : WorldV} : SubAt v.cells 6 32 (flatV CellV.list v.cs).toArray := ⟨by have := sub_mid (v.p0 ++ v.p1 ++ v.view.list ++ v.was.list) v.p4 v.p5 (o := 6) (n := 32) (by simp [ViewV.list_len]) v.l4; simpa [WorldV.cells, WorldV.list, List.append_assoc] using this⟩
instance wds38 {v : WorldV} : SubAt v.cells 38 30 (flatV ReplyV.list v.last).toArray := ⟨by have := sub_mid (v.p0 ++ v.p1 ++ v.view.list ++ v.was.list ++ v.p4) v.p5 [] (o := 38) (n := 30) (by simp [ViewV.list_len, v.l4]) v.l5; simpa [WorldV.cells, WorldV.list, List.append_assoc] using this⟩
instance wdsl0 {v : WorldV} {u : Int} : Put v.cells 0 (.int .i64 u) { v with slot := u }.cells := by have := Put.mid ([] : List Value) v.p0 (v.p1 ++ (v.view.list ++ (v.was.list ++ (v.p4 ++ v.p5)))) (cs := v.cells) (o := 0) (n := 1) (v := .int .i64 u) rfl rfl rfl rfl; simpa [WorldV.cells, WorldV.list, Value.cells] using this
instance cells_arr16 {v : Vector CellV 16} : Cells (flatV CellV.list v).toArray 32 := Cells.list (flatV_length _ 2 CellV.list_len v) (flatV_one _ CellV.list_one v)
instance sub_arr16 {v : Vector CellV 16} : SubAt (flatV CellV.list v).toArray 0 32 (flatV CellV.list v).toArray := ⟨by have h := flatV_length _ 2 CellV.list_len v; apply Array.ext <;> simp [h]⟩
@[reducible] def WorldV.zero : WorldV := ⟨0, 0, ViewV.zero, ViewV.zero, Vector.replicate 16 CellV.zero, Vector.replicate 6 ReplyV.zero⟩
instance wdzero : TyZ Tryz.prog 67 (.agg WorldV.zero.cells) := ⟨by kernel_rfl⟩
structure KeptV where
  w : WorldV
  last : SlotV
  hash : Vector UInt8 32
def KeptV.list (v : KeptV) : List Value := v.w.list ++ (v.last.list ++ (hlist v.hash))
def KeptV.cells (v : KeptV) : Array Value := v.list.toArray
theorem KeptV.list_len (v : KeptV) : v.list.length = 135 := by simp [KeptV.list, WorldV.list_len, SlotV.list_len]
theorem KeptV.list_one (v : KeptV) : v.list.all Value.oneCell' = true := by simp [KeptV.list, Value.oneCell', WorldV.list_one, SlotV.list_one]
instance tr8 {v : KeptV} : Cells v.cells 135 := Cells.list v.list_len v.list_one
theorem KeptV.size (v : KeptV) : v.cells.size = 135 := by simp [KeptV.cells, KeptV.list_len]
instance tr11 {v u : KeptV} : Put v.cells 0 (.agg u.cells) u.cells := ⟨by have := put_mid [] v.list [] (v := .agg u.cells) (o := 0) (n := 135) rfl v.list_len u.size; simpa [KeptV.cells, Value.cells] using this, by simp [Value.cells, KeptV.size]⟩
instance tr13 {v : KeptV} {u : WorldV} : Put v.cells 0 (.agg u.cells) { v with w := u }.cells := by have := Put.mid ([] : List Value) (v.w.list) (v.last.list ++ hlist v.hash) (cs := v.cells) (o := 0) (n := 68) (v := .agg u.cells) (by simp [KeptV.cells, KeptV.list]) (by simp [WorldV.list_len, SlotV.list_len]) (by simp [WorldV.list_len, SlotV.list_len]) (by simp [Value.cells, WorldV.size, SlotV.size]); simp only [Value.cells, KeptV.cells, KeptV.list, WorldV.cells, SlotV.cells, List.append_assoc, List.nil_append, List.cons_append] at this ⊢; first | exact this | simpa using this
instance tr15 {v : KeptV} {u : SlotV} : Put v.cells 68 (.agg u.cells) { v with last := u }.cells := by have := Put.mid (v.w.list) (v.last.list) (hlist v.hash) (cs := v.cells) (o := 68) (n := 35) (v := .agg u.cells) (by simp [KeptV.cells, KeptV.list]) (by simp [WorldV.list_len, SlotV.list_len]) (by simp [WorldV.list_len, SlotV.list_len]) (by simp [Value.cells, WorldV.size, SlotV.size]); simp only [Value.cells, KeptV.cells, KeptV.list, WorldV.cells, SlotV.cells, List.append_assoc, List.nil_append, List.cons_append] at this ⊢; first | exact this | simpa using this
instance tr23 {v : KeptV} : SubAt v.cells 103 32 (hlist v.hash).toArray := ⟨by first | (simp [KeptV.cells, KeptV.list, WorldV.list_len, SlotV.list_len]; done) | (have := sub_mid (v.w.list ++ v.last.list) (hlist v.hash) ([] : List Value) (o := 103) (n := 32) (by simp [WorldV.list_len, SlotV.list_len]) (by simp [WorldV.list_len, SlotV.list_len]); simpa [KeptV.cells, KeptV.list, WorldV.cells, SlotV.cells] using this)⟩
instance tr24 {v : KeptV} {u : Vector UInt8 32} : Put v.cells 103 (.agg (hlist u).toArray) { v with hash := u }.cells := by have := Put.mid (v.w.list ++ v.last.list) (hlist v.hash) ([] : List Value) (cs := v.cells) (o := 103) (n := 32) (v := .agg (hlist u).toArray) (by simp [KeptV.cells, KeptV.list]) (by simp [WorldV.list_len, SlotV.list_len]) (by simp [WorldV.list_len, SlotV.list_len]) (by simp [Value.cells, WorldV.size, SlotV.size]); simp only [Value.cells, KeptV.cells, KeptV.list, WorldV.cells, SlotV.cells, List.append_assoc, List.nil_append, List.cons_append] at this ⊢; first | exact this | simpa using this
instance tr25 {f0 : WorldV} {f1 : SlotV} {f2 : Vector UInt8 32} {u : Vector UInt8 32} : Put (KeptV.mk f0 f1 f2).cells 103 (.agg (hlist u).toArray) (KeptV.mk f0 f1 u).cells := inferInstanceAs (Put (KeptV.mk f0 f1 f2).cells 103 (.agg (hlist u).toArray) { (KeptV.mk f0 f1 f2) with hash := u }.cells)
@[reducible] def KeptV.zero : KeptV := { w := WorldV.zero, last := SlotV.zero, hash := zeroV 32 }
instance tr28 : TyZ Tryz.prog 119 (.agg KeptV.zero.cells) := ⟨by kernel_rfl⟩
structure RKeptV where
  w : WorldV
  last : SlotV
def RKeptV.list (v : RKeptV) : List Value := v.w.list ++ (v.last.list)
def RKeptV.cells (v : RKeptV) : Array Value := v.list.toArray
theorem RKeptV.list_len (v : RKeptV) : v.list.length = 103 := by simp [RKeptV.list, WorldV.list_len, SlotV.list_len]
theorem RKeptV.list_one (v : RKeptV) : v.list.all Value.oneCell' = true := by simp [RKeptV.list, Value.oneCell', WorldV.list_one, SlotV.list_one]
theorem RKeptV.size (v : RKeptV) : v.cells.size = 103 := by simp [RKeptV.cells, RKeptV.list_len]
instance tr41 {v : RKeptV} {u : WorldV} : Put v.cells 0 (.agg u.cells) { v with w := u }.cells := by have := Put.mid ([] : List Value) (v.w.list) (v.last.list) (cs := v.cells) (o := 0) (n := 68) (v := .agg u.cells) (by simp [RKeptV.cells, RKeptV.list]) (by simp [WorldV.list_len, SlotV.list_len]) (by simp [WorldV.list_len, SlotV.list_len]) (by simp [Value.cells, WorldV.size, SlotV.size]); simp only [Value.cells, RKeptV.cells, RKeptV.list, WorldV.cells, SlotV.cells, List.append_assoc, List.nil_append, List.cons_append] at this ⊢; first | exact this | simpa using this
instance tr43 {v : RKeptV} {u : SlotV} : Put v.cells 68 (.agg u.cells) { v with last := u }.cells := by have := Put.mid (v.w.list) (v.last.list) ([] : List Value) (cs := v.cells) (o := 68) (n := 35) (v := .agg u.cells) (by simp [RKeptV.cells, RKeptV.list]) (by simp [WorldV.list_len, SlotV.list_len]) (by simp [WorldV.list_len, SlotV.list_len]) (by simp [Value.cells, WorldV.size, SlotV.size]); simp only [Value.cells, RKeptV.cells, RKeptV.list, WorldV.cells, SlotV.cells, List.append_assoc, List.nil_append, List.cons_append] at this ⊢; first | exact this | simpa using this
@[reducible] def RKeptV.zero : RKeptV := { w := WorldV.zero, last := SlotV.zero }
instance tr52 : TyZ Tryz.prog 75 (.agg RKeptV.zero.cells) := ⟨by kernel_rfl⟩
structure WGotV where
  w : WorldV
  e : Int
def WGotV.list (v : WGotV) : List Value := v.w.list ++ ([.int .i64 v.e])
def WGotV.cells (v : WGotV) : Array Value := v.list.toArray
theorem WGotV.list_len (v : WGotV) : v.list.length = 69 := by simp [WGotV.list, WorldV.list_len]
theorem WGotV.list_one (v : WGotV) : v.list.all Value.oneCell' = true := by simp [WGotV.list, Value.oneCell', WorldV.list_one]
instance tr60 {v : WGotV} : Cells v.cells 69 := Cells.list v.list_len v.list_one
theorem WGotV.size (v : WGotV) : v.cells.size = 69 := by simp [WGotV.cells, WGotV.list_len]
instance tr62 {v : WGotV} : SubAt v.cells 0 69 v.cells := ⟨by have h := v.size; apply Array.ext <;> simp [h]⟩
instance tr63 {v u : WGotV} : Put v.cells 0 (.agg u.cells) u.cells := ⟨by have := put_mid [] v.list [] (v := .agg u.cells) (o := 0) (n := 69) rfl v.list_len u.size; simpa [WGotV.cells, Value.cells] using this, by simp [Value.cells, WGotV.size]⟩
instance tr64 {v : WGotV} : SubAt v.cells 0 68 v.w.cells := ⟨by first | (simp [WGotV.cells, WGotV.list, WorldV.list_len]; done) | (have := sub_mid ([] : List Value) (v.w.list) ([.int .i64 v.e]) (o := 0) (n := 68) (by simp [WorldV.list_len]) (by simp [WorldV.list_len]); simpa [WGotV.cells, WGotV.list, WorldV.cells] using this)⟩
instance tr66 {v : WGotV} : CellAt v.cells 68 (.int .i64 v.e) := ⟨by simp [WGotV.cells, WGotV.list, List.getElem?_append, hlist_length, WorldV.list_len]⟩
instance tr67 {v : WGotV} {u : Int} : Put v.cells 68 (.int .i64 u) { v with e := u }.cells := by have := Put.mid (v.w.list) ([.int .i64 v.e]) ([] : List Value) (cs := v.cells) (o := 68) (n := 1) (v := .int .i64 u) (by simp [WGotV.cells, WGotV.list]) (by simp [WorldV.list_len]) rfl rfl; simpa [WGotV.cells, WGotV.list, Value.cells] using this
instance tr68 {f0 : WorldV} {f1 : Int} : CellAt (WGotV.mk f0 f1).cells 68 (.int .i64 f1) := inferInstanceAs (CellAt (WGotV.mk f0 f1).cells 68 (.int .i64 (WGotV.mk f0 f1).e))
instance tr69 {f0 : WorldV} {f1 : Int} {u : Int} : Put (WGotV.mk f0 f1).cells 68 (.int .i64 u) (WGotV.mk f0 u).cells := inferInstanceAs (Put (WGotV.mk f0 f1).cells 68 (.int .i64 u) { (WGotV.mk f0 f1) with e := u }.cells)
@[reducible] def WGotV.zero : WGotV := { w := WorldV.zero, e := 0 }
instance tr71 : TyZ Tryz.prog 126 (.agg WGotV.zero.cells) := ⟨by kernel_rfl⟩
structure RFetchV where
  k : KeysV
  v : ViewV
  had : Int
  marks : Sl
  l : Sl
def RFetchV.list (v : RFetchV) : List Value := v.k.list ++ (v.v.list ++ ([.int .i64 v.had] ++ ([.slice v.marks.a v.marks.n v.marks.c] ++ ([.slice v.l.a v.l.n v.l.c]))))
def RFetchV.cells (v : RFetchV) : Array Value := v.list.toArray
theorem RFetchV.list_len (v : RFetchV) : v.list.length = 7 := by simp [RFetchV.list, KeysV.list_len, ViewV.list_len]
theorem RFetchV.list_one (v : RFetchV) : v.list.all Value.oneCell' = true := by simp [RFetchV.list, Value.oneCell', KeysV.list_one, ViewV.list_one]
instance tr82 {v : RFetchV} : Cells v.cells 7 := Cells.list v.list_len v.list_one
theorem RFetchV.size (v : RFetchV) : v.cells.size = 7 := by simp [RFetchV.cells, RFetchV.list_len]
instance tr86 {v : RFetchV} : SubAt v.cells 0 2 v.k.cells := ⟨by first | (simp [RFetchV.cells, RFetchV.list, KeysV.list_len, ViewV.list_len]; done) | (have := sub_mid ([] : List Value) (v.k.list) (v.v.list ++ [.int .i64 v.had] ++ [.slice v.marks.a v.marks.n v.marks.c] ++ [.slice v.l.a v.l.n v.l.c]) (o := 0) (n := 2) (by simp [KeysV.list_len, ViewV.list_len]) (by simp [KeysV.list_len, ViewV.list_len]); simpa [RFetchV.cells, RFetchV.list, KeysV.cells, ViewV.cells] using this)⟩
instance tr87 {v : RFetchV} {u : KeysV} : Put v.cells 0 (.agg u.cells) { v with k := u }.cells := by have := Put.mid ([] : List Value) (v.k.list) (v.v.list ++ [.int .i64 v.had] ++ [.slice v.marks.a v.marks.n v.marks.c] ++ [.slice v.l.a v.l.n v.l.c]) (cs := v.cells) (o := 0) (n := 2) (v := .agg u.cells) (by simp [RFetchV.cells, RFetchV.list]) (by simp [KeysV.list_len, ViewV.list_len]) (by simp [KeysV.list_len, ViewV.list_len]) (by simp [Value.cells, KeysV.size, ViewV.size]); simp only [Value.cells, RFetchV.cells, RFetchV.list, KeysV.cells, ViewV.cells, List.append_assoc, List.nil_append, List.cons_append] at this ⊢; first | exact this | simpa using this
instance tr92 {v : RFetchV} : SubAt v.cells 2 2 v.v.cells := ⟨by first | (simp [RFetchV.cells, RFetchV.list, KeysV.list_len, ViewV.list_len]; done) | (have := sub_mid (v.k.list) (v.v.list) ([.int .i64 v.had] ++ [.slice v.marks.a v.marks.n v.marks.c] ++ [.slice v.l.a v.l.n v.l.c]) (o := 2) (n := 2) (by simp [KeysV.list_len, ViewV.list_len]) (by simp [KeysV.list_len, ViewV.list_len]); simpa [RFetchV.cells, RFetchV.list, KeysV.cells, ViewV.cells] using this)⟩
instance tr93 {v : RFetchV} {u : ViewV} : Put v.cells 2 (.agg u.cells) { v with v := u }.cells := by have := Put.mid (v.k.list) (v.v.list) ([.int .i64 v.had] ++ [.slice v.marks.a v.marks.n v.marks.c] ++ [.slice v.l.a v.l.n v.l.c]) (cs := v.cells) (o := 2) (n := 2) (v := .agg u.cells) (by simp [RFetchV.cells, RFetchV.list]) (by simp [KeysV.list_len, ViewV.list_len]) (by simp [KeysV.list_len, ViewV.list_len]) (by simp [Value.cells, KeysV.size, ViewV.size]); simp only [Value.cells, RFetchV.cells, RFetchV.list, KeysV.cells, ViewV.cells, List.append_assoc, List.nil_append, List.cons_append] at this ⊢; first | exact this | simpa using this
instance tr98 {v : RFetchV} : CellAt v.cells 4 (.int .i64 v.had) := ⟨by simp [RFetchV.cells, RFetchV.list, List.getElem?_append, hlist_length, KeysV.list_len, ViewV.list_len]⟩
instance tr99 {v : RFetchV} {u : Int} : Put v.cells 4 (.int .i64 u) { v with had := u }.cells := by have := Put.mid (v.k.list ++ v.v.list) ([.int .i64 v.had]) ([.slice v.marks.a v.marks.n v.marks.c] ++ [.slice v.l.a v.l.n v.l.c]) (cs := v.cells) (o := 4) (n := 1) (v := .int .i64 u) (by simp [RFetchV.cells, RFetchV.list]) (by simp [KeysV.list_len, ViewV.list_len]) rfl rfl; simpa [RFetchV.cells, RFetchV.list, Value.cells] using this
instance tr100 {v : RFetchV} : CellAt v.cells 5 (.slice v.marks.a v.marks.n v.marks.c) := ⟨by simp [RFetchV.cells, RFetchV.list, List.getElem?_append, hlist_length, KeysV.list_len, ViewV.list_len]⟩
instance tr101 {v : RFetchV} {a : Option Addr} {n c : Nat} : Put v.cells 5 (.slice a n c) { v with marks := ⟨a, n, c⟩ }.cells := by have := Put.mid (v.k.list ++ v.v.list ++ [.int .i64 v.had]) ([.slice v.marks.a v.marks.n v.marks.c]) ([.slice v.l.a v.l.n v.l.c]) (cs := v.cells) (o := 5) (n := 1) (v := .slice a n c) (by simp [RFetchV.cells, RFetchV.list]) (by simp [KeysV.list_len, ViewV.list_len]) rfl rfl; simpa [RFetchV.cells, RFetchV.list, Value.cells] using this
instance tr102 {v : RFetchV} : CellAt v.cells 6 (.slice v.l.a v.l.n v.l.c) := ⟨by simp [RFetchV.cells, RFetchV.list, List.getElem?_append, hlist_length, KeysV.list_len, ViewV.list_len]⟩
instance tr103 {v : RFetchV} {a : Option Addr} {n c : Nat} : Put v.cells 6 (.slice a n c) { v with l := ⟨a, n, c⟩ }.cells := by have := Put.mid (v.k.list ++ v.v.list ++ [.int .i64 v.had] ++ [.slice v.marks.a v.marks.n v.marks.c]) ([.slice v.l.a v.l.n v.l.c]) ([] : List Value) (cs := v.cells) (o := 6) (n := 1) (v := .slice a n c) (by simp [RFetchV.cells, RFetchV.list]) (by simp [KeysV.list_len, ViewV.list_len]) rfl rfl; simpa [RFetchV.cells, RFetchV.list, Value.cells] using this
instance tr104 {f0 : KeysV} {f1 : ViewV} {f2 : Int} {f3 : Sl} {f4 : Sl} : CellAt (RFetchV.mk f0 f1 f2 f3 f4).cells 4 (.int .i64 f2) := inferInstanceAs (CellAt (RFetchV.mk f0 f1 f2 f3 f4).cells 4 (.int .i64 (RFetchV.mk f0 f1 f2 f3 f4).had))
instance tr105 {f0 : KeysV} {f1 : ViewV} {f2 : Int} {f3 : Sl} {f4 : Sl} {u : Int} : Put (RFetchV.mk f0 f1 f2 f3 f4).cells 4 (.int .i64 u) (RFetchV.mk f0 f1 u f3 f4).cells := inferInstanceAs (Put (RFetchV.mk f0 f1 f2 f3 f4).cells 4 (.int .i64 u) { (RFetchV.mk f0 f1 f2 f3 f4) with had := u }.cells)
instance tr106 {f0 : KeysV} {f1 : ViewV} {f2 : Int} {f3 : Sl} {f4 : Sl} : CellAt (RFetchV.mk f0 f1 f2 f3 f4).cells 5 (.slice f3.a f3.n f3.c) := inferInstanceAs (CellAt (RFetchV.mk f0 f1 f2 f3 f4).cells 5 (.slice (RFetchV.mk f0 f1 f2 f3 f4).marks.a (RFetchV.mk f0 f1 f2 f3 f4).marks.n (RFetchV.mk f0 f1 f2 f3 f4).marks.c))
instance tr107 {f0 : KeysV} {f1 : ViewV} {f2 : Int} {f4 : Sl} {a : Option Addr} {n c : Nat} : CellAt (RFetchV.mk f0 f1 f2 (Sl.mk a n c) f4).cells 5 (.slice a n c) := inferInstanceAs (CellAt (RFetchV.mk f0 f1 f2 (Sl.mk a n c) f4).cells 5 (.slice (RFetchV.mk f0 f1 f2 (Sl.mk a n c) f4).marks.a (RFetchV.mk f0 f1 f2 (Sl.mk a n c) f4).marks.n (RFetchV.mk f0 f1 f2 (Sl.mk a n c) f4).marks.c))
instance tr108 {f0 : KeysV} {f1 : ViewV} {f2 : Int} {f3 : Sl} {f4 : Sl} {a : Option Addr} {n c : Nat} : Put (RFetchV.mk f0 f1 f2 f3 f4).cells 5 (.slice a n c) (RFetchV.mk f0 f1 f2 (Sl.mk a n c) f4).cells := inferInstanceAs (Put (RFetchV.mk f0 f1 f2 f3 f4).cells 5 (.slice a n c) { (RFetchV.mk f0 f1 f2 f3 f4) with marks := (Sl.mk a n c) }.cells)
instance tr109 {f0 : KeysV} {f1 : ViewV} {f2 : Int} {f3 : Sl} {f4 : Sl} : CellAt (RFetchV.mk f0 f1 f2 f3 f4).cells 6 (.slice f4.a f4.n f4.c) := inferInstanceAs (CellAt (RFetchV.mk f0 f1 f2 f3 f4).cells 6 (.slice (RFetchV.mk f0 f1 f2 f3 f4).l.a (RFetchV.mk f0 f1 f2 f3 f4).l.n (RFetchV.mk f0 f1 f2 f3 f4).l.c))
instance tr110 {f0 : KeysV} {f1 : ViewV} {f2 : Int} {f3 : Sl} {a : Option Addr} {n c : Nat} : CellAt (RFetchV.mk f0 f1 f2 f3 (Sl.mk a n c)).cells 6 (.slice a n c) := inferInstanceAs (CellAt (RFetchV.mk f0 f1 f2 f3 (Sl.mk a n c)).cells 6 (.slice (RFetchV.mk f0 f1 f2 f3 (Sl.mk a n c)).l.a (RFetchV.mk f0 f1 f2 f3 (Sl.mk a n c)).l.n (RFetchV.mk f0 f1 f2 f3 (Sl.mk a n c)).l.c))
instance tr111 {f0 : KeysV} {f1 : ViewV} {f2 : Int} {f3 : Sl} {f4 : Sl} {a : Option Addr} {n c : Nat} : Put (RFetchV.mk f0 f1 f2 f3 f4).cells 6 (.slice a n c) (RFetchV.mk f0 f1 f2 f3 (Sl.mk a n c)).cells := inferInstanceAs (Put (RFetchV.mk f0 f1 f2 f3 f4).cells 6 (.slice a n c) { (RFetchV.mk f0 f1 f2 f3 f4) with l := (Sl.mk a n c) }.cells)
@[reducible] def RFetchV.zero : RFetchV := { k := KeysV.zero, v := ViewV.zero, had := 0, marks := ⟨none, 0, 0⟩, l := ⟨none, 0, 0⟩ }
instance tr113 : TyZ Tryz.prog 55 (.agg RFetchV.zero.cells) := ⟨by kernel_rfl⟩
end Go.Proofs.YtnijomppbgdmnaaGreat
