/- Structures for the struct types of this translation, with their cells. Printed by program. -/
import Derived.Test.YtnijomppbgdmnaaTf
namespace Go.Proofs.Ytnijomppbgdmnaa
open Go.RowKit Go.Sx
set_option maxRecDepth 100000
set_option linter.unusedSimpArgs false
set_option linter.unusedVariables false
set_option linter.unnecessarySimpa false
structure ReaderV where
  b : BS
  at_ : Int
def ReaderV.list (v : ReaderV) : List Value := [.slice v.b.a v.b.l.length v.b.c] ++ ([.int .i64 v.at_])
def ReaderV.cells (v : ReaderV) : Array Value := v.list.toArray
theorem ReaderV.list_len (v : ReaderV) : v.list.length = 2 := by simp [ReaderV.list]
theorem ReaderV.list_one (v : ReaderV) : v.list.all Value.oneCell' = true := by simp [ReaderV.list, Value.oneCell']
instance {v : ReaderV} : Cells v.cells 2 := Cells.list v.list_len v.list_one
theorem ReaderV.size (v : ReaderV) : v.cells.size = 2 := by simp [ReaderV.cells, ReaderV.list_len]
instance {v : ReaderV} : SubAt v.cells 0 2 v.cells := ⟨by have h := v.size; apply Array.ext <;> simp [h]⟩
instance {v u : ReaderV} : Put v.cells 0 (.agg u.cells) u.cells := ⟨by have := put_mid [] v.list [] (v := .agg u.cells) (o := 0) (n := 2) rfl v.list_len u.size; simpa [ReaderV.cells, Value.cells] using this, by simp [Value.cells, ReaderV.size]⟩
instance {v : ReaderV} : CellAt v.cells 0 (.slice v.b.a v.b.l.length v.b.c) := ⟨by simp [ReaderV.cells, ReaderV.list, List.getElem?_append, hlist_length]⟩
instance {v : ReaderV} {a : Option Addr} {l : List UInt8} {c : Nat} : Put v.cells 0 (.slice a l.length c) { v with b := ⟨a, c, l⟩ }.cells := by have := Put.mid ([] : List Value) ([.slice v.b.a v.b.l.length v.b.c]) ([.int .i64 v.at_]) (cs := v.cells) (o := 0) (n := 1) (v := .slice a l.length c) (by simp [ReaderV.cells, ReaderV.list]) (by simp) rfl rfl; simpa [ReaderV.cells, ReaderV.list, Value.cells] using this
instance (priority := high) {v : ReaderV} : Put v.cells 0 (.slice none 0 0) { v with b := ⟨none, 0, []⟩ }.cells := by have := Put.mid ([] : List Value) ([.slice v.b.a v.b.l.length v.b.c]) ([.int .i64 v.at_]) (cs := v.cells) (o := 0) (n := 1) (v := .slice none 0 0) (by simp [ReaderV.cells, ReaderV.list]) (by simp) rfl rfl; simpa [ReaderV.cells, ReaderV.list, Value.cells] using this
instance {v : ReaderV} : CellAt v.cells 1 (.int .i64 v.at_) := ⟨by simp [ReaderV.cells, ReaderV.list, List.getElem?_append, hlist_length]⟩
instance {v : ReaderV} {u : Int} : Put v.cells 1 (.int .i64 u) { v with at_ := u }.cells := by have := Put.mid ([.slice v.b.a v.b.l.length v.b.c]) ([.int .i64 v.at_]) ([] : List Value) (cs := v.cells) (o := 1) (n := 1) (v := .int .i64 u) (by simp [ReaderV.cells, ReaderV.list]) (by simp) rfl rfl; simpa [ReaderV.cells, ReaderV.list, Value.cells] using this
instance {f0 : BS} {f1 : Int} : CellAt (ReaderV.mk f0 f1).cells 0 (.slice f0.a f0.l.length f0.c) := inferInstanceAs (CellAt (ReaderV.mk f0 f1).cells 0 (.slice (ReaderV.mk f0 f1).b.a (ReaderV.mk f0 f1).b.l.length (ReaderV.mk f0 f1).b.c))
instance {f1 : Int} {a : Option Addr} {c : Nat} {l : List UInt8} : CellAt (ReaderV.mk (BS.mk a c l) f1).cells 0 (.slice a l.length c) := inferInstanceAs (CellAt (ReaderV.mk (BS.mk a c l) f1).cells 0 (.slice (ReaderV.mk (BS.mk a c l) f1).b.a (ReaderV.mk (BS.mk a c l) f1).b.l.length (ReaderV.mk (BS.mk a c l) f1).b.c))
instance {f0 : BS} {f1 : Int} {a : Option Addr} {c : Nat} {l : List UInt8} : Put (ReaderV.mk f0 f1).cells 0 (.slice a l.length c) (ReaderV.mk (BS.mk a c l) f1).cells := inferInstanceAs (Put (ReaderV.mk f0 f1).cells 0 (.slice a l.length c) { (ReaderV.mk f0 f1) with b := (BS.mk a c l) }.cells)
instance (priority := high) {f0 : BS} {f1 : Int} : Put (ReaderV.mk f0 f1).cells 0 (.slice none 0 0) (ReaderV.mk ⟨none, 0, []⟩ f1).cells := inferInstanceAs (Put (ReaderV.mk f0 f1).cells 0 (.slice none 0 0) { (ReaderV.mk f0 f1) with b := ⟨none, 0, []⟩ }.cells)
instance {f0 : BS} {f1 : Int} : CellAt (ReaderV.mk f0 f1).cells 1 (.int .i64 f1) := inferInstanceAs (CellAt (ReaderV.mk f0 f1).cells 1 (.int .i64 (ReaderV.mk f0 f1).at_))
instance {f0 : BS} {f1 : Int} {u : Int} : Put (ReaderV.mk f0 f1).cells 1 (.int .i64 u) (ReaderV.mk f0 u).cells := inferInstanceAs (Put (ReaderV.mk f0 f1).cells 1 (.int .i64 u) { (ReaderV.mk f0 f1) with at_ := u }.cells)
@[reducible] def ReaderV.zero : ReaderV := { b := ⟨none, 0, []⟩, at_ := 0 }
instance : TyZ Try.prog 126 (.agg ReaderV.zero.cells) := ⟨by kernel_rfl⟩
structure ViewV where
  num : Int
  mask : Int
def ViewV.list (v : ViewV) : List Value := [.int .i64 v.num] ++ ([.int .u16 v.mask])
def ViewV.cells (v : ViewV) : Array Value := v.list.toArray
theorem ViewV.list_len (v : ViewV) : v.list.length = 2 := by simp [ViewV.list]
theorem ViewV.list_one (v : ViewV) : v.list.all Value.oneCell' = true := by simp [ViewV.list, Value.oneCell']
instance {v : ViewV} : Cells v.cells 2 := Cells.list v.list_len v.list_one
theorem ViewV.size (v : ViewV) : v.cells.size = 2 := by simp [ViewV.cells, ViewV.list_len]
instance {v : ViewV} : SubAt v.cells 0 2 v.cells := ⟨by have h := v.size; apply Array.ext <;> simp [h]⟩
instance {v u : ViewV} : Put v.cells 0 (.agg u.cells) u.cells := ⟨by have := put_mid [] v.list [] (v := .agg u.cells) (o := 0) (n := 2) rfl v.list_len u.size; simpa [ViewV.cells, Value.cells] using this, by simp [Value.cells, ViewV.size]⟩
instance {v : ViewV} : CellAt v.cells 0 (.int .i64 v.num) := ⟨by simp [ViewV.cells, ViewV.list, List.getElem?_append, hlist_length]⟩
instance {v : ViewV} {u : Int} : Put v.cells 0 (.int .i64 u) { v with num := u }.cells := by have := Put.mid ([] : List Value) ([.int .i64 v.num]) ([.int .u16 v.mask]) (cs := v.cells) (o := 0) (n := 1) (v := .int .i64 u) (by simp [ViewV.cells, ViewV.list]) (by simp) rfl rfl; simpa [ViewV.cells, ViewV.list, Value.cells] using this
instance {v : ViewV} : CellAt v.cells 1 (.int .u16 v.mask) := ⟨by simp [ViewV.cells, ViewV.list, List.getElem?_append, hlist_length]⟩
instance {v : ViewV} {u : Int} : Put v.cells 1 (.int .u16 u) { v with mask := u }.cells := by have := Put.mid ([.int .i64 v.num]) ([.int .u16 v.mask]) ([] : List Value) (cs := v.cells) (o := 1) (n := 1) (v := .int .u16 u) (by simp [ViewV.cells, ViewV.list]) (by simp) rfl rfl; simpa [ViewV.cells, ViewV.list, Value.cells] using this
instance {f0 : Int} {f1 : Int} : CellAt (ViewV.mk f0 f1).cells 0 (.int .i64 f0) := inferInstanceAs (CellAt (ViewV.mk f0 f1).cells 0 (.int .i64 (ViewV.mk f0 f1).num))
instance {f0 : Int} {f1 : Int} {u : Int} : Put (ViewV.mk f0 f1).cells 0 (.int .i64 u) (ViewV.mk u f1).cells := inferInstanceAs (Put (ViewV.mk f0 f1).cells 0 (.int .i64 u) { (ViewV.mk f0 f1) with num := u }.cells)
instance {f0 : Int} {f1 : Int} : CellAt (ViewV.mk f0 f1).cells 1 (.int .u16 f1) := inferInstanceAs (CellAt (ViewV.mk f0 f1).cells 1 (.int .u16 (ViewV.mk f0 f1).mask))
instance {f0 : Int} {f1 : Int} {u : Int} : Put (ViewV.mk f0 f1).cells 1 (.int .u16 u) (ViewV.mk f0 u).cells := inferInstanceAs (Put (ViewV.mk f0 f1).cells 1 (.int .u16 u) { (ViewV.mk f0 f1) with mask := u }.cells)
@[reducible] def ViewV.zero : ViewV := { num := 0, mask := 0 }
instance : TyZ Try.prog 24 (.agg ViewV.zero.cells) := ⟨by kernel_rfl⟩
theorem ViewV.ext_iff' (x y : ViewV) : x = y ↔ x.num = y.num ∧ x.mask = y.mask := by cases x; cases y; simp
instance : DecidableEq ViewV := fun x y => decidable_of_iff _ (ViewV.ext_iff' x y).symm
instance {x y : ViewV} : EqV Try.prog 24 (.agg x.cells) (.agg y.cells) (decide (x = y)) := ⟨fun d w => by
  rw [run_equalIn_struct w (d + 3) 24 _ _ (by kernel_rfl) (by kernel_rfl)]
  simp only [Program.fieldsOf, Try.underlying24]
  simp only [Op.eqFields, ne_eq, Sem.run_bind, Sem.run_ite, Sem.run_pure, Result.andThen_ok, part1, partN, eqB_run]
  rw [show decide (x = y) = (decide (x.num = y.num) && (decide (x.mask = y.mask) && true)) from by rw [Bool.eq_iff_iff]; simp [ViewV.ext_iff']]
  try simp only [String.reduceEq, not_false_eq_true, if_true, Result.andThen_ok]
  cases decide (x.num = y.num) <;> cases decide (x.mask = y.mask) <;> rfl⟩
structure KeysV where
  seals : PS
  roots : Sl
def KeysV.list (v : KeysV) : List Value := [.slice v.seals.a v.seals.ls.length v.seals.c] ++ ([.slice v.roots.a v.roots.n v.roots.c])
def KeysV.cells (v : KeysV) : Array Value := v.list.toArray
theorem KeysV.list_len (v : KeysV) : v.list.length = 2 := by simp [KeysV.list]
theorem KeysV.list_one (v : KeysV) : v.list.all Value.oneCell' = true := by simp [KeysV.list, Value.oneCell']
instance {v : KeysV} : Cells v.cells 2 := Cells.list v.list_len v.list_one
theorem KeysV.size (v : KeysV) : v.cells.size = 2 := by simp [KeysV.cells, KeysV.list_len]
instance {v : KeysV} : SubAt v.cells 0 2 v.cells := ⟨by have h := v.size; apply Array.ext <;> simp [h]⟩
instance {v u : KeysV} : Put v.cells 0 (.agg u.cells) u.cells := ⟨by have := put_mid [] v.list [] (v := .agg u.cells) (o := 0) (n := 2) rfl v.list_len u.size; simpa [KeysV.cells, Value.cells] using this, by simp [Value.cells, KeysV.size]⟩
instance {v : KeysV} : CellAt v.cells 0 (.slice v.seals.a v.seals.ls.length v.seals.c) := ⟨by simp [KeysV.cells, KeysV.list, List.getElem?_append, hlist_length]⟩
instance {v : KeysV} {a : Option Addr} {l : List BS} {c : Nat} : Put v.cells 0 (.slice a l.length c) { v with seals := ⟨a, c, l⟩ }.cells := by have := Put.mid ([] : List Value) ([.slice v.seals.a v.seals.ls.length v.seals.c]) ([.slice v.roots.a v.roots.n v.roots.c]) (cs := v.cells) (o := 0) (n := 1) (v := .slice a l.length c) (by simp [KeysV.cells, KeysV.list]) (by simp) rfl rfl; simpa [KeysV.cells, KeysV.list, Value.cells] using this
instance (priority := high) {v : KeysV} : Put v.cells 0 (.slice none 0 0) { v with seals := ⟨none, 0, []⟩ }.cells := by have := Put.mid ([] : List Value) ([.slice v.seals.a v.seals.ls.length v.seals.c]) ([.slice v.roots.a v.roots.n v.roots.c]) (cs := v.cells) (o := 0) (n := 1) (v := .slice none 0 0) (by simp [KeysV.cells, KeysV.list]) (by simp) rfl rfl; simpa [KeysV.cells, KeysV.list, Value.cells] using this
instance {v : KeysV} : CellAt v.cells 1 (.slice v.roots.a v.roots.n v.roots.c) := ⟨by simp [KeysV.cells, KeysV.list, List.getElem?_append, hlist_length]⟩
instance {v : KeysV} {a : Option Addr} {n c : Nat} : Put v.cells 1 (.slice a n c) { v with roots := ⟨a, n, c⟩ }.cells := by have := Put.mid ([.slice v.seals.a v.seals.ls.length v.seals.c]) ([.slice v.roots.a v.roots.n v.roots.c]) ([] : List Value) (cs := v.cells) (o := 1) (n := 1) (v := .slice a n c) (by simp [KeysV.cells, KeysV.list]) (by simp) rfl rfl; simpa [KeysV.cells, KeysV.list, Value.cells] using this
instance {f0 : PS} {f1 : Sl} : CellAt (KeysV.mk f0 f1).cells 0 (.slice f0.a f0.ls.length f0.c) := inferInstanceAs (CellAt (KeysV.mk f0 f1).cells 0 (.slice (KeysV.mk f0 f1).seals.a (KeysV.mk f0 f1).seals.ls.length (KeysV.mk f0 f1).seals.c))
instance {f1 : Sl} {a : Option Addr} {c : Nat} {l : List BS} : CellAt (KeysV.mk (PS.mk a c l) f1).cells 0 (.slice a l.length c) := inferInstanceAs (CellAt (KeysV.mk (PS.mk a c l) f1).cells 0 (.slice (KeysV.mk (PS.mk a c l) f1).seals.a (KeysV.mk (PS.mk a c l) f1).seals.ls.length (KeysV.mk (PS.mk a c l) f1).seals.c))
instance {f0 : PS} {f1 : Sl} {a : Option Addr} {c : Nat} {l : List BS} : Put (KeysV.mk f0 f1).cells 0 (.slice a l.length c) (KeysV.mk (PS.mk a c l) f1).cells := inferInstanceAs (Put (KeysV.mk f0 f1).cells 0 (.slice a l.length c) { (KeysV.mk f0 f1) with seals := (PS.mk a c l) }.cells)
instance (priority := high) {f0 : PS} {f1 : Sl} : Put (KeysV.mk f0 f1).cells 0 (.slice none 0 0) (KeysV.mk ⟨none, 0, []⟩ f1).cells := inferInstanceAs (Put (KeysV.mk f0 f1).cells 0 (.slice none 0 0) { (KeysV.mk f0 f1) with seals := ⟨none, 0, []⟩ }.cells)
instance {f0 : PS} {f1 : Sl} : CellAt (KeysV.mk f0 f1).cells 1 (.slice f1.a f1.n f1.c) := inferInstanceAs (CellAt (KeysV.mk f0 f1).cells 1 (.slice (KeysV.mk f0 f1).roots.a (KeysV.mk f0 f1).roots.n (KeysV.mk f0 f1).roots.c))
instance {f0 : PS} {a : Option Addr} {n c : Nat} : CellAt (KeysV.mk f0 (Sl.mk a n c)).cells 1 (.slice a n c) := inferInstanceAs (CellAt (KeysV.mk f0 (Sl.mk a n c)).cells 1 (.slice (KeysV.mk f0 (Sl.mk a n c)).roots.a (KeysV.mk f0 (Sl.mk a n c)).roots.n (KeysV.mk f0 (Sl.mk a n c)).roots.c))
instance {f0 : PS} {f1 : Sl} {a : Option Addr} {n c : Nat} : Put (KeysV.mk f0 f1).cells 1 (.slice a n c) (KeysV.mk f0 (Sl.mk a n c)).cells := inferInstanceAs (Put (KeysV.mk f0 f1).cells 1 (.slice a n c) { (KeysV.mk f0 f1) with roots := (Sl.mk a n c) }.cells)
@[reducible] def KeysV.zero : KeysV := { seals := ⟨none, 0, []⟩, roots := ⟨none, 0, 0⟩ }
instance : TyZ Try.prog 32 (.agg KeysV.zero.cells) := ⟨by kernel_rfl⟩
structure MsgV where
  kind : Int
  frm : Int
  view : Int
  reg : Int
  slot : Int
  hash : Vector UInt8 32
  body : BS
  parts : PS
def MsgV.list (v : MsgV) : List Value := [.int .i64 v.kind] ++ ([.int .i64 v.frm] ++ ([.int .i64 v.view] ++ ([.int .i64 v.reg] ++ ([.int .i64 v.slot] ++ (hlist v.hash ++ ([.slice v.body.a v.body.l.length v.body.c] ++ ([.slice v.parts.a v.parts.ls.length v.parts.c])))))))
def MsgV.cells (v : MsgV) : Array Value := v.list.toArray
theorem MsgV.list_len (v : MsgV) : v.list.length = 39 := by simp [MsgV.list]
theorem MsgV.list_one (v : MsgV) : v.list.all Value.oneCell' = true := by simp [MsgV.list, Value.oneCell']
instance {v : MsgV} : Cells v.cells 39 := Cells.list v.list_len v.list_one
theorem MsgV.size (v : MsgV) : v.cells.size = 39 := by simp [MsgV.cells, MsgV.list_len]
instance {v : MsgV} : SubAt v.cells 0 39 v.cells := ⟨by have h := v.size; apply Array.ext <;> simp [h]⟩
instance {v u : MsgV} : Put v.cells 0 (.agg u.cells) u.cells := ⟨by have := put_mid [] v.list [] (v := .agg u.cells) (o := 0) (n := 39) rfl v.list_len u.size; simpa [MsgV.cells, Value.cells] using this, by simp [Value.cells, MsgV.size]⟩
instance {v : MsgV} : CellAt v.cells 0 (.int .i64 v.kind) := ⟨by simp [MsgV.cells, MsgV.list, List.getElem?_append, hlist_length]⟩
instance {v : MsgV} {u : Int} : Put v.cells 0 (.int .i64 u) { v with kind := u }.cells := by have := Put.mid ([] : List Value) ([.int .i64 v.kind]) ([.int .i64 v.frm] ++ [.int .i64 v.view] ++ [.int .i64 v.reg] ++ [.int .i64 v.slot] ++ hlist v.hash ++ [.slice v.body.a v.body.l.length v.body.c] ++ [.slice v.parts.a v.parts.ls.length v.parts.c]) (cs := v.cells) (o := 0) (n := 1) (v := .int .i64 u) (by simp [MsgV.cells, MsgV.list]) (by simp) rfl rfl; simpa [MsgV.cells, MsgV.list, Value.cells] using this
instance {v : MsgV} : CellAt v.cells 1 (.int .i64 v.frm) := ⟨by simp [MsgV.cells, MsgV.list, List.getElem?_append, hlist_length]⟩
instance {v : MsgV} {u : Int} : Put v.cells 1 (.int .i64 u) { v with frm := u }.cells := by have := Put.mid ([.int .i64 v.kind]) ([.int .i64 v.frm]) ([.int .i64 v.view] ++ [.int .i64 v.reg] ++ [.int .i64 v.slot] ++ hlist v.hash ++ [.slice v.body.a v.body.l.length v.body.c] ++ [.slice v.parts.a v.parts.ls.length v.parts.c]) (cs := v.cells) (o := 1) (n := 1) (v := .int .i64 u) (by simp [MsgV.cells, MsgV.list]) (by simp) rfl rfl; simpa [MsgV.cells, MsgV.list, Value.cells] using this
instance {v : MsgV} : CellAt v.cells 2 (.int .i64 v.view) := ⟨by simp [MsgV.cells, MsgV.list, List.getElem?_append, hlist_length]⟩
instance {v : MsgV} {u : Int} : Put v.cells 2 (.int .i64 u) { v with view := u }.cells := by have := Put.mid ([.int .i64 v.kind] ++ [.int .i64 v.frm]) ([.int .i64 v.view]) ([.int .i64 v.reg] ++ [.int .i64 v.slot] ++ hlist v.hash ++ [.slice v.body.a v.body.l.length v.body.c] ++ [.slice v.parts.a v.parts.ls.length v.parts.c]) (cs := v.cells) (o := 2) (n := 1) (v := .int .i64 u) (by simp [MsgV.cells, MsgV.list]) (by simp) rfl rfl; simpa [MsgV.cells, MsgV.list, Value.cells] using this
instance {v : MsgV} : CellAt v.cells 3 (.int .i64 v.reg) := ⟨by simp [MsgV.cells, MsgV.list, List.getElem?_append, hlist_length]⟩
instance {v : MsgV} {u : Int} : Put v.cells 3 (.int .i64 u) { v with reg := u }.cells := by have := Put.mid ([.int .i64 v.kind] ++ [.int .i64 v.frm] ++ [.int .i64 v.view]) ([.int .i64 v.reg]) ([.int .i64 v.slot] ++ hlist v.hash ++ [.slice v.body.a v.body.l.length v.body.c] ++ [.slice v.parts.a v.parts.ls.length v.parts.c]) (cs := v.cells) (o := 3) (n := 1) (v := .int .i64 u) (by simp [MsgV.cells, MsgV.list]) (by simp) rfl rfl; simpa [MsgV.cells, MsgV.list, Value.cells] using this
instance {v : MsgV} : CellAt v.cells 4 (.int .i64 v.slot) := ⟨by simp [MsgV.cells, MsgV.list, List.getElem?_append, hlist_length]⟩
instance {v : MsgV} {u : Int} : Put v.cells 4 (.int .i64 u) { v with slot := u }.cells := by have := Put.mid ([.int .i64 v.kind] ++ [.int .i64 v.frm] ++ [.int .i64 v.view] ++ [.int .i64 v.reg]) ([.int .i64 v.slot]) (hlist v.hash ++ [.slice v.body.a v.body.l.length v.body.c] ++ [.slice v.parts.a v.parts.ls.length v.parts.c]) (cs := v.cells) (o := 4) (n := 1) (v := .int .i64 u) (by simp [MsgV.cells, MsgV.list]) (by simp) rfl rfl; simpa [MsgV.cells, MsgV.list, Value.cells] using this
instance {v : MsgV} : SubAt v.cells 5 32 (hlist v.hash).toArray := ⟨by first | (simp [MsgV.cells, MsgV.list]; done) | (have := sub_mid ([.int .i64 v.kind] ++ [.int .i64 v.frm] ++ [.int .i64 v.view] ++ [.int .i64 v.reg] ++ [.int .i64 v.slot]) (hlist v.hash) ([.slice v.body.a v.body.l.length v.body.c] ++ [.slice v.parts.a v.parts.ls.length v.parts.c]) (o := 5) (n := 32) (by simp) (by simp); simpa [MsgV.cells, MsgV.list] using this)⟩
instance {v : MsgV} {u : Vector UInt8 32} : Put v.cells 5 (.agg (hlist u).toArray) { v with hash := u }.cells := by have := Put.mid ([.int .i64 v.kind] ++ [.int .i64 v.frm] ++ [.int .i64 v.view] ++ [.int .i64 v.reg] ++ [.int .i64 v.slot]) (hlist v.hash) ([.slice v.body.a v.body.l.length v.body.c] ++ [.slice v.parts.a v.parts.ls.length v.parts.c]) (cs := v.cells) (o := 5) (n := 32) (v := .agg (hlist u).toArray) (by simp [MsgV.cells, MsgV.list]) (by simp) (by simp) (by simp [Value.cells]); simp only [Value.cells, MsgV.cells, MsgV.list, List.append_assoc, List.nil_append, List.cons_append] at this ⊢; first | exact this | simpa using this
instance {v : MsgV} : CellAt v.cells 37 (.slice v.body.a v.body.l.length v.body.c) := ⟨by simp [MsgV.cells, MsgV.list, List.getElem?_append, hlist_length]⟩
instance {v : MsgV} {a : Option Addr} {l : List UInt8} {c : Nat} : Put v.cells 37 (.slice a l.length c) { v with body := ⟨a, c, l⟩ }.cells := by have := Put.mid ([.int .i64 v.kind] ++ [.int .i64 v.frm] ++ [.int .i64 v.view] ++ [.int .i64 v.reg] ++ [.int .i64 v.slot] ++ hlist v.hash) ([.slice v.body.a v.body.l.length v.body.c]) ([.slice v.parts.a v.parts.ls.length v.parts.c]) (cs := v.cells) (o := 37) (n := 1) (v := .slice a l.length c) (by simp [MsgV.cells, MsgV.list]) (by simp) rfl rfl; simpa [MsgV.cells, MsgV.list, Value.cells] using this
instance (priority := high) {v : MsgV} : Put v.cells 37 (.slice none 0 0) { v with body := ⟨none, 0, []⟩ }.cells := by have := Put.mid ([.int .i64 v.kind] ++ [.int .i64 v.frm] ++ [.int .i64 v.view] ++ [.int .i64 v.reg] ++ [.int .i64 v.slot] ++ hlist v.hash) ([.slice v.body.a v.body.l.length v.body.c]) ([.slice v.parts.a v.parts.ls.length v.parts.c]) (cs := v.cells) (o := 37) (n := 1) (v := .slice none 0 0) (by simp [MsgV.cells, MsgV.list]) (by simp) rfl rfl; simpa [MsgV.cells, MsgV.list, Value.cells] using this
instance {v : MsgV} : CellAt v.cells 38 (.slice v.parts.a v.parts.ls.length v.parts.c) := ⟨by simp [MsgV.cells, MsgV.list, List.getElem?_append, hlist_length]⟩
instance {v : MsgV} {a : Option Addr} {l : List BS} {c : Nat} : Put v.cells 38 (.slice a l.length c) { v with parts := ⟨a, c, l⟩ }.cells := by have := Put.mid ([.int .i64 v.kind] ++ [.int .i64 v.frm] ++ [.int .i64 v.view] ++ [.int .i64 v.reg] ++ [.int .i64 v.slot] ++ hlist v.hash ++ [.slice v.body.a v.body.l.length v.body.c]) ([.slice v.parts.a v.parts.ls.length v.parts.c]) ([] : List Value) (cs := v.cells) (o := 38) (n := 1) (v := .slice a l.length c) (by simp [MsgV.cells, MsgV.list]) (by simp) rfl rfl; simpa [MsgV.cells, MsgV.list, Value.cells] using this
instance (priority := high) {v : MsgV} : Put v.cells 38 (.slice none 0 0) { v with parts := ⟨none, 0, []⟩ }.cells := by have := Put.mid ([.int .i64 v.kind] ++ [.int .i64 v.frm] ++ [.int .i64 v.view] ++ [.int .i64 v.reg] ++ [.int .i64 v.slot] ++ hlist v.hash ++ [.slice v.body.a v.body.l.length v.body.c]) ([.slice v.parts.a v.parts.ls.length v.parts.c]) ([] : List Value) (cs := v.cells) (o := 38) (n := 1) (v := .slice none 0 0) (by simp [MsgV.cells, MsgV.list]) (by simp) rfl rfl; simpa [MsgV.cells, MsgV.list, Value.cells] using this
instance {f0 : Int} {f1 : Int} {f2 : Int} {f3 : Int} {f4 : Int} {f5 : Vector UInt8 32} {f6 : BS} {f7 : PS} : CellAt (MsgV.mk f0 f1 f2 f3 f4 f5 f6 f7).cells 0 (.int .i64 f0) := inferInstanceAs (CellAt (MsgV.mk f0 f1 f2 f3 f4 f5 f6 f7).cells 0 (.int .i64 (MsgV.mk f0 f1 f2 f3 f4 f5 f6 f7).kind))
instance {f0 : Int} {f1 : Int} {f2 : Int} {f3 : Int} {f4 : Int} {f5 : Vector UInt8 32} {f6 : BS} {f7 : PS} {u : Int} : Put (MsgV.mk f0 f1 f2 f3 f4 f5 f6 f7).cells 0 (.int .i64 u) (MsgV.mk u f1 f2 f3 f4 f5 f6 f7).cells := inferInstanceAs (Put (MsgV.mk f0 f1 f2 f3 f4 f5 f6 f7).cells 0 (.int .i64 u) { (MsgV.mk f0 f1 f2 f3 f4 f5 f6 f7) with kind := u }.cells)
instance {f0 : Int} {f1 : Int} {f2 : Int} {f3 : Int} {f4 : Int} {f5 : Vector UInt8 32} {f6 : BS} {f7 : PS} : CellAt (MsgV.mk f0 f1 f2 f3 f4 f5 f6 f7).cells 1 (.int .i64 f1) := inferInstanceAs (CellAt (MsgV.mk f0 f1 f2 f3 f4 f5 f6 f7).cells 1 (.int .i64 (MsgV.mk f0 f1 f2 f3 f4 f5 f6 f7).frm))
instance {f0 : Int} {f1 : Int} {f2 : Int} {f3 : Int} {f4 : Int} {f5 : Vector UInt8 32} {f6 : BS} {f7 : PS} {u : Int} : Put (MsgV.mk f0 f1 f2 f3 f4 f5 f6 f7).cells 1 (.int .i64 u) (MsgV.mk f0 u f2 f3 f4 f5 f6 f7).cells := inferInstanceAs (Put (MsgV.mk f0 f1 f2 f3 f4 f5 f6 f7).cells 1 (.int .i64 u) { (MsgV.mk f0 f1 f2 f3 f4 f5 f6 f7) with frm := u }.cells)
instance {f0 : Int} {f1 : Int} {f2 : Int} {f3 : Int} {f4 : Int} {f5 : Vector UInt8 32} {f6 : BS} {f7 : PS} : CellAt (MsgV.mk f0 f1 f2 f3 f4 f5 f6 f7).cells 2 (.int .i64 f2) := inferInstanceAs (CellAt (MsgV.mk f0 f1 f2 f3 f4 f5 f6 f7).cells 2 (.int .i64 (MsgV.mk f0 f1 f2 f3 f4 f5 f6 f7).view))
instance {f0 : Int} {f1 : Int} {f2 : Int} {f3 : Int} {f4 : Int} {f5 : Vector UInt8 32} {f6 : BS} {f7 : PS} {u : Int} : Put (MsgV.mk f0 f1 f2 f3 f4 f5 f6 f7).cells 2 (.int .i64 u) (MsgV.mk f0 f1 u f3 f4 f5 f6 f7).cells := inferInstanceAs (Put (MsgV.mk f0 f1 f2 f3 f4 f5 f6 f7).cells 2 (.int .i64 u) { (MsgV.mk f0 f1 f2 f3 f4 f5 f6 f7) with view := u }.cells)
instance {f0 : Int} {f1 : Int} {f2 : Int} {f3 : Int} {f4 : Int} {f5 : Vector UInt8 32} {f6 : BS} {f7 : PS} : CellAt (MsgV.mk f0 f1 f2 f3 f4 f5 f6 f7).cells 3 (.int .i64 f3) := inferInstanceAs (CellAt (MsgV.mk f0 f1 f2 f3 f4 f5 f6 f7).cells 3 (.int .i64 (MsgV.mk f0 f1 f2 f3 f4 f5 f6 f7).reg))
instance {f0 : Int} {f1 : Int} {f2 : Int} {f3 : Int} {f4 : Int} {f5 : Vector UInt8 32} {f6 : BS} {f7 : PS} {u : Int} : Put (MsgV.mk f0 f1 f2 f3 f4 f5 f6 f7).cells 3 (.int .i64 u) (MsgV.mk f0 f1 f2 u f4 f5 f6 f7).cells := inferInstanceAs (Put (MsgV.mk f0 f1 f2 f3 f4 f5 f6 f7).cells 3 (.int .i64 u) { (MsgV.mk f0 f1 f2 f3 f4 f5 f6 f7) with reg := u }.cells)
instance {f0 : Int} {f1 : Int} {f2 : Int} {f3 : Int} {f4 : Int} {f5 : Vector UInt8 32} {f6 : BS} {f7 : PS} : CellAt (MsgV.mk f0 f1 f2 f3 f4 f5 f6 f7).cells 4 (.int .i64 f4) := inferInstanceAs (CellAt (MsgV.mk f0 f1 f2 f3 f4 f5 f6 f7).cells 4 (.int .i64 (MsgV.mk f0 f1 f2 f3 f4 f5 f6 f7).slot))
instance {f0 : Int} {f1 : Int} {f2 : Int} {f3 : Int} {f4 : Int} {f5 : Vector UInt8 32} {f6 : BS} {f7 : PS} {u : Int} : Put (MsgV.mk f0 f1 f2 f3 f4 f5 f6 f7).cells 4 (.int .i64 u) (MsgV.mk f0 f1 f2 f3 u f5 f6 f7).cells := inferInstanceAs (Put (MsgV.mk f0 f1 f2 f3 f4 f5 f6 f7).cells 4 (.int .i64 u) { (MsgV.mk f0 f1 f2 f3 f4 f5 f6 f7) with slot := u }.cells)
instance {f0 : Int} {f1 : Int} {f2 : Int} {f3 : Int} {f4 : Int} {f5 : Vector UInt8 32} {f6 : BS} {f7 : PS} {u : Vector UInt8 32} : Put (MsgV.mk f0 f1 f2 f3 f4 f5 f6 f7).cells 5 (.agg (hlist u).toArray) (MsgV.mk f0 f1 f2 f3 f4 u f6 f7).cells := inferInstanceAs (Put (MsgV.mk f0 f1 f2 f3 f4 f5 f6 f7).cells 5 (.agg (hlist u).toArray) { (MsgV.mk f0 f1 f2 f3 f4 f5 f6 f7) with hash := u }.cells)
instance {f0 : Int} {f1 : Int} {f2 : Int} {f3 : Int} {f4 : Int} {f5 : Vector UInt8 32} {f6 : BS} {f7 : PS} : SubAt (MsgV.mk f0 f1 f2 f3 f4 f5 f6 f7).cells 5 32 (hlist f5).toArray := inferInstanceAs (SubAt (MsgV.mk f0 f1 f2 f3 f4 f5 f6 f7).cells 5 32 (hlist (MsgV.mk f0 f1 f2 f3 f4 f5 f6 f7).hash).toArray)
instance {f0 : Int} {f1 : Int} {f2 : Int} {f3 : Int} {f4 : Int} {f5 : Vector UInt8 32} {f6 : BS} {f7 : PS} : CellAt (MsgV.mk f0 f1 f2 f3 f4 f5 f6 f7).cells 37 (.slice f6.a f6.l.length f6.c) := inferInstanceAs (CellAt (MsgV.mk f0 f1 f2 f3 f4 f5 f6 f7).cells 37 (.slice (MsgV.mk f0 f1 f2 f3 f4 f5 f6 f7).body.a (MsgV.mk f0 f1 f2 f3 f4 f5 f6 f7).body.l.length (MsgV.mk f0 f1 f2 f3 f4 f5 f6 f7).body.c))
instance {f0 : Int} {f1 : Int} {f2 : Int} {f3 : Int} {f4 : Int} {f5 : Vector UInt8 32} {f7 : PS} {a : Option Addr} {c : Nat} {l : List UInt8} : CellAt (MsgV.mk f0 f1 f2 f3 f4 f5 (BS.mk a c l) f7).cells 37 (.slice a l.length c) := inferInstanceAs (CellAt (MsgV.mk f0 f1 f2 f3 f4 f5 (BS.mk a c l) f7).cells 37 (.slice (MsgV.mk f0 f1 f2 f3 f4 f5 (BS.mk a c l) f7).body.a (MsgV.mk f0 f1 f2 f3 f4 f5 (BS.mk a c l) f7).body.l.length (MsgV.mk f0 f1 f2 f3 f4 f5 (BS.mk a c l) f7).body.c))
instance {f0 : Int} {f1 : Int} {f2 : Int} {f3 : Int} {f4 : Int} {f5 : Vector UInt8 32} {f6 : BS} {f7 : PS} {a : Option Addr} {c : Nat} {l : List UInt8} : Put (MsgV.mk f0 f1 f2 f3 f4 f5 f6 f7).cells 37 (.slice a l.length c) (MsgV.mk f0 f1 f2 f3 f4 f5 (BS.mk a c l) f7).cells := inferInstanceAs (Put (MsgV.mk f0 f1 f2 f3 f4 f5 f6 f7).cells 37 (.slice a l.length c) { (MsgV.mk f0 f1 f2 f3 f4 f5 f6 f7) with body := (BS.mk a c l) }.cells)
instance (priority := high) {f0 : Int} {f1 : Int} {f2 : Int} {f3 : Int} {f4 : Int} {f5 : Vector UInt8 32} {f6 : BS} {f7 : PS} : Put (MsgV.mk f0 f1 f2 f3 f4 f5 f6 f7).cells 37 (.slice none 0 0) (MsgV.mk f0 f1 f2 f3 f4 f5 ⟨none, 0, []⟩ f7).cells := inferInstanceAs (Put (MsgV.mk f0 f1 f2 f3 f4 f5 f6 f7).cells 37 (.slice none 0 0) { (MsgV.mk f0 f1 f2 f3 f4 f5 f6 f7) with body := ⟨none, 0, []⟩ }.cells)
instance {f0 : Int} {f1 : Int} {f2 : Int} {f3 : Int} {f4 : Int} {f5 : Vector UInt8 32} {f6 : BS} {f7 : PS} : CellAt (MsgV.mk f0 f1 f2 f3 f4 f5 f6 f7).cells 38 (.slice f7.a f7.ls.length f7.c) := inferInstanceAs (CellAt (MsgV.mk f0 f1 f2 f3 f4 f5 f6 f7).cells 38 (.slice (MsgV.mk f0 f1 f2 f3 f4 f5 f6 f7).parts.a (MsgV.mk f0 f1 f2 f3 f4 f5 f6 f7).parts.ls.length (MsgV.mk f0 f1 f2 f3 f4 f5 f6 f7).parts.c))
instance {f0 : Int} {f1 : Int} {f2 : Int} {f3 : Int} {f4 : Int} {f5 : Vector UInt8 32} {f6 : BS} {a : Option Addr} {c : Nat} {l : List BS} : CellAt (MsgV.mk f0 f1 f2 f3 f4 f5 f6 (PS.mk a c l)).cells 38 (.slice a l.length c) := inferInstanceAs (CellAt (MsgV.mk f0 f1 f2 f3 f4 f5 f6 (PS.mk a c l)).cells 38 (.slice (MsgV.mk f0 f1 f2 f3 f4 f5 f6 (PS.mk a c l)).parts.a (MsgV.mk f0 f1 f2 f3 f4 f5 f6 (PS.mk a c l)).parts.ls.length (MsgV.mk f0 f1 f2 f3 f4 f5 f6 (PS.mk a c l)).parts.c))
instance {f0 : Int} {f1 : Int} {f2 : Int} {f3 : Int} {f4 : Int} {f5 : Vector UInt8 32} {f6 : BS} {f7 : PS} {a : Option Addr} {c : Nat} {l : List BS} : Put (MsgV.mk f0 f1 f2 f3 f4 f5 f6 f7).cells 38 (.slice a l.length c) (MsgV.mk f0 f1 f2 f3 f4 f5 f6 (PS.mk a c l)).cells := inferInstanceAs (Put (MsgV.mk f0 f1 f2 f3 f4 f5 f6 f7).cells 38 (.slice a l.length c) { (MsgV.mk f0 f1 f2 f3 f4 f5 f6 f7) with parts := (PS.mk a c l) }.cells)
instance (priority := high) {f0 : Int} {f1 : Int} {f2 : Int} {f3 : Int} {f4 : Int} {f5 : Vector UInt8 32} {f6 : BS} {f7 : PS} : Put (MsgV.mk f0 f1 f2 f3 f4 f5 f6 f7).cells 38 (.slice none 0 0) (MsgV.mk f0 f1 f2 f3 f4 f5 f6 ⟨none, 0, []⟩).cells := inferInstanceAs (Put (MsgV.mk f0 f1 f2 f3 f4 f5 f6 f7).cells 38 (.slice none 0 0) { (MsgV.mk f0 f1 f2 f3 f4 f5 f6 f7) with parts := ⟨none, 0, []⟩ }.cells)
@[reducible] def MsgV.zero : MsgV := { kind := 0, frm := 0, view := 0, reg := 0, slot := 0, hash := zeroV 32, body := ⟨none, 0, []⟩, parts := ⟨none, 0, []⟩ }
instance : TyZ Try.prog 43 (.agg MsgV.zero.cells) := ⟨by kernel_rfl⟩
end Go.Proofs.Ytnijomppbgdmnaa
