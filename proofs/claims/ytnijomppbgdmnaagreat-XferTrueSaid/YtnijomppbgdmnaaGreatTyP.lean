/- Structures for the struct types of this translation, with their cells. Printed by program. -/
import Derived.Test.YtnijomppbgdmnaaGreatTfP
set_option linter.unusedSimpArgs false
set_option linter.unusedVariables false
set_option linter.unnecessarySimpa false
namespace Go.Proofs.YtnijomppbgdmnaaGreat
open Go.RowKit Go.Sx
set_option maxRecDepth 100000
structure ReaderV where
  b : BS
  at_ : Int
def ReaderV.list (v : ReaderV) : List Value := [.slice v.b.a v.b.l.length v.b.c] ++ ([.int .i64 v.at_])
def ReaderV.cells (v : ReaderV) : Array Value := v.list.toArray
theorem ReaderV.list_len (v : ReaderV) : v.list.length = 2 := by simp [ReaderV.list]
theorem ReaderV.list_one (v : ReaderV) : v.list.all Value.oneCell' = true := by simp [ReaderV.list, Value.oneCell']
theorem ReaderV.size (v : ReaderV) : v.cells.size = 2 := by simp [ReaderV.cells, ReaderV.list_len]
instance {v : ReaderV} : CellAt v.cells 0 (.slice v.b.a v.b.l.length v.b.c) := ⟨by simp [ReaderV.cells, ReaderV.list, List.getElem?_append, hlist_length]⟩
instance {v : ReaderV} {a : Option Addr} {l : List UInt8} {c : Nat} : Put v.cells 0 (.slice a l.length c) { v with b := ⟨a, c, l⟩ }.cells := by have := Put.mid ([] : List Value) ([.slice v.b.a v.b.l.length v.b.c]) ([.int .i64 v.at_]) (cs := v.cells) (o := 0) (n := 1) (v := .slice a l.length c) (by simp [ReaderV.cells, ReaderV.list]) (by simp) rfl rfl; simpa [ReaderV.cells, ReaderV.list, Value.cells] using this
instance {v : ReaderV} : CellAt v.cells 1 (.int .i64 v.at_) := ⟨by simp [ReaderV.cells, ReaderV.list, List.getElem?_append, hlist_length]⟩
instance {v : ReaderV} {u : Int} : Put v.cells 1 (.int .i64 u) { v with at_ := u }.cells := by have := Put.mid ([.slice v.b.a v.b.l.length v.b.c]) ([.int .i64 v.at_]) ([] : List Value) (cs := v.cells) (o := 1) (n := 1) (v := .int .i64 u) (by simp [ReaderV.cells, ReaderV.list]) (by simp) rfl rfl; simpa [ReaderV.cells, ReaderV.list, Value.cells] using this
instance {f0 : BS} {f1 : Int} : CellAt (ReaderV.mk f0 f1).cells 0 (.slice f0.a f0.l.length f0.c) := inferInstanceAs (CellAt (ReaderV.mk f0 f1).cells 0 (.slice (ReaderV.mk f0 f1).b.a (ReaderV.mk f0 f1).b.l.length (ReaderV.mk f0 f1).b.c))
instance {f0 : BS} {f1 : Int} {a : Option Addr} {c : Nat} {l : List UInt8} : Put (ReaderV.mk f0 f1).cells 0 (.slice a l.length c) (ReaderV.mk (BS.mk a c l) f1).cells := inferInstanceAs (Put (ReaderV.mk f0 f1).cells 0 (.slice a l.length c) { (ReaderV.mk f0 f1) with b := (BS.mk a c l) }.cells)
instance {f0 : BS} {f1 : Int} : CellAt (ReaderV.mk f0 f1).cells 1 (.int .i64 f1) := inferInstanceAs (CellAt (ReaderV.mk f0 f1).cells 1 (.int .i64 (ReaderV.mk f0 f1).at_))
instance {f0 : BS} {f1 : Int} {u : Int} : Put (ReaderV.mk f0 f1).cells 1 (.int .i64 u) (ReaderV.mk f0 u).cells := inferInstanceAs (Put (ReaderV.mk f0 f1).cells 1 (.int .i64 u) { (ReaderV.mk f0 f1) with at_ := u }.cells)
@[reducible] def ReaderV.zero : ReaderV := { b := ⟨none, 0, []⟩, at_ := 0 }
instance : TyZ Tryz.prog 222 (.agg ReaderV.zero.cells) := ⟨by kernel_rfl⟩
structure ViewV where
  num : Int
  mask : Int
def ViewV.list (v : ViewV) : List Value := [.int .i64 v.num] ++ ([.int .u16 v.mask])
def ViewV.cells (v : ViewV) : Array Value := v.list.toArray
theorem ViewV.list_len (v : ViewV) : v.list.length = 2 := by simp [ViewV.list]
theorem ViewV.list_one (v : ViewV) : v.list.all Value.oneCell' = true := by simp [ViewV.list, Value.oneCell']
instance {v : ViewV} : Cells v.cells 2 := Cells.list v.list_len v.list_one
theorem ViewV.size (v : ViewV) : v.cells.size = 2 := by simp [ViewV.cells, ViewV.list_len]
instance {v : ViewV} : SubAt v.cells 0 2 v.cells := ⟨by have h := v.size; apply Array.ext <;> simp [h]⟩
instance {v u : ViewV} : Put v.cells 0 (.agg u.cells) u.cells := ⟨by have := put_mid [] v.list [] (v := .agg u.cells) (o := 0) (n := 2) rfl v.list_len u.size; simpa [ViewV.cells, Value.cells] using this, by simp [Value.cells, ViewV.size]⟩
instance {v : ViewV} : CellAt v.cells 0 (.int .i64 v.num) := ⟨by simp [ViewV.cells, ViewV.list, List.getElem?_append, hlist_length]⟩
instance {v : ViewV} {u : Int} : Put v.cells 0 (.int .i64 u) { v with num := u }.cells := by have := Put.mid ([] : List Value) ([.int .i64 v.num]) ([.int .u16 v.mask]) (cs := v.cells) (o := 0) (n := 1) (v := .int .i64 u) (by simp [ViewV.cells, ViewV.list]) (by simp) rfl rfl; simpa [ViewV.cells, ViewV.list, Value.cells] using this
instance {v : ViewV} : CellAt v.cells 1 (.int .u16 v.mask) := ⟨by simp [ViewV.cells, ViewV.list, List.getElem?_append, hlist_length]⟩
instance {v : ViewV} {u : Int} : Put v.cells 1 (.int .u16 u) { v with mask := u }.cells := by have := Put.mid ([.int .i64 v.num]) ([.int .u16 v.mask]) ([] : List Value) (cs := v.cells) (o := 1) (n := 1) (v := .int .u16 u) (by simp [ViewV.cells, ViewV.list]) (by simp) rfl rfl; simpa [ViewV.cells, ViewV.list, Value.cells] using this
instance {f0 : Int} {f1 : Int} : CellAt (ViewV.mk f0 f1).cells 0 (.int .i64 f0) := inferInstanceAs (CellAt (ViewV.mk f0 f1).cells 0 (.int .i64 (ViewV.mk f0 f1).num))
instance {f0 : Int} {f1 : Int} {u : Int} : Put (ViewV.mk f0 f1).cells 0 (.int .i64 u) (ViewV.mk u f1).cells := inferInstanceAs (Put (ViewV.mk f0 f1).cells 0 (.int .i64 u) { (ViewV.mk f0 f1) with num := u }.cells)
instance {f0 : Int} {f1 : Int} : CellAt (ViewV.mk f0 f1).cells 1 (.int .u16 f1) := inferInstanceAs (CellAt (ViewV.mk f0 f1).cells 1 (.int .u16 (ViewV.mk f0 f1).mask))
instance {f0 : Int} {f1 : Int} {u : Int} : Put (ViewV.mk f0 f1).cells 1 (.int .u16 u) (ViewV.mk f0 u).cells := inferInstanceAs (Put (ViewV.mk f0 f1).cells 1 (.int .u16 u) { (ViewV.mk f0 f1) with mask := u }.cells)
@[reducible] def ViewV.zero : ViewV := { num := 0, mask := 0 }
instance : TyZ Tryz.prog 24 (.agg ViewV.zero.cells) := ⟨by kernel_rfl⟩
theorem ViewV.ext_iff' (x y : ViewV) : x = y ↔ x.num = y.num ∧ x.mask = y.mask := by cases x; cases y; simp
instance : DecidableEq ViewV := fun x y => decidable_of_iff _ (ViewV.ext_iff' x y).symm
instance {x y : ViewV} : EqV Tryz.prog 24 (.agg x.cells) (.agg y.cells) (decide (x = y)) := ⟨fun d w => by
  rw [run_equalIn_struct w (d + 3) 24 _ _ (by kernel_rfl) (by kernel_rfl)]
  simp only [Program.fieldsOf, Tryz.underlying24]
  simp only [Op.eqFields, ne_eq, Sem.run_bind, Sem.run_ite, Sem.run_pure, Result.andThen_ok, part1, partN, eqB_run]
  rw [show decide (x = y) = (decide (x.num = y.num) && (decide (x.mask = y.mask) && true)) from by rw [Bool.eq_iff_iff]; simp [ViewV.ext_iff']]
  try simp only [String.reduceEq, not_false_eq_true, if_true, Result.andThen_ok]
  cases decide (x.num = y.num) <;> cases decide (x.mask = y.mask) <;> rfl⟩
structure KeysV where
  seals : PS
  roots : Sl
def KeysV.list (v : KeysV) : List Value := [.slice v.seals.a v.seals.ls.length v.seals.c] ++ ([.slice v.roots.a v.roots.n v.roots.c])
def KeysV.cells (v : KeysV) : Array Value := v.list.toArray
theorem KeysV.list_len (v : KeysV) : v.list.length = 2 := by simp [KeysV.list]
theorem KeysV.list_one (v : KeysV) : v.list.all Value.oneCell' = true := by simp [KeysV.list, Value.oneCell']
instance {v : KeysV} : Cells v.cells 2 := Cells.list v.list_len v.list_one
theorem KeysV.size (v : KeysV) : v.cells.size = 2 := by simp [KeysV.cells, KeysV.list_len]
instance {v : KeysV} : SubAt v.cells 0 2 v.cells := ⟨by have h := v.size; apply Array.ext <;> simp [h]⟩
instance {v u : KeysV} : Put v.cells 0 (.agg u.cells) u.cells := ⟨by have := put_mid [] v.list [] (v := .agg u.cells) (o := 0) (n := 2) rfl v.list_len u.size; simpa [KeysV.cells, Value.cells] using this, by simp [Value.cells, KeysV.size]⟩
instance {v : KeysV} : CellAt v.cells 0 (.slice v.seals.a v.seals.ls.length v.seals.c) := ⟨by simp [KeysV.cells, KeysV.list, List.getElem?_append, hlist_length]⟩
instance {v : KeysV} {a : Option Addr} {l : List BS} {c : Nat} : Put v.cells 0 (.slice a l.length c) { v with seals := ⟨a, c, l⟩ }.cells := by have := Put.mid ([] : List Value) ([.slice v.seals.a v.seals.ls.length v.seals.c]) ([.slice v.roots.a v.roots.n v.roots.c]) (cs := v.cells) (o := 0) (n := 1) (v := .slice a l.length c) (by simp [KeysV.cells, KeysV.list]) (by simp) rfl rfl; simpa [KeysV.cells, KeysV.list, Value.cells] using this
instance {v : KeysV} : CellAt v.cells 1 (.slice v.roots.a v.roots.n v.roots.c) := ⟨by simp [KeysV.cells, KeysV.list, List.getElem?_append, hlist_length]⟩
instance {v : KeysV} {a : Option Addr} {n c : Nat} : Put v.cells 1 (.slice a n c) { v with roots := ⟨a, n, c⟩ }.cells := by have := Put.mid ([.slice v.seals.a v.seals.ls.length v.seals.c]) ([.slice v.roots.a v.roots.n v.roots.c]) ([] : List Value) (cs := v.cells) (o := 1) (n := 1) (v := .slice a n c) (by simp [KeysV.cells, KeysV.list]) (by simp) rfl rfl; simpa [KeysV.cells, KeysV.list, Value.cells] using this
instance {f0 : PS} {f1 : Sl} : CellAt (KeysV.mk f0 f1).cells 0 (.slice f0.a f0.ls.length f0.c) := inferInstanceAs (CellAt (KeysV.mk f0 f1).cells 0 (.slice (KeysV.mk f0 f1).seals.a (KeysV.mk f0 f1).seals.ls.length (KeysV.mk f0 f1).seals.c))
instance {f1 : Sl} {a : Option Addr} {c : Nat} {l : List BS} : CellAt (KeysV.mk (PS.mk a c l) f1).cells 0 (.slice a l.length c) := inferInstanceAs (CellAt (KeysV.mk (PS.mk a c l) f1).cells 0 (.slice (KeysV.mk (PS.mk a c l) f1).seals.a (KeysV.mk (PS.mk a c l) f1).seals.ls.length (KeysV.mk (PS.mk a c l) f1).seals.c))
instance {f0 : PS} {f1 : Sl} {a : Option Addr} {c : Nat} {l : List BS} : Put (KeysV.mk f0 f1).cells 0 (.slice a l.length c) (KeysV.mk (PS.mk a c l) f1).cells := inferInstanceAs (Put (KeysV.mk f0 f1).cells 0 (.slice a l.length c) { (KeysV.mk f0 f1) with seals := (PS.mk a c l) }.cells)
instance {f0 : PS} {f1 : Sl} : CellAt (KeysV.mk f0 f1).cells 1 (.slice f1.a f1.n f1.c) := inferInstanceAs (CellAt (KeysV.mk f0 f1).cells 1 (.slice (KeysV.mk f0 f1).roots.a (KeysV.mk f0 f1).roots.n (KeysV.mk f0 f1).roots.c))
instance {f0 : PS} {a : Option Addr} {n c : Nat} : CellAt (KeysV.mk f0 (Sl.mk a n c)).cells 1 (.slice a n c) := inferInstanceAs (CellAt (KeysV.mk f0 (Sl.mk a n c)).cells 1 (.slice (KeysV.mk f0 (Sl.mk a n c)).roots.a (KeysV.mk f0 (Sl.mk a n c)).roots.n (KeysV.mk f0 (Sl.mk a n c)).roots.c))
instance {f0 : PS} {f1 : Sl} {a : Option Addr} {n c : Nat} : Put (KeysV.mk f0 f1).cells 1 (.slice a n c) (KeysV.mk f0 (Sl.mk a n c)).cells := inferInstanceAs (Put (KeysV.mk f0 f1).cells 1 (.slice a n c) { (KeysV.mk f0 f1) with roots := (Sl.mk a n c) }.cells)
@[reducible] def KeysV.zero : KeysV := { seals := ⟨none, 0, []⟩, roots := ⟨none, 0, 0⟩ }
instance : TyZ Tryz.prog 40 (.agg KeysV.zero.cells) := ⟨by kernel_rfl⟩
structure MsgV where
  kind : Int
  frm : Int
  view : Int
  reg : Int
  slot : Int
  hash : Vector UInt8 32
  body : BS
  parts : PS
def MsgV.list (v : MsgV) : List Value := [.int .i64 v.kind] ++ ([.int .i64 v.frm] ++ ([.int .i64 v.view] ++ ([.int .i64 v.reg] ++ ([.int .i64 v.slot] ++ (hlist v.hash ++ ([.slice v.body.a v.body.l.length v.body.c] ++ ([.slice v.parts.a v.parts.ls.length v.parts.c])))))))
def MsgV.cells (v : MsgV) : Array Value := v.list.toArray
theorem MsgV.list_len (v : MsgV) : v.list.length = 39 := by simp [MsgV.list]
theorem MsgV.list_one (v : MsgV) : v.list.all Value.oneCell' = true := by simp [MsgV.list, Value.oneCell']
instance {v : MsgV} : Cells v.cells 39 := Cells.list v.list_len v.list_one
theorem MsgV.size (v : MsgV) : v.cells.size = 39 := by simp [MsgV.cells, MsgV.list_len]
instance {v : MsgV} : SubAt v.cells 0 39 v.cells := ⟨by have h := v.size; apply Array.ext <;> simp [h]⟩
instance {v u : MsgV} : Put v.cells 0 (.agg u.cells) u.cells := ⟨by have := put_mid [] v.list [] (v := .agg u.cells) (o := 0) (n := 39) rfl v.list_len u.size; simpa [MsgV.cells, Value.cells] using this, by simp [Value.cells, MsgV.size]⟩
instance {v : MsgV} : CellAt v.cells 0 (.int .i64 v.kind) := ⟨by simp [MsgV.cells, MsgV.list, List.getElem?_append, hlist_length]⟩
instance {v : MsgV} {u : Int} : Put v.cells 0 (.int .i64 u) { v with kind := u }.cells := by have := Put.mid ([] : List Value) ([.int .i64 v.kind]) ([.int .i64 v.frm] ++ [.int .i64 v.view] ++ [.int .i64 v.reg] ++ [.int .i64 v.slot] ++ hlist v.hash ++ [.slice v.body.a v.body.l.length v.body.c] ++ [.slice v.parts.a v.parts.ls.length v.parts.c]) (cs := v.cells) (o := 0) (n := 1) (v := .int .i64 u) (by simp [MsgV.cells, MsgV.list]) (by simp) rfl rfl; simpa [MsgV.cells, MsgV.list, Value.cells] using this
instance {v : MsgV} : CellAt v.cells 1 (.int .i64 v.frm) := ⟨by simp [MsgV.cells, MsgV.list, List.getElem?_append, hlist_length]⟩
instance {v : MsgV} {u : Int} : Put v.cells 1 (.int .i64 u) { v with frm := u }.cells := by have := Put.mid ([.int .i64 v.kind]) ([.int .i64 v.frm]) ([.int .i64 v.view] ++ [.int .i64 v.reg] ++ [.int .i64 v.slot] ++ hlist v.hash ++ [.slice v.body.a v.body.l.length v.body.c] ++ [.slice v.parts.a v.parts.ls.length v.parts.c]) (cs := v.cells) (o := 1) (n := 1) (v := .int .i64 u) (by simp [MsgV.cells, MsgV.list]) (by simp) rfl rfl; simpa [MsgV.cells, MsgV.list, Value.cells] using this
instance {v : MsgV} : CellAt v.cells 2 (.int .i64 v.view) := ⟨by simp [MsgV.cells, MsgV.list, List.getElem?_append, hlist_length]⟩
instance {v : MsgV} {u : Int} : Put v.cells 2 (.int .i64 u) { v with view := u }.cells := by have := Put.mid ([.int .i64 v.kind] ++ [.int .i64 v.frm]) ([.int .i64 v.view]) ([.int .i64 v.reg] ++ [.int .i64 v.slot] ++ hlist v.hash ++ [.slice v.body.a v.body.l.length v.body.c] ++ [.slice v.parts.a v.parts.ls.length v.parts.c]) (cs := v.cells) (o := 2) (n := 1) (v := .int .i64 u) (by simp [MsgV.cells, MsgV.list]) (by simp) rfl rfl; simpa [MsgV.cells, MsgV.list, Value.cells] using this
instance {v : MsgV} : CellAt v.cells 3 (.int .i64 v.reg) := ⟨by simp [MsgV.cells, MsgV.list, List.getElem?_append, hlist_length]⟩
instance {v : MsgV} {u : Int} : Put v.cells 3 (.int .i64 u) { v with reg := u }.cells := by have := Put.mid ([.int .i64 v.kind] ++ [.int .i64 v.frm] ++ [.int .i64 v.view]) ([.int .i64 v.reg]) ([.int .i64 v.slot] ++ hlist v.hash ++ [.slice v.body.a v.body.l.length v.body.c] ++ [.slice v.parts.a v.parts.ls.length v.parts.c]) (cs := v.cells) (o := 3) (n := 1) (v := .int .i64 u) (by simp [MsgV.cells, MsgV.list]) (by simp) rfl rfl; simpa [MsgV.cells, MsgV.list, Value.cells] using this
instance {v : MsgV} : CellAt v.cells 4 (.int .i64 v.slot) := ⟨by simp [MsgV.cells, MsgV.list, List.getElem?_append, hlist_length]⟩
instance {v : MsgV} {u : Int} : Put v.cells 4 (.int .i64 u) { v with slot := u }.cells := by have := Put.mid ([.int .i64 v.kind] ++ [.int .i64 v.frm] ++ [.int .i64 v.view] ++ [.int .i64 v.reg]) ([.int .i64 v.slot]) (hlist v.hash ++ [.slice v.body.a v.body.l.length v.body.c] ++ [.slice v.parts.a v.parts.ls.length v.parts.c]) (cs := v.cells) (o := 4) (n := 1) (v := .int .i64 u) (by simp [MsgV.cells, MsgV.list]) (by simp) rfl rfl; simpa [MsgV.cells, MsgV.list, Value.cells] using this
instance {v : MsgV} : SubAt v.cells 5 32 (hlist v.hash).toArray := ⟨by first | (simp [MsgV.cells, MsgV.list]; done) | (have := sub_mid ([.int .i64 v.kind] ++ [.int .i64 v.frm] ++ [.int .i64 v.view] ++ [.int .i64 v.reg] ++ [.int .i64 v.slot]) (hlist v.hash) ([.slice v.body.a v.body.l.length v.body.c] ++ [.slice v.parts.a v.parts.ls.length v.parts.c]) (o := 5) (n := 32) (by simp) (by simp); simpa [MsgV.cells, MsgV.list] using this)⟩
instance {v : MsgV} {u : Vector UInt8 32} : Put v.cells 5 (.agg (hlist u).toArray) { v with hash := u }.cells := by have := Put.mid ([.int .i64 v.kind] ++ [.int .i64 v.frm] ++ [.int .i64 v.view] ++ [.int .i64 v.reg] ++ [.int .i64 v.slot]) (hlist v.hash) ([.slice v.body.a v.body.l.length v.body.c] ++ [.slice v.parts.a v.parts.ls.length v.parts.c]) (cs := v.cells) (o := 5) (n := 32) (v := .agg (hlist u).toArray) (by simp [MsgV.cells, MsgV.list]) (by simp) (by simp) (by simp [Value.cells]); simp only [Value.cells, MsgV.cells, MsgV.list, List.append_assoc, List.nil_append, List.cons_append] at this ⊢; first | exact this | simpa using this
instance {v : MsgV} : CellAt v.cells 37 (.slice v.body.a v.body.l.length v.body.c) := ⟨by simp [MsgV.cells, MsgV.list, List.getElem?_append, hlist_length]⟩
instance {v : MsgV} {a : Option Addr} {l : List UInt8} {c : Nat} : Put v.cells 37 (.slice a l.length c) { v with body := ⟨a, c, l⟩ }.cells := by have := Put.mid ([.int .i64 v.kind] ++ [.int .i64 v.frm] ++ [.int .i64 v.view] ++ [.int .i64 v.reg] ++ [.int .i64 v.slot] ++ hlist v.hash) ([.slice v.body.a v.body.l.length v.body.c]) ([.slice v.parts.a v.parts.ls.length v.parts.c]) (cs := v.cells) (o := 37) (n := 1) (v := .slice a l.length c) (by simp [MsgV.cells, MsgV.list]) (by simp) rfl rfl; simpa [MsgV.cells, MsgV.list, Value.cells] using this
instance {v : MsgV} : CellAt v.cells 38 (.slice v.parts.a v.parts.ls.length v.parts.c) := ⟨by simp [MsgV.cells, MsgV.list, List.getElem?_append, hlist_length]⟩
instance {v : MsgV} {a : Option Addr} {l : List BS} {c : Nat} : Put v.cells 38 (.slice a l.length c) { v with parts := ⟨a, c, l⟩ }.cells := by have := Put.mid ([.int .i64 v.kind] ++ [.int .i64 v.frm] ++ [.int .i64 v.view] ++ [.int .i64 v.reg] ++ [.int .i64 v.slot] ++ hlist v.hash ++ [.slice v.body.a v.body.l.length v.body.c]) ([.slice v.parts.a v.parts.ls.length v.parts.c]) ([] : List Value) (cs := v.cells) (o := 38) (n := 1) (v := .slice a l.length c) (by simp [MsgV.cells, MsgV.list]) (by simp) rfl rfl; simpa [MsgV.cells, MsgV.list, Value.cells] using this
instance {f0 : Int} {f1 : Int} {f2 : Int} {f3 : Int} {f4 : Int} {f5 : Vector UInt8 32} {f6 : BS} {f7 : PS} : CellAt (MsgV.mk f0 f1 f2 f3 f4 f5 f6 f7).cells 0 (.int .i64 f0) := inferInstanceAs (CellAt (MsgV.mk f0 f1 f2 f3 f4 f5 f6 f7).cells 0 (.int .i64 (MsgV.mk f0 f1 f2 f3 f4 f5 f6 f7).kind))
instance {f0 : Int} {f1 : Int} {f2 : Int} {f3 : Int} {f4 : Int} {f5 : Vector UInt8 32} {f6 : BS} {f7 : PS} {u : Int} : Put (MsgV.mk f0 f1 f2 f3 f4 f5 f6 f7).cells 0 (.int .i64 u) (MsgV.mk u f1 f2 f3 f4 f5 f6 f7).cells := inferInstanceAs (Put (MsgV.mk f0 f1 f2 f3 f4 f5 f6 f7).cells 0 (.int .i64 u) { (MsgV.mk f0 f1 f2 f3 f4 f5 f6 f7) with kind := u }.cells)
instance {f0 : Int} {f1 : Int} {f2 : Int} {f3 : Int} {f4 : Int} {f5 : Vector UInt8 32} {f6 : BS} {f7 : PS} : CellAt (MsgV.mk f0 f1 f2 f3 f4 f5 f6 f7).cells 1 (.int .i64 f1) := inferInstanceAs (CellAt (MsgV.mk f0 f1 f2 f3 f4 f5 f6 f7).cells 1 (.int .i64 (MsgV.mk f0 f1 f2 f3 f4 f5 f6 f7).frm))
instance {f0 : Int} {f1 : Int} {f2 : Int} {f3 : Int} {f4 : Int} {f5 : Vector UInt8 32} {f6 : BS} {f7 : PS} {u : Int} : Put (MsgV.mk f0 f1 f2 f3 f4 f5 f6 f7).cells 1 (.int .i64 u) (MsgV.mk f0 u f2 f3 f4 f5 f6 f7).cells := inferInstanceAs (Put (MsgV.mk f0 f1 f2 f3 f4 f5 f6 f7).cells 1 (.int .i64 u) { (MsgV.mk f0 f1 f2 f3 f4 f5 f6 f7) with frm := u }.cells)
instance {f0 : Int} {f1 : Int} {f2 : Int} {f3 : Int} {f4 : Int} {f5 : Vector UInt8 32} {f6 : BS} {f7 : PS} {u : Int} : Put (MsgV.mk f0 f1 f2 f3 f4 f5 f6 f7).cells 2 (.int .i64 u) (MsgV.mk f0 f1 u f3 f4 f5 f6 f7).cells := inferInstanceAs (Put (MsgV.mk f0 f1 f2 f3 f4 f5 f6 f7).cells 2 (.int .i64 u) { (MsgV.mk f0 f1 f2 f3 f4 f5 f6 f7) with view := u }.cells)
instance {f0 : Int} {f1 : Int} {f2 : Int} {f3 : Int} {f4 : Int} {f5 : Vector UInt8 32} {f6 : BS} {f7 : PS} {u : Int} : Put (MsgV.mk f0 f1 f2 f3 f4 f5 f6 f7).cells 3 (.int .i64 u) (MsgV.mk f0 f1 f2 u f4 f5 f6 f7).cells := inferInstanceAs (Put (MsgV.mk f0 f1 f2 f3 f4 f5 f6 f7).cells 3 (.int .i64 u) { (MsgV.mk f0 f1 f2 f3 f4 f5 f6 f7) with reg := u }.cells)
instance {f0 : Int} {f1 : Int} {f2 : Int} {f3 : Int} {f4 : Int} {f5 : Vector UInt8 32} {f6 : BS} {f7 : PS} : CellAt (MsgV.mk f0 f1 f2 f3 f4 f5 f6 f7).cells 4 (.int .i64 f4) := inferInstanceAs (CellAt (MsgV.mk f0 f1 f2 f3 f4 f5 f6 f7).cells 4 (.int .i64 (MsgV.mk f0 f1 f2 f3 f4 f5 f6 f7).slot))
instance {f0 : Int} {f1 : Int} {f2 : Int} {f3 : Int} {f4 : Int} {f5 : Vector UInt8 32} {f6 : BS} {f7 : PS} {u : Int} : Put (MsgV.mk f0 f1 f2 f3 f4 f5 f6 f7).cells 4 (.int .i64 u) (MsgV.mk f0 f1 f2 f3 u f5 f6 f7).cells := inferInstanceAs (Put (MsgV.mk f0 f1 f2 f3 f4 f5 f6 f7).cells 4 (.int .i64 u) { (MsgV.mk f0 f1 f2 f3 f4 f5 f6 f7) with slot := u }.cells)
instance {f0 : Int} {f1 : Int} {f2 : Int} {f3 : Int} {f4 : Int} {f5 : Vector UInt8 32} {f6 : BS} {f7 : PS} {u : Vector UInt8 32} : Put (MsgV.mk f0 f1 f2 f3 f4 f5 f6 f7).cells 5 (.agg (hlist u).toArray) (MsgV.mk f0 f1 f2 f3 f4 u f6 f7).cells := inferInstanceAs (Put (MsgV.mk f0 f1 f2 f3 f4 f5 f6 f7).cells 5 (.agg (hlist u).toArray) { (MsgV.mk f0 f1 f2 f3 f4 f5 f6 f7) with hash := u }.cells)
instance {f0 : Int} {f1 : Int} {f2 : Int} {f3 : Int} {f4 : Int} {f5 : Vector UInt8 32} {f6 : BS} {f7 : PS} {a : Option Addr} {c : Nat} {l : List UInt8} : Put (MsgV.mk f0 f1 f2 f3 f4 f5 f6 f7).cells 37 (.slice a l.length c) (MsgV.mk f0 f1 f2 f3 f4 f5 (BS.mk a c l) f7).cells := inferInstanceAs (Put (MsgV.mk f0 f1 f2 f3 f4 f5 f6 f7).cells 37 (.slice a l.length c) { (MsgV.mk f0 f1 f2 f3 f4 f5 f6 f7) with body := (BS.mk a c l) }.cells)
instance {f0 : Int} {f1 : Int} {f2 : Int} {f3 : Int} {f4 : Int} {f5 : Vector UInt8 32} {f6 : BS} {f7 : PS} : CellAt (MsgV.mk f0 f1 f2 f3 f4 f5 f6 f7).cells 38 (.slice f7.a f7.ls.length f7.c) := inferInstanceAs (CellAt (MsgV.mk f0 f1 f2 f3 f4 f5 f6 f7).cells 38 (.slice (MsgV.mk f0 f1 f2 f3 f4 f5 f6 f7).parts.a (MsgV.mk f0 f1 f2 f3 f4 f5 f6 f7).parts.ls.length (MsgV.mk f0 f1 f2 f3 f4 f5 f6 f7).parts.c))
instance {f0 : Int} {f1 : Int} {f2 : Int} {f3 : Int} {f4 : Int} {f5 : Vector UInt8 32} {f6 : BS} {a : Option Addr} {c : Nat} {l : List BS} : CellAt (MsgV.mk f0 f1 f2 f3 f4 f5 f6 (PS.mk a c l)).cells 38 (.slice a l.length c) := inferInstanceAs (CellAt (MsgV.mk f0 f1 f2 f3 f4 f5 f6 (PS.mk a c l)).cells 38 (.slice (MsgV.mk f0 f1 f2 f3 f4 f5 f6 (PS.mk a c l)).parts.a (MsgV.mk f0 f1 f2 f3 f4 f5 f6 (PS.mk a c l)).parts.ls.length (MsgV.mk f0 f1 f2 f3 f4 f5 f6 (PS.mk a c l)).parts.c))
instance {f0 : Int} {f1 : Int} {f2 : Int} {f3 : Int} {f4 : Int} {f5 : Vector UInt8 32} {f6 : BS} {f7 : PS} {a : Option Addr} {c : Nat} {l : List BS} : Put (MsgV.mk f0 f1 f2 f3 f4 f5 f6 f7).cells 38 (.slice a l.length c) (MsgV.mk f0 f1 f2 f3 f4 f5 f6 (PS.mk a c l)).cells := inferInstanceAs (Put (MsgV.mk f0 f1 f2 f3 f4 f5 f6 f7).cells 38 (.slice a l.length c) { (MsgV.mk f0 f1 f2 f3 f4 f5 f6 f7) with parts := (PS.mk a c l) }.cells)
@[reducible] def MsgV.zero : MsgV := { kind := 0, frm := 0, view := 0, reg := 0, slot := 0, hash := zeroV 32, body := ⟨none, 0, []⟩, parts := ⟨none, 0, []⟩ }
instance : TyZ Tryz.prog 82 (.agg MsgV.zero.cells) := ⟨by kernel_rfl⟩
structure GotV where
  n : Int
  t : BS
  len : Int
  e : Int
def GotV.list (v : GotV) : List Value := [.int .u64 v.n] ++ ([.slice v.t.a v.t.l.length v.t.c] ++ ([.int .i64 v.len] ++ ([.int .i64 v.e])))
def GotV.cells (v : GotV) : Array Value := v.list.toArray
theorem GotV.list_len (v : GotV) : v.list.length = 4 := by simp [GotV.list]
theorem GotV.list_one (v : GotV) : v.list.all Value.oneCell' = true := by simp [GotV.list, Value.oneCell']
instance {v : GotV} : Cells v.cells 4 := Cells.list v.list_len v.list_one
theorem GotV.size (v : GotV) : v.cells.size = 4 := by simp [GotV.cells, GotV.list_len]
instance {v : GotV} : SubAt v.cells 0 4 v.cells := ⟨by have h := v.size; apply Array.ext <;> simp [h]⟩
instance {v u : GotV} : Put v.cells 0 (.agg u.cells) u.cells := ⟨by have := put_mid [] v.list [] (v := .agg u.cells) (o := 0) (n := 4) rfl v.list_len u.size; simpa [GotV.cells, Value.cells] using this, by simp [Value.cells, GotV.size]⟩
instance {v : GotV} : CellAt v.cells 0 (.int .u64 v.n) := ⟨by simp [GotV.cells, GotV.list, List.getElem?_append, hlist_length]⟩
instance {v : GotV} {u : Int} : Put v.cells 0 (.int .u64 u) { v with n := u }.cells := by have := Put.mid ([] : List Value) ([.int .u64 v.n]) ([.slice v.t.a v.t.l.length v.t.c] ++ [.int .i64 v.len] ++ [.int .i64 v.e]) (cs := v.cells) (o := 0) (n := 1) (v := .int .u64 u) (by simp [GotV.cells, GotV.list]) (by simp) rfl rfl; simpa [GotV.cells, GotV.list, Value.cells] using this
instance {v : GotV} : CellAt v.cells 1 (.slice v.t.a v.t.l.length v.t.c) := ⟨by simp [GotV.cells, GotV.list, List.getElem?_append, hlist_length]⟩
instance {v : GotV} {a : Option Addr} {l : List UInt8} {c : Nat} : Put v.cells 1 (.slice a l.length c) { v with t := ⟨a, c, l⟩ }.cells := by have := Put.mid ([.int .u64 v.n]) ([.slice v.t.a v.t.l.length v.t.c]) ([.int .i64 v.len] ++ [.int .i64 v.e]) (cs := v.cells) (o := 1) (n := 1) (v := .slice a l.length c) (by simp [GotV.cells, GotV.list]) (by simp) rfl rfl; simpa [GotV.cells, GotV.list, Value.cells] using this
instance {v : GotV} : CellAt v.cells 2 (.int .i64 v.len) := ⟨by simp [GotV.cells, GotV.list, List.getElem?_append, hlist_length]⟩
instance {v : GotV} {u : Int} : Put v.cells 2 (.int .i64 u) { v with len := u }.cells := by have := Put.mid ([.int .u64 v.n] ++ [.slice v.t.a v.t.l.length v.t.c]) ([.int .i64 v.len]) ([.int .i64 v.e]) (cs := v.cells) (o := 2) (n := 1) (v := .int .i64 u) (by simp [GotV.cells, GotV.list]) (by simp) rfl rfl; simpa [GotV.cells, GotV.list, Value.cells] using this
instance {v : GotV} : CellAt v.cells 3 (.int .i64 v.e) := ⟨by simp [GotV.cells, GotV.list, List.getElem?_append, hlist_length]⟩
instance {v : GotV} {u : Int} : Put v.cells 3 (.int .i64 u) { v with e := u }.cells := by have := Put.mid ([.int .u64 v.n] ++ [.slice v.t.a v.t.l.length v.t.c] ++ [.int .i64 v.len]) ([.int .i64 v.e]) ([] : List Value) (cs := v.cells) (o := 3) (n := 1) (v := .int .i64 u) (by simp [GotV.cells, GotV.list]) (by simp) rfl rfl; simpa [GotV.cells, GotV.list, Value.cells] using this
instance {f0 : Int} {f1 : BS} {f2 : Int} {f3 : Int} : CellAt (GotV.mk f0 f1 f2 f3).cells 0 (.int .u64 f0) := inferInstanceAs (CellAt (GotV.mk f0 f1 f2 f3).cells 0 (.int .u64 (GotV.mk f0 f1 f2 f3).n))
instance {f0 : Int} {f1 : BS} {f2 : Int} {f3 : Int} {u : Int} : Put (GotV.mk f0 f1 f2 f3).cells 0 (.int .u64 u) (GotV.mk u f1 f2 f3).cells := inferInstanceAs (Put (GotV.mk f0 f1 f2 f3).cells 0 (.int .u64 u) { (GotV.mk f0 f1 f2 f3) with n := u }.cells)
instance {f0 : Int} {f1 : BS} {f2 : Int} {f3 : Int} : CellAt (GotV.mk f0 f1 f2 f3).cells 1 (.slice f1.a f1.l.length f1.c) := inferInstanceAs (CellAt (GotV.mk f0 f1 f2 f3).cells 1 (.slice (GotV.mk f0 f1 f2 f3).t.a (GotV.mk f0 f1 f2 f3).t.l.length (GotV.mk f0 f1 f2 f3).t.c))
instance {f0 : Int} {f2 : Int} {f3 : Int} {a : Option Addr} {c : Nat} {l : List UInt8} : CellAt (GotV.mk f0 (BS.mk a c l) f2 f3).cells 1 (.slice a l.length c) := inferInstanceAs (CellAt (GotV.mk f0 (BS.mk a c l) f2 f3).cells 1 (.slice (GotV.mk f0 (BS.mk a c l) f2 f3).t.a (GotV.mk f0 (BS.mk a c l) f2 f3).t.l.length (GotV.mk f0 (BS.mk a c l) f2 f3).t.c))
instance {f0 : Int} {f1 : BS} {f2 : Int} {f3 : Int} {a : Option Addr} {c : Nat} {l : List UInt8} : Put (GotV.mk f0 f1 f2 f3).cells 1 (.slice a l.length c) (GotV.mk f0 (BS.mk a c l) f2 f3).cells := inferInstanceAs (Put (GotV.mk f0 f1 f2 f3).cells 1 (.slice a l.length c) { (GotV.mk f0 f1 f2 f3) with t := (BS.mk a c l) }.cells)
instance {f0 : Int} {f1 : BS} {f2 : Int} {f3 : Int} : CellAt (GotV.mk f0 f1 f2 f3).cells 2 (.int .i64 f2) := inferInstanceAs (CellAt (GotV.mk f0 f1 f2 f3).cells 2 (.int .i64 (GotV.mk f0 f1 f2 f3).len))
instance {f0 : Int} {f1 : BS} {f2 : Int} {f3 : Int} {u : Int} : Put (GotV.mk f0 f1 f2 f3).cells 2 (.int .i64 u) (GotV.mk f0 f1 u f3).cells := inferInstanceAs (Put (GotV.mk f0 f1 f2 f3).cells 2 (.int .i64 u) { (GotV.mk f0 f1 f2 f3) with len := u }.cells)
instance {f0 : Int} {f1 : BS} {f2 : Int} {f3 : Int} : CellAt (GotV.mk f0 f1 f2 f3).cells 3 (.int .i64 f3) := inferInstanceAs (CellAt (GotV.mk f0 f1 f2 f3).cells 3 (.int .i64 (GotV.mk f0 f1 f2 f3).e))
instance {f0 : Int} {f1 : BS} {f2 : Int} {f3 : Int} {u : Int} : Put (GotV.mk f0 f1 f2 f3).cells 3 (.int .i64 u) (GotV.mk f0 f1 f2 u).cells := inferInstanceAs (Put (GotV.mk f0 f1 f2 f3).cells 3 (.int .i64 u) { (GotV.mk f0 f1 f2 f3) with e := u }.cells)
@[reducible] def GotV.zero : GotV := { n := 0, t := ⟨none, 0, []⟩, len := 0, e := 0 }
instance : TyZ Tryz.prog 123 (.agg GotV.zero.cells) := ⟨by kernel_rfl⟩
end Go.Proofs.YtnijomppbgdmnaaGreat
