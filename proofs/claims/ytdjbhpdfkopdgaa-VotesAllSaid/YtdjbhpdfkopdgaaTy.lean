/- Structures for the struct types of this translation, with their cells. Printed by program. -/
import Derived.Test.YtdjbhpdfkopdgaaTf
namespace Go.Proofs.Ytdjbhpdfkopdgaa
open Go.RowKit Go.Sx
set_option maxRecDepth 100000
set_option linter.unusedSimpArgs false
set_option linter.unusedVariables false
structure ReaderV where
  b : BS
  at_ : Int
def ReaderV.list (v : ReaderV) : List Value := [.slice v.b.a v.b.l.length v.b.c] ++ ([.int .i64 v.at_])
def ReaderV.cells (v : ReaderV) : Array Value := v.list.toArray
theorem ReaderV.list_len (v : ReaderV) : v.list.length = 2 := by simp [ReaderV.list]
theorem ReaderV.list_one (v : ReaderV) : v.list.all Value.oneCell' = true := by simp [ReaderV.list, Value.oneCell']
instance {v : ReaderV} : Cells v.cells 2 := Cells.list v.list_len v.list_one
theorem ReaderV.size (v : ReaderV) : v.cells.size = 2 := by simp [ReaderV.cells, ReaderV.list_len]
instance {v : ReaderV} : SubAt v.cells 0 2 v.cells := ⟨by have h := v.size; apply Array.ext <;> simp [h]⟩
instance {v u : ReaderV} : Put v.cells 0 (.agg u.cells) u.cells := ⟨by have := put_mid [] v.list [] (v := .agg u.cells) (o := 0) (n := 2) rfl v.list_len u.size; simpa [ReaderV.cells, Value.cells] using this, by simp [Value.cells, ReaderV.size]⟩
instance {v : ReaderV} : CellAt v.cells 0 (.slice v.b.a v.b.l.length v.b.c) := ⟨by simp [ReaderV.cells, ReaderV.list, List.getElem?_append, hlist_length]⟩
instance {v : ReaderV} {a : Option Addr} {l : List UInt8} {c : Nat} : Put v.cells 0 (.slice a l.length c) { v with b := ⟨a, c, l⟩ }.cells := by have := Put.mid ([] : List Value) ([.slice v.b.a v.b.l.length v.b.c]) ([.int .i64 v.at_]) (cs := v.cells) (o := 0) (n := 1) (v := .slice a l.length c) (by simp [ReaderV.cells, ReaderV.list]) (by simp) rfl rfl; simpa [ReaderV.cells, ReaderV.list, Value.cells] using this
instance (priority := high) {v : ReaderV} : Put v.cells 0 (.slice none 0 0) { v with b := ⟨none, 0, []⟩ }.cells := by have := Put.mid ([] : List Value) ([.slice v.b.a v.b.l.length v.b.c]) ([.int .i64 v.at_]) (cs := v.cells) (o := 0) (n := 1) (v := .slice none 0 0) (by simp [ReaderV.cells, ReaderV.list]) (by simp) rfl rfl; simpa [ReaderV.cells, ReaderV.list, Value.cells] using this
instance {v : ReaderV} : CellAt v.cells 1 (.int .i64 v.at_) := ⟨by simp [ReaderV.cells, ReaderV.list, List.getElem?_append, hlist_length]⟩
instance {v : ReaderV} {u : Int} : Put v.cells 1 (.int .i64 u) { v with at_ := u }.cells := by have := Put.mid ([.slice v.b.a v.b.l.length v.b.c]) ([.int .i64 v.at_]) ([] : List Value) (cs := v.cells) (o := 1) (n := 1) (v := .int .i64 u) (by simp [ReaderV.cells, ReaderV.list]) (by simp) rfl rfl; simpa [ReaderV.cells, ReaderV.list, Value.cells] using this
instance {f0 : BS} {f1 : Int} : CellAt (ReaderV.mk f0 f1).cells 0 (.slice f0.a f0.l.length f0.c) := inferInstanceAs (CellAt (ReaderV.mk f0 f1).cells 0 (.slice (ReaderV.mk f0 f1).b.a (ReaderV.mk f0 f1).b.l.length (ReaderV.mk f0 f1).b.c))
instance {f1 : Int} {a : Option Addr} {c : Nat} {l : List UInt8} : CellAt (ReaderV.mk (BS.mk a c l) f1).cells 0 (.slice a l.length c) := inferInstanceAs (CellAt (ReaderV.mk (BS.mk a c l) f1).cells 0 (.slice (ReaderV.mk (BS.mk a c l) f1).b.a (ReaderV.mk (BS.mk a c l) f1).b.l.length (ReaderV.mk (BS.mk a c l) f1).b.c))
instance {f0 : BS} {f1 : Int} {a : Option Addr} {c : Nat} {l : List UInt8} : Put (ReaderV.mk f0 f1).cells 0 (.slice a l.length c) (ReaderV.mk (BS.mk a c l) f1).cells := inferInstanceAs (Put (ReaderV.mk f0 f1).cells 0 (.slice a l.length c) { (ReaderV.mk f0 f1) with b := (BS.mk a c l) }.cells)
instance (priority := high) {f0 : BS} {f1 : Int} : Put (ReaderV.mk f0 f1).cells 0 (.slice none 0 0) (ReaderV.mk ⟨none, 0, []⟩ f1).cells := inferInstanceAs (Put (ReaderV.mk f0 f1).cells 0 (.slice none 0 0) { (ReaderV.mk f0 f1) with b := ⟨none, 0, []⟩ }.cells)
instance {f0 : BS} {f1 : Int} : CellAt (ReaderV.mk f0 f1).cells 1 (.int .i64 f1) := inferInstanceAs (CellAt (ReaderV.mk f0 f1).cells 1 (.int .i64 (ReaderV.mk f0 f1).at_))
instance {f0 : BS} {f1 : Int} {u : Int} : Put (ReaderV.mk f0 f1).cells 1 (.int .i64 u) (ReaderV.mk f0 u).cells := inferInstanceAs (Put (ReaderV.mk f0 f1).cells 1 (.int .i64 u) { (ReaderV.mk f0 f1) with at_ := u }.cells)
@[reducible] def ReaderV.zero : ReaderV := { b := ⟨none, 0, []⟩, at_ := 0 }
instance : TyZ Try.prog 98 (.agg ReaderV.zero.cells) := ⟨by kernel_rfl⟩
structure EraV where
  view : Int
  reg : Int
def EraV.list (v : EraV) : List Value := [.int .i64 v.view] ++ ([.int .i64 v.reg])
def EraV.cells (v : EraV) : Array Value := v.list.toArray
theorem EraV.list_len (v : EraV) : v.list.length = 2 := by simp [EraV.list]
theorem EraV.list_one (v : EraV) : v.list.all Value.oneCell' = true := by simp [EraV.list, Value.oneCell']
instance {v : EraV} : Cells v.cells 2 := Cells.list v.list_len v.list_one
theorem EraV.size (v : EraV) : v.cells.size = 2 := by simp [EraV.cells, EraV.list_len]
instance {v : EraV} : SubAt v.cells 0 2 v.cells := ⟨by have h := v.size; apply Array.ext <;> simp [h]⟩
instance {v u : EraV} : Put v.cells 0 (.agg u.cells) u.cells := ⟨by have := put_mid [] v.list [] (v := .agg u.cells) (o := 0) (n := 2) rfl v.list_len u.size; simpa [EraV.cells, Value.cells] using this, by simp [Value.cells, EraV.size]⟩
instance {v : EraV} : CellAt v.cells 0 (.int .i64 v.view) := ⟨by simp [EraV.cells, EraV.list, List.getElem?_append, hlist_length]⟩
instance {v : EraV} {u : Int} : Put v.cells 0 (.int .i64 u) { v with view := u }.cells := by have := Put.mid ([] : List Value) ([.int .i64 v.view]) ([.int .i64 v.reg]) (cs := v.cells) (o := 0) (n := 1) (v := .int .i64 u) (by simp [EraV.cells, EraV.list]) (by simp) rfl rfl; simpa [EraV.cells, EraV.list, Value.cells] using this
instance {v : EraV} : CellAt v.cells 1 (.int .i64 v.reg) := ⟨by simp [EraV.cells, EraV.list, List.getElem?_append, hlist_length]⟩
instance {v : EraV} {u : Int} : Put v.cells 1 (.int .i64 u) { v with reg := u }.cells := by have := Put.mid ([.int .i64 v.view]) ([.int .i64 v.reg]) ([] : List Value) (cs := v.cells) (o := 1) (n := 1) (v := .int .i64 u) (by simp [EraV.cells, EraV.list]) (by simp) rfl rfl; simpa [EraV.cells, EraV.list, Value.cells] using this
instance {f0 : Int} {f1 : Int} : CellAt (EraV.mk f0 f1).cells 0 (.int .i64 f0) := inferInstanceAs (CellAt (EraV.mk f0 f1).cells 0 (.int .i64 (EraV.mk f0 f1).view))
instance {f0 : Int} {f1 : Int} {u : Int} : Put (EraV.mk f0 f1).cells 0 (.int .i64 u) (EraV.mk u f1).cells := inferInstanceAs (Put (EraV.mk f0 f1).cells 0 (.int .i64 u) { (EraV.mk f0 f1) with view := u }.cells)
instance {f0 : Int} {f1 : Int} : CellAt (EraV.mk f0 f1).cells 1 (.int .i64 f1) := inferInstanceAs (CellAt (EraV.mk f0 f1).cells 1 (.int .i64 (EraV.mk f0 f1).reg))
instance {f0 : Int} {f1 : Int} {u : Int} : Put (EraV.mk f0 f1).cells 1 (.int .i64 u) (EraV.mk f0 u).cells := inferInstanceAs (Put (EraV.mk f0 f1).cells 1 (.int .i64 u) { (EraV.mk f0 f1) with reg := u }.cells)
@[reducible] def EraV.zero : EraV := { view := 0, reg := 0 }
instance : TyZ Try.prog 57 (.agg EraV.zero.cells) := ⟨by kernel_rfl⟩
theorem EraV.ext_iff' (x y : EraV) : x = y ↔ x.view = y.view ∧ x.reg = y.reg := by cases x; cases y; simp
instance : DecidableEq EraV := fun x y => decidable_of_iff _ (EraV.ext_iff' x y).symm
instance {x y : EraV} : EqV Try.prog 57 (.agg x.cells) (.agg y.cells) (decide (x = y)) := ⟨fun d w => by
  rw [run_equalIn_struct w (d + 3) 57 _ _ (by kernel_rfl) (by kernel_rfl)]
  simp only [Program.fieldsOf, Try.underlying57]
  simp only [Op.eqFields, ne_eq, Sem.run_bind, Sem.run_ite, Sem.run_pure, Result.andThen_ok, part1, partN, eqB_run]
  rw [show decide (x = y) = (decide (x.view = y.view) && (decide (x.reg = y.reg) && true)) from by rw [Bool.eq_iff_iff]; simp [EraV.ext_iff']]
  try simp only [String.reduceEq, not_false_eq_true, if_true, Result.andThen_ok]
  cases decide (x.view = y.view) <;> cases decide (x.reg = y.reg) <;> rfl⟩
structure VoteV where
  kind : Int
  view : Int
  reg : Int
  slot : Int
  hash : Vector UInt8 32
  batch : BS
  cert : PS
def VoteV.list (v : VoteV) : List Value := [.int .i64 v.kind] ++ ([.int .i64 v.view] ++ ([.int .i64 v.reg] ++ ([.int .i64 v.slot] ++ (hlist v.hash ++ ([.slice v.batch.a v.batch.l.length v.batch.c] ++ ([.slice v.cert.a v.cert.ls.length v.cert.c]))))))
def VoteV.cells (v : VoteV) : Array Value := v.list.toArray
theorem VoteV.list_len (v : VoteV) : v.list.length = 38 := by simp [VoteV.list]
theorem VoteV.list_one (v : VoteV) : v.list.all Value.oneCell' = true := by simp [VoteV.list, Value.oneCell']
instance {v : VoteV} : Cells v.cells 38 := Cells.list v.list_len v.list_one
theorem VoteV.size (v : VoteV) : v.cells.size = 38 := by simp [VoteV.cells, VoteV.list_len]
instance {v : VoteV} : SubAt v.cells 0 38 v.cells := ⟨by have h := v.size; apply Array.ext <;> simp [h]⟩
instance {v u : VoteV} : Put v.cells 0 (.agg u.cells) u.cells := ⟨by have := put_mid [] v.list [] (v := .agg u.cells) (o := 0) (n := 38) rfl v.list_len u.size; simpa [VoteV.cells, Value.cells] using this, by simp [Value.cells, VoteV.size]⟩
instance {v : VoteV} : CellAt v.cells 0 (.int .i64 v.kind) := ⟨by simp [VoteV.cells, VoteV.list, List.getElem?_append, hlist_length]⟩
instance {v : VoteV} {u : Int} : Put v.cells 0 (.int .i64 u) { v with kind := u }.cells := by have := Put.mid ([] : List Value) ([.int .i64 v.kind]) ([.int .i64 v.view] ++ [.int .i64 v.reg] ++ [.int .i64 v.slot] ++ hlist v.hash ++ [.slice v.batch.a v.batch.l.length v.batch.c] ++ [.slice v.cert.a v.cert.ls.length v.cert.c]) (cs := v.cells) (o := 0) (n := 1) (v := .int .i64 u) (by simp [VoteV.cells, VoteV.list]) (by simp) rfl rfl; simpa [VoteV.cells, VoteV.list, Value.cells] using this
instance {v : VoteV} : CellAt v.cells 1 (.int .i64 v.view) := ⟨by simp [VoteV.cells, VoteV.list, List.getElem?_append, hlist_length]⟩
instance {v : VoteV} {u : Int} : Put v.cells 1 (.int .i64 u) { v with view := u }.cells := by have := Put.mid ([.int .i64 v.kind]) ([.int .i64 v.view]) ([.int .i64 v.reg] ++ [.int .i64 v.slot] ++ hlist v.hash ++ [.slice v.batch.a v.batch.l.length v.batch.c] ++ [.slice v.cert.a v.cert.ls.length v.cert.c]) (cs := v.cells) (o := 1) (n := 1) (v := .int .i64 u) (by simp [VoteV.cells, VoteV.list]) (by simp) rfl rfl; simpa [VoteV.cells, VoteV.list, Value.cells] using this
instance {v : VoteV} : CellAt v.cells 2 (.int .i64 v.reg) := ⟨by simp [VoteV.cells, VoteV.list, List.getElem?_append, hlist_length]⟩
instance {v : VoteV} {u : Int} : Put v.cells 2 (.int .i64 u) { v with reg := u }.cells := by have := Put.mid ([.int .i64 v.kind] ++ [.int .i64 v.view]) ([.int .i64 v.reg]) ([.int .i64 v.slot] ++ hlist v.hash ++ [.slice v.batch.a v.batch.l.length v.batch.c] ++ [.slice v.cert.a v.cert.ls.length v.cert.c]) (cs := v.cells) (o := 2) (n := 1) (v := .int .i64 u) (by simp [VoteV.cells, VoteV.list]) (by simp) rfl rfl; simpa [VoteV.cells, VoteV.list, Value.cells] using this
instance {v : VoteV} : CellAt v.cells 3 (.int .i64 v.slot) := ⟨by simp [VoteV.cells, VoteV.list, List.getElem?_append, hlist_length]⟩
instance {v : VoteV} {u : Int} : Put v.cells 3 (.int .i64 u) { v with slot := u }.cells := by have := Put.mid ([.int .i64 v.kind] ++ [.int .i64 v.view] ++ [.int .i64 v.reg]) ([.int .i64 v.slot]) (hlist v.hash ++ [.slice v.batch.a v.batch.l.length v.batch.c] ++ [.slice v.cert.a v.cert.ls.length v.cert.c]) (cs := v.cells) (o := 3) (n := 1) (v := .int .i64 u) (by simp [VoteV.cells, VoteV.list]) (by simp) rfl rfl; simpa [VoteV.cells, VoteV.list, Value.cells] using this
instance {v : VoteV} : SubAt v.cells 4 32 (hlist v.hash).toArray := ⟨by first | (simp [VoteV.cells, VoteV.list]; done) | (have := sub_mid ([.int .i64 v.kind] ++ [.int .i64 v.view] ++ [.int .i64 v.reg] ++ [.int .i64 v.slot]) (hlist v.hash) ([.slice v.batch.a v.batch.l.length v.batch.c] ++ [.slice v.cert.a v.cert.ls.length v.cert.c]) (o := 4) (n := 32) (by simp) (by simp); simpa [VoteV.cells, VoteV.list] using this)⟩
instance {v : VoteV} {u : Vector UInt8 32} : Put v.cells 4 (.agg (hlist u).toArray) { v with hash := u }.cells := by have := Put.mid ([.int .i64 v.kind] ++ [.int .i64 v.view] ++ [.int .i64 v.reg] ++ [.int .i64 v.slot]) (hlist v.hash) ([.slice v.batch.a v.batch.l.length v.batch.c] ++ [.slice v.cert.a v.cert.ls.length v.cert.c]) (cs := v.cells) (o := 4) (n := 32) (v := .agg (hlist u).toArray) (by simp [VoteV.cells, VoteV.list]) (by simp) (by simp) (by simp [Value.cells]); simp only [Value.cells, VoteV.cells, VoteV.list, List.append_assoc, List.nil_append, List.cons_append] at this ⊢; first | exact this | simpa using this
instance {v : VoteV} : CellAt v.cells 36 (.slice v.batch.a v.batch.l.length v.batch.c) := ⟨by simp [VoteV.cells, VoteV.list, List.getElem?_append, hlist_length]⟩
instance {v : VoteV} {a : Option Addr} {l : List UInt8} {c : Nat} : Put v.cells 36 (.slice a l.length c) { v with batch := ⟨a, c, l⟩ }.cells := by have := Put.mid ([.int .i64 v.kind] ++ [.int .i64 v.view] ++ [.int .i64 v.reg] ++ [.int .i64 v.slot] ++ hlist v.hash) ([.slice v.batch.a v.batch.l.length v.batch.c]) ([.slice v.cert.a v.cert.ls.length v.cert.c]) (cs := v.cells) (o := 36) (n := 1) (v := .slice a l.length c) (by simp [VoteV.cells, VoteV.list]) (by simp) rfl rfl; simpa [VoteV.cells, VoteV.list, Value.cells] using this
instance (priority := high) {v : VoteV} : Put v.cells 36 (.slice none 0 0) { v with batch := ⟨none, 0, []⟩ }.cells := by have := Put.mid ([.int .i64 v.kind] ++ [.int .i64 v.view] ++ [.int .i64 v.reg] ++ [.int .i64 v.slot] ++ hlist v.hash) ([.slice v.batch.a v.batch.l.length v.batch.c]) ([.slice v.cert.a v.cert.ls.length v.cert.c]) (cs := v.cells) (o := 36) (n := 1) (v := .slice none 0 0) (by simp [VoteV.cells, VoteV.list]) (by simp) rfl rfl; simpa [VoteV.cells, VoteV.list, Value.cells] using this
instance {v : VoteV} : CellAt v.cells 37 (.slice v.cert.a v.cert.ls.length v.cert.c) := ⟨by simp [VoteV.cells, VoteV.list, List.getElem?_append, hlist_length]⟩
instance {v : VoteV} {a : Option Addr} {l : List BS} {c : Nat} : Put v.cells 37 (.slice a l.length c) { v with cert := ⟨a, c, l⟩ }.cells := by have := Put.mid ([.int .i64 v.kind] ++ [.int .i64 v.view] ++ [.int .i64 v.reg] ++ [.int .i64 v.slot] ++ hlist v.hash ++ [.slice v.batch.a v.batch.l.length v.batch.c]) ([.slice v.cert.a v.cert.ls.length v.cert.c]) ([] : List Value) (cs := v.cells) (o := 37) (n := 1) (v := .slice a l.length c) (by simp [VoteV.cells, VoteV.list]) (by simp) rfl rfl; simpa [VoteV.cells, VoteV.list, Value.cells] using this
instance (priority := high) {v : VoteV} : Put v.cells 37 (.slice none 0 0) { v with cert := ⟨none, 0, []⟩ }.cells := by have := Put.mid ([.int .i64 v.kind] ++ [.int .i64 v.view] ++ [.int .i64 v.reg] ++ [.int .i64 v.slot] ++ hlist v.hash ++ [.slice v.batch.a v.batch.l.length v.batch.c]) ([.slice v.cert.a v.cert.ls.length v.cert.c]) ([] : List Value) (cs := v.cells) (o := 37) (n := 1) (v := .slice none 0 0) (by simp [VoteV.cells, VoteV.list]) (by simp) rfl rfl; simpa [VoteV.cells, VoteV.list, Value.cells] using this
instance {f0 : Int} {f1 : Int} {f2 : Int} {f3 : Int} {f4 : Vector UInt8 32} {f5 : BS} {f6 : PS} : CellAt (VoteV.mk f0 f1 f2 f3 f4 f5 f6).cells 0 (.int .i64 f0) := inferInstanceAs (CellAt (VoteV.mk f0 f1 f2 f3 f4 f5 f6).cells 0 (.int .i64 (VoteV.mk f0 f1 f2 f3 f4 f5 f6).kind))
instance {f0 : Int} {f1 : Int} {f2 : Int} {f3 : Int} {f4 : Vector UInt8 32} {f5 : BS} {f6 : PS} {u : Int} : Put (VoteV.mk f0 f1 f2 f3 f4 f5 f6).cells 0 (.int .i64 u) (VoteV.mk u f1 f2 f3 f4 f5 f6).cells := inferInstanceAs (Put (VoteV.mk f0 f1 f2 f3 f4 f5 f6).cells 0 (.int .i64 u) { (VoteV.mk f0 f1 f2 f3 f4 f5 f6) with kind := u }.cells)
instance {f0 : Int} {f1 : Int} {f2 : Int} {f3 : Int} {f4 : Vector UInt8 32} {f5 : BS} {f6 : PS} : CellAt (VoteV.mk f0 f1 f2 f3 f4 f5 f6).cells 1 (.int .i64 f1) := inferInstanceAs (CellAt (VoteV.mk f0 f1 f2 f3 f4 f5 f6).cells 1 (.int .i64 (VoteV.mk f0 f1 f2 f3 f4 f5 f6).view))
instance {f0 : Int} {f1 : Int} {f2 : Int} {f3 : Int} {f4 : Vector UInt8 32} {f5 : BS} {f6 : PS} {u : Int} : Put (VoteV.mk f0 f1 f2 f3 f4 f5 f6).cells 1 (.int .i64 u) (VoteV.mk f0 u f2 f3 f4 f5 f6).cells := inferInstanceAs (Put (VoteV.mk f0 f1 f2 f3 f4 f5 f6).cells 1 (.int .i64 u) { (VoteV.mk f0 f1 f2 f3 f4 f5 f6) with view := u }.cells)
instance {f0 : Int} {f1 : Int} {f2 : Int} {f3 : Int} {f4 : Vector UInt8 32} {f5 : BS} {f6 : PS} : CellAt (VoteV.mk f0 f1 f2 f3 f4 f5 f6).cells 2 (.int .i64 f2) := inferInstanceAs (CellAt (VoteV.mk f0 f1 f2 f3 f4 f5 f6).cells 2 (.int .i64 (VoteV.mk f0 f1 f2 f3 f4 f5 f6).reg))
instance {f0 : Int} {f1 : Int} {f2 : Int} {f3 : Int} {f4 : Vector UInt8 32} {f5 : BS} {f6 : PS} {u : Int} : Put (VoteV.mk f0 f1 f2 f3 f4 f5 f6).cells 2 (.int .i64 u) (VoteV.mk f0 f1 u f3 f4 f5 f6).cells := inferInstanceAs (Put (VoteV.mk f0 f1 f2 f3 f4 f5 f6).cells 2 (.int .i64 u) { (VoteV.mk f0 f1 f2 f3 f4 f5 f6) with reg := u }.cells)
instance {f0 : Int} {f1 : Int} {f2 : Int} {f3 : Int} {f4 : Vector UInt8 32} {f5 : BS} {f6 : PS} : CellAt (VoteV.mk f0 f1 f2 f3 f4 f5 f6).cells 3 (.int .i64 f3) := inferInstanceAs (CellAt (VoteV.mk f0 f1 f2 f3 f4 f5 f6).cells 3 (.int .i64 (VoteV.mk f0 f1 f2 f3 f4 f5 f6).slot))
instance {f0 : Int} {f1 : Int} {f2 : Int} {f3 : Int} {f4 : Vector UInt8 32} {f5 : BS} {f6 : PS} {u : Int} : Put (VoteV.mk f0 f1 f2 f3 f4 f5 f6).cells 3 (.int .i64 u) (VoteV.mk f0 f1 f2 u f4 f5 f6).cells := inferInstanceAs (Put (VoteV.mk f0 f1 f2 f3 f4 f5 f6).cells 3 (.int .i64 u) { (VoteV.mk f0 f1 f2 f3 f4 f5 f6) with slot := u }.cells)
instance {f0 : Int} {f1 : Int} {f2 : Int} {f3 : Int} {f4 : Vector UInt8 32} {f5 : BS} {f6 : PS} {u : Vector UInt8 32} : Put (VoteV.mk f0 f1 f2 f3 f4 f5 f6).cells 4 (.agg (hlist u).toArray) (VoteV.mk f0 f1 f2 f3 u f5 f6).cells := inferInstanceAs (Put (VoteV.mk f0 f1 f2 f3 f4 f5 f6).cells 4 (.agg (hlist u).toArray) { (VoteV.mk f0 f1 f2 f3 f4 f5 f6) with hash := u }.cells)
instance {f0 : Int} {f1 : Int} {f2 : Int} {f3 : Int} {f4 : Vector UInt8 32} {f5 : BS} {f6 : PS} : SubAt (VoteV.mk f0 f1 f2 f3 f4 f5 f6).cells 4 32 (hlist f4).toArray := inferInstanceAs (SubAt (VoteV.mk f0 f1 f2 f3 f4 f5 f6).cells 4 32 (hlist (VoteV.mk f0 f1 f2 f3 f4 f5 f6).hash).toArray)
instance {f0 : Int} {f1 : Int} {f2 : Int} {f3 : Int} {f4 : Vector UInt8 32} {f5 : BS} {f6 : PS} : CellAt (VoteV.mk f0 f1 f2 f3 f4 f5 f6).cells 36 (.slice f5.a f5.l.length f5.c) := inferInstanceAs (CellAt (VoteV.mk f0 f1 f2 f3 f4 f5 f6).cells 36 (.slice (VoteV.mk f0 f1 f2 f3 f4 f5 f6).batch.a (VoteV.mk f0 f1 f2 f3 f4 f5 f6).batch.l.length (VoteV.mk f0 f1 f2 f3 f4 f5 f6).batch.c))
instance {f0 : Int} {f1 : Int} {f2 : Int} {f3 : Int} {f4 : Vector UInt8 32} {f6 : PS} {a : Option Addr} {c : Nat} {l : List UInt8} : CellAt (VoteV.mk f0 f1 f2 f3 f4 (BS.mk a c l) f6).cells 36 (.slice a l.length c) := inferInstanceAs (CellAt (VoteV.mk f0 f1 f2 f3 f4 (BS.mk a c l) f6).cells 36 (.slice (VoteV.mk f0 f1 f2 f3 f4 (BS.mk a c l) f6).batch.a (VoteV.mk f0 f1 f2 f3 f4 (BS.mk a c l) f6).batch.l.length (VoteV.mk f0 f1 f2 f3 f4 (BS.mk a c l) f6).batch.c))
instance {f0 : Int} {f1 : Int} {f2 : Int} {f3 : Int} {f4 : Vector UInt8 32} {f5 : BS} {f6 : PS} {a : Option Addr} {c : Nat} {l : List UInt8} : Put (VoteV.mk f0 f1 f2 f3 f4 f5 f6).cells 36 (.slice a l.length c) (VoteV.mk f0 f1 f2 f3 f4 (BS.mk a c l) f6).cells := inferInstanceAs (Put (VoteV.mk f0 f1 f2 f3 f4 f5 f6).cells 36 (.slice a l.length c) { (VoteV.mk f0 f1 f2 f3 f4 f5 f6) with batch := (BS.mk a c l) }.cells)
instance (priority := high) {f0 : Int} {f1 : Int} {f2 : Int} {f3 : Int} {f4 : Vector UInt8 32} {f5 : BS} {f6 : PS} : Put (VoteV.mk f0 f1 f2 f3 f4 f5 f6).cells 36 (.slice none 0 0) (VoteV.mk f0 f1 f2 f3 f4 ⟨none, 0, []⟩ f6).cells := inferInstanceAs (Put (VoteV.mk f0 f1 f2 f3 f4 f5 f6).cells 36 (.slice none 0 0) { (VoteV.mk f0 f1 f2 f3 f4 f5 f6) with batch := ⟨none, 0, []⟩ }.cells)
instance {f0 : Int} {f1 : Int} {f2 : Int} {f3 : Int} {f4 : Vector UInt8 32} {f5 : BS} {f6 : PS} : CellAt (VoteV.mk f0 f1 f2 f3 f4 f5 f6).cells 37 (.slice f6.a f6.ls.length f6.c) := inferInstanceAs (CellAt (VoteV.mk f0 f1 f2 f3 f4 f5 f6).cells 37 (.slice (VoteV.mk f0 f1 f2 f3 f4 f5 f6).cert.a (VoteV.mk f0 f1 f2 f3 f4 f5 f6).cert.ls.length (VoteV.mk f0 f1 f2 f3 f4 f5 f6).cert.c))
instance {f0 : Int} {f1 : Int} {f2 : Int} {f3 : Int} {f4 : Vector UInt8 32} {f5 : BS} {a : Option Addr} {c : Nat} {l : List BS} : CellAt (VoteV.mk f0 f1 f2 f3 f4 f5 (PS.mk a c l)).cells 37 (.slice a l.length c) := inferInstanceAs (CellAt (VoteV.mk f0 f1 f2 f3 f4 f5 (PS.mk a c l)).cells 37 (.slice (VoteV.mk f0 f1 f2 f3 f4 f5 (PS.mk a c l)).cert.a (VoteV.mk f0 f1 f2 f3 f4 f5 (PS.mk a c l)).cert.ls.length (VoteV.mk f0 f1 f2 f3 f4 f5 (PS.mk a c l)).cert.c))
instance {f0 : Int} {f1 : Int} {f2 : Int} {f3 : Int} {f4 : Vector UInt8 32} {f5 : BS} {f6 : PS} {a : Option Addr} {c : Nat} {l : List BS} : Put (VoteV.mk f0 f1 f2 f3 f4 f5 f6).cells 37 (.slice a l.length c) (VoteV.mk f0 f1 f2 f3 f4 f5 (PS.mk a c l)).cells := inferInstanceAs (Put (VoteV.mk f0 f1 f2 f3 f4 f5 f6).cells 37 (.slice a l.length c) { (VoteV.mk f0 f1 f2 f3 f4 f5 f6) with cert := (PS.mk a c l) }.cells)
instance (priority := high) {f0 : Int} {f1 : Int} {f2 : Int} {f3 : Int} {f4 : Vector UInt8 32} {f5 : BS} {f6 : PS} : Put (VoteV.mk f0 f1 f2 f3 f4 f5 f6).cells 37 (.slice none 0 0) (VoteV.mk f0 f1 f2 f3 f4 f5 ⟨none, 0, []⟩).cells := inferInstanceAs (Put (VoteV.mk f0 f1 f2 f3 f4 f5 f6).cells 37 (.slice none 0 0) { (VoteV.mk f0 f1 f2 f3 f4 f5 f6) with cert := ⟨none, 0, []⟩ }.cells)
@[reducible] def VoteV.zero : VoteV := { kind := 0, view := 0, reg := 0, slot := 0, hash := zeroV 32, batch := ⟨none, 0, []⟩, cert := ⟨none, 0, []⟩ }
instance : TyZ Try.prog 27 (.agg VoteV.zero.cells) := ⟨by kernel_rfl⟩
structure BookV where
  now : EraV
  entered : Bool
  slot : Int
  wrote : Option Nat
  accepted : Option Addr
def BookV.list (v : BookV) : List Value := v.now.list ++ ([.bool v.entered] ++ ([.int .i64 v.slot] ++ ([.map v.wrote] ++ ([.pointer v.accepted]))))
def BookV.cells (v : BookV) : Array Value := v.list.toArray
theorem BookV.list_len (v : BookV) : v.list.length = 6 := by simp [BookV.list, EraV.list_len]
theorem BookV.list_one (v : BookV) : v.list.all Value.oneCell' = true := by simp [BookV.list, Value.oneCell', EraV.list_one]
instance {v : BookV} : Cells v.cells 6 := Cells.list v.list_len v.list_one
theorem BookV.size (v : BookV) : v.cells.size = 6 := by simp [BookV.cells, BookV.list_len]
instance {v : BookV} : SubAt v.cells 0 6 v.cells := ⟨by have h := v.size; apply Array.ext <;> simp [h]⟩
instance {v u : BookV} : Put v.cells 0 (.agg u.cells) u.cells := ⟨by have := put_mid [] v.list [] (v := .agg u.cells) (o := 0) (n := 6) rfl v.list_len u.size; simpa [BookV.cells, Value.cells] using this, by simp [Value.cells, BookV.size]⟩
instance {v : BookV} : SubAt v.cells 0 2 v.now.cells := ⟨by first | (simp [BookV.cells, BookV.list, EraV.list_len]; done) | (have := sub_mid ([] : List Value) (v.now.list) ([.bool v.entered] ++ [.int .i64 v.slot] ++ [.map v.wrote] ++ [.pointer v.accepted]) (o := 0) (n := 2) (by simp [EraV.list_len]) (by simp [EraV.list_len]); simpa [BookV.cells, BookV.list, EraV.cells] using this)⟩
instance {v : BookV} {u : EraV} : Put v.cells 0 (.agg u.cells) { v with now := u }.cells := by have := Put.mid ([] : List Value) (v.now.list) ([.bool v.entered] ++ [.int .i64 v.slot] ++ [.map v.wrote] ++ [.pointer v.accepted]) (cs := v.cells) (o := 0) (n := 2) (v := .agg u.cells) (by simp [BookV.cells, BookV.list]) (by simp [EraV.list_len]) (by simp [EraV.list_len]) (by simp [Value.cells, EraV.size]); simp only [Value.cells, BookV.cells, BookV.list, EraV.cells, List.append_assoc, List.nil_append, List.cons_append] at this ⊢; first | exact this | simpa using this
instance {v : BookV} : CellAt v.cells 0 (.int .i64 v.now.view) := ⟨by simp [BookV.cells, BookV.list, EraV.list, List.getElem?_append, hlist_length, EraV.list_len]⟩
instance {v : BookV} {u : Int} : Put v.cells 0 (.int .i64 u) { v with now := { v.now with view := u } }.cells := by have := Put.mid (([] : List Value) ++ (([] : List Value))) ([.int .i64 v.now.view]) (([.int .i64 v.now.reg] ++ ([] : List Value)) ++ ([.bool v.entered] ++ [.int .i64 v.slot] ++ [.map v.wrote] ++ [.pointer v.accepted])) (cs := v.cells) (o := 0) (n := 1) (v := .int .i64 u) (by simp [BookV.cells, BookV.list, EraV.list]) (by simp [EraV.list_len]) rfl rfl; simpa [BookV.cells, BookV.list, EraV.list, Value.cells] using this
instance {v : BookV} : CellAt v.cells 1 (.int .i64 v.now.reg) := ⟨by simp [BookV.cells, BookV.list, EraV.list, List.getElem?_append, hlist_length, EraV.list_len]⟩
instance {v : BookV} {u : Int} : Put v.cells 1 (.int .i64 u) { v with now := { v.now with reg := u } }.cells := by have := Put.mid (([] : List Value) ++ (([] : List Value) ++ [.int .i64 v.now.view])) ([.int .i64 v.now.reg]) ((([] : List Value)) ++ ([.bool v.entered] ++ [.int .i64 v.slot] ++ [.map v.wrote] ++ [.pointer v.accepted])) (cs := v.cells) (o := 1) (n := 1) (v := .int .i64 u) (by simp [BookV.cells, BookV.list, EraV.list]) (by simp [EraV.list_len]) rfl rfl; simpa [BookV.cells, BookV.list, EraV.list, Value.cells] using this
instance {v : BookV} : CellAt v.cells 2 (.bool v.entered) := ⟨by simp [BookV.cells, BookV.list, List.getElem?_append, hlist_length, EraV.list_len]⟩
instance {v : BookV} {u : Bool} : Put v.cells 2 (.bool u) { v with entered := u }.cells := by have := Put.mid (v.now.list) ([.bool v.entered]) ([.int .i64 v.slot] ++ [.map v.wrote] ++ [.pointer v.accepted]) (cs := v.cells) (o := 2) (n := 1) (v := .bool u) (by simp [BookV.cells, BookV.list]) (by simp [EraV.list_len]) rfl rfl; simpa [BookV.cells, BookV.list, Value.cells] using this
instance {v : BookV} : CellAt v.cells 3 (.int .i64 v.slot) := ⟨by simp [BookV.cells, BookV.list, List.getElem?_append, hlist_length, EraV.list_len]⟩
instance {v : BookV} {u : Int} : Put v.cells 3 (.int .i64 u) { v with slot := u }.cells := by have := Put.mid (v.now.list ++ [.bool v.entered]) ([.int .i64 v.slot]) ([.map v.wrote] ++ [.pointer v.accepted]) (cs := v.cells) (o := 3) (n := 1) (v := .int .i64 u) (by simp [BookV.cells, BookV.list]) (by simp [EraV.list_len]) rfl rfl; simpa [BookV.cells, BookV.list, Value.cells] using this
instance {v : BookV} : CellAt v.cells 4 (.map v.wrote) := ⟨by simp [BookV.cells, BookV.list, List.getElem?_append, hlist_length, EraV.list_len]⟩
instance {v : BookV} {u : Option Nat} : Put v.cells 4 (.map u) { v with wrote := u }.cells := by have := Put.mid (v.now.list ++ [.bool v.entered] ++ [.int .i64 v.slot]) ([.map v.wrote]) ([.pointer v.accepted]) (cs := v.cells) (o := 4) (n := 1) (v := .map u) (by simp [BookV.cells, BookV.list]) (by simp [EraV.list_len]) rfl rfl; simpa [BookV.cells, BookV.list, Value.cells] using this
instance {v : BookV} : CellAt v.cells 5 (.pointer v.accepted) := ⟨by simp [BookV.cells, BookV.list, List.getElem?_append, hlist_length, EraV.list_len]⟩
instance {v : BookV} {u : Option Addr} : Put v.cells 5 (.pointer u) { v with accepted := u }.cells := by have := Put.mid (v.now.list ++ [.bool v.entered] ++ [.int .i64 v.slot] ++ [.map v.wrote]) ([.pointer v.accepted]) ([] : List Value) (cs := v.cells) (o := 5) (n := 1) (v := .pointer u) (by simp [BookV.cells, BookV.list]) (by simp [EraV.list_len]) rfl rfl; simpa [BookV.cells, BookV.list, Value.cells] using this
instance {f0 : EraV} {f1 : Bool} {f2 : Int} {f3 : Option Nat} {f4 : Option Addr} : CellAt (BookV.mk f0 f1 f2 f3 f4).cells 2 (.bool f1) := inferInstanceAs (CellAt (BookV.mk f0 f1 f2 f3 f4).cells 2 (.bool (BookV.mk f0 f1 f2 f3 f4).entered))
instance {f0 : EraV} {f1 : Bool} {f2 : Int} {f3 : Option Nat} {f4 : Option Addr} {u : Bool} : Put (BookV.mk f0 f1 f2 f3 f4).cells 2 (.bool u) (BookV.mk f0 u f2 f3 f4).cells := inferInstanceAs (Put (BookV.mk f0 f1 f2 f3 f4).cells 2 (.bool u) { (BookV.mk f0 f1 f2 f3 f4) with entered := u }.cells)
instance {f0 : EraV} {f1 : Bool} {f2 : Int} {f3 : Option Nat} {f4 : Option Addr} : CellAt (BookV.mk f0 f1 f2 f3 f4).cells 3 (.int .i64 f2) := inferInstanceAs (CellAt (BookV.mk f0 f1 f2 f3 f4).cells 3 (.int .i64 (BookV.mk f0 f1 f2 f3 f4).slot))
instance {f0 : EraV} {f1 : Bool} {f2 : Int} {f3 : Option Nat} {f4 : Option Addr} {u : Int} : Put (BookV.mk f0 f1 f2 f3 f4).cells 3 (.int .i64 u) (BookV.mk f0 f1 u f3 f4).cells := inferInstanceAs (Put (BookV.mk f0 f1 f2 f3 f4).cells 3 (.int .i64 u) { (BookV.mk f0 f1 f2 f3 f4) with slot := u }.cells)
instance {f0 : EraV} {f1 : Bool} {f2 : Int} {f3 : Option Nat} {f4 : Option Addr} : CellAt (BookV.mk f0 f1 f2 f3 f4).cells 4 (.map f3) := inferInstanceAs (CellAt (BookV.mk f0 f1 f2 f3 f4).cells 4 (.map (BookV.mk f0 f1 f2 f3 f4).wrote))
instance {f0 : EraV} {f1 : Bool} {f2 : Int} {f3 : Option Nat} {f4 : Option Addr} {u : Option Nat} : Put (BookV.mk f0 f1 f2 f3 f4).cells 4 (.map u) (BookV.mk f0 f1 f2 u f4).cells := inferInstanceAs (Put (BookV.mk f0 f1 f2 f3 f4).cells 4 (.map u) { (BookV.mk f0 f1 f2 f3 f4) with wrote := u }.cells)
instance {f0 : EraV} {f1 : Bool} {f2 : Int} {f3 : Option Nat} {f4 : Option Addr} : CellAt (BookV.mk f0 f1 f2 f3 f4).cells 5 (.pointer f4) := inferInstanceAs (CellAt (BookV.mk f0 f1 f2 f3 f4).cells 5 (.pointer (BookV.mk f0 f1 f2 f3 f4).accepted))
instance {f0 : EraV} {f1 : Bool} {f2 : Int} {f3 : Option Nat} {f4 : Option Addr} {u : Option Addr} : Put (BookV.mk f0 f1 f2 f3 f4).cells 5 (.pointer u) (BookV.mk f0 f1 f2 f3 u).cells := inferInstanceAs (Put (BookV.mk f0 f1 f2 f3 f4).cells 5 (.pointer u) { (BookV.mk f0 f1 f2 f3 f4) with accepted := u }.cells)
@[reducible] def BookV.zero : BookV := { now := EraV.zero, entered := false, slot := 0, wrote := none, accepted := none }
instance : TyZ Try.prog 60 (.agg BookV.zero.cells) := ⟨by kernel_rfl⟩
end Go.Proofs.Ytdjbhpdfkopdgaa
