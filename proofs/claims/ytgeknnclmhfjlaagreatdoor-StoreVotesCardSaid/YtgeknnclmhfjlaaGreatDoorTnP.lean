/- Structures for the struct types of stores and books, with their cells. Printed by program. -/
import Derived.Test.YtgeknnclmhfjlaaGreatDoorTkP
import Derived.Test.YtgeknnclmhfjlaaGreatDoorTlP
namespace Go.Proofs.YtgeknnclmhfjlaaGreatDoor
open Go.RowKit Go.Sx
set_option maxRecDepth 100000
set_option linter.unusedSimpArgs false
set_option linter.unusedVariables false
set_option linter.unnecessarySimpa false
structure EraV where
 view : Int
 reg : Int
def EraV.list (v : EraV) : List Value := [.int .i64 v.view] ++ ([.int .i64 v.reg])
def EraV.cells (v : EraV) : Array Value := v.list.toArray
theorem EraV.list_len (v : EraV) : v.list.length = 2 := by simp [EraV.list]
theorem EraV.list_one (v : EraV) : v.list.all Value.oneCell' = true := by simp [EraV.list, Value.oneCell']
instance tn7 {v : EraV} : Cells v.cells 2 := Cells.list v.list_len v.list_one
theorem EraV.size (v : EraV) : v.cells.size = 2 := by simp [EraV.cells, EraV.list_len]
instance tn9 {v : EraV} : SubAt v.cells 0 2 v.cells := ⟨by have h := v.size; apply Array.ext <;> simp [h]⟩
instance tn10 {v u : EraV} : Put v.cells 0 (.agg u.cells) u.cells := ⟨by have := put_mid [] v.list [] (v := .agg u.cells) (o := 0) (n := 2) rfl v.list_len u.size; simpa [EraV.cells, Value.cells] using this, by simp [Value.cells, EraV.size]⟩
instance tn11 {v : EraV} : CellAt v.cells 0 (.int .i64 v.view) := ⟨by simp [EraV.cells, EraV.list, List.getElem?_append, hlist_length]⟩
instance tn12 {v : EraV} {u : Int} : Put v.cells 0 (.int .i64 u) { v with view := u }.cells := by have := Put.mid ([] : List Value) ([.int .i64 v.view]) ([.int .i64 v.reg]) (cs := v.cells) (o := 0) (n := 1) (v := .int .i64 u) (by simp [EraV.cells, EraV.list]) (by simp) rfl rfl; simpa [EraV.cells, EraV.list, Value.cells] using this
instance tn13 {v : EraV} : CellAt v.cells 1 (.int .i64 v.reg) := ⟨by simp [EraV.cells, EraV.list, List.getElem?_append, hlist_length]⟩
instance tn14 {v : EraV} {u : Int} : Put v.cells 1 (.int .i64 u) { v with reg := u }.cells := by have := Put.mid ([.int .i64 v.view]) ([.int .i64 v.reg]) ([] : List Value) (cs := v.cells) (o := 1) (n := 1) (v := .int .i64 u) (by simp [EraV.cells, EraV.list]) (by simp) rfl rfl; simpa [EraV.cells, EraV.list, Value.cells] using this
instance tn16 {f0 : Int} {f1 : Int} {u : Int} : Put (EraV.mk f0 f1).cells 0 (.int .i64 u) (EraV.mk u f1).cells := inferInstanceAs (Put (EraV.mk f0 f1).cells 0 (.int .i64 u) { (EraV.mk f0 f1) with view := u }.cells)
instance tn18 {f0 : Int} {f1 : Int} {u : Int} : Put (EraV.mk f0 f1).cells 1 (.int .i64 u) (EraV.mk f0 u).cells := inferInstanceAs (Put (EraV.mk f0 f1).cells 1 (.int .i64 u) { (EraV.mk f0 f1) with reg := u }.cells)
@[reducible] def EraV.zero : EraV := { view := 0, reg := 0 }
instance tn20 : TyZ Tryz.prog 112 (.agg EraV.zero.cells) := ⟨by kernel_rfl⟩
theorem EraV.ext_iff' (x y : EraV) : x = y ↔ x.view = y.view ∧ x.reg = y.reg := by cases x; cases y; simp
instance tn22 : DecidableEq EraV := fun x y => decidable_of_iff _ (EraV.ext_iff' x y).symm
instance tn23 {x y : EraV} : EqV Tryz.prog 112 (.agg x.cells) (.agg y.cells) (decide (x = y)) := ⟨fun d w => by
 rw [run_equalIn_struct w (d + 3) 112 _ _ (by kernel_rfl) (by kernel_rfl)]
 simp only [Program.fieldsOf, Tryz.underlying112]
 simp only [Op.eqFields, ne_eq, Sem.run_bind, Sem.run_ite, Sem.run_pure, Result.andThen_ok, part1, partN, eqB_run]
 rw [show decide (x = y) = (decide (x.view = y.view) && (decide (x.reg = y.reg) && true)) from by rw [Bool.eq_iff_iff]; simp [EraV.ext_iff']]
 try simp only [String.reduceEq, not_false_eq_true, if_true, Result.andThen_ok]
 cases decide (x.view = y.view) <;> cases decide (x.reg = y.reg) <;> rfl⟩
structure VoteV where
 kind : Int
 view : Int
 reg : Int
 slot : Int
 hash : Vector UInt8 32
 batch : BS
 cert : PS
def VoteV.list (v : VoteV) : List Value := [.int .i64 v.kind] ++ ([.int .i64 v.view] ++ ([.int .i64 v.reg] ++ ([.int .i64 v.slot] ++ (hlist v.hash ++ ([.slice v.batch.a v.batch.l.length v.batch.c] ++ ([.slice v.cert.a v.cert.ls.length v.cert.c]))))))
def VoteV.cells (v : VoteV) : Array Value := v.list.toArray
theorem VoteV.list_len (v : VoteV) : v.list.length = 38 := by simp [VoteV.list]
theorem VoteV.list_one (v : VoteV) : v.list.all Value.oneCell' = true := by simp [VoteV.list, Value.oneCell']
instance tn42 {v : VoteV} : Cells v.cells 38 := Cells.list v.list_len v.list_one
theorem VoteV.size (v : VoteV) : v.cells.size = 38 := by simp [VoteV.cells, VoteV.list_len]
instance tn44 {v : VoteV} : SubAt v.cells 0 38 v.cells := ⟨by have h := v.size; apply Array.ext <;> simp [h]⟩
instance tn45 {v u : VoteV} : Put v.cells 0 (.agg u.cells) u.cells := ⟨by have := put_mid [] v.list [] (v := .agg u.cells) (o := 0) (n := 38) rfl v.list_len u.size; simpa [VoteV.cells, Value.cells] using this, by simp [Value.cells, VoteV.size]⟩
instance tn46 {v : VoteV} : CellAt v.cells 0 (.int .i64 v.kind) := ⟨by simp [VoteV.cells, VoteV.list, List.getElem?_append, hlist_length]⟩
instance tn47 {v : VoteV} {u : Int} : Put v.cells 0 (.int .i64 u) { v with kind := u }.cells := by have := Put.mid ([] : List Value) ([.int .i64 v.kind]) ([.int .i64 v.view] ++ [.int .i64 v.reg] ++ [.int .i64 v.slot] ++ hlist v.hash ++ [.slice v.batch.a v.batch.l.length v.batch.c] ++ [.slice v.cert.a v.cert.ls.length v.cert.c]) (cs := v.cells) (o := 0) (n := 1) (v := .int .i64 u) (by simp [VoteV.cells, VoteV.list]) (by simp) rfl rfl; simpa [VoteV.cells, VoteV.list, Value.cells] using this
instance tn48 {v : VoteV} : CellAt v.cells 1 (.int .i64 v.view) := ⟨by simp [VoteV.cells, VoteV.list, List.getElem?_append, hlist_length]⟩
instance tn49 {v : VoteV} {u : Int} : Put v.cells 1 (.int .i64 u) { v with view := u }.cells := by have := Put.mid ([.int .i64 v.kind]) ([.int .i64 v.view]) ([.int .i64 v.reg] ++ [.int .i64 v.slot] ++ hlist v.hash ++ [.slice v.batch.a v.batch.l.length v.batch.c] ++ [.slice v.cert.a v.cert.ls.length v.cert.c]) (cs := v.cells) (o := 1) (n := 1) (v := .int .i64 u) (by simp [VoteV.cells, VoteV.list]) (by simp) rfl rfl; simpa [VoteV.cells, VoteV.list, Value.cells] using this
instance tn50 {v : VoteV} : CellAt v.cells 2 (.int .i64 v.reg) := ⟨by simp [VoteV.cells, VoteV.list, List.getElem?_append, hlist_length]⟩
instance tn51 {v : VoteV} {u : Int} : Put v.cells 2 (.int .i64 u) { v with reg := u }.cells := by have := Put.mid ([.int .i64 v.kind] ++ [.int .i64 v.view]) ([.int .i64 v.reg]) ([.int .i64 v.slot] ++ hlist v.hash ++ [.slice v.batch.a v.batch.l.length v.batch.c] ++ [.slice v.cert.a v.cert.ls.length v.cert.c]) (cs := v.cells) (o := 2) (n := 1) (v := .int .i64 u) (by simp [VoteV.cells, VoteV.list]) (by simp) rfl rfl; simpa [VoteV.cells, VoteV.list, Value.cells] using this
instance tn52 {v : VoteV} : CellAt v.cells 3 (.int .i64 v.slot) := ⟨by simp [VoteV.cells, VoteV.list, List.getElem?_append, hlist_length]⟩
instance tn53 {v : VoteV} {u : Int} : Put v.cells 3 (.int .i64 u) { v with slot := u }.cells := by have := Put.mid ([.int .i64 v.kind] ++ [.int .i64 v.view] ++ [.int .i64 v.reg]) ([.int .i64 v.slot]) (hlist v.hash ++ [.slice v.batch.a v.batch.l.length v.batch.c] ++ [.slice v.cert.a v.cert.ls.length v.cert.c]) (cs := v.cells) (o := 3) (n := 1) (v := .int .i64 u) (by simp [VoteV.cells, VoteV.list]) (by simp) rfl rfl; simpa [VoteV.cells, VoteV.list, Value.cells] using this
instance tn54 {v : VoteV} : SubAt v.cells 4 32 (hlist v.hash).toArray := ⟨by first | (simp [VoteV.cells, VoteV.list]; done) | (have := sub_mid ([.int .i64 v.kind] ++ [.int .i64 v.view] ++ [.int .i64 v.reg] ++ [.int .i64 v.slot]) (hlist v.hash) ([.slice v.batch.a v.batch.l.length v.batch.c] ++ [.slice v.cert.a v.cert.ls.length v.cert.c]) (o := 4) (n := 32) (by simp) (by simp); simpa [VoteV.cells, VoteV.list] using this)⟩
instance tn56 {v : VoteV} : CellAt v.cells 36 (.slice v.batch.a v.batch.l.length v.batch.c) := ⟨by simp [VoteV.cells, VoteV.list, List.getElem?_append, hlist_length]⟩
instance tn57 {v : VoteV} {a : Option Addr} {l : List UInt8} {c : Nat} : Put v.cells 36 (.slice a l.length c) { v with batch := ⟨a, c, l⟩ }.cells := by have := Put.mid ([.int .i64 v.kind] ++ [.int .i64 v.view] ++ [.int .i64 v.reg] ++ [.int .i64 v.slot] ++ hlist v.hash) ([.slice v.batch.a v.batch.l.length v.batch.c]) ([.slice v.cert.a v.cert.ls.length v.cert.c]) (cs := v.cells) (o := 36) (n := 1) (v := .slice a l.length c) (by simp [VoteV.cells, VoteV.list]) (by simp) rfl rfl; simpa [VoteV.cells, VoteV.list, Value.cells] using this
instance tn59 {v : VoteV} : CellAt v.cells 37 (.slice v.cert.a v.cert.ls.length v.cert.c) := ⟨by simp [VoteV.cells, VoteV.list, List.getElem?_append, hlist_length]⟩
instance tn60 {v : VoteV} {a : Option Addr} {l : List BS} {c : Nat} : Put v.cells 37 (.slice a l.length c) { v with cert := ⟨a, c, l⟩ }.cells := by have := Put.mid ([.int .i64 v.kind] ++ [.int .i64 v.view] ++ [.int .i64 v.reg] ++ [.int .i64 v.slot] ++ hlist v.hash ++ [.slice v.batch.a v.batch.l.length v.batch.c]) ([.slice v.cert.a v.cert.ls.length v.cert.c]) ([] : List Value) (cs := v.cells) (o := 37) (n := 1) (v := .slice a l.length c) (by simp [VoteV.cells, VoteV.list]) (by simp) rfl rfl; simpa [VoteV.cells, VoteV.list, Value.cells] using this
instance tn63 {f0 : Int} {f1 : Int} {f2 : Int} {f3 : Int} {f4 : Vector UInt8 32} {f5 : BS} {f6 : PS} {u : Int} : Put (VoteV.mk f0 f1 f2 f3 f4 f5 f6).cells 0 (.int .i64 u) (VoteV.mk u f1 f2 f3 f4 f5 f6).cells := inferInstanceAs (Put (VoteV.mk f0 f1 f2 f3 f4 f5 f6).cells 0 (.int .i64 u) { (VoteV.mk f0 f1 f2 f3 f4 f5 f6) with kind := u }.cells)
instance tn65 {f0 : Int} {f1 : Int} {f2 : Int} {f3 : Int} {f4 : Vector UInt8 32} {f5 : BS} {f6 : PS} {u : Int} : Put (VoteV.mk f0 f1 f2 f3 f4 f5 f6).cells 1 (.int .i64 u) (VoteV.mk f0 u f2 f3 f4 f5 f6).cells := inferInstanceAs (Put (VoteV.mk f0 f1 f2 f3 f4 f5 f6).cells 1 (.int .i64 u) { (VoteV.mk f0 f1 f2 f3 f4 f5 f6) with view := u }.cells)
instance tn67 {f0 : Int} {f1 : Int} {f2 : Int} {f3 : Int} {f4 : Vector UInt8 32} {f5 : BS} {f6 : PS} {u : Int} : Put (VoteV.mk f0 f1 f2 f3 f4 f5 f6).cells 2 (.int .i64 u) (VoteV.mk f0 f1 u f3 f4 f5 f6).cells := inferInstanceAs (Put (VoteV.mk f0 f1 f2 f3 f4 f5 f6).cells 2 (.int .i64 u) { (VoteV.mk f0 f1 f2 f3 f4 f5 f6) with reg := u }.cells)
instance tn69 {f0 : Int} {f1 : Int} {f2 : Int} {f3 : Int} {f4 : Vector UInt8 32} {f5 : BS} {f6 : PS} {u : Int} : Put (VoteV.mk f0 f1 f2 f3 f4 f5 f6).cells 3 (.int .i64 u) (VoteV.mk f0 f1 f2 u f4 f5 f6).cells := inferInstanceAs (Put (VoteV.mk f0 f1 f2 f3 f4 f5 f6).cells 3 (.int .i64 u) { (VoteV.mk f0 f1 f2 f3 f4 f5 f6) with slot := u }.cells)
instance tn74 {f0 : Int} {f1 : Int} {f2 : Int} {f3 : Int} {f4 : Vector UInt8 32} {f5 : BS} {f6 : PS} {a : Option Addr} {c : Nat} {l : List UInt8} : Put (VoteV.mk f0 f1 f2 f3 f4 f5 f6).cells 36 (.slice a l.length c) (VoteV.mk f0 f1 f2 f3 f4 (BS.mk a c l) f6).cells := inferInstanceAs (Put (VoteV.mk f0 f1 f2 f3 f4 f5 f6).cells 36 (.slice a l.length c) { (VoteV.mk f0 f1 f2 f3 f4 f5 f6) with batch := (BS.mk a c l) }.cells)
instance tn76 {f0 : Int} {f1 : Int} {f2 : Int} {f3 : Int} {f4 : Vector UInt8 32} {f5 : BS} {f6 : PS} : CellAt (VoteV.mk f0 f1 f2 f3 f4 f5 f6).cells 37 (.slice f6.a f6.ls.length f6.c) := inferInstanceAs (CellAt (VoteV.mk f0 f1 f2 f3 f4 f5 f6).cells 37 (.slice (VoteV.mk f0 f1 f2 f3 f4 f5 f6).cert.a (VoteV.mk f0 f1 f2 f3 f4 f5 f6).cert.ls.length (VoteV.mk f0 f1 f2 f3 f4 f5 f6).cert.c))
instance tn77 {f0 : Int} {f1 : Int} {f2 : Int} {f3 : Int} {f4 : Vector UInt8 32} {f5 : BS} {a : Option Addr} {c : Nat} {l : List BS} : CellAt (VoteV.mk f0 f1 f2 f3 f4 f5 (PS.mk a c l)).cells 37 (.slice a l.length c) := inferInstanceAs (CellAt (VoteV.mk f0 f1 f2 f3 f4 f5 (PS.mk a c l)).cells 37 (.slice (VoteV.mk f0 f1 f2 f3 f4 f5 (PS.mk a c l)).cert.a (VoteV.mk f0 f1 f2 f3 f4 f5 (PS.mk a c l)).cert.ls.length (VoteV.mk f0 f1 f2 f3 f4 f5 (PS.mk a c l)).cert.c))
instance tn78 {f0 : Int} {f1 : Int} {f2 : Int} {f3 : Int} {f4 : Vector UInt8 32} {f5 : BS} {f6 : PS} {a : Option Addr} {c : Nat} {l : List BS} : Put (VoteV.mk f0 f1 f2 f3 f4 f5 f6).cells 37 (.slice a l.length c) (VoteV.mk f0 f1 f2 f3 f4 f5 (PS.mk a c l)).cells := inferInstanceAs (Put (VoteV.mk f0 f1 f2 f3 f4 f5 f6).cells 37 (.slice a l.length c) { (VoteV.mk f0 f1 f2 f3 f4 f5 f6) with cert := (PS.mk a c l) }.cells)
@[reducible] def VoteV.zero : VoteV := { kind := 0, view := 0, reg := 0, slot := 0, hash := zeroV 32, batch := ⟨none, 0, []⟩, cert := ⟨none, 0, []⟩ }
instance tn81 : TyZ Tryz.prog 44 (.agg VoteV.zero.cells) := ⟨by kernel_rfl⟩
structure BookV where
 now : EraV
 entered : Bool
 slot : Int
 wrote : Option Nat
 accepted : Option Addr
def BookV.list (v : BookV) : List Value := v.now.list ++ ([.bool v.entered] ++ ([.int .i64 v.slot] ++ ([.map v.wrote] ++ ([.pointer v.accepted]))))
def BookV.cells (v : BookV) : Array Value := v.list.toArray
theorem BookV.list_len (v : BookV) : v.list.length = 6 := by simp [BookV.list, EraV.list_len]
theorem BookV.list_one (v : BookV) : v.list.all Value.oneCell' = true := by simp [BookV.list, Value.oneCell', EraV.list_one]
instance tn92 {v : BookV} : Cells v.cells 6 := Cells.list v.list_len v.list_one
theorem BookV.size (v : BookV) : v.cells.size = 6 := by simp [BookV.cells, BookV.list_len]
instance tn96 {v : BookV} : SubAt v.cells 0 2 v.now.cells := ⟨by first | (simp [BookV.cells, BookV.list, EraV.list_len]; done) | (have := sub_mid ([] : List Value) (v.now.list) ([.bool v.entered] ++ [.int .i64 v.slot] ++ [.map v.wrote] ++ [.pointer v.accepted]) (o := 0) (n := 2) (by simp [EraV.list_len]) (by simp [EraV.list_len]); simpa [BookV.cells, BookV.list, EraV.cells] using this)⟩
instance tn97 {v : BookV} {u : EraV} : Put v.cells 0 (.agg u.cells) { v with now := u }.cells := by have := Put.mid ([] : List Value) (v.now.list) ([.bool v.entered] ++ [.int .i64 v.slot] ++ [.map v.wrote] ++ [.pointer v.accepted]) (cs := v.cells) (o := 0) (n := 2) (v := .agg u.cells) (by simp [BookV.cells, BookV.list]) (by simp [EraV.list_len]) (by simp [EraV.list_len]) (by simp [Value.cells, EraV.size]); simp only [Value.cells, BookV.cells, BookV.list, EraV.cells, List.append_assoc, List.nil_append, List.cons_append] at this ⊢; first | exact this | simpa using this
instance tn98 {v : BookV} : CellAt v.cells 0 (.int .i64 v.now.view) := ⟨by simp [BookV.cells, BookV.list, EraV.list, List.getElem?_append, hlist_length, EraV.list_len]⟩
instance tn100 {v : BookV} : CellAt v.cells 1 (.int .i64 v.now.reg) := ⟨by simp [BookV.cells, BookV.list, EraV.list, List.getElem?_append, hlist_length, EraV.list_len]⟩
instance tn102 {v : BookV} : CellAt v.cells 2 (.bool v.entered) := ⟨by simp [BookV.cells, BookV.list, List.getElem?_append, hlist_length, EraV.list_len]⟩
instance tn103 {v : BookV} {u : Bool} : Put v.cells 2 (.bool u) { v with entered := u }.cells := by have := Put.mid (v.now.list) ([.bool v.entered]) ([.int .i64 v.slot] ++ [.map v.wrote] ++ [.pointer v.accepted]) (cs := v.cells) (o := 2) (n := 1) (v := .bool u) (by simp [BookV.cells, BookV.list]) (by simp [EraV.list_len]) rfl rfl; simpa [BookV.cells, BookV.list, Value.cells] using this
instance tn104 {v : BookV} : CellAt v.cells 3 (.int .i64 v.slot) := ⟨by simp [BookV.cells, BookV.list, List.getElem?_append, hlist_length, EraV.list_len]⟩
instance tn105 {v : BookV} {u : Int} : Put v.cells 3 (.int .i64 u) { v with slot := u }.cells := by have := Put.mid (v.now.list ++ [.bool v.entered]) ([.int .i64 v.slot]) ([.map v.wrote] ++ [.pointer v.accepted]) (cs := v.cells) (o := 3) (n := 1) (v := .int .i64 u) (by simp [BookV.cells, BookV.list]) (by simp [EraV.list_len]) rfl rfl; simpa [BookV.cells, BookV.list, Value.cells] using this
instance tn106 {v : BookV} : CellAt v.cells 4 (.map v.wrote) := ⟨by simp [BookV.cells, BookV.list, List.getElem?_append, hlist_length, EraV.list_len]⟩
instance tn107 {v : BookV} {u : Option Nat} : Put v.cells 4 (.map u) { v with wrote := u }.cells := by have := Put.mid (v.now.list ++ [.bool v.entered] ++ [.int .i64 v.slot]) ([.map v.wrote]) ([.pointer v.accepted]) (cs := v.cells) (o := 4) (n := 1) (v := .map u) (by simp [BookV.cells, BookV.list]) (by simp [EraV.list_len]) rfl rfl; simpa [BookV.cells, BookV.list, Value.cells] using this
instance tn108 {v : BookV} : CellAt v.cells 5 (.pointer v.accepted) := ⟨by simp [BookV.cells, BookV.list, List.getElem?_append, hlist_length, EraV.list_len]⟩
instance tn109 {v : BookV} {u : Option Addr} : Put v.cells 5 (.pointer u) { v with accepted := u }.cells := by have := Put.mid (v.now.list ++ [.bool v.entered] ++ [.int .i64 v.slot] ++ [.map v.wrote]) ([.pointer v.accepted]) ([] : List Value) (cs := v.cells) (o := 5) (n := 1) (v := .pointer u) (by simp [BookV.cells, BookV.list]) (by simp [EraV.list_len]) rfl rfl; simpa [BookV.cells, BookV.list, Value.cells] using this
instance tn110 {f0 : EraV} {f1 : Bool} {f2 : Int} {f3 : Option Nat} {f4 : Option Addr} : CellAt (BookV.mk f0 f1 f2 f3 f4).cells 2 (.bool f1) := inferInstanceAs (CellAt (BookV.mk f0 f1 f2 f3 f4).cells 2 (.bool (BookV.mk f0 f1 f2 f3 f4).entered))
instance tn111 {f0 : EraV} {f1 : Bool} {f2 : Int} {f3 : Option Nat} {f4 : Option Addr} {u : Bool} : Put (BookV.mk f0 f1 f2 f3 f4).cells 2 (.bool u) (BookV.mk f0 u f2 f3 f4).cells := inferInstanceAs (Put (BookV.mk f0 f1 f2 f3 f4).cells 2 (.bool u) { (BookV.mk f0 f1 f2 f3 f4) with entered := u }.cells)
instance tn112 {f0 : EraV} {f1 : Bool} {f2 : Int} {f3 : Option Nat} {f4 : Option Addr} : CellAt (BookV.mk f0 f1 f2 f3 f4).cells 3 (.int .i64 f2) := inferInstanceAs (CellAt (BookV.mk f0 f1 f2 f3 f4).cells 3 (.int .i64 (BookV.mk f0 f1 f2 f3 f4).slot))
instance tn113 {f0 : EraV} {f1 : Bool} {f2 : Int} {f3 : Option Nat} {f4 : Option Addr} {u : Int} : Put (BookV.mk f0 f1 f2 f3 f4).cells 3 (.int .i64 u) (BookV.mk f0 f1 u f3 f4).cells := inferInstanceAs (Put (BookV.mk f0 f1 f2 f3 f4).cells 3 (.int .i64 u) { (BookV.mk f0 f1 f2 f3 f4) with slot := u }.cells)
instance tn114 {f0 : EraV} {f1 : Bool} {f2 : Int} {f3 : Option Nat} {f4 : Option Addr} : CellAt (BookV.mk f0 f1 f2 f3 f4).cells 4 (.map f3) := inferInstanceAs (CellAt (BookV.mk f0 f1 f2 f3 f4).cells 4 (.map (BookV.mk f0 f1 f2 f3 f4).wrote))
instance tn115 {f0 : EraV} {f1 : Bool} {f2 : Int} {f3 : Option Nat} {f4 : Option Addr} {u : Option Nat} : Put (BookV.mk f0 f1 f2 f3 f4).cells 4 (.map u) (BookV.mk f0 f1 f2 u f4).cells := inferInstanceAs (Put (BookV.mk f0 f1 f2 f3 f4).cells 4 (.map u) { (BookV.mk f0 f1 f2 f3 f4) with wrote := u }.cells)
instance tn116 {f0 : EraV} {f1 : Bool} {f2 : Int} {f3 : Option Nat} {f4 : Option Addr} : CellAt (BookV.mk f0 f1 f2 f3 f4).cells 5 (.pointer f4) := inferInstanceAs (CellAt (BookV.mk f0 f1 f2 f3 f4).cells 5 (.pointer (BookV.mk f0 f1 f2 f3 f4).accepted))
instance tn117 {f0 : EraV} {f1 : Bool} {f2 : Int} {f3 : Option Nat} {f4 : Option Addr} {u : Option Addr} : Put (BookV.mk f0 f1 f2 f3 f4).cells 5 (.pointer u) (BookV.mk f0 f1 f2 f3 u).cells := inferInstanceAs (Put (BookV.mk f0 f1 f2 f3 f4).cells 5 (.pointer u) { (BookV.mk f0 f1 f2 f3 f4) with accepted := u }.cells)
@[reducible] def BookV.zero : BookV := { now := EraV.zero, entered := false, slot := 0, wrote := none, accepted := none }
instance tn119 : TyZ Tryz.prog 115 (.agg BookV.zero.cells) := ⟨by kernel_rfl⟩
structure StateV where
 world : WorldV
 last : SlotV
 slots : Sl
 digests : Sl
 saved : Int
def StateV.list (v : StateV) : List Value := v.world.list ++ (v.last.list ++ ([.slice v.slots.a v.slots.n v.slots.c] ++ ([.slice v.digests.a v.digests.n v.digests.c] ++ ([.int .i64 v.saved]))))
def StateV.cells (v : StateV) : Array Value := v.list.toArray
theorem StateV.list_len (v : StateV) : v.list.length = 106 := by simp [StateV.list, WorldV.list_len, SlotV.list_len]
theorem StateV.list_one (v : StateV) : v.list.all Value.oneCell' = true := by simp [StateV.list, Value.oneCell', WorldV.list_one, SlotV.list_one]
instance tn130 {v : StateV} : Cells v.cells 106 := Cells.list v.list_len v.list_one
theorem StateV.size (v : StateV) : v.cells.size = 106 := by simp [StateV.cells, StateV.list_len]
instance tn132 {v : StateV} : SubAt v.cells 0 106 v.cells := ⟨by have h := v.size; apply Array.ext <;> simp [h]⟩
instance tn133 {v u : StateV} : Put v.cells 0 (.agg u.cells) u.cells := ⟨by have := put_mid [] v.list [] (v := .agg u.cells) (o := 0) (n := 106) rfl v.list_len u.size; simpa [StateV.cells, Value.cells] using this, by simp [Value.cells, StateV.size]⟩
instance tn134 {v : StateV} : SubAt v.cells 0 68 v.world.cells := ⟨by first | (simp [StateV.cells, StateV.list, WorldV.list_len, SlotV.list_len]; done) | (have := sub_mid ([] : List Value) (v.world.list) (v.last.list ++ [.slice v.slots.a v.slots.n v.slots.c] ++ [.slice v.digests.a v.digests.n v.digests.c] ++ [.int .i64 v.saved]) (o := 0) (n := 68) (by simp [WorldV.list_len, SlotV.list_len]) (by simp [WorldV.list_len, SlotV.list_len]); simpa [StateV.cells, StateV.list, WorldV.cells, SlotV.cells] using this)⟩
instance tn135 {v : StateV} {u : WorldV} : Put v.cells 0 (.agg u.cells) { v with world := u }.cells := by have := Put.mid ([] : List Value) (v.world.list) (v.last.list ++ [.slice v.slots.a v.slots.n v.slots.c] ++ [.slice v.digests.a v.digests.n v.digests.c] ++ [.int .i64 v.saved]) (cs := v.cells) (o := 0) (n := 68) (v := .agg u.cells) (by simp [StateV.cells, StateV.list]) (by simp [WorldV.list_len, SlotV.list_len]) (by simp [WorldV.list_len, SlotV.list_len]) (by simp [Value.cells, WorldV.size, SlotV.size]); simp only [Value.cells, StateV.cells, StateV.list, WorldV.cells, SlotV.cells, List.append_assoc, List.nil_append, List.cons_append] at this ⊢; first | exact this | simpa using this
instance tn137 {v : StateV} {u : SlotV} : Put v.cells 68 (.agg u.cells) { v with last := u }.cells := by have := Put.mid (v.world.list) (v.last.list) ([.slice v.slots.a v.slots.n v.slots.c] ++ [.slice v.digests.a v.digests.n v.digests.c] ++ [.int .i64 v.saved]) (cs := v.cells) (o := 68) (n := 35) (v := .agg u.cells) (by simp [StateV.cells, StateV.list]) (by simp [WorldV.list_len, SlotV.list_len]) (by simp [WorldV.list_len, SlotV.list_len]) (by simp [Value.cells, WorldV.size, SlotV.size]); simp only [Value.cells, StateV.cells, StateV.list, WorldV.cells, SlotV.cells, List.append_assoc, List.nil_append, List.cons_append] at this ⊢; first | exact this | simpa using this
instance tn148 {v : StateV} {a : Option Addr} {n c : Nat} : Put v.cells 104 (.slice a n c) { v with digests := ⟨a, n, c⟩ }.cells := by have := Put.mid (v.world.list ++ v.last.list ++ [.slice v.slots.a v.slots.n v.slots.c]) ([.slice v.digests.a v.digests.n v.digests.c]) ([.int .i64 v.saved]) (cs := v.cells) (o := 104) (n := 1) (v := .slice a n c) (by simp [StateV.cells, StateV.list]) (by simp [WorldV.list_len, SlotV.list_len]) rfl rfl; simpa [StateV.cells, StateV.list, Value.cells] using this
instance tn149 {v : StateV} : CellAt v.cells 105 (.int .i64 v.saved) := ⟨by simp [StateV.cells, StateV.list, List.getElem?_append, hlist_length, WorldV.list_len, SlotV.list_len]⟩
instance tn150 {v : StateV} {u : Int} : Put v.cells 105 (.int .i64 u) { v with saved := u }.cells := by have := Put.mid (v.world.list ++ v.last.list ++ [.slice v.slots.a v.slots.n v.slots.c] ++ [.slice v.digests.a v.digests.n v.digests.c]) ([.int .i64 v.saved]) ([] : List Value) (cs := v.cells) (o := 105) (n := 1) (v := .int .i64 u) (by simp [StateV.cells, StateV.list]) (by simp [WorldV.list_len, SlotV.list_len]) rfl rfl; simpa [StateV.cells, StateV.list, Value.cells] using this
instance tn156 {f0 : WorldV} {f1 : SlotV} {f2 : Sl} {f3 : Sl} {f4 : Int} {a : Option Addr} {n c : Nat} : Put (StateV.mk f0 f1 f2 f3 f4).cells 104 (.slice a n c) (StateV.mk f0 f1 f2 (Sl.mk a n c) f4).cells := inferInstanceAs (Put (StateV.mk f0 f1 f2 f3 f4).cells 104 (.slice a n c) { (StateV.mk f0 f1 f2 f3 f4) with digests := (Sl.mk a n c) }.cells)
instance tn158 {f0 : WorldV} {f1 : SlotV} {f2 : Sl} {f3 : Sl} {f4 : Int} {u : Int} : Put (StateV.mk f0 f1 f2 f3 f4).cells 105 (.int .i64 u) (StateV.mk f0 f1 f2 f3 u).cells := inferInstanceAs (Put (StateV.mk f0 f1 f2 f3 f4).cells 105 (.int .i64 u) { (StateV.mk f0 f1 f2 f3 f4) with saved := u }.cells)
@[reducible] def StateV.zero : StateV := { world := WorldV.zero, last := SlotV.zero, slots := ⟨none, 0, 0⟩, digests := ⟨none, 0, 0⟩, saved := 0 }
instance tn160 : TyZ Tryz.prog 86 (.agg StateV.zero.cells) := ⟨by kernel_rfl⟩
structure StoreV where
 state : Option Addr
 d : Option Addr
 log : Option Addr
 book : Option Addr
 full : Bool
def StoreV.list (v : StoreV) : List Value := [.pointer v.state] ++ ([.pointer v.d] ++ ([.pointer v.log] ++ ([.pointer v.book] ++ ([.bool v.full]))))
def StoreV.cells (v : StoreV) : Array Value := v.list.toArray
theorem StoreV.list_len (v : StoreV) : v.list.length = 5 := by simp [StoreV.list]
theorem StoreV.list_one (v : StoreV) : v.list.all Value.oneCell' = true := by simp [StoreV.list, Value.oneCell']
theorem StoreV.size (v : StoreV) : v.cells.size = 5 := by simp [StoreV.cells, StoreV.list_len]
instance tn175 {v : StoreV} : CellAt v.cells 0 (.pointer v.state) := ⟨by simp [StoreV.cells, StoreV.list, List.getElem?_append, hlist_length]⟩
instance tn176 {v : StoreV} {u : Option Addr} : Put v.cells 0 (.pointer u) { v with state := u }.cells := by have := Put.mid ([] : List Value) ([.pointer v.state]) ([.pointer v.d] ++ [.pointer v.log] ++ [.pointer v.book] ++ [.bool v.full]) (cs := v.cells) (o := 0) (n := 1) (v := .pointer u) (by simp [StoreV.cells, StoreV.list]) (by simp) rfl rfl; simpa [StoreV.cells, StoreV.list, Value.cells] using this
instance tn177 {v : StoreV} : CellAt v.cells 1 (.pointer v.d) := ⟨by simp [StoreV.cells, StoreV.list, List.getElem?_append, hlist_length]⟩
instance tn178 {v : StoreV} {u : Option Addr} : Put v.cells 1 (.pointer u) { v with d := u }.cells := by have := Put.mid ([.pointer v.state]) ([.pointer v.d]) ([.pointer v.log] ++ [.pointer v.book] ++ [.bool v.full]) (cs := v.cells) (o := 1) (n := 1) (v := .pointer u) (by simp [StoreV.cells, StoreV.list]) (by simp) rfl rfl; simpa [StoreV.cells, StoreV.list, Value.cells] using this
instance tn179 {v : StoreV} : CellAt v.cells 2 (.pointer v.log) := ⟨by simp [StoreV.cells, StoreV.list, List.getElem?_append, hlist_length]⟩
instance tn180 {v : StoreV} {u : Option Addr} : Put v.cells 2 (.pointer u) { v with log := u }.cells := by have := Put.mid ([.pointer v.state] ++ [.pointer v.d]) ([.pointer v.log]) ([.pointer v.book] ++ [.bool v.full]) (cs := v.cells) (o := 2) (n := 1) (v := .pointer u) (by simp [StoreV.cells, StoreV.list]) (by simp) rfl rfl; simpa [StoreV.cells, StoreV.list, Value.cells] using this
instance tn181 {v : StoreV} : CellAt v.cells 3 (.pointer v.book) := ⟨by simp [StoreV.cells, StoreV.list, List.getElem?_append, hlist_length]⟩
instance tn182 {v : StoreV} {u : Option Addr} : Put v.cells 3 (.pointer u) { v with book := u }.cells := by have := Put.mid ([.pointer v.state] ++ [.pointer v.d] ++ [.pointer v.log]) ([.pointer v.book]) ([.bool v.full]) (cs := v.cells) (o := 3) (n := 1) (v := .pointer u) (by simp [StoreV.cells, StoreV.list]) (by simp) rfl rfl; simpa [StoreV.cells, StoreV.list, Value.cells] using this
instance tn183 {v : StoreV} : CellAt v.cells 4 (.bool v.full) := ⟨by simp [StoreV.cells, StoreV.list, List.getElem?_append, hlist_length]⟩
instance tn184 {v : StoreV} {u : Bool} : Put v.cells 4 (.bool u) { v with full := u }.cells := by have := Put.mid ([.pointer v.state] ++ [.pointer v.d] ++ [.pointer v.log] ++ [.pointer v.book]) ([.bool v.full]) ([] : List Value) (cs := v.cells) (o := 4) (n := 1) (v := .bool u) (by simp [StoreV.cells, StoreV.list]) (by simp) rfl rfl; simpa [StoreV.cells, StoreV.list, Value.cells] using this
instance tn185 {f0 : Option Addr} {f1 : Option Addr} {f2 : Option Addr} {f3 : Option Addr} {f4 : Bool} : CellAt (StoreV.mk f0 f1 f2 f3 f4).cells 0 (.pointer f0) := inferInstanceAs (CellAt (StoreV.mk f0 f1 f2 f3 f4).cells 0 (.pointer (StoreV.mk f0 f1 f2 f3 f4).state))
instance tn186 {f0 : Option Addr} {f1 : Option Addr} {f2 : Option Addr} {f3 : Option Addr} {f4 : Bool} {u : Option Addr} : Put (StoreV.mk f0 f1 f2 f3 f4).cells 0 (.pointer u) (StoreV.mk u f1 f2 f3 f4).cells := inferInstanceAs (Put (StoreV.mk f0 f1 f2 f3 f4).cells 0 (.pointer u) { (StoreV.mk f0 f1 f2 f3 f4) with state := u }.cells)
instance tn187 {f0 : Option Addr} {f1 : Option Addr} {f2 : Option Addr} {f3 : Option Addr} {f4 : Bool} : CellAt (StoreV.mk f0 f1 f2 f3 f4).cells 1 (.pointer f1) := inferInstanceAs (CellAt (StoreV.mk f0 f1 f2 f3 f4).cells 1 (.pointer (StoreV.mk f0 f1 f2 f3 f4).d))
instance tn188 {f0 : Option Addr} {f1 : Option Addr} {f2 : Option Addr} {f3 : Option Addr} {f4 : Bool} {u : Option Addr} : Put (StoreV.mk f0 f1 f2 f3 f4).cells 1 (.pointer u) (StoreV.mk f0 u f2 f3 f4).cells := inferInstanceAs (Put (StoreV.mk f0 f1 f2 f3 f4).cells 1 (.pointer u) { (StoreV.mk f0 f1 f2 f3 f4) with d := u }.cells)
instance tn189 {f0 : Option Addr} {f1 : Option Addr} {f2 : Option Addr} {f3 : Option Addr} {f4 : Bool} : CellAt (StoreV.mk f0 f1 f2 f3 f4).cells 2 (.pointer f2) := inferInstanceAs (CellAt (StoreV.mk f0 f1 f2 f3 f4).cells 2 (.pointer (StoreV.mk f0 f1 f2 f3 f4).log))
instance tn190 {f0 : Option Addr} {f1 : Option Addr} {f2 : Option Addr} {f3 : Option Addr} {f4 : Bool} {u : Option Addr} : Put (StoreV.mk f0 f1 f2 f3 f4).cells 2 (.pointer u) (StoreV.mk f0 f1 u f3 f4).cells := inferInstanceAs (Put (StoreV.mk f0 f1 f2 f3 f4).cells 2 (.pointer u) { (StoreV.mk f0 f1 f2 f3 f4) with log := u }.cells)
instance tn191 {f0 : Option Addr} {f1 : Option Addr} {f2 : Option Addr} {f3 : Option Addr} {f4 : Bool} : CellAt (StoreV.mk f0 f1 f2 f3 f4).cells 3 (.pointer f3) := inferInstanceAs (CellAt (StoreV.mk f0 f1 f2 f3 f4).cells 3 (.pointer (StoreV.mk f0 f1 f2 f3 f4).book))
instance tn192 {f0 : Option Addr} {f1 : Option Addr} {f2 : Option Addr} {f3 : Option Addr} {f4 : Bool} {u : Option Addr} : Put (StoreV.mk f0 f1 f2 f3 f4).cells 3 (.pointer u) (StoreV.mk f0 f1 f2 u f4).cells := inferInstanceAs (Put (StoreV.mk f0 f1 f2 f3 f4).cells 3 (.pointer u) { (StoreV.mk f0 f1 f2 f3 f4) with book := u }.cells)
instance tn193 {f0 : Option Addr} {f1 : Option Addr} {f2 : Option Addr} {f3 : Option Addr} {f4 : Bool} : CellAt (StoreV.mk f0 f1 f2 f3 f4).cells 4 (.bool f4) := inferInstanceAs (CellAt (StoreV.mk f0 f1 f2 f3 f4).cells 4 (.bool (StoreV.mk f0 f1 f2 f3 f4).full))
instance tn194 {f0 : Option Addr} {f1 : Option Addr} {f2 : Option Addr} {f3 : Option Addr} {f4 : Bool} {u : Bool} : Put (StoreV.mk f0 f1 f2 f3 f4).cells 4 (.bool u) (StoreV.mk f0 f1 f2 f3 u).cells := inferInstanceAs (Put (StoreV.mk f0 f1 f2 f3 f4).cells 4 (.bool u) { (StoreV.mk f0 f1 f2 f3 f4) with full := u }.cells)
@[reducible] def StoreV.zero : StoreV := { state := none, d := none, log := none, book := none, full := false }
instance tn196 : TyZ Tryz.prog 80 (.agg StoreV.zero.cells) := ⟨by kernel_rfl⟩
end Go.Proofs.YtgeknnclmhfjlaaGreatDoor
