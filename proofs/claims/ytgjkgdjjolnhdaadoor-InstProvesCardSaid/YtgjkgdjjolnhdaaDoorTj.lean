/- Structures for the struct types of package inst, with their cells. Printed by program. -/
import Derived.Test.YtgjkgdjjolnhdaaDoorTy
namespace Go.Proofs.YtgjkgdjjolnhdaaDoor
open Go.RowKit Go.Sx
set_option maxRecDepth 100000
set_option linter.unusedSimpArgs false
set_option linter.unusedVariables false
set_option linter.unnecessarySimpa false
structure BalV where
  frm : Int
  kind : Int
  reg : Int
def BalV.list (v : BalV) : List Value := [.int .i64 v.frm] ++ ([.int .i64 v.kind] ++ ([.int .i64 v.reg]))
def BalV.cells (v : BalV) : Array Value := v.list.toArray
theorem BalV.list_len (v : BalV) : v.list.length = 3 := by simp [BalV.list]
theorem BalV.list_one (v : BalV) : v.list.all Value.oneCell' = true := by simp [BalV.list, Value.oneCell']
instance tj8 {v : BalV} : Cells v.cells 3 := Cells.list v.list_len v.list_one
theorem BalV.size (v : BalV) : v.cells.size = 3 := by simp [BalV.cells, BalV.list_len]
instance tj10 {v : BalV} : SubAt v.cells 0 3 v.cells := ⟨by have h := v.size; apply Array.ext <;> simp [h]⟩
instance tj11 {v u : BalV} : Put v.cells 0 (.agg u.cells) u.cells := ⟨by have := put_mid [] v.list [] (v := .agg u.cells) (o := 0) (n := 3) rfl v.list_len u.size; simpa [BalV.cells, Value.cells] using this, by simp [Value.cells, BalV.size]⟩
instance tj12 {v : BalV} : CellAt v.cells 0 (.int .i64 v.frm) := ⟨by simp [BalV.cells, BalV.list, List.getElem?_append, hlist_length]⟩
instance tj13 {v : BalV} {u : Int} : Put v.cells 0 (.int .i64 u) { v with frm := u }.cells := by have := Put.mid ([] : List Value) ([.int .i64 v.frm]) ([.int .i64 v.kind] ++ [.int .i64 v.reg]) (cs := v.cells) (o := 0) (n := 1) (v := .int .i64 u) (by simp [BalV.cells, BalV.list]) (by simp) rfl rfl; simpa [BalV.cells, BalV.list, Value.cells] using this
instance tj14 {v : BalV} : CellAt v.cells 1 (.int .i64 v.kind) := ⟨by simp [BalV.cells, BalV.list, List.getElem?_append, hlist_length]⟩
instance tj15 {v : BalV} {u : Int} : Put v.cells 1 (.int .i64 u) { v with kind := u }.cells := by have := Put.mid ([.int .i64 v.frm]) ([.int .i64 v.kind]) ([.int .i64 v.reg]) (cs := v.cells) (o := 1) (n := 1) (v := .int .i64 u) (by simp [BalV.cells, BalV.list]) (by simp) rfl rfl; simpa [BalV.cells, BalV.list, Value.cells] using this
instance tj16 {v : BalV} : CellAt v.cells 2 (.int .i64 v.reg) := ⟨by simp [BalV.cells, BalV.list, List.getElem?_append, hlist_length]⟩
instance tj17 {v : BalV} {u : Int} : Put v.cells 2 (.int .i64 u) { v with reg := u }.cells := by have := Put.mid ([.int .i64 v.frm] ++ [.int .i64 v.kind]) ([.int .i64 v.reg]) ([] : List Value) (cs := v.cells) (o := 2) (n := 1) (v := .int .i64 u) (by simp [BalV.cells, BalV.list]) (by simp) rfl rfl; simpa [BalV.cells, BalV.list, Value.cells] using this
instance tj18 {f0 : Int} {f1 : Int} {f2 : Int} : CellAt (BalV.mk f0 f1 f2).cells 0 (.int .i64 f0) := inferInstanceAs (CellAt (BalV.mk f0 f1 f2).cells 0 (.int .i64 (BalV.mk f0 f1 f2).frm))
instance tj19 {f0 : Int} {f1 : Int} {f2 : Int} {u : Int} : Put (BalV.mk f0 f1 f2).cells 0 (.int .i64 u) (BalV.mk u f1 f2).cells := inferInstanceAs (Put (BalV.mk f0 f1 f2).cells 0 (.int .i64 u) { (BalV.mk f0 f1 f2) with frm := u }.cells)
instance tj20 {f0 : Int} {f1 : Int} {f2 : Int} : CellAt (BalV.mk f0 f1 f2).cells 1 (.int .i64 f1) := inferInstanceAs (CellAt (BalV.mk f0 f1 f2).cells 1 (.int .i64 (BalV.mk f0 f1 f2).kind))
instance tj21 {f0 : Int} {f1 : Int} {f2 : Int} {u : Int} : Put (BalV.mk f0 f1 f2).cells 1 (.int .i64 u) (BalV.mk f0 u f2).cells := inferInstanceAs (Put (BalV.mk f0 f1 f2).cells 1 (.int .i64 u) { (BalV.mk f0 f1 f2) with kind := u }.cells)
instance tj22 {f0 : Int} {f1 : Int} {f2 : Int} : CellAt (BalV.mk f0 f1 f2).cells 2 (.int .i64 f2) := inferInstanceAs (CellAt (BalV.mk f0 f1 f2).cells 2 (.int .i64 (BalV.mk f0 f1 f2).reg))
instance tj23 {f0 : Int} {f1 : Int} {f2 : Int} {u : Int} : Put (BalV.mk f0 f1 f2).cells 2 (.int .i64 u) (BalV.mk f0 f1 u).cells := inferInstanceAs (Put (BalV.mk f0 f1 f2).cells 2 (.int .i64 u) { (BalV.mk f0 f1 f2) with reg := u }.cells)
@[reducible] def BalV.zero : BalV := { frm := 0, kind := 0, reg := 0 }
instance tj25 : TyZ Tryd.prog 95 (.agg BalV.zero.cells) := ⟨by kernel_rfl⟩
theorem BalV.ext_iff' (x y : BalV) : x = y ↔ x.frm = y.frm ∧ x.kind = y.kind ∧ x.reg = y.reg := by cases x; cases y; simp
instance tj27 : DecidableEq BalV := fun x y => decidable_of_iff _ (BalV.ext_iff' x y).symm
instance tj28 {x y : BalV} : EqV Tryd.prog 95 (.agg x.cells) (.agg y.cells) (decide (x = y)) := ⟨fun d w => by
  rw [run_equalIn_struct w (d + 3) 95 _ _ (by kernel_rfl) (by kernel_rfl)]
  simp only [Program.fieldsOf, Tryd.underlying95]
  simp only [Op.eqFields, ne_eq, Sem.run_bind, Sem.run_ite, Sem.run_pure, Result.andThen_ok, part1, partN, eqB_run]
  rw [show decide (x = y) = (decide (x.frm = y.frm) && (decide (x.kind = y.kind) && (decide (x.reg = y.reg) && true))) from by rw [Bool.eq_iff_iff]; simp [BalV.ext_iff']]
  try simp only [String.reduceEq, not_false_eq_true, if_true, Result.andThen_ok]
  cases decide (x.frm = y.frm) <;> cases decide (x.kind = y.kind) <;> cases decide (x.reg = y.reg) <;> rfl⟩
structure TalV where
  kind : Int
  reg : Int
  hash : Vector UInt8 32
def TalV.list (v : TalV) : List Value := [.int .i64 v.kind] ++ ([.int .i64 v.reg] ++ (hlist v.hash))
def TalV.cells (v : TalV) : Array Value := v.list.toArray
theorem TalV.list_len (v : TalV) : v.list.length = 34 := by simp [TalV.list]
theorem TalV.list_one (v : TalV) : v.list.all Value.oneCell' = true := by simp [TalV.list, Value.oneCell']
instance tj43 {v : TalV} : Cells v.cells 34 := Cells.list v.list_len v.list_one
theorem TalV.size (v : TalV) : v.cells.size = 34 := by simp [TalV.cells, TalV.list_len]
instance tj45 {v : TalV} : SubAt v.cells 0 34 v.cells := ⟨by have h := v.size; apply Array.ext <;> simp [h]⟩
instance tj46 {v u : TalV} : Put v.cells 0 (.agg u.cells) u.cells := ⟨by have := put_mid [] v.list [] (v := .agg u.cells) (o := 0) (n := 34) rfl v.list_len u.size; simpa [TalV.cells, Value.cells] using this, by simp [Value.cells, TalV.size]⟩
instance tj47 {v : TalV} : CellAt v.cells 0 (.int .i64 v.kind) := ⟨by simp [TalV.cells, TalV.list, List.getElem?_append, hlist_length]⟩
instance tj48 {v : TalV} {u : Int} : Put v.cells 0 (.int .i64 u) { v with kind := u }.cells := by have := Put.mid ([] : List Value) ([.int .i64 v.kind]) ([.int .i64 v.reg] ++ hlist v.hash) (cs := v.cells) (o := 0) (n := 1) (v := .int .i64 u) (by simp [TalV.cells, TalV.list]) (by simp) rfl rfl; simpa [TalV.cells, TalV.list, Value.cells] using this
instance tj49 {v : TalV} : CellAt v.cells 1 (.int .i64 v.reg) := ⟨by simp [TalV.cells, TalV.list, List.getElem?_append, hlist_length]⟩
instance tj50 {v : TalV} {u : Int} : Put v.cells 1 (.int .i64 u) { v with reg := u }.cells := by have := Put.mid ([.int .i64 v.kind]) ([.int .i64 v.reg]) (hlist v.hash) (cs := v.cells) (o := 1) (n := 1) (v := .int .i64 u) (by simp [TalV.cells, TalV.list]) (by simp) rfl rfl; simpa [TalV.cells, TalV.list, Value.cells] using this
instance tj51 {v : TalV} : SubAt v.cells 2 32 (hlist v.hash).toArray := ⟨by first | (simp [TalV.cells, TalV.list]; done) | (have := sub_mid ([.int .i64 v.kind] ++ [.int .i64 v.reg]) (hlist v.hash) ([] : List Value) (o := 2) (n := 32) (by simp) (by simp); simpa [TalV.cells, TalV.list] using this)⟩
instance tj52 {v : TalV} {u : Vector UInt8 32} : Put v.cells 2 (.agg (hlist u).toArray) { v with hash := u }.cells := by have := Put.mid ([.int .i64 v.kind] ++ [.int .i64 v.reg]) (hlist v.hash) ([] : List Value) (cs := v.cells) (o := 2) (n := 32) (v := .agg (hlist u).toArray) (by simp [TalV.cells, TalV.list]) (by simp) (by simp) (by simp [Value.cells]); simp only [Value.cells, TalV.cells, TalV.list, List.append_assoc, List.nil_append, List.cons_append] at this ⊢; first | exact this | simpa using this
instance tj53 {f0 : Int} {f1 : Int} {f2 : Vector UInt8 32} : CellAt (TalV.mk f0 f1 f2).cells 0 (.int .i64 f0) := inferInstanceAs (CellAt (TalV.mk f0 f1 f2).cells 0 (.int .i64 (TalV.mk f0 f1 f2).kind))
instance tj54 {f0 : Int} {f1 : Int} {f2 : Vector UInt8 32} {u : Int} : Put (TalV.mk f0 f1 f2).cells 0 (.int .i64 u) (TalV.mk u f1 f2).cells := inferInstanceAs (Put (TalV.mk f0 f1 f2).cells 0 (.int .i64 u) { (TalV.mk f0 f1 f2) with kind := u }.cells)
instance tj55 {f0 : Int} {f1 : Int} {f2 : Vector UInt8 32} : CellAt (TalV.mk f0 f1 f2).cells 1 (.int .i64 f1) := inferInstanceAs (CellAt (TalV.mk f0 f1 f2).cells 1 (.int .i64 (TalV.mk f0 f1 f2).reg))
instance tj56 {f0 : Int} {f1 : Int} {f2 : Vector UInt8 32} {u : Int} : Put (TalV.mk f0 f1 f2).cells 1 (.int .i64 u) (TalV.mk f0 u f2).cells := inferInstanceAs (Put (TalV.mk f0 f1 f2).cells 1 (.int .i64 u) { (TalV.mk f0 f1 f2) with reg := u }.cells)
instance tj57 {f0 : Int} {f1 : Int} {f2 : Vector UInt8 32} {u : Vector UInt8 32} : Put (TalV.mk f0 f1 f2).cells 2 (.agg (hlist u).toArray) (TalV.mk f0 f1 u).cells := inferInstanceAs (Put (TalV.mk f0 f1 f2).cells 2 (.agg (hlist u).toArray) { (TalV.mk f0 f1 f2) with hash := u }.cells)
instance tj58 {f0 : Int} {f1 : Int} {f2 : Vector UInt8 32} : SubAt (TalV.mk f0 f1 f2).cells 2 32 (hlist f2).toArray := inferInstanceAs (SubAt (TalV.mk f0 f1 f2).cells 2 32 (hlist (TalV.mk f0 f1 f2).hash).toArray)
@[reducible] def TalV.zero : TalV := { kind := 0, reg := 0, hash := zeroV 32 }
instance tj60 : TyZ Tryd.prog 97 (.agg TalV.zero.cells) := ⟨by kernel_rfl⟩
theorem TalV.ext_iff' (x y : TalV) : x = y ↔ x.kind = y.kind ∧ x.reg = y.reg ∧ x.hash = y.hash := by cases x; cases y; simp
instance tj62 : DecidableEq TalV := fun x y => decidable_of_iff _ (TalV.ext_iff' x y).symm
instance tj63 {x y : TalV} : EqV Tryd.prog 97 (.agg x.cells) (.agg y.cells) (decide (x = y)) := ⟨fun d w => by
  rw [run_equalIn_struct w (d + 3) 97 _ _ (by kernel_rfl) (by kernel_rfl)]
  simp only [Program.fieldsOf, Tryd.underlying97]
  simp only [Op.eqFields, ne_eq, Sem.run_bind, Sem.run_ite, Sem.run_pure, Result.andThen_ok, part1, partN, eqB_run]
  rw [show decide (x = y) = (decide (x.kind = y.kind) && (decide (x.reg = y.reg) && (decide (x.hash = y.hash) && true))) from by rw [Bool.eq_iff_iff]; simp [TalV.ext_iff']]
  try simp only [String.reduceEq, not_false_eq_true, if_true, Result.andThen_ok]
  cases decide (x.kind = y.kind) <;> cases decide (x.reg = y.reg) <;> cases decide (x.hash = y.hash) <;> rfl⟩
structure InstV where
  k : KeysV
  v : ViewV
  slot : Int
  batches : Option Nat
  parts : Option Nat
  who : Option Nat
def InstV.list (v : InstV) : List Value := v.k.list ++ (v.v.list ++ ([.int .i64 v.slot] ++ ([.map v.batches] ++ ([.map v.parts] ++ ([.map v.who])))))
def InstV.cells (v : InstV) : Array Value := v.list.toArray
theorem InstV.list_len (v : InstV) : v.list.length = 8 := by simp [InstV.list, KeysV.list_len, ViewV.list_len]
theorem InstV.list_one (v : InstV) : v.list.all Value.oneCell' = true := by simp [InstV.list, Value.oneCell', KeysV.list_one, ViewV.list_one]
instance tj81 {v : InstV} : Cells v.cells 8 := Cells.list v.list_len v.list_one
theorem InstV.size (v : InstV) : v.cells.size = 8 := by simp [InstV.cells, InstV.list_len]
instance tj83 {v : InstV} : SubAt v.cells 0 8 v.cells := ⟨by have h := v.size; apply Array.ext <;> simp [h]⟩
instance tj84 {v u : InstV} : Put v.cells 0 (.agg u.cells) u.cells := ⟨by have := put_mid [] v.list [] (v := .agg u.cells) (o := 0) (n := 8) rfl v.list_len u.size; simpa [InstV.cells, Value.cells] using this, by simp [Value.cells, InstV.size]⟩
instance tj85 {v : InstV} : SubAt v.cells 0 2 v.k.cells := ⟨by first | (simp [InstV.cells, InstV.list, KeysV.list_len, ViewV.list_len]; done) | (have := sub_mid ([] : List Value) (v.k.list) (v.v.list ++ [.int .i64 v.slot] ++ [.map v.batches] ++ [.map v.parts] ++ [.map v.who]) (o := 0) (n := 2) (by simp [KeysV.list_len, ViewV.list_len]) (by simp [KeysV.list_len, ViewV.list_len]); simpa [InstV.cells, InstV.list, KeysV.cells, ViewV.cells] using this)⟩
instance tj86 {v : InstV} {u : KeysV} : Put v.cells 0 (.agg u.cells) { v with k := u }.cells := by have := Put.mid ([] : List Value) (v.k.list) (v.v.list ++ [.int .i64 v.slot] ++ [.map v.batches] ++ [.map v.parts] ++ [.map v.who]) (cs := v.cells) (o := 0) (n := 2) (v := .agg u.cells) (by simp [InstV.cells, InstV.list]) (by simp [KeysV.list_len, ViewV.list_len]) (by simp [KeysV.list_len, ViewV.list_len]) (by simp [Value.cells, KeysV.size, ViewV.size]); simp only [Value.cells, InstV.cells, InstV.list, KeysV.cells, ViewV.cells, List.append_assoc, List.nil_append, List.cons_append] at this ⊢; first | exact this | simpa using this
instance tj87 {v : InstV} : CellAt v.cells 0 (.slice v.k.seals.a v.k.seals.ls.length v.k.seals.c) := ⟨by simp [InstV.cells, InstV.list, KeysV.list, List.getElem?_append, hlist_length, KeysV.list_len, ViewV.list_len]⟩
instance tj88 {v : InstV} {a : Option Addr} {l : List BS} {c : Nat} : Put v.cells 0 (.slice a l.length c) { v with k := { v.k with seals := ⟨a, c, l⟩ } }.cells := by have := Put.mid (([] : List Value) ++ (([] : List Value))) ([.slice v.k.seals.a v.k.seals.ls.length v.k.seals.c]) (([.slice v.k.roots.a v.k.roots.n v.k.roots.c] ++ ([] : List Value)) ++ (v.v.list ++ [.int .i64 v.slot] ++ [.map v.batches] ++ [.map v.parts] ++ [.map v.who])) (cs := v.cells) (o := 0) (n := 1) (v := .slice a l.length c) (by simp [InstV.cells, InstV.list, KeysV.list]) (by simp [KeysV.list_len, ViewV.list_len]) rfl rfl; simpa [InstV.cells, InstV.list, KeysV.list, Value.cells] using this
instance tj89 {v : InstV} : CellAt v.cells 1 (.slice v.k.roots.a v.k.roots.n v.k.roots.c) := ⟨by simp [InstV.cells, InstV.list, KeysV.list, List.getElem?_append, hlist_length, KeysV.list_len, ViewV.list_len]⟩
instance tj90 {v : InstV} {a : Option Addr} {n c : Nat} : Put v.cells 1 (.slice a n c) { v with k := { v.k with roots := ⟨a, n, c⟩ } }.cells := by have := Put.mid (([] : List Value) ++ (([] : List Value) ++ [.slice v.k.seals.a v.k.seals.ls.length v.k.seals.c])) ([.slice v.k.roots.a v.k.roots.n v.k.roots.c]) ((([] : List Value)) ++ (v.v.list ++ [.int .i64 v.slot] ++ [.map v.batches] ++ [.map v.parts] ++ [.map v.who])) (cs := v.cells) (o := 1) (n := 1) (v := .slice a n c) (by simp [InstV.cells, InstV.list, KeysV.list]) (by simp [KeysV.list_len, ViewV.list_len]) rfl rfl; simpa [InstV.cells, InstV.list, KeysV.list, Value.cells] using this
instance tj91 {v : InstV} : SubAt v.cells 2 2 v.v.cells := ⟨by first | (simp [InstV.cells, InstV.list, KeysV.list_len, ViewV.list_len]; done) | (have := sub_mid (v.k.list) (v.v.list) ([.int .i64 v.slot] ++ [.map v.batches] ++ [.map v.parts] ++ [.map v.who]) (o := 2) (n := 2) (by simp [KeysV.list_len, ViewV.list_len]) (by simp [KeysV.list_len, ViewV.list_len]); simpa [InstV.cells, InstV.list, KeysV.cells, ViewV.cells] using this)⟩
instance tj92 {v : InstV} {u : ViewV} : Put v.cells 2 (.agg u.cells) { v with v := u }.cells := by have := Put.mid (v.k.list) (v.v.list) ([.int .i64 v.slot] ++ [.map v.batches] ++ [.map v.parts] ++ [.map v.who]) (cs := v.cells) (o := 2) (n := 2) (v := .agg u.cells) (by simp [InstV.cells, InstV.list]) (by simp [KeysV.list_len, ViewV.list_len]) (by simp [KeysV.list_len, ViewV.list_len]) (by simp [Value.cells, KeysV.size, ViewV.size]); simp only [Value.cells, InstV.cells, InstV.list, KeysV.cells, ViewV.cells, List.append_assoc, List.nil_append, List.cons_append] at this ⊢; first | exact this | simpa using this
instance tj93 {v : InstV} : CellAt v.cells 2 (.int .i64 v.v.num) := ⟨by simp [InstV.cells, InstV.list, ViewV.list, List.getElem?_append, hlist_length, KeysV.list_len, ViewV.list_len]⟩
instance tj94 {v : InstV} {u : Int} : Put v.cells 2 (.int .i64 u) { v with v := { v.v with num := u } }.cells := by have := Put.mid ((v.k.list) ++ (([] : List Value))) ([.int .i64 v.v.num]) (([.int .u16 v.v.mask] ++ ([] : List Value)) ++ ([.int .i64 v.slot] ++ [.map v.batches] ++ [.map v.parts] ++ [.map v.who])) (cs := v.cells) (o := 2) (n := 1) (v := .int .i64 u) (by simp [InstV.cells, InstV.list, ViewV.list]) (by simp [KeysV.list_len, ViewV.list_len]) rfl rfl; simpa [InstV.cells, InstV.list, ViewV.list, Value.cells] using this
instance tj95 {v : InstV} : CellAt v.cells 3 (.int .u16 v.v.mask) := ⟨by simp [InstV.cells, InstV.list, ViewV.list, List.getElem?_append, hlist_length, KeysV.list_len, ViewV.list_len]⟩
instance tj96 {v : InstV} {u : Int} : Put v.cells 3 (.int .u16 u) { v with v := { v.v with mask := u } }.cells := by have := Put.mid ((v.k.list) ++ (([] : List Value) ++ [.int .i64 v.v.num])) ([.int .u16 v.v.mask]) ((([] : List Value)) ++ ([.int .i64 v.slot] ++ [.map v.batches] ++ [.map v.parts] ++ [.map v.who])) (cs := v.cells) (o := 3) (n := 1) (v := .int .u16 u) (by simp [InstV.cells, InstV.list, ViewV.list]) (by simp [KeysV.list_len, ViewV.list_len]) rfl rfl; simpa [InstV.cells, InstV.list, ViewV.list, Value.cells] using this
instance tj97 {v : InstV} : CellAt v.cells 4 (.int .i64 v.slot) := ⟨by simp [InstV.cells, InstV.list, List.getElem?_append, hlist_length, KeysV.list_len, ViewV.list_len]⟩
instance tj98 {v : InstV} {u : Int} : Put v.cells 4 (.int .i64 u) { v with slot := u }.cells := by have := Put.mid (v.k.list ++ v.v.list) ([.int .i64 v.slot]) ([.map v.batches] ++ [.map v.parts] ++ [.map v.who]) (cs := v.cells) (o := 4) (n := 1) (v := .int .i64 u) (by simp [InstV.cells, InstV.list]) (by simp [KeysV.list_len, ViewV.list_len]) rfl rfl; simpa [InstV.cells, InstV.list, Value.cells] using this
instance tj99 {v : InstV} : CellAt v.cells 5 (.map v.batches) := ⟨by simp [InstV.cells, InstV.list, List.getElem?_append, hlist_length, KeysV.list_len, ViewV.list_len]⟩
instance tj100 {v : InstV} {u : Option Nat} : Put v.cells 5 (.map u) { v with batches := u }.cells := by have := Put.mid (v.k.list ++ v.v.list ++ [.int .i64 v.slot]) ([.map v.batches]) ([.map v.parts] ++ [.map v.who]) (cs := v.cells) (o := 5) (n := 1) (v := .map u) (by simp [InstV.cells, InstV.list]) (by simp [KeysV.list_len, ViewV.list_len]) rfl rfl; simpa [InstV.cells, InstV.list, Value.cells] using this
instance tj101 {v : InstV} : CellAt v.cells 6 (.map v.parts) := ⟨by simp [InstV.cells, InstV.list, List.getElem?_append, hlist_length, KeysV.list_len, ViewV.list_len]⟩
instance tj102 {v : InstV} {u : Option Nat} : Put v.cells 6 (.map u) { v with parts := u }.cells := by have := Put.mid (v.k.list ++ v.v.list ++ [.int .i64 v.slot] ++ [.map v.batches]) ([.map v.parts]) ([.map v.who]) (cs := v.cells) (o := 6) (n := 1) (v := .map u) (by simp [InstV.cells, InstV.list]) (by simp [KeysV.list_len, ViewV.list_len]) rfl rfl; simpa [InstV.cells, InstV.list, Value.cells] using this
instance tj103 {v : InstV} : CellAt v.cells 7 (.map v.who) := ⟨by simp [InstV.cells, InstV.list, List.getElem?_append, hlist_length, KeysV.list_len, ViewV.list_len]⟩
instance tj104 {v : InstV} {u : Option Nat} : Put v.cells 7 (.map u) { v with who := u }.cells := by have := Put.mid (v.k.list ++ v.v.list ++ [.int .i64 v.slot] ++ [.map v.batches] ++ [.map v.parts]) ([.map v.who]) ([] : List Value) (cs := v.cells) (o := 7) (n := 1) (v := .map u) (by simp [InstV.cells, InstV.list]) (by simp [KeysV.list_len, ViewV.list_len]) rfl rfl; simpa [InstV.cells, InstV.list, Value.cells] using this
instance tj105 {f0 : KeysV} {f1 : ViewV} {f2 : Int} {f3 : Option Nat} {f4 : Option Nat} {f5 : Option Nat} : CellAt (InstV.mk f0 f1 f2 f3 f4 f5).cells 4 (.int .i64 f2) := inferInstanceAs (CellAt (InstV.mk f0 f1 f2 f3 f4 f5).cells 4 (.int .i64 (InstV.mk f0 f1 f2 f3 f4 f5).slot))
instance tj106 {f0 : KeysV} {f1 : ViewV} {f2 : Int} {f3 : Option Nat} {f4 : Option Nat} {f5 : Option Nat} {u : Int} : Put (InstV.mk f0 f1 f2 f3 f4 f5).cells 4 (.int .i64 u) (InstV.mk f0 f1 u f3 f4 f5).cells := inferInstanceAs (Put (InstV.mk f0 f1 f2 f3 f4 f5).cells 4 (.int .i64 u) { (InstV.mk f0 f1 f2 f3 f4 f5) with slot := u }.cells)
instance tj107 {f0 : KeysV} {f1 : ViewV} {f2 : Int} {f3 : Option Nat} {f4 : Option Nat} {f5 : Option Nat} : CellAt (InstV.mk f0 f1 f2 f3 f4 f5).cells 5 (.map f3) := inferInstanceAs (CellAt (InstV.mk f0 f1 f2 f3 f4 f5).cells 5 (.map (InstV.mk f0 f1 f2 f3 f4 f5).batches))
instance tj108 {f0 : KeysV} {f1 : ViewV} {f2 : Int} {f3 : Option Nat} {f4 : Option Nat} {f5 : Option Nat} {u : Option Nat} : Put (InstV.mk f0 f1 f2 f3 f4 f5).cells 5 (.map u) (InstV.mk f0 f1 f2 u f4 f5).cells := inferInstanceAs (Put (InstV.mk f0 f1 f2 f3 f4 f5).cells 5 (.map u) { (InstV.mk f0 f1 f2 f3 f4 f5) with batches := u }.cells)
instance tj109 {f0 : KeysV} {f1 : ViewV} {f2 : Int} {f3 : Option Nat} {f4 : Option Nat} {f5 : Option Nat} : CellAt (InstV.mk f0 f1 f2 f3 f4 f5).cells 6 (.map f4) := inferInstanceAs (CellAt (InstV.mk f0 f1 f2 f3 f4 f5).cells 6 (.map (InstV.mk f0 f1 f2 f3 f4 f5).parts))
instance tj110 {f0 : KeysV} {f1 : ViewV} {f2 : Int} {f3 : Option Nat} {f4 : Option Nat} {f5 : Option Nat} {u : Option Nat} : Put (InstV.mk f0 f1 f2 f3 f4 f5).cells 6 (.map u) (InstV.mk f0 f1 f2 f3 u f5).cells := inferInstanceAs (Put (InstV.mk f0 f1 f2 f3 f4 f5).cells 6 (.map u) { (InstV.mk f0 f1 f2 f3 f4 f5) with parts := u }.cells)
instance tj111 {f0 : KeysV} {f1 : ViewV} {f2 : Int} {f3 : Option Nat} {f4 : Option Nat} {f5 : Option Nat} : CellAt (InstV.mk f0 f1 f2 f3 f4 f5).cells 7 (.map f5) := inferInstanceAs (CellAt (InstV.mk f0 f1 f2 f3 f4 f5).cells 7 (.map (InstV.mk f0 f1 f2 f3 f4 f5).who))
instance tj112 {f0 : KeysV} {f1 : ViewV} {f2 : Int} {f3 : Option Nat} {f4 : Option Nat} {f5 : Option Nat} {u : Option Nat} : Put (InstV.mk f0 f1 f2 f3 f4 f5).cells 7 (.map u) (InstV.mk f0 f1 f2 f3 f4 u).cells := inferInstanceAs (Put (InstV.mk f0 f1 f2 f3 f4 f5).cells 7 (.map u) { (InstV.mk f0 f1 f2 f3 f4 f5) with who := u }.cells)
@[reducible] def InstV.zero : InstV := { k := KeysV.zero, v := ViewV.zero, slot := 0, batches := none, parts := none, who := none }
instance tj114 : TyZ Tryd.prog 91 (.agg InstV.zero.cells) := ⟨by kernel_rfl⟩
structure ActV where
  kind : Int
  b : BS
def ActV.list (v : ActV) : List Value := [.int .i64 v.kind] ++ ([.slice v.b.a v.b.l.length v.b.c])
def ActV.cells (v : ActV) : Array Value := v.list.toArray
theorem ActV.list_len (v : ActV) : v.list.length = 2 := by simp [ActV.list]
theorem ActV.list_one (v : ActV) : v.list.all Value.oneCell' = true := by simp [ActV.list, Value.oneCell']
instance tj122 {v : ActV} : Cells v.cells 2 := Cells.list v.list_len v.list_one
theorem ActV.size (v : ActV) : v.cells.size = 2 := by simp [ActV.cells, ActV.list_len]
instance tj124 {v : ActV} : SubAt v.cells 0 2 v.cells := ⟨by have h := v.size; apply Array.ext <;> simp [h]⟩
instance tj125 {v u : ActV} : Put v.cells 0 (.agg u.cells) u.cells := ⟨by have := put_mid [] v.list [] (v := .agg u.cells) (o := 0) (n := 2) rfl v.list_len u.size; simpa [ActV.cells, Value.cells] using this, by simp [Value.cells, ActV.size]⟩
instance tj126 {v : ActV} : CellAt v.cells 0 (.int .i64 v.kind) := ⟨by simp [ActV.cells, ActV.list, List.getElem?_append, hlist_length]⟩
instance tj127 {v : ActV} {u : Int} : Put v.cells 0 (.int .i64 u) { v with kind := u }.cells := by have := Put.mid ([] : List Value) ([.int .i64 v.kind]) ([.slice v.b.a v.b.l.length v.b.c]) (cs := v.cells) (o := 0) (n := 1) (v := .int .i64 u) (by simp [ActV.cells, ActV.list]) (by simp) rfl rfl; simpa [ActV.cells, ActV.list, Value.cells] using this
instance tj128 {v : ActV} : CellAt v.cells 1 (.slice v.b.a v.b.l.length v.b.c) := ⟨by simp [ActV.cells, ActV.list, List.getElem?_append, hlist_length]⟩
instance tj129 {v : ActV} {a : Option Addr} {l : List UInt8} {c : Nat} : Put v.cells 1 (.slice a l.length c) { v with b := ⟨a, c, l⟩ }.cells := by have := Put.mid ([.int .i64 v.kind]) ([.slice v.b.a v.b.l.length v.b.c]) ([] : List Value) (cs := v.cells) (o := 1) (n := 1) (v := .slice a l.length c) (by simp [ActV.cells, ActV.list]) (by simp) rfl rfl; simpa [ActV.cells, ActV.list, Value.cells] using this
instance (priority := high) tj130 {v : ActV} : Put v.cells 1 (.slice none 0 0) { v with b := ⟨none, 0, []⟩ }.cells := by have := Put.mid ([.int .i64 v.kind]) ([.slice v.b.a v.b.l.length v.b.c]) ([] : List Value) (cs := v.cells) (o := 1) (n := 1) (v := .slice none 0 0) (by simp [ActV.cells, ActV.list]) (by simp) rfl rfl; simpa [ActV.cells, ActV.list, Value.cells] using this
instance tj131 {f0 : Int} {f1 : BS} : CellAt (ActV.mk f0 f1).cells 0 (.int .i64 f0) := inferInstanceAs (CellAt (ActV.mk f0 f1).cells 0 (.int .i64 (ActV.mk f0 f1).kind))
instance tj132 {f0 : Int} {f1 : BS} {u : Int} : Put (ActV.mk f0 f1).cells 0 (.int .i64 u) (ActV.mk u f1).cells := inferInstanceAs (Put (ActV.mk f0 f1).cells 0 (.int .i64 u) { (ActV.mk f0 f1) with kind := u }.cells)
instance tj133 {f0 : Int} {f1 : BS} : CellAt (ActV.mk f0 f1).cells 1 (.slice f1.a f1.l.length f1.c) := inferInstanceAs (CellAt (ActV.mk f0 f1).cells 1 (.slice (ActV.mk f0 f1).b.a (ActV.mk f0 f1).b.l.length (ActV.mk f0 f1).b.c))
instance tj134 {f0 : Int} {a : Option Addr} {c : Nat} {l : List UInt8} : CellAt (ActV.mk f0 (BS.mk a c l)).cells 1 (.slice a l.length c) := inferInstanceAs (CellAt (ActV.mk f0 (BS.mk a c l)).cells 1 (.slice (ActV.mk f0 (BS.mk a c l)).b.a (ActV.mk f0 (BS.mk a c l)).b.l.length (ActV.mk f0 (BS.mk a c l)).b.c))
instance tj135 {f0 : Int} {f1 : BS} {a : Option Addr} {c : Nat} {l : List UInt8} : Put (ActV.mk f0 f1).cells 1 (.slice a l.length c) (ActV.mk f0 (BS.mk a c l)).cells := inferInstanceAs (Put (ActV.mk f0 f1).cells 1 (.slice a l.length c) { (ActV.mk f0 f1) with b := (BS.mk a c l) }.cells)
instance (priority := high) tj136 {f0 : Int} {f1 : BS} : Put (ActV.mk f0 f1).cells 1 (.slice none 0 0) (ActV.mk f0 ⟨none, 0, []⟩).cells := inferInstanceAs (Put (ActV.mk f0 f1).cells 1 (.slice none 0 0) { (ActV.mk f0 f1) with b := ⟨none, 0, []⟩ }.cells)
@[reducible] def ActV.zero : ActV := { kind := 0, b := ⟨none, 0, []⟩ }
instance tj138 : TyZ Tryd.prog 58 (.agg ActV.zero.cells) := ⟨by kernel_rfl⟩
end Go.Proofs.YtgjkgdjjolnhdaaDoor
