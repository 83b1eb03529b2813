/- Structures for the struct types of requests and clients, with their cells. Printed by program. -/
import Derived.Test.YtnijomppbgdmnaaGreatTyP
namespace Go.Proofs.YtnijomppbgdmnaaGreat
open Go.RowKit Go.Sx
set_option maxRecDepth 100000
set_option linter.unusedSimpArgs false
set_option linter.unusedVariables false
set_option linter.unnecessarySimpa false
structure OpV where
  kind : Int
  key : Int
  a : Int
  b : Int
def OpV.list (v : OpV) : List Value := [.int .i64 v.kind] ++ ([.int .i64 v.key] ++ ([.int .i64 v.a] ++ ([.int .i64 v.b])))
def OpV.cells (v : OpV) : Array Value := v.list.toArray
theorem OpV.list_len (v : OpV) : v.list.length = 4 := by simp [OpV.list]
theorem OpV.list_one (v : OpV) : v.list.all Value.oneCell' = true := by simp [OpV.list, Value.oneCell']
theorem OpV.size (v : OpV) : v.cells.size = 4 := by simp [OpV.cells, OpV.list_len]
instance tc13 {v : OpV} : CellAt v.cells 0 (.int .i64 v.kind) := ⟨by simp [OpV.cells, OpV.list, List.getElem?_append, hlist_length]⟩
instance tc15 {v : OpV} : CellAt v.cells 1 (.int .i64 v.key) := ⟨by simp [OpV.cells, OpV.list, List.getElem?_append, hlist_length]⟩
instance tc17 {v : OpV} : CellAt v.cells 2 (.int .i64 v.a) := ⟨by simp [OpV.cells, OpV.list, List.getElem?_append, hlist_length]⟩
instance tc19 {v : OpV} : CellAt v.cells 3 (.int .i64 v.b) := ⟨by simp [OpV.cells, OpV.list, List.getElem?_append, hlist_length]⟩
@[reducible] def OpV.zero : OpV := { kind := 0, key := 0, a := 0, b := 0 }
structure ReqV where
  client : Int
  seq : Int
  op : OpV
  sig : BS
def ReqV.list (v : ReqV) : List Value := [.int .i64 v.client] ++ ([.int .i64 v.seq] ++ (v.op.list ++ ([.slice v.sig.a v.sig.l.length v.sig.c])))
def ReqV.cells (v : ReqV) : Array Value := v.list.toArray
theorem ReqV.list_len (v : ReqV) : v.list.length = 7 := by simp [ReqV.list, OpV.list_len]
theorem ReqV.list_one (v : ReqV) : v.list.all Value.oneCell' = true := by simp [ReqV.list, Value.oneCell', OpV.list_one]
instance tc40 {v : ReqV} : Cells v.cells 7 := Cells.list v.list_len v.list_one
theorem ReqV.size (v : ReqV) : v.cells.size = 7 := by simp [ReqV.cells, ReqV.list_len]
instance tc42 {v : ReqV} : SubAt v.cells 0 7 v.cells := ⟨by have h := v.size; apply Array.ext <;> simp [h]⟩
instance tc43 {v u : ReqV} : Put v.cells 0 (.agg u.cells) u.cells := ⟨by have := put_mid [] v.list [] (v := .agg u.cells) (o := 0) (n := 7) rfl v.list_len u.size; simpa [ReqV.cells, Value.cells] using this, by simp [Value.cells, ReqV.size]⟩
instance tc44 {v : ReqV} : CellAt v.cells 0 (.int .i64 v.client) := ⟨by simp [ReqV.cells, ReqV.list, List.getElem?_append, hlist_length, OpV.list_len]⟩
instance tc45 {v : ReqV} {u : Int} : Put v.cells 0 (.int .i64 u) { v with client := u }.cells := by have := Put.mid ([] : List Value) ([.int .i64 v.client]) ([.int .i64 v.seq] ++ v.op.list ++ [.slice v.sig.a v.sig.l.length v.sig.c]) (cs := v.cells) (o := 0) (n := 1) (v := .int .i64 u) (by simp [ReqV.cells, ReqV.list]) (by simp [OpV.list_len]) rfl rfl; simpa [ReqV.cells, ReqV.list, Value.cells] using this
instance tc46 {v : ReqV} : CellAt v.cells 1 (.int .i64 v.seq) := ⟨by simp [ReqV.cells, ReqV.list, List.getElem?_append, hlist_length, OpV.list_len]⟩
instance tc47 {v : ReqV} {u : Int} : Put v.cells 1 (.int .i64 u) { v with seq := u }.cells := by have := Put.mid ([.int .i64 v.client]) ([.int .i64 v.seq]) (v.op.list ++ [.slice v.sig.a v.sig.l.length v.sig.c]) (cs := v.cells) (o := 1) (n := 1) (v := .int .i64 u) (by simp [ReqV.cells, ReqV.list]) (by simp [OpV.list_len]) rfl rfl; simpa [ReqV.cells, ReqV.list, Value.cells] using this
instance tc48 {v : ReqV} : SubAt v.cells 2 4 v.op.cells := ⟨by first | (simp [ReqV.cells, ReqV.list, OpV.list_len]; done) | (have := sub_mid ([.int .i64 v.client] ++ [.int .i64 v.seq]) (v.op.list) ([.slice v.sig.a v.sig.l.length v.sig.c]) (o := 2) (n := 4) (by simp [OpV.list_len]) (by simp [OpV.list_len]); simpa [ReqV.cells, ReqV.list, OpV.cells] using this)⟩
instance tc50 {v : ReqV} : CellAt v.cells 2 (.int .i64 v.op.kind) := ⟨by simp [ReqV.cells, ReqV.list, OpV.list, List.getElem?_append, hlist_length, OpV.list_len]⟩
instance tc51 {v : ReqV} {u : Int} : Put v.cells 2 (.int .i64 u) { v with op := { v.op with kind := u } }.cells := by have := Put.mid (([.int .i64 v.client] ++ [.int .i64 v.seq]) ++ (([] : List Value))) ([.int .i64 v.op.kind]) (([.int .i64 v.op.key] ++ [.int .i64 v.op.a] ++ [.int .i64 v.op.b] ++ ([] : List Value)) ++ ([.slice v.sig.a v.sig.l.length v.sig.c])) (cs := v.cells) (o := 2) (n := 1) (v := .int .i64 u) (by simp [ReqV.cells, ReqV.list, OpV.list]) (by simp [OpV.list_len]) rfl rfl; simpa [ReqV.cells, ReqV.list, OpV.list, Value.cells] using this
instance tc52 {v : ReqV} : CellAt v.cells 3 (.int .i64 v.op.key) := ⟨by simp [ReqV.cells, ReqV.list, OpV.list, List.getElem?_append, hlist_length, OpV.list_len]⟩
instance tc53 {v : ReqV} {u : Int} : Put v.cells 3 (.int .i64 u) { v with op := { v.op with key := u } }.cells := by have := Put.mid (([.int .i64 v.client] ++ [.int .i64 v.seq]) ++ (([] : List Value) ++ [.int .i64 v.op.kind])) ([.int .i64 v.op.key]) (([.int .i64 v.op.a] ++ [.int .i64 v.op.b] ++ ([] : List Value)) ++ ([.slice v.sig.a v.sig.l.length v.sig.c])) (cs := v.cells) (o := 3) (n := 1) (v := .int .i64 u) (by simp [ReqV.cells, ReqV.list, OpV.list]) (by simp [OpV.list_len]) rfl rfl; simpa [ReqV.cells, ReqV.list, OpV.list, Value.cells] using this
instance tc54 {v : ReqV} : CellAt v.cells 4 (.int .i64 v.op.a) := ⟨by simp [ReqV.cells, ReqV.list, OpV.list, List.getElem?_append, hlist_length, OpV.list_len]⟩
instance tc55 {v : ReqV} {u : Int} : Put v.cells 4 (.int .i64 u) { v with op := { v.op with a := u } }.cells := by have := Put.mid (([.int .i64 v.client] ++ [.int .i64 v.seq]) ++ (([] : List Value) ++ [.int .i64 v.op.kind] ++ [.int .i64 v.op.key])) ([.int .i64 v.op.a]) (([.int .i64 v.op.b] ++ ([] : List Value)) ++ ([.slice v.sig.a v.sig.l.length v.sig.c])) (cs := v.cells) (o := 4) (n := 1) (v := .int .i64 u) (by simp [ReqV.cells, ReqV.list, OpV.list]) (by simp [OpV.list_len]) rfl rfl; simpa [ReqV.cells, ReqV.list, OpV.list, Value.cells] using this
instance tc56 {v : ReqV} : CellAt v.cells 5 (.int .i64 v.op.b) := ⟨by simp [ReqV.cells, ReqV.list, OpV.list, List.getElem?_append, hlist_length, OpV.list_len]⟩
instance tc57 {v : ReqV} {u : Int} : Put v.cells 5 (.int .i64 u) { v with op := { v.op with b := u } }.cells := by have := Put.mid (([.int .i64 v.client] ++ [.int .i64 v.seq]) ++ (([] : List Value) ++ [.int .i64 v.op.kind] ++ [.int .i64 v.op.key] ++ [.int .i64 v.op.a])) ([.int .i64 v.op.b]) ((([] : List Value)) ++ ([.slice v.sig.a v.sig.l.length v.sig.c])) (cs := v.cells) (o := 5) (n := 1) (v := .int .i64 u) (by simp [ReqV.cells, ReqV.list, OpV.list]) (by simp [OpV.list_len]) rfl rfl; simpa [ReqV.cells, ReqV.list, OpV.list, Value.cells] using this
instance tc58 {v : ReqV} : CellAt v.cells 6 (.slice v.sig.a v.sig.l.length v.sig.c) := ⟨by simp [ReqV.cells, ReqV.list, List.getElem?_append, hlist_length, OpV.list_len]⟩
instance tc59 {v : ReqV} {a : Option Addr} {l : List UInt8} {c : Nat} : Put v.cells 6 (.slice a l.length c) { v with sig := ⟨a, c, l⟩ }.cells := by have := Put.mid ([.int .i64 v.client] ++ [.int .i64 v.seq] ++ v.op.list) ([.slice v.sig.a v.sig.l.length v.sig.c]) ([] : List Value) (cs := v.cells) (o := 6) (n := 1) (v := .slice a l.length c) (by simp [ReqV.cells, ReqV.list]) (by simp [OpV.list_len]) rfl rfl; simpa [ReqV.cells, ReqV.list, Value.cells] using this
instance tc62 {f0 : Int} {f1 : Int} {f2 : OpV} {f3 : BS} {u : Int} : Put (ReqV.mk f0 f1 f2 f3).cells 0 (.int .i64 u) (ReqV.mk u f1 f2 f3).cells := inferInstanceAs (Put (ReqV.mk f0 f1 f2 f3).cells 0 (.int .i64 u) { (ReqV.mk f0 f1 f2 f3) with client := u }.cells)
instance tc64 {f0 : Int} {f1 : Int} {f2 : OpV} {f3 : BS} {u : Int} : Put (ReqV.mk f0 f1 f2 f3).cells 1 (.int .i64 u) (ReqV.mk f0 u f2 f3).cells := inferInstanceAs (Put (ReqV.mk f0 f1 f2 f3).cells 1 (.int .i64 u) { (ReqV.mk f0 f1 f2 f3) with seq := u }.cells)
@[reducible] def ReqV.zero : ReqV := { client := 0, seq := 0, op := OpV.zero, sig := ⟨none, 0, []⟩ }
instance tc70 : TyZ Tryz.prog 200 (.agg ReqV.zero.cells) := ⟨by kernel_rfl⟩
structure BindV where
  last : Int
  has : Bool
  reg : Int
  hash : Vector UInt8 32
  batch : BS
def BindV.list (v : BindV) : List Value := [.int .i64 v.last] ++ ([.bool v.has] ++ ([.int .i64 v.reg] ++ (hlist v.hash ++ ([.slice v.batch.a v.batch.l.length v.batch.c]))))
def BindV.cells (v : BindV) : Array Value := v.list.toArray
theorem BindV.list_len (v : BindV) : v.list.length = 36 := by simp [BindV.list]
theorem BindV.list_one (v : BindV) : v.list.all Value.oneCell' = true := by simp [BindV.list, Value.oneCell']
instance tc81 {v : BindV} : Cells v.cells 36 := Cells.list v.list_len v.list_one
theorem BindV.size (v : BindV) : v.cells.size = 36 := by simp [BindV.cells, BindV.list_len]
instance tc83 {v : BindV} : SubAt v.cells 0 36 v.cells := ⟨by have h := v.size; apply Array.ext <;> simp [h]⟩
instance tc84 {v u : BindV} : Put v.cells 0 (.agg u.cells) u.cells := ⟨by have := put_mid [] v.list [] (v := .agg u.cells) (o := 0) (n := 36) rfl v.list_len u.size; simpa [BindV.cells, Value.cells] using this, by simp [Value.cells, BindV.size]⟩
instance tc85 {v : BindV} : CellAt v.cells 0 (.int .i64 v.last) := ⟨by simp [BindV.cells, BindV.list, List.getElem?_append, hlist_length]⟩
instance tc86 {v : BindV} {u : Int} : Put v.cells 0 (.int .i64 u) { v with last := u }.cells := by have := Put.mid ([] : List Value) ([.int .i64 v.last]) ([.bool v.has] ++ [.int .i64 v.reg] ++ hlist v.hash ++ [.slice v.batch.a v.batch.l.length v.batch.c]) (cs := v.cells) (o := 0) (n := 1) (v := .int .i64 u) (by simp [BindV.cells, BindV.list]) (by simp) rfl rfl; simpa [BindV.cells, BindV.list, Value.cells] using this
instance tc88 {v : BindV} {u : Bool} : Put v.cells 1 (.bool u) { v with has := u }.cells := by have := Put.mid ([.int .i64 v.last]) ([.bool v.has]) ([.int .i64 v.reg] ++ hlist v.hash ++ [.slice v.batch.a v.batch.l.length v.batch.c]) (cs := v.cells) (o := 1) (n := 1) (v := .bool u) (by simp [BindV.cells, BindV.list]) (by simp) rfl rfl; simpa [BindV.cells, BindV.list, Value.cells] using this
instance tc89 {v : BindV} : CellAt v.cells 2 (.int .i64 v.reg) := ⟨by simp [BindV.cells, BindV.list, List.getElem?_append, hlist_length]⟩
instance tc90 {v : BindV} {u : Int} : Put v.cells 2 (.int .i64 u) { v with reg := u }.cells := by have := Put.mid ([.int .i64 v.last] ++ [.bool v.has]) ([.int .i64 v.reg]) (hlist v.hash ++ [.slice v.batch.a v.batch.l.length v.batch.c]) (cs := v.cells) (o := 2) (n := 1) (v := .int .i64 u) (by simp [BindV.cells, BindV.list]) (by simp) rfl rfl; simpa [BindV.cells, BindV.list, Value.cells] using this
instance tc91 {v : BindV} : SubAt v.cells 3 32 (hlist v.hash).toArray := ⟨by first | (simp [BindV.cells, BindV.list]; done) | (have := sub_mid ([.int .i64 v.last] ++ [.bool v.has] ++ [.int .i64 v.reg]) (hlist v.hash) ([.slice v.batch.a v.batch.l.length v.batch.c]) (o := 3) (n := 32) (by simp) (by simp); simpa [BindV.cells, BindV.list] using this)⟩
instance tc92 {v : BindV} {u : Vector UInt8 32} : Put v.cells 3 (.agg (hlist u).toArray) { v with hash := u }.cells := by have := Put.mid ([.int .i64 v.last] ++ [.bool v.has] ++ [.int .i64 v.reg]) (hlist v.hash) ([.slice v.batch.a v.batch.l.length v.batch.c]) (cs := v.cells) (o := 3) (n := 32) (v := .agg (hlist u).toArray) (by simp [BindV.cells, BindV.list]) (by simp) (by simp) (by simp [Value.cells]); simp only [Value.cells, BindV.cells, BindV.list, List.append_assoc, List.nil_append, List.cons_append] at this ⊢; first | exact this | simpa using this
instance tc93 {v : BindV} : CellAt v.cells 35 (.slice v.batch.a v.batch.l.length v.batch.c) := ⟨by simp [BindV.cells, BindV.list, List.getElem?_append, hlist_length]⟩
instance tc94 {v : BindV} {a : Option Addr} {l : List UInt8} {c : Nat} : Put v.cells 35 (.slice a l.length c) { v with batch := ⟨a, c, l⟩ }.cells := by have := Put.mid ([.int .i64 v.last] ++ [.bool v.has] ++ [.int .i64 v.reg] ++ hlist v.hash) ([.slice v.batch.a v.batch.l.length v.batch.c]) ([] : List Value) (cs := v.cells) (o := 35) (n := 1) (v := .slice a l.length c) (by simp [BindV.cells, BindV.list]) (by simp) rfl rfl; simpa [BindV.cells, BindV.list, Value.cells] using this
instance tc97 {f0 : Int} {f1 : Bool} {f2 : Int} {f3 : Vector UInt8 32} {f4 : BS} {u : Int} : Put (BindV.mk f0 f1 f2 f3 f4).cells 0 (.int .i64 u) (BindV.mk u f1 f2 f3 f4).cells := inferInstanceAs (Put (BindV.mk f0 f1 f2 f3 f4).cells 0 (.int .i64 u) { (BindV.mk f0 f1 f2 f3 f4) with last := u }.cells)
instance tc99 {f0 : Int} {f1 : Bool} {f2 : Int} {f3 : Vector UInt8 32} {f4 : BS} {u : Bool} : Put (BindV.mk f0 f1 f2 f3 f4).cells 1 (.bool u) (BindV.mk f0 u f2 f3 f4).cells := inferInstanceAs (Put (BindV.mk f0 f1 f2 f3 f4).cells 1 (.bool u) { (BindV.mk f0 f1 f2 f3 f4) with has := u }.cells)
instance tc100 {f0 : Int} {f1 : Bool} {f2 : Int} {f3 : Vector UInt8 32} {f4 : BS} : CellAt (BindV.mk f0 f1 f2 f3 f4).cells 2 (.int .i64 f2) := inferInstanceAs (CellAt (BindV.mk f0 f1 f2 f3 f4).cells 2 (.int .i64 (BindV.mk f0 f1 f2 f3 f4).reg))
instance tc101 {f0 : Int} {f1 : Bool} {f2 : Int} {f3 : Vector UInt8 32} {f4 : BS} {u : Int} : Put (BindV.mk f0 f1 f2 f3 f4).cells 2 (.int .i64 u) (BindV.mk f0 f1 u f3 f4).cells := inferInstanceAs (Put (BindV.mk f0 f1 f2 f3 f4).cells 2 (.int .i64 u) { (BindV.mk f0 f1 f2 f3 f4) with reg := u }.cells)
instance tc102 {f0 : Int} {f1 : Bool} {f2 : Int} {f3 : Vector UInt8 32} {f4 : BS} {u : Vector UInt8 32} : Put (BindV.mk f0 f1 f2 f3 f4).cells 3 (.agg (hlist u).toArray) (BindV.mk f0 f1 f2 u f4).cells := inferInstanceAs (Put (BindV.mk f0 f1 f2 f3 f4).cells 3 (.agg (hlist u).toArray) { (BindV.mk f0 f1 f2 f3 f4) with hash := u }.cells)
instance tc103 {f0 : Int} {f1 : Bool} {f2 : Int} {f3 : Vector UInt8 32} {f4 : BS} : SubAt (BindV.mk f0 f1 f2 f3 f4).cells 3 32 (hlist f3).toArray := inferInstanceAs (SubAt (BindV.mk f0 f1 f2 f3 f4).cells 3 32 (hlist (BindV.mk f0 f1 f2 f3 f4).hash).toArray)
instance tc106 {f0 : Int} {f1 : Bool} {f2 : Int} {f3 : Vector UInt8 32} {f4 : BS} {a : Option Addr} {c : Nat} {l : List UInt8} : Put (BindV.mk f0 f1 f2 f3 f4).cells 35 (.slice a l.length c) (BindV.mk f0 f1 f2 f3 (BS.mk a c l)).cells := inferInstanceAs (Put (BindV.mk f0 f1 f2 f3 f4).cells 35 (.slice a l.length c) { (BindV.mk f0 f1 f2 f3 f4) with batch := (BS.mk a c l) }.cells)
@[reducible] def BindV.zero : BindV := { last := 0, has := false, reg := 0, hash := zeroV 32, batch := ⟨none, 0, []⟩ }
instance tc109 : TyZ Tryz.prog 89 (.agg BindV.zero.cells) := ⟨by kernel_rfl⟩
structure ChoiceV where
  last : Int
  bound : Bool
  hash : Vector UInt8 32
  batch : BS
def ChoiceV.list (v : ChoiceV) : List Value := [.int .i64 v.last] ++ ([.bool v.bound] ++ (hlist v.hash ++ ([.slice v.batch.a v.batch.l.length v.batch.c])))
def ChoiceV.cells (v : ChoiceV) : Array Value := v.list.toArray
theorem ChoiceV.list_len (v : ChoiceV) : v.list.length = 35 := by simp [ChoiceV.list]
theorem ChoiceV.list_one (v : ChoiceV) : v.list.all Value.oneCell' = true := by simp [ChoiceV.list, Value.oneCell']
instance tc119 {v : ChoiceV} : Cells v.cells 35 := Cells.list v.list_len v.list_one
theorem ChoiceV.size (v : ChoiceV) : v.cells.size = 35 := by simp [ChoiceV.cells, ChoiceV.list_len]
instance tc121 {v : ChoiceV} : SubAt v.cells 0 35 v.cells := ⟨by have h := v.size; apply Array.ext <;> simp [h]⟩
instance tc122 {v u : ChoiceV} : Put v.cells 0 (.agg u.cells) u.cells := ⟨by have := put_mid [] v.list [] (v := .agg u.cells) (o := 0) (n := 35) rfl v.list_len u.size; simpa [ChoiceV.cells, Value.cells] using this, by simp [Value.cells, ChoiceV.size]⟩
instance tc123 {v : ChoiceV} : CellAt v.cells 0 (.int .i64 v.last) := ⟨by simp [ChoiceV.cells, ChoiceV.list, List.getElem?_append, hlist_length]⟩
instance tc124 {v : ChoiceV} {u : Int} : Put v.cells 0 (.int .i64 u) { v with last := u }.cells := by have := Put.mid ([] : List Value) ([.int .i64 v.last]) ([.bool v.bound] ++ hlist v.hash ++ [.slice v.batch.a v.batch.l.length v.batch.c]) (cs := v.cells) (o := 0) (n := 1) (v := .int .i64 u) (by simp [ChoiceV.cells, ChoiceV.list]) (by simp) rfl rfl; simpa [ChoiceV.cells, ChoiceV.list, Value.cells] using this
instance tc125 {v : ChoiceV} : CellAt v.cells 1 (.bool v.bound) := ⟨by simp [ChoiceV.cells, ChoiceV.list, List.getElem?_append, hlist_length]⟩
instance tc126 {v : ChoiceV} {u : Bool} : Put v.cells 1 (.bool u) { v with bound := u }.cells := by have := Put.mid ([.int .i64 v.last]) ([.bool v.bound]) (hlist v.hash ++ [.slice v.batch.a v.batch.l.length v.batch.c]) (cs := v.cells) (o := 1) (n := 1) (v := .bool u) (by simp [ChoiceV.cells, ChoiceV.list]) (by simp) rfl rfl; simpa [ChoiceV.cells, ChoiceV.list, Value.cells] using this
instance tc127 {v : ChoiceV} : SubAt v.cells 2 32 (hlist v.hash).toArray := ⟨by first | (simp [ChoiceV.cells, ChoiceV.list]; done) | (have := sub_mid ([.int .i64 v.last] ++ [.bool v.bound]) (hlist v.hash) ([.slice v.batch.a v.batch.l.length v.batch.c]) (o := 2) (n := 32) (by simp) (by simp); simpa [ChoiceV.cells, ChoiceV.list] using this)⟩
instance tc128 {v : ChoiceV} {u : Vector UInt8 32} : Put v.cells 2 (.agg (hlist u).toArray) { v with hash := u }.cells := by have := Put.mid ([.int .i64 v.last] ++ [.bool v.bound]) (hlist v.hash) ([.slice v.batch.a v.batch.l.length v.batch.c]) (cs := v.cells) (o := 2) (n := 32) (v := .agg (hlist u).toArray) (by simp [ChoiceV.cells, ChoiceV.list]) (by simp) (by simp) (by simp [Value.cells]); simp only [Value.cells, ChoiceV.cells, ChoiceV.list, List.append_assoc, List.nil_append, List.cons_append] at this ⊢; first | exact this | simpa using this
instance tc129 {v : ChoiceV} : CellAt v.cells 34 (.slice v.batch.a v.batch.l.length v.batch.c) := ⟨by simp [ChoiceV.cells, ChoiceV.list, List.getElem?_append, hlist_length]⟩
instance tc130 {v : ChoiceV} {a : Option Addr} {l : List UInt8} {c : Nat} : Put v.cells 34 (.slice a l.length c) { v with batch := ⟨a, c, l⟩ }.cells := by have := Put.mid ([.int .i64 v.last] ++ [.bool v.bound] ++ hlist v.hash) ([.slice v.batch.a v.batch.l.length v.batch.c]) ([] : List Value) (cs := v.cells) (o := 34) (n := 1) (v := .slice a l.length c) (by simp [ChoiceV.cells, ChoiceV.list]) (by simp) rfl rfl; simpa [ChoiceV.cells, ChoiceV.list, Value.cells] using this
instance tc132 {f0 : Int} {f1 : Bool} {f2 : Vector UInt8 32} {f3 : BS} : CellAt (ChoiceV.mk f0 f1 f2 f3).cells 0 (.int .i64 f0) := inferInstanceAs (CellAt (ChoiceV.mk f0 f1 f2 f3).cells 0 (.int .i64 (ChoiceV.mk f0 f1 f2 f3).last))
instance tc133 {f0 : Int} {f1 : Bool} {f2 : Vector UInt8 32} {f3 : BS} {u : Int} : Put (ChoiceV.mk f0 f1 f2 f3).cells 0 (.int .i64 u) (ChoiceV.mk u f1 f2 f3).cells := inferInstanceAs (Put (ChoiceV.mk f0 f1 f2 f3).cells 0 (.int .i64 u) { (ChoiceV.mk f0 f1 f2 f3) with last := u }.cells)
instance tc135 {f0 : Int} {f1 : Bool} {f2 : Vector UInt8 32} {f3 : BS} {u : Bool} : Put (ChoiceV.mk f0 f1 f2 f3).cells 1 (.bool u) (ChoiceV.mk f0 u f2 f3).cells := inferInstanceAs (Put (ChoiceV.mk f0 f1 f2 f3).cells 1 (.bool u) { (ChoiceV.mk f0 f1 f2 f3) with bound := u }.cells)
instance tc136 {f0 : Int} {f1 : Bool} {f2 : Vector UInt8 32} {f3 : BS} {u : Vector UInt8 32} : Put (ChoiceV.mk f0 f1 f2 f3).cells 2 (.agg (hlist u).toArray) (ChoiceV.mk f0 f1 u f3).cells := inferInstanceAs (Put (ChoiceV.mk f0 f1 f2 f3).cells 2 (.agg (hlist u).toArray) { (ChoiceV.mk f0 f1 f2 f3) with hash := u }.cells)
instance tc140 {f0 : Int} {f1 : Bool} {f2 : Vector UInt8 32} {f3 : BS} {a : Option Addr} {c : Nat} {l : List UInt8} : Put (ChoiceV.mk f0 f1 f2 f3).cells 34 (.slice a l.length c) (ChoiceV.mk f0 f1 f2 (BS.mk a c l)).cells := inferInstanceAs (Put (ChoiceV.mk f0 f1 f2 f3).cells 34 (.slice a l.length c) { (ChoiceV.mk f0 f1 f2 f3) with batch := (BS.mk a c l) }.cells)
@[reducible] def ChoiceV.zero : ChoiceV := { last := 0, bound := false, hash := zeroV 32, batch := ⟨none, 0, []⟩ }
instance tc143 : TyZ Tryz.prog 35 (.agg ChoiceV.zero.cells) := ⟨by kernel_rfl⟩
structure ToldV where
  frm : Int
  b : BindV
def ToldV.list (v : ToldV) : List Value := [.int .i64 v.frm] ++ (v.b.list)
def ToldV.cells (v : ToldV) : Array Value := v.list.toArray
theorem ToldV.list_len (v : ToldV) : v.list.length = 37 := by simp [ToldV.list, BindV.list_len]
theorem ToldV.list_one (v : ToldV) : v.list.all Value.oneCell' = true := by simp [ToldV.list, Value.oneCell', BindV.list_one]
instance tc151 {v : ToldV} : Cells v.cells 37 := Cells.list v.list_len v.list_one
theorem ToldV.size (v : ToldV) : v.cells.size = 37 := by simp [ToldV.cells, ToldV.list_len]
instance tc153 {v : ToldV} : SubAt v.cells 0 37 v.cells := ⟨by have h := v.size; apply Array.ext <;> simp [h]⟩
instance tc154 {v u : ToldV} : Put v.cells 0 (.agg u.cells) u.cells := ⟨by have := put_mid [] v.list [] (v := .agg u.cells) (o := 0) (n := 37) rfl v.list_len u.size; simpa [ToldV.cells, Value.cells] using this, by simp [Value.cells, ToldV.size]⟩
instance tc155 {v : ToldV} : CellAt v.cells 0 (.int .i64 v.frm) := ⟨by simp [ToldV.cells, ToldV.list, List.getElem?_append, hlist_length, BindV.list_len]⟩
instance tc156 {v : ToldV} {u : Int} : Put v.cells 0 (.int .i64 u) { v with frm := u }.cells := by have := Put.mid ([] : List Value) ([.int .i64 v.frm]) (v.b.list) (cs := v.cells) (o := 0) (n := 1) (v := .int .i64 u) (by simp [ToldV.cells, ToldV.list]) (by simp [BindV.list_len]) rfl rfl; simpa [ToldV.cells, ToldV.list, Value.cells] using this
instance tc157 {v : ToldV} : SubAt v.cells 1 36 v.b.cells := ⟨by first | (simp [ToldV.cells, ToldV.list, BindV.list_len]; done) | (have := sub_mid ([.int .i64 v.frm]) (v.b.list) ([] : List Value) (o := 1) (n := 36) (by simp [BindV.list_len]) (by simp [BindV.list_len]); simpa [ToldV.cells, ToldV.list, BindV.cells] using this)⟩
instance tc158 {v : ToldV} {u : BindV} : Put v.cells 1 (.agg u.cells) { v with b := u }.cells := by have := Put.mid ([.int .i64 v.frm]) (v.b.list) ([] : List Value) (cs := v.cells) (o := 1) (n := 36) (v := .agg u.cells) (by simp [ToldV.cells, ToldV.list]) (by simp [BindV.list_len]) (by simp [BindV.list_len]) (by simp [Value.cells, BindV.size]); simp only [Value.cells, ToldV.cells, ToldV.list, BindV.cells, List.append_assoc, List.nil_append, List.cons_append] at this ⊢; first | exact this | simpa using this
instance tc159 {v : ToldV} : CellAt v.cells 1 (.int .i64 v.b.last) := ⟨by simp [ToldV.cells, ToldV.list, BindV.list, List.getElem?_append, hlist_length, BindV.list_len]⟩
instance tc161 {v : ToldV} : CellAt v.cells 2 (.bool v.b.has) := ⟨by simp [ToldV.cells, ToldV.list, BindV.list, List.getElem?_append, hlist_length, BindV.list_len]⟩
instance tc163 {v : ToldV} : CellAt v.cells 3 (.int .i64 v.b.reg) := ⟨by simp [ToldV.cells, ToldV.list, BindV.list, List.getElem?_append, hlist_length, BindV.list_len]⟩
instance tc169 {f0 : Int} {f1 : BindV} {u : Int} : Put (ToldV.mk f0 f1).cells 0 (.int .i64 u) (ToldV.mk u f1).cells := inferInstanceAs (Put (ToldV.mk f0 f1).cells 0 (.int .i64 u) { (ToldV.mk f0 f1) with frm := u }.cells)
@[reducible] def ToldV.zero : ToldV := { frm := 0, b := BindV.zero }
instance tc171 : TyZ Tryz.prog 93 (.agg ToldV.zero.cells) := ⟨by kernel_rfl⟩
structure QGotV where
  r : ReqV
  e : Int
def QGotV.list (v : QGotV) : List Value := v.r.list ++ ([.int .i64 v.e])
def QGotV.cells (v : QGotV) : Array Value := v.list.toArray
theorem QGotV.list_len (v : QGotV) : v.list.length = 8 := by simp [QGotV.list, ReqV.list_len, OpV.list_len]
theorem QGotV.list_one (v : QGotV) : v.list.all Value.oneCell' = true := by simp [QGotV.list, Value.oneCell', ReqV.list_one]
instance tc179 {v : QGotV} : Cells v.cells 8 := Cells.list v.list_len v.list_one
theorem QGotV.size (v : QGotV) : v.cells.size = 8 := by simp [QGotV.cells, QGotV.list_len]
instance tc181 {v : QGotV} : SubAt v.cells 0 8 v.cells := ⟨by have h := v.size; apply Array.ext <;> simp [h]⟩
instance tc182 {v u : QGotV} : Put v.cells 0 (.agg u.cells) u.cells := ⟨by have := put_mid [] v.list [] (v := .agg u.cells) (o := 0) (n := 8) rfl v.list_len u.size; simpa [QGotV.cells, Value.cells] using this, by simp [Value.cells, QGotV.size]⟩
instance tc183 {v : QGotV} : SubAt v.cells 0 7 v.r.cells := ⟨by first | (simp [QGotV.cells, QGotV.list, ReqV.list_len, OpV.list_len]; done) | (have := sub_mid ([] : List Value) (v.r.list) ([.int .i64 v.e]) (o := 0) (n := 7) (by simp [ReqV.list_len, OpV.list_len]) (by simp [ReqV.list_len, OpV.list_len]); simpa [QGotV.cells, QGotV.list, ReqV.cells] using this)⟩
instance tc184 {v : QGotV} {u : ReqV} : Put v.cells 0 (.agg u.cells) { v with r := u }.cells := by have := Put.mid ([] : List Value) (v.r.list) ([.int .i64 v.e]) (cs := v.cells) (o := 0) (n := 7) (v := .agg u.cells) (by simp [QGotV.cells, QGotV.list]) (by simp [ReqV.list_len, OpV.list_len]) (by simp [ReqV.list_len, OpV.list_len]) (by simp [Value.cells, ReqV.size]); simp only [Value.cells, QGotV.cells, QGotV.list, ReqV.cells, List.append_assoc, List.nil_append, List.cons_append] at this ⊢; first | exact this | simpa using this
instance tc190 {v : QGotV} {a : Option Addr} {l : List UInt8} {c : Nat} : Put v.cells 6 (.slice a l.length c) { v with r := { v.r with sig := ⟨a, c, l⟩ } }.cells := by have := Put.mid (([] : List Value) ++ (([] : List Value) ++ [.int .i64 v.r.client] ++ [.int .i64 v.r.seq] ++ v.r.op.list)) ([.slice v.r.sig.a v.r.sig.l.length v.r.sig.c]) ((([] : List Value)) ++ ([.int .i64 v.e])) (cs := v.cells) (o := 6) (n := 1) (v := .slice a l.length c) (by simp [QGotV.cells, QGotV.list, ReqV.list]) (by simp [ReqV.list_len, OpV.list_len]) rfl rfl; simpa [QGotV.cells, QGotV.list, ReqV.list, Value.cells] using this
instance tc191 {v : QGotV} : CellAt v.cells 7 (.int .i64 v.e) := ⟨by simp [QGotV.cells, QGotV.list, List.getElem?_append, hlist_length, ReqV.list_len, OpV.list_len]⟩
instance tc192 {v : QGotV} {u : Int} : Put v.cells 7 (.int .i64 u) { v with e := u }.cells := by have := Put.mid (v.r.list) ([.int .i64 v.e]) ([] : List Value) (cs := v.cells) (o := 7) (n := 1) (v := .int .i64 u) (by simp [QGotV.cells, QGotV.list]) (by simp [ReqV.list_len, OpV.list_len]) rfl rfl; simpa [QGotV.cells, QGotV.list, Value.cells] using this
instance tc193 {f0 : ReqV} {f1 : Int} : CellAt (QGotV.mk f0 f1).cells 7 (.int .i64 f1) := inferInstanceAs (CellAt (QGotV.mk f0 f1).cells 7 (.int .i64 (QGotV.mk f0 f1).e))
instance tc194 {f0 : ReqV} {f1 : Int} {u : Int} : Put (QGotV.mk f0 f1).cells 7 (.int .i64 u) (QGotV.mk f0 u).cells := inferInstanceAs (Put (QGotV.mk f0 f1).cells 7 (.int .i64 u) { (QGotV.mk f0 f1) with e := u }.cells)
@[reducible] def QGotV.zero : QGotV := { r := ReqV.zero, e := 0 }
instance tc196 : TyZ Tryz.prog 261 (.agg QGotV.zero.cells) := ⟨by kernel_rfl⟩
structure RToldV where
  b : BindV
  e : Int
def RToldV.list (v : RToldV) : List Value := v.b.list ++ ([.int .i64 v.e])
def RToldV.cells (v : RToldV) : Array Value := v.list.toArray
theorem RToldV.list_len (v : RToldV) : v.list.length = 37 := by simp [RToldV.list, BindV.list_len]
theorem RToldV.list_one (v : RToldV) : v.list.all Value.oneCell' = true := by simp [RToldV.list, Value.oneCell', BindV.list_one]
instance tc204 {v : RToldV} : Cells v.cells 37 := Cells.list v.list_len v.list_one
theorem RToldV.size (v : RToldV) : v.cells.size = 37 := by simp [RToldV.cells, RToldV.list_len]
instance tc206 {v : RToldV} : SubAt v.cells 0 37 v.cells := ⟨by have h := v.size; apply Array.ext <;> simp [h]⟩
instance tc207 {v u : RToldV} : Put v.cells 0 (.agg u.cells) u.cells := ⟨by have := put_mid [] v.list [] (v := .agg u.cells) (o := 0) (n := 37) rfl v.list_len u.size; simpa [RToldV.cells, Value.cells] using this, by simp [Value.cells, RToldV.size]⟩
instance tc208 {v : RToldV} : SubAt v.cells 0 36 v.b.cells := ⟨by first | (simp [RToldV.cells, RToldV.list, BindV.list_len]; done) | (have := sub_mid ([] : List Value) (v.b.list) ([.int .i64 v.e]) (o := 0) (n := 36) (by simp [BindV.list_len]) (by simp [BindV.list_len]); simpa [RToldV.cells, RToldV.list, BindV.cells] using this)⟩
instance tc209 {v : RToldV} {u : BindV} : Put v.cells 0 (.agg u.cells) { v with b := u }.cells := by have := Put.mid ([] : List Value) (v.b.list) ([.int .i64 v.e]) (cs := v.cells) (o := 0) (n := 36) (v := .agg u.cells) (by simp [RToldV.cells, RToldV.list]) (by simp [BindV.list_len]) (by simp [BindV.list_len]) (by simp [Value.cells, BindV.size]); simp only [Value.cells, RToldV.cells, RToldV.list, BindV.cells, List.append_assoc, List.nil_append, List.cons_append] at this ⊢; first | exact this | simpa using this
instance tc212 {v : RToldV} : CellAt v.cells 1 (.bool v.b.has) := ⟨by simp [RToldV.cells, RToldV.list, BindV.list, List.getElem?_append, hlist_length, BindV.list_len]⟩
instance tc213 {v : RToldV} {u : Bool} : Put v.cells 1 (.bool u) { v with b := { v.b with has := u } }.cells := by have := Put.mid (([] : List Value) ++ (([] : List Value) ++ [.int .i64 v.b.last])) ([.bool v.b.has]) (([.int .i64 v.b.reg] ++ hlist v.b.hash ++ [.slice v.b.batch.a v.b.batch.l.length v.b.batch.c] ++ ([] : List Value)) ++ ([.int .i64 v.e])) (cs := v.cells) (o := 1) (n := 1) (v := .bool u) (by simp [RToldV.cells, RToldV.list, BindV.list]) (by simp [BindV.list_len]) rfl rfl; simpa [RToldV.cells, RToldV.list, BindV.list, Value.cells] using this
instance tc215 {v : RToldV} {u : Int} : Put v.cells 2 (.int .i64 u) { v with b := { v.b with reg := u } }.cells := by have := Put.mid (([] : List Value) ++ (([] : List Value) ++ [.int .i64 v.b.last] ++ [.bool v.b.has])) ([.int .i64 v.b.reg]) ((hlist v.b.hash ++ [.slice v.b.batch.a v.b.batch.l.length v.b.batch.c] ++ ([] : List Value)) ++ ([.int .i64 v.e])) (cs := v.cells) (o := 2) (n := 1) (v := .int .i64 u) (by simp [RToldV.cells, RToldV.list, BindV.list]) (by simp [BindV.list_len]) rfl rfl; simpa [RToldV.cells, RToldV.list, BindV.list, Value.cells] using this
instance tc217 {v : RToldV} : CellAt v.cells 35 (.slice v.b.batch.a v.b.batch.l.length v.b.batch.c) := ⟨by simp [RToldV.cells, RToldV.list, BindV.list, List.getElem?_append, hlist_length, BindV.list_len]⟩
instance tc218 {v : RToldV} {a : Option Addr} {l : List UInt8} {c : Nat} : Put v.cells 35 (.slice a l.length c) { v with b := { v.b with batch := ⟨a, c, l⟩ } }.cells := by have := Put.mid (([] : List Value) ++ (([] : List Value) ++ [.int .i64 v.b.last] ++ [.bool v.b.has] ++ [.int .i64 v.b.reg] ++ hlist v.b.hash)) ([.slice v.b.batch.a v.b.batch.l.length v.b.batch.c]) ((([] : List Value)) ++ ([.int .i64 v.e])) (cs := v.cells) (o := 35) (n := 1) (v := .slice a l.length c) (by simp [RToldV.cells, RToldV.list, BindV.list]) (by simp [BindV.list_len]) rfl rfl; simpa [RToldV.cells, RToldV.list, BindV.list, Value.cells] using this
instance tc219 {v : RToldV} : CellAt v.cells 36 (.int .i64 v.e) := ⟨by simp [RToldV.cells, RToldV.list, List.getElem?_append, hlist_length, BindV.list_len]⟩
instance tc220 {v : RToldV} {u : Int} : Put v.cells 36 (.int .i64 u) { v with e := u }.cells := by have := Put.mid (v.b.list) ([.int .i64 v.e]) ([] : List Value) (cs := v.cells) (o := 36) (n := 1) (v := .int .i64 u) (by simp [RToldV.cells, RToldV.list]) (by simp [BindV.list_len]) rfl rfl; simpa [RToldV.cells, RToldV.list, Value.cells] using this
instance tc221 {f0 : BindV} {f1 : Int} : CellAt (RToldV.mk f0 f1).cells 36 (.int .i64 f1) := inferInstanceAs (CellAt (RToldV.mk f0 f1).cells 36 (.int .i64 (RToldV.mk f0 f1).e))
instance tc222 {f0 : BindV} {f1 : Int} {u : Int} : Put (RToldV.mk f0 f1).cells 36 (.int .i64 u) (RToldV.mk f0 u).cells := inferInstanceAs (Put (RToldV.mk f0 f1).cells 36 (.int .i64 u) { (RToldV.mk f0 f1) with e := u }.cells)
@[reducible] def RToldV.zero : RToldV := { b := BindV.zero, e := 0 }
instance tc224 : TyZ Tryz.prog 101 (.agg RToldV.zero.cells) := ⟨by kernel_rfl⟩
end Go.Proofs.YtnijomppbgdmnaaGreat
