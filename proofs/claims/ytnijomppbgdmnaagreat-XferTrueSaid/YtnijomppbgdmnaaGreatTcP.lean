/- Structures for the struct types of requests and clients, with their cells. Printed by program. -/
import Derived.Test.YtnijomppbgdmnaaGreatTyP
set_option linter.unusedSimpArgs false
set_option linter.unusedVariables false
set_option linter.unnecessarySimpa false
namespace Go.Proofs.YtnijomppbgdmnaaGreat
open Go.RowKit Go.Sx
set_option maxRecDepth 100000
structure OpV where
  kind : Int
  key : Int
  a : Int
  b : Int
def OpV.list (v : OpV) : List Value := [.int .i64 v.kind] ++ ([.int .i64 v.key] ++ ([.int .i64 v.a] ++ ([.int .i64 v.b])))
def OpV.cells (v : OpV) : Array Value := v.list.toArray
theorem OpV.list_len (v : OpV) : v.list.length = 4 := by simp [OpV.list]
theorem OpV.list_one (v : OpV) : v.list.all Value.oneCell' = true := by simp [OpV.list, Value.oneCell']
theorem OpV.size (v : OpV) : v.cells.size = 4 := by simp [OpV.cells, OpV.list_len]
instance tc13 {v : OpV} : CellAt v.cells 0 (.int .i64 v.kind) := ⟨by simp [OpV.cells, OpV.list, List.getElem?_append, hlist_length]⟩
instance tc15 {v : OpV} : CellAt v.cells 1 (.int .i64 v.key) := ⟨by simp [OpV.cells, OpV.list, List.getElem?_append, hlist_length]⟩
instance tc17 {v : OpV} : CellAt v.cells 2 (.int .i64 v.a) := ⟨by simp [OpV.cells, OpV.list, List.getElem?_append, hlist_length]⟩
instance tc19 {v : OpV} : CellAt v.cells 3 (.int .i64 v.b) := ⟨by simp [OpV.cells, OpV.list, List.getElem?_append, hlist_length]⟩
@[reducible] def OpV.zero : OpV := { kind := 0, key := 0, a := 0, b := 0 }
structure ReqV where
  client : Int
  seq : Int
  op : OpV
  sig : BS
def ReqV.list (v : ReqV) : List Value := [.int .i64 v.client] ++ ([.int .i64 v.seq] ++ (v.op.list ++ ([.slice v.sig.a v.sig.l.length v.sig.c])))
def ReqV.cells (v : ReqV) : Array Value := v.list.toArray
theorem ReqV.list_len (v : ReqV) : v.list.length = 7 := by simp [ReqV.list, OpV.list_len]
theorem ReqV.list_one (v : ReqV) : v.list.all Value.oneCell' = true := by simp [ReqV.list, Value.oneCell', OpV.list_one]
instance tc40 {v : ReqV} : Cells v.cells 7 := Cells.list v.list_len v.list_one
theorem ReqV.size (v : ReqV) : v.cells.size = 7 := by simp [ReqV.cells, ReqV.list_len]
instance tc42 {v : ReqV} : SubAt v.cells 0 7 v.cells := ⟨by have h := v.size; apply Array.ext <;> simp [h]⟩
instance tc43 {v u : ReqV} : Put v.cells 0 (.agg u.cells) u.cells := ⟨by have := put_mid [] v.list [] (v := .agg u.cells) (o := 0) (n := 7) rfl v.list_len u.size; simpa [ReqV.cells, Value.cells] using this, by simp [Value.cells, ReqV.size]⟩
instance tc44 {v : ReqV} : CellAt v.cells 0 (.int .i64 v.client) := ⟨by simp [ReqV.cells, ReqV.list, List.getElem?_append, hlist_length, OpV.list_len]⟩
instance tc45 {v : ReqV} {u : Int} : Put v.cells 0 (.int .i64 u) { v with client := u }.cells := by have := Put.mid ([] : List Value) ([.int .i64 v.client]) ([.int .i64 v.seq] ++ v.op.list ++ [.slice v.sig.a v.sig.l.length v.sig.c]) (cs := v.cells) (o := 0) (n := 1) (v := .int .i64 u) (by simp [ReqV.cells, ReqV.list]) (by simp [OpV.list_len]) rfl rfl; simpa [ReqV.cells, ReqV.list, Value.cells] using this
instance tc46 {v : ReqV} : CellAt v.cells 1 (.int .i64 v.seq) := ⟨by simp [ReqV.cells, ReqV.list, List.getElem?_append, hlist_length, OpV.list_len]⟩
instance tc47 {v : ReqV} {u : Int} : Put v.cells 1 (.int .i64 u) { v with seq := u }.cells := by have := Put.mid ([.int .i64 v.client]) ([.int .i64 v.seq]) (v.op.list ++ [.slice v.sig.a v.sig.l.length v.sig.c]) (cs := v.cells) (o := 1) (n := 1) (v := .int .i64 u) (by simp [ReqV.cells, ReqV.list]) (by simp [OpV.list_len]) rfl rfl; simpa [ReqV.cells, ReqV.list, Value.cells] using this
instance tc48 {v : ReqV} : SubAt v.cells 2 4 v.op.cells := ⟨by first | (simp [ReqV.cells, ReqV.list, OpV.list_len]; done) | (have := sub_mid ([.int .i64 v.client] ++ [.int .i64 v.seq]) (v.op.list) ([.slice v.sig.a v.sig.l.length v.sig.c]) (o := 2) (n := 4) (by simp [OpV.list_len]) (by simp [OpV.list_len]); simpa [ReqV.cells, ReqV.list, OpV.cells] using this)⟩
instance tc50 {v : ReqV} : CellAt v.cells 2 (.int .i64 v.op.kind) := ⟨by simp [ReqV.cells, ReqV.list, OpV.list, List.getElem?_append, hlist_length, OpV.list_len]⟩
instance tc51 {v : ReqV} {u : Int} : Put v.cells 2 (.int .i64 u) { v with op := { v.op with kind := u } }.cells := by have := Put.mid (([.int .i64 v.client] ++ [.int .i64 v.seq]) ++ (([] : List Value))) ([.int .i64 v.op.kind]) (([.int .i64 v.op.key] ++ [.int .i64 v.op.a] ++ [.int .i64 v.op.b] ++ ([] : List Value)) ++ ([.slice v.sig.a v.sig.l.length v.sig.c])) (cs := v.cells) (o := 2) (n := 1) (v := .int .i64 u) (by simp [ReqV.cells, ReqV.list, OpV.list]) (by simp [OpV.list_len]) rfl rfl; simpa [ReqV.cells, ReqV.list, OpV.list, Value.cells] using this
instance tc52 {v : ReqV} : CellAt v.cells 3 (.int .i64 v.op.key) := ⟨by simp [ReqV.cells, ReqV.list, OpV.list, List.getElem?_append, hlist_length, OpV.list_len]⟩
instance tc53 {v : ReqV} {u : Int} : Put v.cells 3 (.int .i64 u) { v with op := { v.op with key := u } }.cells := by have := Put.mid (([.int .i64 v.client] ++ [.int .i64 v.seq]) ++ (([] : List Value) ++ [.int .i64 v.op.kind])) ([.int .i64 v.op.key]) (([.int .i64 v.op.a] ++ [.int .i64 v.op.b] ++ ([] : List Value)) ++ ([.slice v.sig.a v.sig.l.length v.sig.c])) (cs := v.cells) (o := 3) (n := 1) (v := .int .i64 u) (by simp [ReqV.cells, ReqV.list, OpV.list]) (by simp [OpV.list_len]) rfl rfl; simpa [ReqV.cells, ReqV.list, OpV.list, Value.cells] using this
instance tc54 {v : ReqV} : CellAt v.cells 4 (.int .i64 v.op.a) := ⟨by simp [ReqV.cells, ReqV.list, OpV.list, List.getElem?_append, hlist_length, OpV.list_len]⟩
instance tc55 {v : ReqV} {u : Int} : Put v.cells 4 (.int .i64 u) { v with op := { v.op with a := u } }.cells := by have := Put.mid (([.int .i64 v.client] ++ [.int .i64 v.seq]) ++ (([] : List Value) ++ [.int .i64 v.op.kind] ++ [.int .i64 v.op.key])) ([.int .i64 v.op.a]) (([.int .i64 v.op.b] ++ ([] : List Value)) ++ ([.slice v.sig.a v.sig.l.length v.sig.c])) (cs := v.cells) (o := 4) (n := 1) (v := .int .i64 u) (by simp [ReqV.cells, ReqV.list, OpV.list]) (by simp [OpV.list_len]) rfl rfl; simpa [ReqV.cells, ReqV.list, OpV.list, Value.cells] using this
instance tc56 {v : ReqV} : CellAt v.cells 5 (.int .i64 v.op.b) := ⟨by simp [ReqV.cells, ReqV.list, OpV.list, List.getElem?_append, hlist_length, OpV.list_len]⟩
instance tc57 {v : ReqV} {u : Int} : Put v.cells 5 (.int .i64 u) { v with op := { v.op with b := u } }.cells := by have := Put.mid (([.int .i64 v.client] ++ [.int .i64 v.seq]) ++ (([] : List Value) ++ [.int .i64 v.op.kind] ++ [.int .i64 v.op.key] ++ [.int .i64 v.op.a])) ([.int .i64 v.op.b]) ((([] : List Value)) ++ ([.slice v.sig.a v.sig.l.length v.sig.c])) (cs := v.cells) (o := 5) (n := 1) (v := .int .i64 u) (by simp [ReqV.cells, ReqV.list, OpV.list]) (by simp [OpV.list_len]) rfl rfl; simpa [ReqV.cells, ReqV.list, OpV.list, Value.cells] using this
instance tc58 {v : ReqV} : CellAt v.cells 6 (.slice v.sig.a v.sig.l.length v.sig.c) := ⟨by simp [ReqV.cells, ReqV.list, List.getElem?_append, hlist_length, OpV.list_len]⟩
instance tc59 {v : ReqV} {a : Option Addr} {l : List UInt8} {c : Nat} : Put v.cells 6 (.slice a l.length c) { v with sig := ⟨a, c, l⟩ }.cells := by have := Put.mid ([.int .i64 v.client] ++ [.int .i64 v.seq] ++ v.op.list) ([.slice v.sig.a v.sig.l.length v.sig.c]) ([] : List Value) (cs := v.cells) (o := 6) (n := 1) (v := .slice a l.length c) (by simp [ReqV.cells, ReqV.list]) (by simp [OpV.list_len]) rfl rfl; simpa [ReqV.cells, ReqV.list, Value.cells] using this
instance tc62 {f0 : Int} {f1 : Int} {f2 : OpV} {f3 : BS} {u : Int} : Put (ReqV.mk f0 f1 f2 f3).cells 0 (.int .i64 u) (ReqV.mk u f1 f2 f3).cells := inferInstanceAs (Put (ReqV.mk f0 f1 f2 f3).cells 0 (.int .i64 u) { (ReqV.mk f0 f1 f2 f3) with client := u }.cells)
instance tc64 {f0 : Int} {f1 : Int} {f2 : OpV} {f3 : BS} {u : Int} : Put (ReqV.mk f0 f1 f2 f3).cells 1 (.int .i64 u) (ReqV.mk f0 u f2 f3).cells := inferInstanceAs (Put (ReqV.mk f0 f1 f2 f3).cells 1 (.int .i64 u) { (ReqV.mk f0 f1 f2 f3) with seq := u }.cells)
@[reducible] def ReqV.zero : ReqV := { client := 0, seq := 0, op := OpV.zero, sig := ⟨none, 0, []⟩ }
instance tc70 : TyZ Tryz.prog 200 (.agg ReqV.zero.cells) := ⟨by kernel_rfl⟩
structure BindV where
  last : Int
  has : Bool
  reg : Int
  hash : Vector UInt8 32
  batch : BS
def BindV.list (v : BindV) : List Value := [.int .i64 v.last] ++ ([.bool v.has] ++ ([.int .i64 v.reg] ++ (hlist v.hash ++ ([.slice v.batch.a v.batch.l.length v.batch.c]))))
def BindV.cells (v : BindV) : Array Value := v.list.toArray
theorem BindV.list_len (v : BindV) : v.list.length = 36 := by simp [BindV.list]
theorem BindV.list_one (v : BindV) : v.list.all Value.oneCell' = true := by simp [BindV.list, Value.oneCell']
theorem BindV.size (v : BindV) : v.cells.size = 36 := by simp [BindV.cells, BindV.list_len]
@[reducible] def BindV.zero : BindV := { last := 0, has := false, reg := 0, hash := zeroV 32, batch := ⟨none, 0, []⟩ }
structure ChoiceV where
  last : Int
  bound : Bool
  hash : Vector UInt8 32
  batch : BS
def ChoiceV.list (v : ChoiceV) : List Value := [.int .i64 v.last] ++ ([.bool v.bound] ++ (hlist v.hash ++ ([.slice v.batch.a v.batch.l.length v.batch.c])))
def ChoiceV.cells (v : ChoiceV) : Array Value := v.list.toArray
theorem ChoiceV.list_len (v : ChoiceV) : v.list.length = 35 := by simp [ChoiceV.list]
theorem ChoiceV.list_one (v : ChoiceV) : v.list.all Value.oneCell' = true := by simp [ChoiceV.list, Value.oneCell']
theorem ChoiceV.size (v : ChoiceV) : v.cells.size = 35 := by simp [ChoiceV.cells, ChoiceV.list_len]
@[reducible] def ChoiceV.zero : ChoiceV := { last := 0, bound := false, hash := zeroV 32, batch := ⟨none, 0, []⟩ }
structure ToldV where
  frm : Int
  b : BindV
def ToldV.list (v : ToldV) : List Value := [.int .i64 v.frm] ++ (v.b.list)
def ToldV.cells (v : ToldV) : Array Value := v.list.toArray
theorem ToldV.list_len (v : ToldV) : v.list.length = 37 := by simp [ToldV.list, BindV.list_len]
theorem ToldV.list_one (v : ToldV) : v.list.all Value.oneCell' = true := by simp [ToldV.list, Value.oneCell', BindV.list_one]
theorem ToldV.size (v : ToldV) : v.cells.size = 37 := by simp [ToldV.cells, ToldV.list_len]
@[reducible] def ToldV.zero : ToldV := { frm := 0, b := BindV.zero }
structure QGotV where
  r : ReqV
  e : Int
def QGotV.list (v : QGotV) : List Value := v.r.list ++ ([.int .i64 v.e])
def QGotV.cells (v : QGotV) : Array Value := v.list.toArray
theorem QGotV.list_len (v : QGotV) : v.list.length = 8 := by simp [QGotV.list, ReqV.list_len, OpV.list_len]
theorem QGotV.list_one (v : QGotV) : v.list.all Value.oneCell' = true := by simp [QGotV.list, Value.oneCell', ReqV.list_one]
instance tc179 {v : QGotV} : Cells v.cells 8 := Cells.list v.list_len v.list_one
theorem QGotV.size (v : QGotV) : v.cells.size = 8 := by simp [QGotV.cells, QGotV.list_len]
instance tc181 {v : QGotV} : SubAt v.cells 0 8 v.cells := ⟨by have h := v.size; apply Array.ext <;> simp [h]⟩
instance tc182 {v u : QGotV} : Put v.cells 0 (.agg u.cells) u.cells := ⟨by have := put_mid [] v.list [] (v := .agg u.cells) (o := 0) (n := 8) rfl v.list_len u.size; simpa [QGotV.cells, Value.cells] using this, by simp [Value.cells, QGotV.size]⟩
instance tc183 {v : QGotV} : SubAt v.cells 0 7 v.r.cells := ⟨by first | (simp [QGotV.cells, QGotV.list, ReqV.list_len, OpV.list_len]; done) | (have := sub_mid ([] : List Value) (v.r.list) ([.int .i64 v.e]) (o := 0) (n := 7) (by simp [ReqV.list_len, OpV.list_len]) (by simp [ReqV.list_len, OpV.list_len]); simpa [QGotV.cells, QGotV.list, ReqV.cells] using this)⟩
instance tc184 {v : QGotV} {u : ReqV} : Put v.cells 0 (.agg u.cells) { v with r := u }.cells := by have := Put.mid ([] : List Value) (v.r.list) ([.int .i64 v.e]) (cs := v.cells) (o := 0) (n := 7) (v := .agg u.cells) (by simp [QGotV.cells, QGotV.list]) (by simp [ReqV.list_len, OpV.list_len]) (by simp [ReqV.list_len, OpV.list_len]) (by simp [Value.cells, ReqV.size]); simp only [Value.cells, QGotV.cells, QGotV.list, ReqV.cells, List.append_assoc, List.nil_append, List.cons_append] at this ⊢; first | exact this | simpa using this
instance tc190 {v : QGotV} {a : Option Addr} {l : List UInt8} {c : Nat} : Put v.cells 6 (.slice a l.length c) { v with r := { v.r with sig := ⟨a, c, l⟩ } }.cells := by have := Put.mid (([] : List Value) ++ (([] : List Value) ++ [.int .i64 v.r.client] ++ [.int .i64 v.r.seq] ++ v.r.op.list)) ([.slice v.r.sig.a v.r.sig.l.length v.r.sig.c]) ((([] : List Value)) ++ ([.int .i64 v.e])) (cs := v.cells) (o := 6) (n := 1) (v := .slice a l.length c) (by simp [QGotV.cells, QGotV.list, ReqV.list]) (by simp [ReqV.list_len, OpV.list_len]) rfl rfl; simpa [QGotV.cells, QGotV.list, ReqV.list, Value.cells] using this
instance tc191 {v : QGotV} : CellAt v.cells 7 (.int .i64 v.e) := ⟨by simp [QGotV.cells, QGotV.list, List.getElem?_append, hlist_length, ReqV.list_len, OpV.list_len]⟩
instance tc192 {v : QGotV} {u : Int} : Put v.cells 7 (.int .i64 u) { v with e := u }.cells := by have := Put.mid (v.r.list) ([.int .i64 v.e]) ([] : List Value) (cs := v.cells) (o := 7) (n := 1) (v := .int .i64 u) (by simp [QGotV.cells, QGotV.list]) (by simp [ReqV.list_len, OpV.list_len]) rfl rfl; simpa [QGotV.cells, QGotV.list, Value.cells] using this
instance tc193 {f0 : ReqV} {f1 : Int} : CellAt (QGotV.mk f0 f1).cells 7 (.int .i64 f1) := inferInstanceAs (CellAt (QGotV.mk f0 f1).cells 7 (.int .i64 (QGotV.mk f0 f1).e))
instance tc194 {f0 : ReqV} {f1 : Int} {u : Int} : Put (QGotV.mk f0 f1).cells 7 (.int .i64 u) (QGotV.mk f0 u).cells := inferInstanceAs (Put (QGotV.mk f0 f1).cells 7 (.int .i64 u) { (QGotV.mk f0 f1) with e := u }.cells)
@[reducible] def QGotV.zero : QGotV := { r := ReqV.zero, e := 0 }
instance tc196 : TyZ Tryz.prog 261 (.agg QGotV.zero.cells) := ⟨by kernel_rfl⟩
structure RToldV where
  b : BindV
  e : Int
def RToldV.list (v : RToldV) : List Value := v.b.list ++ ([.int .i64 v.e])
def RToldV.cells (v : RToldV) : Array Value := v.list.toArray
theorem RToldV.list_len (v : RToldV) : v.list.length = 37 := by simp [RToldV.list, BindV.list_len]
theorem RToldV.list_one (v : RToldV) : v.list.all Value.oneCell' = true := by simp [RToldV.list, Value.oneCell', BindV.list_one]
theorem RToldV.size (v : RToldV) : v.cells.size = 37 := by simp [RToldV.cells, RToldV.list_len]
@[reducible] def RToldV.zero : RToldV := { b := BindV.zero, e := 0 }
end Go.Proofs.YtnijomppbgdmnaaGreat
