/- Structures for the struct types of stops and fetches, with their cells. Printed by program. -/
import Derived.Test.YtnijomppbgdmnaaGreatTyP
namespace Go.Proofs.YtnijomppbgdmnaaGreat
open Go.RowKit Go.Sx
set_option maxRecDepth 100000
set_option linter.unusedSimpArgs false
set_option linter.unusedVariables false
set_option linter.unnecessarySimpa false
structure StopsV where
  k : KeysV
  v : ViewV
  want : Option Nat
def StopsV.list (v : StopsV) : List Value := v.k.list ++ (v.v.list ++ ([.map v.want]))
def StopsV.cells (v : StopsV) : Array Value := v.list.toArray
theorem StopsV.list_len (v : StopsV) : v.list.length = 5 := by simp [StopsV.list, KeysV.list_len, ViewV.list_len]
theorem StopsV.list_one (v : StopsV) : v.list.all Value.oneCell' = true := by simp [StopsV.list, Value.oneCell', KeysV.list_one, ViewV.list_one]
instance tw8 {v : StopsV} : Cells v.cells 5 := Cells.list v.list_len v.list_one
theorem StopsV.size (v : StopsV) : v.cells.size = 5 := by simp [StopsV.cells, StopsV.list_len]
instance tw12 {v : StopsV} : SubAt v.cells 0 2 v.k.cells := ⟨by first | (simp [StopsV.cells, StopsV.list, KeysV.list_len, ViewV.list_len]; done) | (have := sub_mid ([] : List Value) (v.k.list) (v.v.list ++ [.map v.want]) (o := 0) (n := 2) (by simp [KeysV.list_len, ViewV.list_len]) (by simp [KeysV.list_len, ViewV.list_len]); simpa [StopsV.cells, StopsV.list, KeysV.cells, ViewV.cells] using this)⟩
instance tw13 {v : StopsV} {u : KeysV} : Put v.cells 0 (.agg u.cells) { v with k := u }.cells := by have := Put.mid ([] : List Value) (v.k.list) (v.v.list ++ [.map v.want]) (cs := v.cells) (o := 0) (n := 2) (v := .agg u.cells) (by simp [StopsV.cells, StopsV.list]) (by simp [KeysV.list_len, ViewV.list_len]) (by simp [KeysV.list_len, ViewV.list_len]) (by simp [Value.cells, KeysV.size, ViewV.size]); simp only [Value.cells, StopsV.cells, StopsV.list, KeysV.cells, ViewV.cells, List.append_assoc, List.nil_append, List.cons_append] at this ⊢; first | exact this | simpa using this
instance tw18 {v : StopsV} : SubAt v.cells 2 2 v.v.cells := ⟨by first | (simp [StopsV.cells, StopsV.list, KeysV.list_len, ViewV.list_len]; done) | (have := sub_mid (v.k.list) (v.v.list) ([.map v.want]) (o := 2) (n := 2) (by simp [KeysV.list_len, ViewV.list_len]) (by simp [KeysV.list_len, ViewV.list_len]); simpa [StopsV.cells, StopsV.list, KeysV.cells, ViewV.cells] using this)⟩
instance tw19 {v : StopsV} {u : ViewV} : Put v.cells 2 (.agg u.cells) { v with v := u }.cells := by have := Put.mid (v.k.list) (v.v.list) ([.map v.want]) (cs := v.cells) (o := 2) (n := 2) (v := .agg u.cells) (by simp [StopsV.cells, StopsV.list]) (by simp [KeysV.list_len, ViewV.list_len]) (by simp [KeysV.list_len, ViewV.list_len]) (by simp [Value.cells, KeysV.size, ViewV.size]); simp only [Value.cells, StopsV.cells, StopsV.list, KeysV.cells, ViewV.cells, List.append_assoc, List.nil_append, List.cons_append] at this ⊢; first | exact this | simpa using this
instance tw20 {v : StopsV} : CellAt v.cells 2 (.int .i64 v.v.num) := ⟨by simp [StopsV.cells, StopsV.list, ViewV.list, List.getElem?_append, hlist_length, KeysV.list_len, ViewV.list_len]⟩
instance tw24 {v : StopsV} : CellAt v.cells 4 (.map v.want) := ⟨by simp [StopsV.cells, StopsV.list, List.getElem?_append, hlist_length, KeysV.list_len, ViewV.list_len]⟩
instance tw25 {v : StopsV} {u : Option Nat} : Put v.cells 4 (.map u) { v with want := u }.cells := by have := Put.mid (v.k.list ++ v.v.list) ([.map v.want]) ([] : List Value) (cs := v.cells) (o := 4) (n := 1) (v := .map u) (by simp [StopsV.cells, StopsV.list]) (by simp [KeysV.list_len, ViewV.list_len]) rfl rfl; simpa [StopsV.cells, StopsV.list, Value.cells] using this
instance tw26 {f0 : KeysV} {f1 : ViewV} {f2 : Option Nat} : CellAt (StopsV.mk f0 f1 f2).cells 4 (.map f2) := inferInstanceAs (CellAt (StopsV.mk f0 f1 f2).cells 4 (.map (StopsV.mk f0 f1 f2).want))
instance tw27 {f0 : KeysV} {f1 : ViewV} {f2 : Option Nat} {u : Option Nat} : Put (StopsV.mk f0 f1 f2).cells 4 (.map u) (StopsV.mk f0 f1 u).cells := inferInstanceAs (Put (StopsV.mk f0 f1 f2).cells 4 (.map u) { (StopsV.mk f0 f1 f2) with want := u }.cells)
@[reducible] def StopsV.zero : StopsV := { k := KeysV.zero, v := ViewV.zero, want := none }
instance tw29 : TyZ Tryz.prog 139 (.agg StopsV.zero.cells) := ⟨by kernel_rfl⟩
structure FetchV where
  k : KeysV
  v : ViewV
  had : Int
  marks : Option Nat
  who : Option Nat
  l : Sl
def FetchV.list (v : FetchV) : List Value := v.k.list ++ (v.v.list ++ ([.int .i64 v.had] ++ ([.map v.marks] ++ ([.map v.who] ++ ([.slice v.l.a v.l.n v.l.c])))))
def FetchV.cells (v : FetchV) : Array Value := v.list.toArray
theorem FetchV.list_len (v : FetchV) : v.list.length = 8 := by simp [FetchV.list, KeysV.list_len, ViewV.list_len]
theorem FetchV.list_one (v : FetchV) : v.list.all Value.oneCell' = true := by simp [FetchV.list, Value.oneCell', KeysV.list_one, ViewV.list_one]
theorem FetchV.size (v : FetchV) : v.cells.size = 8 := by simp [FetchV.cells, FetchV.list_len]
@[reducible] def FetchV.zero : FetchV := { k := KeysV.zero, v := ViewV.zero, had := 0, marks := none, who := none, l := ⟨none, 0, 0⟩ }
structure AskV where
  v : ViewV
  first : Int
  reg : Int
  roots : Sl
def AskV.list (v : AskV) : List Value := v.v.list ++ ([.int .i64 v.first] ++ ([.int .i64 v.reg] ++ ([.slice v.roots.a v.roots.n v.roots.c])))
def AskV.cells (v : AskV) : Array Value := v.list.toArray
theorem AskV.list_len (v : AskV) : v.list.length = 5 := by simp [AskV.list, ViewV.list_len]
theorem AskV.list_one (v : AskV) : v.list.all Value.oneCell' = true := by simp [AskV.list, Value.oneCell', ViewV.list_one]
instance tw85 {v : AskV} : Cells v.cells 5 := Cells.list v.list_len v.list_one
theorem AskV.size (v : AskV) : v.cells.size = 5 := by simp [AskV.cells, AskV.list_len]
instance tw87 {v : AskV} : SubAt v.cells 0 5 v.cells := ⟨by have h := v.size; apply Array.ext <;> simp [h]⟩
instance tw89 {v : AskV} : SubAt v.cells 0 2 v.v.cells := ⟨by first | (simp [AskV.cells, AskV.list, ViewV.list_len]; done) | (have := sub_mid ([] : List Value) (v.v.list) ([.int .i64 v.first] ++ [.int .i64 v.reg] ++ [.slice v.roots.a v.roots.n v.roots.c]) (o := 0) (n := 2) (by simp [ViewV.list_len]) (by simp [ViewV.list_len]); simpa [AskV.cells, AskV.list, ViewV.cells] using this)⟩
instance tw95 {v : AskV} : CellAt v.cells 2 (.int .i64 v.first) := ⟨by simp [AskV.cells, AskV.list, List.getElem?_append, hlist_length, ViewV.list_len]⟩
instance tw97 {v : AskV} : CellAt v.cells 3 (.int .i64 v.reg) := ⟨by simp [AskV.cells, AskV.list, List.getElem?_append, hlist_length, ViewV.list_len]⟩
instance tw99 {v : AskV} : CellAt v.cells 4 (.slice v.roots.a v.roots.n v.roots.c) := ⟨by simp [AskV.cells, AskV.list, List.getElem?_append, hlist_length, ViewV.list_len]⟩
instance tw101 {f0 : ViewV} {f1 : Int} {f2 : Int} {f3 : Sl} : CellAt (AskV.mk f0 f1 f2 f3).cells 2 (.int .i64 f1) := inferInstanceAs (CellAt (AskV.mk f0 f1 f2 f3).cells 2 (.int .i64 (AskV.mk f0 f1 f2 f3).first))
instance tw103 {f0 : ViewV} {f1 : Int} {f2 : Int} {f3 : Sl} : CellAt (AskV.mk f0 f1 f2 f3).cells 3 (.int .i64 f2) := inferInstanceAs (CellAt (AskV.mk f0 f1 f2 f3).cells 3 (.int .i64 (AskV.mk f0 f1 f2 f3).reg))
instance tw105 {f0 : ViewV} {f1 : Int} {f2 : Int} {f3 : Sl} : CellAt (AskV.mk f0 f1 f2 f3).cells 4 (.slice f3.a f3.n f3.c) := inferInstanceAs (CellAt (AskV.mk f0 f1 f2 f3).cells 4 (.slice (AskV.mk f0 f1 f2 f3).roots.a (AskV.mk f0 f1 f2 f3).roots.n (AskV.mk f0 f1 f2 f3).roots.c))
instance tw106 {f0 : ViewV} {f1 : Int} {f2 : Int} {a : Option Addr} {n c : Nat} : CellAt (AskV.mk f0 f1 f2 (Sl.mk a n c)).cells 4 (.slice a n c) := inferInstanceAs (CellAt (AskV.mk f0 f1 f2 (Sl.mk a n c)).cells 4 (.slice (AskV.mk f0 f1 f2 (Sl.mk a n c)).roots.a (AskV.mk f0 f1 f2 (Sl.mk a n c)).roots.n (AskV.mk f0 f1 f2 (Sl.mk a n c)).roots.c))
@[reducible] def AskV.zero : AskV := { v := ViewV.zero, first := 0, reg := 0, roots := ⟨none, 0, 0⟩ }
instance tw109 : TyZ Tryz.prog 27 (.agg AskV.zero.cells) := ⟨by kernel_rfl⟩
structure AskX where
  v : ViewV
  had : Int
  roots : Sl
def AskX.list (v : AskX) : List Value := v.v.list ++ ([.int .i64 v.had] ++ ([.slice v.roots.a v.roots.n v.roots.c]))
def AskX.cells (v : AskX) : Array Value := v.list.toArray
theorem AskX.list_len (v : AskX) : v.list.length = 4 := by simp [AskX.list, ViewV.list_len]
theorem AskX.list_one (v : AskX) : v.list.all Value.oneCell' = true := by simp [AskX.list, Value.oneCell', ViewV.list_one]
theorem AskX.size (v : AskX) : v.cells.size = 4 := by simp [AskX.cells, AskX.list_len]
@[reducible] def AskX.zero : AskX := { v := ViewV.zero, had := 0, roots := ⟨none, 0, 0⟩ }
end Go.Proofs.YtnijomppbgdmnaaGreat
