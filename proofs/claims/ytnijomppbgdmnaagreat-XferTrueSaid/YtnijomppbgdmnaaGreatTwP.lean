/- Structures for the struct types of stops and fetches, with their cells. Printed by program. -/
import Derived.Test.YtnijomppbgdmnaaGreatTyP
set_option linter.unusedSimpArgs false
set_option linter.unusedVariables false
set_option linter.unnecessarySimpa false
namespace Go.Proofs.YtnijomppbgdmnaaGreat
open Go.RowKit Go.Sx
set_option maxRecDepth 100000
structure StopsV where
  k : KeysV
  v : ViewV
  want : Option Nat
def StopsV.list (v : StopsV) : List Value := v.k.list ++ (v.v.list ++ ([.map v.want]))
def StopsV.cells (v : StopsV) : Array Value := v.list.toArray
theorem StopsV.list_len (v : StopsV) : v.list.length = 5 := by simp [StopsV.list, KeysV.list_len, ViewV.list_len]
theorem StopsV.list_one (v : StopsV) : v.list.all Value.oneCell' = true := by simp [StopsV.list, Value.oneCell', KeysV.list_one, ViewV.list_one]
theorem StopsV.size (v : StopsV) : v.cells.size = 5 := by simp [StopsV.cells, StopsV.list_len]
@[reducible] def StopsV.zero : StopsV := { k := KeysV.zero, v := ViewV.zero, want := none }
structure FetchV where
  k : KeysV
  v : ViewV
  had : Int
  marks : Option Nat
  who : Option Nat
  l : Sl
def FetchV.list (v : FetchV) : List Value := v.k.list ++ (v.v.list ++ ([.int .i64 v.had] ++ ([.map v.marks] ++ ([.map v.who] ++ ([.slice v.l.a v.l.n v.l.c])))))
def FetchV.cells (v : FetchV) : Array Value := v.list.toArray
theorem FetchV.list_len (v : FetchV) : v.list.length = 8 := by simp [FetchV.list, KeysV.list_len, ViewV.list_len]
theorem FetchV.list_one (v : FetchV) : v.list.all Value.oneCell' = true := by simp [FetchV.list, Value.oneCell', KeysV.list_one, ViewV.list_one]
instance tw41 {v : FetchV} : Cells v.cells 8 := Cells.list v.list_len v.list_one
theorem FetchV.size (v : FetchV) : v.cells.size = 8 := by simp [FetchV.cells, FetchV.list_len]
instance tw45 {v : FetchV} : SubAt v.cells 0 2 v.k.cells := ⟨by first | (simp [FetchV.cells, FetchV.list, KeysV.list_len, ViewV.list_len]; done) | (have := sub_mid ([] : List Value) (v.k.list) (v.v.list ++ [.int .i64 v.had] ++ [.map v.marks] ++ [.map v.who] ++ [.slice v.l.a v.l.n v.l.c]) (o := 0) (n := 2) (by simp [KeysV.list_len, ViewV.list_len]) (by simp [KeysV.list_len, ViewV.list_len]); simpa [FetchV.cells, FetchV.list, KeysV.cells, ViewV.cells] using this)⟩
instance tw46 {v : FetchV} {u : KeysV} : Put v.cells 0 (.agg u.cells) { v with k := u }.cells := by have := Put.mid ([] : List Value) (v.k.list) (v.v.list ++ [.int .i64 v.had] ++ [.map v.marks] ++ [.map v.who] ++ [.slice v.l.a v.l.n v.l.c]) (cs := v.cells) (o := 0) (n := 2) (v := .agg u.cells) (by simp [FetchV.cells, FetchV.list]) (by simp [KeysV.list_len, ViewV.list_len]) (by simp [KeysV.list_len, ViewV.list_len]) (by simp [Value.cells, KeysV.size, ViewV.size]); simp only [Value.cells, FetchV.cells, FetchV.list, KeysV.cells, ViewV.cells, List.append_assoc, List.nil_append, List.cons_append] at this ⊢; first | exact this | simpa using this
instance tw51 {v : FetchV} : SubAt v.cells 2 2 v.v.cells := ⟨by first | (simp [FetchV.cells, FetchV.list, KeysV.list_len, ViewV.list_len]; done) | (have := sub_mid (v.k.list) (v.v.list) ([.int .i64 v.had] ++ [.map v.marks] ++ [.map v.who] ++ [.slice v.l.a v.l.n v.l.c]) (o := 2) (n := 2) (by simp [KeysV.list_len, ViewV.list_len]) (by simp [KeysV.list_len, ViewV.list_len]); simpa [FetchV.cells, FetchV.list, KeysV.cells, ViewV.cells] using this)⟩
instance tw52 {v : FetchV} {u : ViewV} : Put v.cells 2 (.agg u.cells) { v with v := u }.cells := by have := Put.mid (v.k.list) (v.v.list) ([.int .i64 v.had] ++ [.map v.marks] ++ [.map v.who] ++ [.slice v.l.a v.l.n v.l.c]) (cs := v.cells) (o := 2) (n := 2) (v := .agg u.cells) (by simp [FetchV.cells, FetchV.list]) (by simp [KeysV.list_len, ViewV.list_len]) (by simp [KeysV.list_len, ViewV.list_len]) (by simp [Value.cells, KeysV.size, ViewV.size]); simp only [Value.cells, FetchV.cells, FetchV.list, KeysV.cells, ViewV.cells, List.append_assoc, List.nil_append, List.cons_append] at this ⊢; first | exact this | simpa using this
instance tw57 {v : FetchV} : CellAt v.cells 4 (.int .i64 v.had) := ⟨by simp [FetchV.cells, FetchV.list, List.getElem?_append, hlist_length, KeysV.list_len, ViewV.list_len]⟩
instance tw58 {v : FetchV} {u : Int} : Put v.cells 4 (.int .i64 u) { v with had := u }.cells := by have := Put.mid (v.k.list ++ v.v.list) ([.int .i64 v.had]) ([.map v.marks] ++ [.map v.who] ++ [.slice v.l.a v.l.n v.l.c]) (cs := v.cells) (o := 4) (n := 1) (v := .int .i64 u) (by simp [FetchV.cells, FetchV.list]) (by simp [KeysV.list_len, ViewV.list_len]) rfl rfl; simpa [FetchV.cells, FetchV.list, Value.cells] using this
instance tw59 {v : FetchV} : CellAt v.cells 5 (.map v.marks) := ⟨by simp [FetchV.cells, FetchV.list, List.getElem?_append, hlist_length, KeysV.list_len, ViewV.list_len]⟩
instance tw60 {v : FetchV} {u : Option Nat} : Put v.cells 5 (.map u) { v with marks := u }.cells := by have := Put.mid (v.k.list ++ v.v.list ++ [.int .i64 v.had]) ([.map v.marks]) ([.map v.who] ++ [.slice v.l.a v.l.n v.l.c]) (cs := v.cells) (o := 5) (n := 1) (v := .map u) (by simp [FetchV.cells, FetchV.list]) (by simp [KeysV.list_len, ViewV.list_len]) rfl rfl; simpa [FetchV.cells, FetchV.list, Value.cells] using this
instance tw61 {v : FetchV} : CellAt v.cells 6 (.map v.who) := ⟨by simp [FetchV.cells, FetchV.list, List.getElem?_append, hlist_length, KeysV.list_len, ViewV.list_len]⟩
instance tw62 {v : FetchV} {u : Option Nat} : Put v.cells 6 (.map u) { v with who := u }.cells := by have := Put.mid (v.k.list ++ v.v.list ++ [.int .i64 v.had] ++ [.map v.marks]) ([.map v.who]) ([.slice v.l.a v.l.n v.l.c]) (cs := v.cells) (o := 6) (n := 1) (v := .map u) (by simp [FetchV.cells, FetchV.list]) (by simp [KeysV.list_len, ViewV.list_len]) rfl rfl; simpa [FetchV.cells, FetchV.list, Value.cells] using this
instance tw63 {v : FetchV} : CellAt v.cells 7 (.slice v.l.a v.l.n v.l.c) := ⟨by simp [FetchV.cells, FetchV.list, List.getElem?_append, hlist_length, KeysV.list_len, ViewV.list_len]⟩
instance tw64 {v : FetchV} {a : Option Addr} {n c : Nat} : Put v.cells 7 (.slice a n c) { v with l := ⟨a, n, c⟩ }.cells := by have := Put.mid (v.k.list ++ v.v.list ++ [.int .i64 v.had] ++ [.map v.marks] ++ [.map v.who]) ([.slice v.l.a v.l.n v.l.c]) ([] : List Value) (cs := v.cells) (o := 7) (n := 1) (v := .slice a n c) (by simp [FetchV.cells, FetchV.list]) (by simp [KeysV.list_len, ViewV.list_len]) rfl rfl; simpa [FetchV.cells, FetchV.list, Value.cells] using this
instance tw65 {f0 : KeysV} {f1 : ViewV} {f2 : Int} {f3 : Option Nat} {f4 : Option Nat} {f5 : Sl} : CellAt (FetchV.mk f0 f1 f2 f3 f4 f5).cells 4 (.int .i64 f2) := inferInstanceAs (CellAt (FetchV.mk f0 f1 f2 f3 f4 f5).cells 4 (.int .i64 (FetchV.mk f0 f1 f2 f3 f4 f5).had))
instance tw66 {f0 : KeysV} {f1 : ViewV} {f2 : Int} {f3 : Option Nat} {f4 : Option Nat} {f5 : Sl} {u : Int} : Put (FetchV.mk f0 f1 f2 f3 f4 f5).cells 4 (.int .i64 u) (FetchV.mk f0 f1 u f3 f4 f5).cells := inferInstanceAs (Put (FetchV.mk f0 f1 f2 f3 f4 f5).cells 4 (.int .i64 u) { (FetchV.mk f0 f1 f2 f3 f4 f5) with had := u }.cells)
instance tw67 {f0 : KeysV} {f1 : ViewV} {f2 : Int} {f3 : Option Nat} {f4 : Option Nat} {f5 : Sl} : CellAt (FetchV.mk f0 f1 f2 f3 f4 f5).cells 5 (.map f3) := inferInstanceAs (CellAt (FetchV.mk f0 f1 f2 f3 f4 f5).cells 5 (.map (FetchV.mk f0 f1 f2 f3 f4 f5).marks))
instance tw68 {f0 : KeysV} {f1 : ViewV} {f2 : Int} {f3 : Option Nat} {f4 : Option Nat} {f5 : Sl} {u : Option Nat} : Put (FetchV.mk f0 f1 f2 f3 f4 f5).cells 5 (.map u) (FetchV.mk f0 f1 f2 u f4 f5).cells := inferInstanceAs (Put (FetchV.mk f0 f1 f2 f3 f4 f5).cells 5 (.map u) { (FetchV.mk f0 f1 f2 f3 f4 f5) with marks := u }.cells)
instance tw69 {f0 : KeysV} {f1 : ViewV} {f2 : Int} {f3 : Option Nat} {f4 : Option Nat} {f5 : Sl} : CellAt (FetchV.mk f0 f1 f2 f3 f4 f5).cells 6 (.map f4) := inferInstanceAs (CellAt (FetchV.mk f0 f1 f2 f3 f4 f5).cells 6 (.map (FetchV.mk f0 f1 f2 f3 f4 f5).who))
instance tw70 {f0 : KeysV} {f1 : ViewV} {f2 : Int} {f3 : Option Nat} {f4 : Option Nat} {f5 : Sl} {u : Option Nat} : Put (FetchV.mk f0 f1 f2 f3 f4 f5).cells 6 (.map u) (FetchV.mk f0 f1 f2 f3 u f5).cells := inferInstanceAs (Put (FetchV.mk f0 f1 f2 f3 f4 f5).cells 6 (.map u) { (FetchV.mk f0 f1 f2 f3 f4 f5) with who := u }.cells)
instance tw71 {f0 : KeysV} {f1 : ViewV} {f2 : Int} {f3 : Option Nat} {f4 : Option Nat} {f5 : Sl} : CellAt (FetchV.mk f0 f1 f2 f3 f4 f5).cells 7 (.slice f5.a f5.n f5.c) := inferInstanceAs (CellAt (FetchV.mk f0 f1 f2 f3 f4 f5).cells 7 (.slice (FetchV.mk f0 f1 f2 f3 f4 f5).l.a (FetchV.mk f0 f1 f2 f3 f4 f5).l.n (FetchV.mk f0 f1 f2 f3 f4 f5).l.c))
instance tw72 {f0 : KeysV} {f1 : ViewV} {f2 : Int} {f3 : Option Nat} {f4 : Option Nat} {a : Option Addr} {n c : Nat} : CellAt (FetchV.mk f0 f1 f2 f3 f4 (Sl.mk a n c)).cells 7 (.slice a n c) := inferInstanceAs (CellAt (FetchV.mk f0 f1 f2 f3 f4 (Sl.mk a n c)).cells 7 (.slice (FetchV.mk f0 f1 f2 f3 f4 (Sl.mk a n c)).l.a (FetchV.mk f0 f1 f2 f3 f4 (Sl.mk a n c)).l.n (FetchV.mk f0 f1 f2 f3 f4 (Sl.mk a n c)).l.c))
instance tw73 {f0 : KeysV} {f1 : ViewV} {f2 : Int} {f3 : Option Nat} {f4 : Option Nat} {f5 : Sl} {a : Option Addr} {n c : Nat} : Put (FetchV.mk f0 f1 f2 f3 f4 f5).cells 7 (.slice a n c) (FetchV.mk f0 f1 f2 f3 f4 (Sl.mk a n c)).cells := inferInstanceAs (Put (FetchV.mk f0 f1 f2 f3 f4 f5).cells 7 (.slice a n c) { (FetchV.mk f0 f1 f2 f3 f4 f5) with l := (Sl.mk a n c) }.cells)
@[reducible] def FetchV.zero : FetchV := { k := KeysV.zero, v := ViewV.zero, had := 0, marks := none, who := none, l := ⟨none, 0, 0⟩ }
instance tw75 : TyZ Tryz.prog 111 (.agg FetchV.zero.cells) := ⟨by kernel_rfl⟩
structure AskV where
  v : ViewV
  first : Int
  reg : Int
  roots : Sl
def AskV.list (v : AskV) : List Value := v.v.list ++ ([.int .i64 v.first] ++ ([.int .i64 v.reg] ++ ([.slice v.roots.a v.roots.n v.roots.c])))
def AskV.cells (v : AskV) : Array Value := v.list.toArray
theorem AskV.list_len (v : AskV) : v.list.length = 5 := by simp [AskV.list, ViewV.list_len]
theorem AskV.list_one (v : AskV) : v.list.all Value.oneCell' = true := by simp [AskV.list, Value.oneCell', ViewV.list_one]
theorem AskV.size (v : AskV) : v.cells.size = 5 := by simp [AskV.cells, AskV.list_len]
@[reducible] def AskV.zero : AskV := { v := ViewV.zero, first := 0, reg := 0, roots := ⟨none, 0, 0⟩ }
structure AskX where
  v : ViewV
  had : Int
  roots : Sl
def AskX.list (v : AskX) : List Value := v.v.list ++ ([.int .i64 v.had] ++ ([.slice v.roots.a v.roots.n v.roots.c]))
def AskX.cells (v : AskX) : Array Value := v.list.toArray
theorem AskX.list_len (v : AskX) : v.list.length = 4 := by simp [AskX.list, ViewV.list_len]
theorem AskX.list_one (v : AskX) : v.list.all Value.oneCell' = true := by simp [AskX.list, Value.oneCell', ViewV.list_one]
instance tw118 {v : AskX} : Cells v.cells 4 := Cells.list v.list_len v.list_one
theorem AskX.size (v : AskX) : v.cells.size = 4 := by simp [AskX.cells, AskX.list_len]
instance tw120 {v : AskX} : SubAt v.cells 0 4 v.cells := ⟨by have h := v.size; apply Array.ext <;> simp [h]⟩
instance tw122 {v : AskX} : SubAt v.cells 0 2 v.v.cells := ⟨by first | (simp [AskX.cells, AskX.list, ViewV.list_len]; done) | (have := sub_mid ([] : List Value) (v.v.list) ([.int .i64 v.had] ++ [.slice v.roots.a v.roots.n v.roots.c]) (o := 0) (n := 2) (by simp [ViewV.list_len]) (by simp [ViewV.list_len]); simpa [AskX.cells, AskX.list, ViewV.cells] using this)⟩
instance tw126 {v : AskX} : CellAt v.cells 1 (.int .u16 v.v.mask) := ⟨by simp [AskX.cells, AskX.list, ViewV.list, List.getElem?_append, hlist_length, ViewV.list_len]⟩
instance tw128 {v : AskX} : CellAt v.cells 2 (.int .i64 v.had) := ⟨by simp [AskX.cells, AskX.list, List.getElem?_append, hlist_length, ViewV.list_len]⟩
instance tw130 {v : AskX} : CellAt v.cells 3 (.slice v.roots.a v.roots.n v.roots.c) := ⟨by simp [AskX.cells, AskX.list, List.getElem?_append, hlist_length, ViewV.list_len]⟩
instance tw132 {f0 : ViewV} {f1 : Int} {f2 : Sl} : CellAt (AskX.mk f0 f1 f2).cells 2 (.int .i64 f1) := inferInstanceAs (CellAt (AskX.mk f0 f1 f2).cells 2 (.int .i64 (AskX.mk f0 f1 f2).had))
instance tw134 {f0 : ViewV} {f1 : Int} {f2 : Sl} : CellAt (AskX.mk f0 f1 f2).cells 3 (.slice f2.a f2.n f2.c) := inferInstanceAs (CellAt (AskX.mk f0 f1 f2).cells 3 (.slice (AskX.mk f0 f1 f2).roots.a (AskX.mk f0 f1 f2).roots.n (AskX.mk f0 f1 f2).roots.c))
instance tw135 {f0 : ViewV} {f1 : Int} {a : Option Addr} {n c : Nat} : CellAt (AskX.mk f0 f1 (Sl.mk a n c)).cells 3 (.slice a n c) := inferInstanceAs (CellAt (AskX.mk f0 f1 (Sl.mk a n c)).cells 3 (.slice (AskX.mk f0 f1 (Sl.mk a n c)).roots.a (AskX.mk f0 f1 (Sl.mk a n c)).roots.n (AskX.mk f0 f1 (Sl.mk a n c)).roots.c))
@[reducible] def AskX.zero : AskX := { v := ViewV.zero, had := 0, roots := ⟨none, 0, 0⟩ }
instance tw138 : TyZ Tryz.prog 47 (.agg AskX.zero.cells) := ⟨by kernel_rfl⟩
end Go.Proofs.YtnijomppbgdmnaaGreat
