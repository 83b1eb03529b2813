/- Structures for the struct types of stops and fetches, with their cells. Printed by program. -/
import Derived.Test.YtnijomppbgdmnaaTy
namespace Go.Proofs.Ytnijomppbgdmnaa
open Go.RowKit Go.Sx
set_option maxRecDepth 100000
set_option linter.unusedSimpArgs false
set_option linter.unusedVariables false
set_option linter.unnecessarySimpa false
structure StopsV where
  k : KeysV
  v : ViewV
  want : Option Nat
def StopsV.list (v : StopsV) : List Value := v.k.list ++ (v.v.list ++ ([.map v.want]))
def StopsV.cells (v : StopsV) : Array Value := v.list.toArray
theorem StopsV.list_len (v : StopsV) : v.list.length = 5 := by simp [StopsV.list, KeysV.list_len, ViewV.list_len]
theorem StopsV.list_one (v : StopsV) : v.list.all Value.oneCell' = true := by simp [StopsV.list, Value.oneCell', KeysV.list_one, ViewV.list_one]
instance tw8 {v : StopsV} : Cells v.cells 5 := Cells.list v.list_len v.list_one
theorem StopsV.size (v : StopsV) : v.cells.size = 5 := by simp [StopsV.cells, StopsV.list_len]
instance tw10 {v : StopsV} : SubAt v.cells 0 5 v.cells := ⟨by have h := v.size; apply Array.ext <;> simp [h]⟩
instance tw11 {v u : StopsV} : Put v.cells 0 (.agg u.cells) u.cells := ⟨by have := put_mid [] v.list [] (v := .agg u.cells) (o := 0) (n := 5) rfl v.list_len u.size; simpa [StopsV.cells, Value.cells] using this, by simp [Value.cells, StopsV.size]⟩
instance tw12 {v : StopsV} : SubAt v.cells 0 2 v.k.cells := ⟨by first | (simp [StopsV.cells, StopsV.list, KeysV.list_len, ViewV.list_len]; done) | (have := sub_mid ([] : List Value) (v.k.list) (v.v.list ++ [.map v.want]) (o := 0) (n := 2) (by simp [KeysV.list_len, ViewV.list_len]) (by simp [KeysV.list_len, ViewV.list_len]); simpa [StopsV.cells, StopsV.list, KeysV.cells, ViewV.cells] using this)⟩
instance tw13 {v : StopsV} {u : KeysV} : Put v.cells 0 (.agg u.cells) { v with k := u }.cells := by have := Put.mid ([] : List Value) (v.k.list) (v.v.list ++ [.map v.want]) (cs := v.cells) (o := 0) (n := 2) (v := .agg u.cells) (by simp [StopsV.cells, StopsV.list]) (by simp [KeysV.list_len, ViewV.list_len]) (by simp [KeysV.list_len, ViewV.list_len]) (by simp [Value.cells, KeysV.size, ViewV.size]); simp only [Value.cells, StopsV.cells, StopsV.list, KeysV.cells, ViewV.cells, List.append_assoc, List.nil_append, List.cons_append] at this ⊢; first | exact this | simpa using this
instance tw14 {v : StopsV} : CellAt v.cells 0 (.slice v.k.seals.a v.k.seals.ls.length v.k.seals.c) := ⟨by simp [StopsV.cells, StopsV.list, KeysV.list, List.getElem?_append, hlist_length, KeysV.list_len, ViewV.list_len]⟩
instance tw15 {v : StopsV} {a : Option Addr} {l : List BS} {c : Nat} : Put v.cells 0 (.slice a l.length c) { v with k := { v.k with seals := ⟨a, c, l⟩ } }.cells := by have := Put.mid (([] : List Value) ++ (([] : List Value))) ([.slice v.k.seals.a v.k.seals.ls.length v.k.seals.c]) (([.slice v.k.roots.a v.k.roots.n v.k.roots.c] ++ ([] : List Value)) ++ (v.v.list ++ [.map v.want])) (cs := v.cells) (o := 0) (n := 1) (v := .slice a l.length c) (by simp [StopsV.cells, StopsV.list, KeysV.list]) (by simp [KeysV.list_len, ViewV.list_len]) rfl rfl; simpa [StopsV.cells, StopsV.list, KeysV.list, Value.cells] using this
instance tw16 {v : StopsV} : CellAt v.cells 1 (.slice v.k.roots.a v.k.roots.n v.k.roots.c) := ⟨by simp [StopsV.cells, StopsV.list, KeysV.list, List.getElem?_append, hlist_length, KeysV.list_len, ViewV.list_len]⟩
instance tw17 {v : StopsV} {a : Option Addr} {n c : Nat} : Put v.cells 1 (.slice a n c) { v with k := { v.k with roots := ⟨a, n, c⟩ } }.cells := by have := Put.mid (([] : List Value) ++ (([] : List Value) ++ [.slice v.k.seals.a v.k.seals.ls.length v.k.seals.c])) ([.slice v.k.roots.a v.k.roots.n v.k.roots.c]) ((([] : List Value)) ++ (v.v.list ++ [.map v.want])) (cs := v.cells) (o := 1) (n := 1) (v := .slice a n c) (by simp [StopsV.cells, StopsV.list, KeysV.list]) (by simp [KeysV.list_len, ViewV.list_len]) rfl rfl; simpa [StopsV.cells, StopsV.list, KeysV.list, Value.cells] using this
instance tw18 {v : StopsV} : SubAt v.cells 2 2 v.v.cells := ⟨by first | (simp [StopsV.cells, StopsV.list, KeysV.list_len, ViewV.list_len]; done) | (have := sub_mid (v.k.list) (v.v.list) ([.map v.want]) (o := 2) (n := 2) (by simp [KeysV.list_len, ViewV.list_len]) (by simp [KeysV.list_len, ViewV.list_len]); simpa [StopsV.cells, StopsV.list, KeysV.cells, ViewV.cells] using this)⟩
instance tw19 {v : StopsV} {u : ViewV} : Put v.cells 2 (.agg u.cells) { v with v := u }.cells := by have := Put.mid (v.k.list) (v.v.list) ([.map v.want]) (cs := v.cells) (o := 2) (n := 2) (v := .agg u.cells) (by simp [StopsV.cells, StopsV.list]) (by simp [KeysV.list_len, ViewV.list_len]) (by simp [KeysV.list_len, ViewV.list_len]) (by simp [Value.cells, KeysV.size, ViewV.size]); simp only [Value.cells, StopsV.cells, StopsV.list, KeysV.cells, ViewV.cells, List.append_assoc, List.nil_append, List.cons_append] at this ⊢; first | exact this | simpa using this
instance tw20 {v : StopsV} : CellAt v.cells 2 (.int .i64 v.v.num) := ⟨by simp [StopsV.cells, StopsV.list, ViewV.list, List.getElem?_append, hlist_length, KeysV.list_len, ViewV.list_len]⟩
instance tw21 {v : StopsV} {u : Int} : Put v.cells 2 (.int .i64 u) { v with v := { v.v with num := u } }.cells := by have := Put.mid ((v.k.list) ++ (([] : List Value))) ([.int .i64 v.v.num]) (([.int .u16 v.v.mask] ++ ([] : List Value)) ++ ([.map v.want])) (cs := v.cells) (o := 2) (n := 1) (v := .int .i64 u) (by simp [StopsV.cells, StopsV.list, ViewV.list]) (by simp [KeysV.list_len, ViewV.list_len]) rfl rfl; simpa [StopsV.cells, StopsV.list, ViewV.list, Value.cells] using this
instance tw22 {v : StopsV} : CellAt v.cells 3 (.int .u16 v.v.mask) := ⟨by simp [StopsV.cells, StopsV.list, ViewV.list, List.getElem?_append, hlist_length, KeysV.list_len, ViewV.list_len]⟩
instance tw23 {v : StopsV} {u : Int} : Put v.cells 3 (.int .u16 u) { v with v := { v.v with mask := u } }.cells := by have := Put.mid ((v.k.list) ++ (([] : List Value) ++ [.int .i64 v.v.num])) ([.int .u16 v.v.mask]) ((([] : List Value)) ++ ([.map v.want])) (cs := v.cells) (o := 3) (n := 1) (v := .int .u16 u) (by simp [StopsV.cells, StopsV.list, ViewV.list]) (by simp [KeysV.list_len, ViewV.list_len]) rfl rfl; simpa [StopsV.cells, StopsV.list, ViewV.list, Value.cells] using this
instance tw24 {v : StopsV} : CellAt v.cells 4 (.map v.want) := ⟨by simp [StopsV.cells, StopsV.list, List.getElem?_append, hlist_length, KeysV.list_len, ViewV.list_len]⟩
instance tw25 {v : StopsV} {u : Option Nat} : Put v.cells 4 (.map u) { v with want := u }.cells := by have := Put.mid (v.k.list ++ v.v.list) ([.map v.want]) ([] : List Value) (cs := v.cells) (o := 4) (n := 1) (v := .map u) (by simp [StopsV.cells, StopsV.list]) (by simp [KeysV.list_len, ViewV.list_len]) rfl rfl; simpa [StopsV.cells, StopsV.list, Value.cells] using this
instance tw26 {f0 : KeysV} {f1 : ViewV} {f2 : Option Nat} : CellAt (StopsV.mk f0 f1 f2).cells 4 (.map f2) := inferInstanceAs (CellAt (StopsV.mk f0 f1 f2).cells 4 (.map (StopsV.mk f0 f1 f2).want))
instance tw27 {f0 : KeysV} {f1 : ViewV} {f2 : Option Nat} {u : Option Nat} : Put (StopsV.mk f0 f1 f2).cells 4 (.map u) (StopsV.mk f0 f1 u).cells := inferInstanceAs (Put (StopsV.mk f0 f1 f2).cells 4 (.map u) { (StopsV.mk f0 f1 f2) with want := u }.cells)
@[reducible] def StopsV.zero : StopsV := { k := KeysV.zero, v := ViewV.zero, want := none }
instance tw29 : TyZ Try.prog 75 (.agg StopsV.zero.cells) := ⟨by kernel_rfl⟩
structure AskV where
  v : ViewV
  first : Int
  reg : Int
  roots : Sl
def AskV.list (v : AskV) : List Value := v.v.list ++ ([.int .i64 v.first] ++ ([.int .i64 v.reg] ++ ([.slice v.roots.a v.roots.n v.roots.c])))
def AskV.cells (v : AskV) : Array Value := v.list.toArray
theorem AskV.list_len (v : AskV) : v.list.length = 5 := by simp [AskV.list, ViewV.list_len]
theorem AskV.list_one (v : AskV) : v.list.all Value.oneCell' = true := by simp [AskV.list, Value.oneCell', ViewV.list_one]
instance tw39 {v : AskV} : Cells v.cells 5 := Cells.list v.list_len v.list_one
theorem AskV.size (v : AskV) : v.cells.size = 5 := by simp [AskV.cells, AskV.list_len]
instance tw41 {v : AskV} : SubAt v.cells 0 5 v.cells := ⟨by have h := v.size; apply Array.ext <;> simp [h]⟩
instance tw42 {v u : AskV} : Put v.cells 0 (.agg u.cells) u.cells := ⟨by have := put_mid [] v.list [] (v := .agg u.cells) (o := 0) (n := 5) rfl v.list_len u.size; simpa [AskV.cells, Value.cells] using this, by simp [Value.cells, AskV.size]⟩
instance tw43 {v : AskV} : SubAt v.cells 0 2 v.v.cells := ⟨by first | (simp [AskV.cells, AskV.list, ViewV.list_len]; done) | (have := sub_mid ([] : List Value) (v.v.list) ([.int .i64 v.first] ++ [.int .i64 v.reg] ++ [.slice v.roots.a v.roots.n v.roots.c]) (o := 0) (n := 2) (by simp [ViewV.list_len]) (by simp [ViewV.list_len]); simpa [AskV.cells, AskV.list, ViewV.cells] using this)⟩
instance tw44 {v : AskV} {u : ViewV} : Put v.cells 0 (.agg u.cells) { v with v := u }.cells := by have := Put.mid ([] : List Value) (v.v.list) ([.int .i64 v.first] ++ [.int .i64 v.reg] ++ [.slice v.roots.a v.roots.n v.roots.c]) (cs := v.cells) (o := 0) (n := 2) (v := .agg u.cells) (by simp [AskV.cells, AskV.list]) (by simp [ViewV.list_len]) (by simp [ViewV.list_len]) (by simp [Value.cells, ViewV.size]); simp only [Value.cells, AskV.cells, AskV.list, ViewV.cells, List.append_assoc, List.nil_append, List.cons_append] at this ⊢; first | exact this | simpa using this
instance tw45 {v : AskV} : CellAt v.cells 0 (.int .i64 v.v.num) := ⟨by simp [AskV.cells, AskV.list, ViewV.list, List.getElem?_append, hlist_length, ViewV.list_len]⟩
instance tw46 {v : AskV} {u : Int} : Put v.cells 0 (.int .i64 u) { v with v := { v.v with num := u } }.cells := by have := Put.mid (([] : List Value) ++ (([] : List Value))) ([.int .i64 v.v.num]) (([.int .u16 v.v.mask] ++ ([] : List Value)) ++ ([.int .i64 v.first] ++ [.int .i64 v.reg] ++ [.slice v.roots.a v.roots.n v.roots.c])) (cs := v.cells) (o := 0) (n := 1) (v := .int .i64 u) (by simp [AskV.cells, AskV.list, ViewV.list]) (by simp [ViewV.list_len]) rfl rfl; simpa [AskV.cells, AskV.list, ViewV.list, Value.cells] using this
instance tw47 {v : AskV} : CellAt v.cells 1 (.int .u16 v.v.mask) := ⟨by simp [AskV.cells, AskV.list, ViewV.list, List.getElem?_append, hlist_length, ViewV.list_len]⟩
instance tw48 {v : AskV} {u : Int} : Put v.cells 1 (.int .u16 u) { v with v := { v.v with mask := u } }.cells := by have := Put.mid (([] : List Value) ++ (([] : List Value) ++ [.int .i64 v.v.num])) ([.int .u16 v.v.mask]) ((([] : List Value)) ++ ([.int .i64 v.first] ++ [.int .i64 v.reg] ++ [.slice v.roots.a v.roots.n v.roots.c])) (cs := v.cells) (o := 1) (n := 1) (v := .int .u16 u) (by simp [AskV.cells, AskV.list, ViewV.list]) (by simp [ViewV.list_len]) rfl rfl; simpa [AskV.cells, AskV.list, ViewV.list, Value.cells] using this
instance tw49 {v : AskV} : CellAt v.cells 2 (.int .i64 v.first) := ⟨by simp [AskV.cells, AskV.list, List.getElem?_append, hlist_length, ViewV.list_len]⟩
instance tw50 {v : AskV} {u : Int} : Put v.cells 2 (.int .i64 u) { v with first := u }.cells := by have := Put.mid (v.v.list) ([.int .i64 v.first]) ([.int .i64 v.reg] ++ [.slice v.roots.a v.roots.n v.roots.c]) (cs := v.cells) (o := 2) (n := 1) (v := .int .i64 u) (by simp [AskV.cells, AskV.list]) (by simp [ViewV.list_len]) rfl rfl; simpa [AskV.cells, AskV.list, Value.cells] using this
instance tw51 {v : AskV} : CellAt v.cells 3 (.int .i64 v.reg) := ⟨by simp [AskV.cells, AskV.list, List.getElem?_append, hlist_length, ViewV.list_len]⟩
instance tw52 {v : AskV} {u : Int} : Put v.cells 3 (.int .i64 u) { v with reg := u }.cells := by have := Put.mid (v.v.list ++ [.int .i64 v.first]) ([.int .i64 v.reg]) ([.slice v.roots.a v.roots.n v.roots.c]) (cs := v.cells) (o := 3) (n := 1) (v := .int .i64 u) (by simp [AskV.cells, AskV.list]) (by simp [ViewV.list_len]) rfl rfl; simpa [AskV.cells, AskV.list, Value.cells] using this
instance tw53 {v : AskV} : CellAt v.cells 4 (.slice v.roots.a v.roots.n v.roots.c) := ⟨by simp [AskV.cells, AskV.list, List.getElem?_append, hlist_length, ViewV.list_len]⟩
instance tw54 {v : AskV} {a : Option Addr} {n c : Nat} : Put v.cells 4 (.slice a n c) { v with roots := ⟨a, n, c⟩ }.cells := by have := Put.mid (v.v.list ++ [.int .i64 v.first] ++ [.int .i64 v.reg]) ([.slice v.roots.a v.roots.n v.roots.c]) ([] : List Value) (cs := v.cells) (o := 4) (n := 1) (v := .slice a n c) (by simp [AskV.cells, AskV.list]) (by simp [ViewV.list_len]) rfl rfl; simpa [AskV.cells, AskV.list, Value.cells] using this
instance tw55 {f0 : ViewV} {f1 : Int} {f2 : Int} {f3 : Sl} : CellAt (AskV.mk f0 f1 f2 f3).cells 2 (.int .i64 f1) := inferInstanceAs (CellAt (AskV.mk f0 f1 f2 f3).cells 2 (.int .i64 (AskV.mk f0 f1 f2 f3).first))
instance tw56 {f0 : ViewV} {f1 : Int} {f2 : Int} {f3 : Sl} {u : Int} : Put (AskV.mk f0 f1 f2 f3).cells 2 (.int .i64 u) (AskV.mk f0 u f2 f3).cells := inferInstanceAs (Put (AskV.mk f0 f1 f2 f3).cells 2 (.int .i64 u) { (AskV.mk f0 f1 f2 f3) with first := u }.cells)
instance tw57 {f0 : ViewV} {f1 : Int} {f2 : Int} {f3 : Sl} : CellAt (AskV.mk f0 f1 f2 f3).cells 3 (.int .i64 f2) := inferInstanceAs (CellAt (AskV.mk f0 f1 f2 f3).cells 3 (.int .i64 (AskV.mk f0 f1 f2 f3).reg))
instance tw58 {f0 : ViewV} {f1 : Int} {f2 : Int} {f3 : Sl} {u : Int} : Put (AskV.mk f0 f1 f2 f3).cells 3 (.int .i64 u) (AskV.mk f0 f1 u f3).cells := inferInstanceAs (Put (AskV.mk f0 f1 f2 f3).cells 3 (.int .i64 u) { (AskV.mk f0 f1 f2 f3) with reg := u }.cells)
instance tw59 {f0 : ViewV} {f1 : Int} {f2 : Int} {f3 : Sl} : CellAt (AskV.mk f0 f1 f2 f3).cells 4 (.slice f3.a f3.n f3.c) := inferInstanceAs (CellAt (AskV.mk f0 f1 f2 f3).cells 4 (.slice (AskV.mk f0 f1 f2 f3).roots.a (AskV.mk f0 f1 f2 f3).roots.n (AskV.mk f0 f1 f2 f3).roots.c))
instance tw60 {f0 : ViewV} {f1 : Int} {f2 : Int} {a : Option Addr} {n c : Nat} : CellAt (AskV.mk f0 f1 f2 (Sl.mk a n c)).cells 4 (.slice a n c) := inferInstanceAs (CellAt (AskV.mk f0 f1 f2 (Sl.mk a n c)).cells 4 (.slice (AskV.mk f0 f1 f2 (Sl.mk a n c)).roots.a (AskV.mk f0 f1 f2 (Sl.mk a n c)).roots.n (AskV.mk f0 f1 f2 (Sl.mk a n c)).roots.c))
instance tw61 {f0 : ViewV} {f1 : Int} {f2 : Int} {f3 : Sl} {a : Option Addr} {n c : Nat} : Put (AskV.mk f0 f1 f2 f3).cells 4 (.slice a n c) (AskV.mk f0 f1 f2 (Sl.mk a n c)).cells := inferInstanceAs (Put (AskV.mk f0 f1 f2 f3).cells 4 (.slice a n c) { (AskV.mk f0 f1 f2 f3) with roots := (Sl.mk a n c) }.cells)
@[reducible] def AskV.zero : AskV := { v := ViewV.zero, first := 0, reg := 0, roots := ⟨none, 0, 0⟩ }
instance tw63 : TyZ Try.prog 27 (.agg AskV.zero.cells) := ⟨by kernel_rfl⟩
end Go.Proofs.Ytnijomppbgdmnaa
