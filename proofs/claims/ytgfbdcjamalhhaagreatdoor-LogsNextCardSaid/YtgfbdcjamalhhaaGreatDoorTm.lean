/- Acts done to logs, with their cells. Printed by program. -/
import Derived.Test.YtgfbdcjamalhhaaGreatDoorTl
namespace Go.Proofs.YtgfbdcjamalhhaaGreatDoor
open Go.RowKit Go.Sx
set_option maxRecDepth 100000
set_option linter.unusedSimpArgs false
set_option linter.unusedVariables false
set_option linter.unnecessarySimpa false
structure LActV where
  kind : Int
  n : Int
  b : BS
  p : PlanV
def LActV.list (v : LActV) : List Value := [.int .i64 v.kind] ++ ([.int .i64 v.n] ++ ([.slice v.b.a v.b.l.length v.b.c] ++ (v.p.list)))
def LActV.cells (v : LActV) : Array Value := v.list.toArray
theorem LActV.list_len (v : LActV) : v.list.length = 6 := by simp [LActV.list, PlanV.list_len]
theorem LActV.list_one (v : LActV) : v.list.all Value.oneCell' = true := by simp [LActV.list, Value.oneCell', PlanV.list_one]
instance tm9 {v : LActV} : Cells v.cells 6 := Cells.list v.list_len v.list_one
theorem LActV.size (v : LActV) : v.cells.size = 6 := by simp [LActV.cells, LActV.list_len]
instance tm11 {v : LActV} : SubAt v.cells 0 6 v.cells := ⟨by have h := v.size; apply Array.ext <;> simp [h]⟩
instance tm12 {v u : LActV} : Put v.cells 0 (.agg u.cells) u.cells := ⟨by have := put_mid [] v.list [] (v := .agg u.cells) (o := 0) (n := 6) rfl v.list_len u.size; simpa [LActV.cells, Value.cells] using this, by simp [Value.cells, LActV.size]⟩
instance tm13 {v : LActV} : CellAt v.cells 0 (.int .i64 v.kind) := ⟨by simp [LActV.cells, LActV.list, List.getElem?_append, hlist_length, PlanV.list_len]⟩
instance tm14 {v : LActV} {u : Int} : Put v.cells 0 (.int .i64 u) { v with kind := u }.cells := by have := Put.mid ([] : List Value) ([.int .i64 v.kind]) ([.int .i64 v.n] ++ [.slice v.b.a v.b.l.length v.b.c] ++ v.p.list) (cs := v.cells) (o := 0) (n := 1) (v := .int .i64 u) (by simp [LActV.cells, LActV.list]) (by simp [PlanV.list_len]) rfl rfl; simpa [LActV.cells, LActV.list, Value.cells] using this
instance tm15 {v : LActV} : CellAt v.cells 1 (.int .i64 v.n) := ⟨by simp [LActV.cells, LActV.list, List.getElem?_append, hlist_length, PlanV.list_len]⟩
instance tm16 {v : LActV} {u : Int} : Put v.cells 1 (.int .i64 u) { v with n := u }.cells := by have := Put.mid ([.int .i64 v.kind]) ([.int .i64 v.n]) ([.slice v.b.a v.b.l.length v.b.c] ++ v.p.list) (cs := v.cells) (o := 1) (n := 1) (v := .int .i64 u) (by simp [LActV.cells, LActV.list]) (by simp [PlanV.list_len]) rfl rfl; simpa [LActV.cells, LActV.list, Value.cells] using this
instance tm17 {v : LActV} : CellAt v.cells 2 (.slice v.b.a v.b.l.length v.b.c) := ⟨by simp [LActV.cells, LActV.list, List.getElem?_append, hlist_length, PlanV.list_len]⟩
instance tm18 {v : LActV} {a : Option Addr} {l : List UInt8} {c : Nat} : Put v.cells 2 (.slice a l.length c) { v with b := ⟨a, c, l⟩ }.cells := by have := Put.mid ([.int .i64 v.kind] ++ [.int .i64 v.n]) ([.slice v.b.a v.b.l.length v.b.c]) (v.p.list) (cs := v.cells) (o := 2) (n := 1) (v := .slice a l.length c) (by simp [LActV.cells, LActV.list]) (by simp [PlanV.list_len]) rfl rfl; simpa [LActV.cells, LActV.list, Value.cells] using this
instance (priority := high) tm19 {v : LActV} : Put v.cells 2 (.slice none 0 0) { v with b := ⟨none, 0, []⟩ }.cells := by have := Put.mid ([.int .i64 v.kind] ++ [.int .i64 v.n]) ([.slice v.b.a v.b.l.length v.b.c]) (v.p.list) (cs := v.cells) (o := 2) (n := 1) (v := .slice none 0 0) (by simp [LActV.cells, LActV.list]) (by simp [PlanV.list_len]) rfl rfl; simpa [LActV.cells, LActV.list, Value.cells] using this
instance tm20 {v : LActV} : SubAt v.cells 3 3 v.p.cells := ⟨by first | (simp [LActV.cells, LActV.list, PlanV.list_len]; done) | (have := sub_mid ([.int .i64 v.kind] ++ [.int .i64 v.n] ++ [.slice v.b.a v.b.l.length v.b.c]) (v.p.list) ([] : List Value) (o := 3) (n := 3) (by simp [PlanV.list_len]) (by simp [PlanV.list_len]); simpa [LActV.cells, LActV.list, PlanV.cells] using this)⟩
instance tm21 {v : LActV} {u : PlanV} : Put v.cells 3 (.agg u.cells) { v with p := u }.cells := by have := Put.mid ([.int .i64 v.kind] ++ [.int .i64 v.n] ++ [.slice v.b.a v.b.l.length v.b.c]) (v.p.list) ([] : List Value) (cs := v.cells) (o := 3) (n := 3) (v := .agg u.cells) (by simp [LActV.cells, LActV.list]) (by simp [PlanV.list_len]) (by simp [PlanV.list_len]) (by simp [Value.cells, PlanV.size]); simp only [Value.cells, LActV.cells, LActV.list, PlanV.cells, List.append_assoc, List.nil_append, List.cons_append] at this ⊢; first | exact this | simpa using this
instance tm22 {v : LActV} : CellAt v.cells 3 (.int .u64 v.p.keep) := ⟨by simp [LActV.cells, LActV.list, PlanV.list, List.getElem?_append, hlist_length, PlanV.list_len]⟩
instance tm23 {v : LActV} {u : Int} : Put v.cells 3 (.int .u64 u) { v with p := { v.p with keep := u } }.cells := by have := Put.mid (([.int .i64 v.kind] ++ [.int .i64 v.n] ++ [.slice v.b.a v.b.l.length v.b.c]) ++ (([] : List Value))) ([.int .u64 v.p.keep]) (([.int .i64 v.p.torn] ++ [.int .i64 v.p.cut] ++ ([] : List Value)) ++ ([] : List Value)) (cs := v.cells) (o := 3) (n := 1) (v := .int .u64 u) (by simp [LActV.cells, LActV.list, PlanV.list]) (by simp [PlanV.list_len]) rfl rfl; simpa [LActV.cells, LActV.list, PlanV.list, Value.cells] using this
instance tm24 {v : LActV} : CellAt v.cells 4 (.int .i64 v.p.torn) := ⟨by simp [LActV.cells, LActV.list, PlanV.list, List.getElem?_append, hlist_length, PlanV.list_len]⟩
instance tm25 {v : LActV} {u : Int} : Put v.cells 4 (.int .i64 u) { v with p := { v.p with torn := u } }.cells := by have := Put.mid (([.int .i64 v.kind] ++ [.int .i64 v.n] ++ [.slice v.b.a v.b.l.length v.b.c]) ++ (([] : List Value) ++ [.int .u64 v.p.keep])) ([.int .i64 v.p.torn]) (([.int .i64 v.p.cut] ++ ([] : List Value)) ++ ([] : List Value)) (cs := v.cells) (o := 4) (n := 1) (v := .int .i64 u) (by simp [LActV.cells, LActV.list, PlanV.list]) (by simp [PlanV.list_len]) rfl rfl; simpa [LActV.cells, LActV.list, PlanV.list, Value.cells] using this
instance tm26 {v : LActV} : CellAt v.cells 5 (.int .i64 v.p.cut) := ⟨by simp [LActV.cells, LActV.list, PlanV.list, List.getElem?_append, hlist_length, PlanV.list_len]⟩
instance tm27 {v : LActV} {u : Int} : Put v.cells 5 (.int .i64 u) { v with p := { v.p with cut := u } }.cells := by have := Put.mid (([.int .i64 v.kind] ++ [.int .i64 v.n] ++ [.slice v.b.a v.b.l.length v.b.c]) ++ (([] : List Value) ++ [.int .u64 v.p.keep] ++ [.int .i64 v.p.torn])) ([.int .i64 v.p.cut]) ((([] : List Value)) ++ ([] : List Value)) (cs := v.cells) (o := 5) (n := 1) (v := .int .i64 u) (by simp [LActV.cells, LActV.list, PlanV.list]) (by simp [PlanV.list_len]) rfl rfl; simpa [LActV.cells, LActV.list, PlanV.list, Value.cells] using this
instance tm28 {f0 : Int} {f1 : Int} {f2 : BS} {f3 : PlanV} : CellAt (LActV.mk f0 f1 f2 f3).cells 0 (.int .i64 f0) := inferInstanceAs (CellAt (LActV.mk f0 f1 f2 f3).cells 0 (.int .i64 (LActV.mk f0 f1 f2 f3).kind))
instance tm29 {f0 : Int} {f1 : Int} {f2 : BS} {f3 : PlanV} {u : Int} : Put (LActV.mk f0 f1 f2 f3).cells 0 (.int .i64 u) (LActV.mk u f1 f2 f3).cells := inferInstanceAs (Put (LActV.mk f0 f1 f2 f3).cells 0 (.int .i64 u) { (LActV.mk f0 f1 f2 f3) with kind := u }.cells)
instance tm30 {f0 : Int} {f1 : Int} {f2 : BS} {f3 : PlanV} : CellAt (LActV.mk f0 f1 f2 f3).cells 1 (.int .i64 f1) := inferInstanceAs (CellAt (LActV.mk f0 f1 f2 f3).cells 1 (.int .i64 (LActV.mk f0 f1 f2 f3).n))
instance tm31 {f0 : Int} {f1 : Int} {f2 : BS} {f3 : PlanV} {u : Int} : Put (LActV.mk f0 f1 f2 f3).cells 1 (.int .i64 u) (LActV.mk f0 u f2 f3).cells := inferInstanceAs (Put (LActV.mk f0 f1 f2 f3).cells 1 (.int .i64 u) { (LActV.mk f0 f1 f2 f3) with n := u }.cells)
instance tm32 {f0 : Int} {f1 : Int} {f2 : BS} {f3 : PlanV} : CellAt (LActV.mk f0 f1 f2 f3).cells 2 (.slice f2.a f2.l.length f2.c) := inferInstanceAs (CellAt (LActV.mk f0 f1 f2 f3).cells 2 (.slice (LActV.mk f0 f1 f2 f3).b.a (LActV.mk f0 f1 f2 f3).b.l.length (LActV.mk f0 f1 f2 f3).b.c))
instance tm33 {f0 : Int} {f1 : Int} {f3 : PlanV} {a : Option Addr} {c : Nat} {l : List UInt8} : CellAt (LActV.mk f0 f1 (BS.mk a c l) f3).cells 2 (.slice a l.length c) := inferInstanceAs (CellAt (LActV.mk f0 f1 (BS.mk a c l) f3).cells 2 (.slice (LActV.mk f0 f1 (BS.mk a c l) f3).b.a (LActV.mk f0 f1 (BS.mk a c l) f3).b.l.length (LActV.mk f0 f1 (BS.mk a c l) f3).b.c))
instance tm34 {f0 : Int} {f1 : Int} {f2 : BS} {f3 : PlanV} {a : Option Addr} {c : Nat} {l : List UInt8} : Put (LActV.mk f0 f1 f2 f3).cells 2 (.slice a l.length c) (LActV.mk f0 f1 (BS.mk a c l) f3).cells := inferInstanceAs (Put (LActV.mk f0 f1 f2 f3).cells 2 (.slice a l.length c) { (LActV.mk f0 f1 f2 f3) with b := (BS.mk a c l) }.cells)
instance (priority := high) tm35 {f0 : Int} {f1 : Int} {f2 : BS} {f3 : PlanV} : Put (LActV.mk f0 f1 f2 f3).cells 2 (.slice none 0 0) (LActV.mk f0 f1 ⟨none, 0, []⟩ f3).cells := inferInstanceAs (Put (LActV.mk f0 f1 f2 f3).cells 2 (.slice none 0 0) { (LActV.mk f0 f1 f2 f3) with b := ⟨none, 0, []⟩ }.cells)
@[reducible] def LActV.zero : LActV := { kind := 0, n := 0, b := ⟨none, 0, []⟩, p := PlanV.zero }
instance tm37 : TyZ Tryz.prog 40 (.agg LActV.zero.cells) := ⟨by kernel_rfl⟩
end Go.Proofs.YtgfbdcjamalhhaaGreatDoor
