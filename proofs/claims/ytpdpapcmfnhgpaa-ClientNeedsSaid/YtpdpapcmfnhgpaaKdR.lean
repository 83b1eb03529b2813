/- Walks, by what they read of: views, cells, worlds of bytes. -/
import Derived.Test.YtpdpapcmfnhgpaaKcR
import Derived.Test.YtpdpapcmfnhgpaaViR
namespace Go.Proofs.Ytpdpapcmfnhgpaa
open Go.RowKit Go.Sx
set_option maxRecDepth 100000
set_option linter.unusedSimpArgs false
set_option linter.unusedVariables false
theorem flat_take {α : Type} (f : α → List Value) (m : Nat) (hf : ∀ x, (f x).length = m) : ∀ (l : List α) (i : Nat), (l.take i).flatMap f = (l.flatMap f).take (i * m)
  | [], i => by simp
  | x :: l, 0 => by simp
  | x :: l, i + 1 => by
    rw [List.take_succ_cons, List.flatMap_cons, List.flatMap_cons, flat_take f m hf l i, List.take_append, Nat.add_mul, Nat.one_mul, List.take_of_length_le (l := f x) (by rw [hf]; omega), hf, Nat.add_sub_cancel]
theorem flat_drop {α : Type} (f : α → List Value) (m : Nat) (hf : ∀ x, (f x).length = m) : ∀ (l : List α) (i : Nat), (l.drop i).flatMap f = (l.flatMap f).drop (i * m)
  | [], i => by simp
  | x :: l, 0 => by simp
  | x :: l, i + 1 => by
    rw [List.drop_succ_cons, List.flatMap_cons, flat_drop f m hf l i, List.drop_append, Nat.add_mul, Nat.one_mul, List.drop_of_length_le (l := f x) (by rw [hf]; omega), hf, Nat.add_sub_cancel, List.nil_append]
theorem flat_set {α : Type} {n : Nat} (f : α → List Value) (m : Nat) (hf : ∀ x, (f x).length = m) (v : Vector α n) (i : Nat) (hi : i < n) (u : α) : flatV f (v.set i u) = (flatV f v).take (i * m) ++ (f u ++ (flatV f v).drop ((i + 1) * m)) := by
  unfold flatV
  rw [Vector.toList_set, List.set_eq_take_append_cons_drop, if_pos (by simpa using hi), List.flatMap_append, List.flatMap_cons, flat_take f m hf, flat_drop f m hf]
theorem flat_split {α : Type} {n : Nat} (f : α → List Value) (m : Nat) (hf : ∀ x, (f x).length = m) (v : Vector α n) (i : Nat) (hi : i < n) : flatV f v = (flatV f v).take (i * m) ++ (f v[i] ++ (flatV f v).drop ((i + 1) * m)) := by
  rw [← flat_set f m hf v i hi v[i], Vector.set_getElem_self]
theorem flat_pre {α : Type} {n : Nat} (f : α → List Value) (m : Nat) (hf : ∀ x, (f x).length = m) (v : Vector α n) (i : Nat) (hi : i < n) : ((flatV f v).take (i * m)).length = i * m := by
  rw [List.length_take, flatV_length f m hf, Nat.min_eq_left (Nat.mul_le_mul_right m (Nat.le_of_lt hi))]
/-- An element is put into the cells of an array. -/
theorem put_elem {α : Type} {n : Nat} (f : α → List Value) (m : Nat) (hf : ∀ x, (f x).length = m) (v : Vector α n) (i : Nat) (hi : i < n) (u : α) : Put (flatV f v).toArray (i * m) (.agg (f u).toArray) (flatV f (v.set i u)).toArray := by
  have := Put.mid ((flatV f v).take (i * m)) (f v[i]) ((flatV f v).drop ((i + 1) * m)) (cs := (flatV f v).toArray) (o := i * m) (n := m) (v := .agg (f u).toArray) (congrArg List.toArray (flat_split f m hf v i hi)) (flat_pre f m hf v i hi) (hf _) (by simp [Value.cells, hf])
  rw [flat_set f m hf v i hi u]
  simpa [Value.cells] using this
instance wdv0 {v : Vector CellV 16} : Cells (flatV CellV.list v).toArray 32 := Cells.list (flatV_length _ 2 CellV.list_len v) (flatV_one _ CellV.list_one v)
instance wdv1 {v : Vector CellV 16} : SubAt (flatV CellV.list v).toArray 0 32 (flatV CellV.list v).toArray := ⟨by have h := flatV_length _ 2 CellV.list_len v; apply Array.ext <;> simp [h]⟩
instance wdv2 {v u : Vector CellV 16} : Put (flatV CellV.list v).toArray 0 (.agg (flatV CellV.list u).toArray) (flatV CellV.list u).toArray := ⟨by have := put_mid [] (flatV CellV.list v) [] (v := .agg (flatV CellV.list u).toArray) (o := 0) (n := 32) rfl (flatV_length _ 2 CellV.list_len v) (by simp [Value.cells, flatV_length _ 2 CellV.list_len]); simpa [Value.cells] using this, by simp [Value.cells, flatV_length _ 2 CellV.list_len]⟩
instance wdv3 : TyZ Try.prog 27 (.agg (flatV CellV.list (Vector.replicate 16 CellV.zero)).toArray) := ⟨by kernel_rfl⟩
instance wdp1 {v : WorldV} {u : Int} : Put v.cells 1 (.int .i64 u) { v with first := u }.cells := by
  have := Put.mid v.p0 v.p1 (v.view.list ++ (v.was.list ++ (v.p4 ++ v.p5))) (cs := v.cells) (o := 1) (n := 1) (v := .int .i64 u) (by simp only [WorldV.cells, WorldV.list, List.append_assoc]) rfl rfl rfl
  simpa [WorldV.cells, WorldV.list, Value.cells] using this
instance wdp2 {v : WorldV} {u : ViewV} : Put v.cells 2 (.agg u.cells) { v with view := u }.cells := by
  have := Put.mid (v.p0 ++ v.p1) v.view.list (v.was.list ++ (v.p4 ++ v.p5)) (cs := v.cells) (o := 2) (n := 2) (v := .agg u.cells) (by simp only [WorldV.cells, WorldV.list, List.append_assoc]) rfl v.view.list_len u.size
  simpa [WorldV.cells, WorldV.list, Value.cells, ViewV.cells] using this
instance wdp4 {v : WorldV} {u : ViewV} : Put v.cells 4 (.agg u.cells) { v with was := u }.cells := by
  have := Put.mid (v.p0 ++ (v.p1 ++ v.view.list)) v.was.list (v.p4 ++ v.p5) (cs := v.cells) (o := 4) (n := 2) (v := .agg u.cells) (by simp only [WorldV.cells, WorldV.list, List.append_assoc]) (by simp [ViewV.list_len]) v.was.list_len u.size
  simpa [WorldV.cells, WorldV.list, Value.cells, ViewV.cells] using this
instance wdp6 {v : WorldV} {u : Vector CellV 16} : Put v.cells 6 (.agg (flatV CellV.list u).toArray) { v with cs := u }.cells := by
  have := Put.mid (v.p0 ++ (v.p1 ++ (v.view.list ++ v.was.list))) v.p4 v.p5 (cs := v.cells) (o := 6) (n := 32) (v := .agg (flatV CellV.list u).toArray) (by simp only [WorldV.cells, WorldV.list, List.append_assoc]) (by simp [ViewV.list_len]) v.l4 (by simp [Value.cells, flatV_length _ 2 CellV.list_len])
  simpa [WorldV.cells, WorldV.list, Value.cells] using this
end Go.Proofs.Ytpdpapcmfnhgpaa
