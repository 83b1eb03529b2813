/- Walks, by what they read of: views, cells, worlds of bytes. -/
import Derived.Test.YtpdpapcmfnhgpaaKc
import Derived.Test.YtpdpapcmfnhgpaaVi
namespace Go.Proofs.Ytpdpapcmfnhgpaa
open Go.RowKit Go.Sx
set_option maxRecDepth 100000
set_option linter.unusedSimpArgs false
set_option linter.unusedVariables false
theorem T_ex {P : Program} {n : Fr} {w0 : World} {σ : Env} {H : List SA} {Q : Post} {α : Type} {c : Code} {H' : α → List SA} (hs : ∀ w, St w0 H w → ∃ x, St w0 (H' x) w) (h : ∀ x, T P n w0 c σ (H' x) Q) : T P n w0 c σ H Q := fun a w ha hw => let ⟨x, hx⟩ := hs w hw; h x a w ha hx
theorem flat_take {α : Type} (f : α → List Value) (m : Nat) (hf : ∀ x, (f x).length = m) : ∀ (l : List α) (i : Nat), (l.take i).flatMap f = (l.flatMap f).take (i * m)
  | [], i => by simp
  | x :: l, 0 => by simp
  | x :: l, i + 1 => by
    rw [List.take_succ_cons, List.flatMap_cons, List.flatMap_cons, flat_take f m hf l i, List.take_append, Nat.add_mul, Nat.one_mul, List.take_of_length_le (l := f x) (by rw [hf]; omega), hf, Nat.add_sub_cancel]
theorem flat_drop {α : Type} (f : α → List Value) (m : Nat) (hf : ∀ x, (f x).length = m) : ∀ (l : List α) (i : Nat), (l.drop i).flatMap f = (l.flatMap f).drop (i * m)
  | [], i => by simp
  | x :: l, 0 => by simp
  | x :: l, i + 1 => by
    rw [List.drop_succ_cons, List.flatMap_cons, flat_drop f m hf l i, List.drop_append, Nat.add_mul, Nat.one_mul, List.drop_of_length_le (l := f x) (by rw [hf]; omega), hf, Nat.add_sub_cancel, List.nil_append]
theorem flat_set {α : Type} {n : Nat} (f : α → List Value) (m : Nat) (hf : ∀ x, (f x).length = m) (v : Vector α n) (i : Nat) (hi : i < n) (u : α) : flatV f (v.set i u) = (flatV f v).take (i * m) ++ (f u ++ (flatV f v).drop ((i + 1) * m)) := by
  unfold flatV
  rw [Vector.toList_set, List.set_eq_take_append_cons_drop, if_pos (by simpa using hi), List.flatMap_append, List.flatMap_cons, flat_take f m hf, flat_drop f m hf]
theorem flat_split {α : Type} {n : Nat} (f : α → List Value) (m : Nat) (hf : ∀ x, (f x).length = m) (v : Vector α n) (i : Nat) (hi : i < n) : flatV f v = (flatV f v).take (i * m) ++ (f v[i] ++ (flatV f v).drop ((i + 1) * m)) := by
  rw [← flat_set f m hf v i hi v[i], Vector.set_getElem_self]
theorem flat_pre {α : Type} {n : Nat} (f : α → List Value) (m : Nat) (hf : ∀ x, (f x).length = m) (v : Vector α n) (i : Nat) (hi : i < n) : ((flatV f v).take (i * m)).length = i * m := by
  rw [List.length_take, flatV_length f m hf, Nat.min_eq_left (Nat.mul_le_mul_right m (Nat.le_of_lt hi))]
/-- An element is put into the cells of an array. -/
theorem put_elem {α : Type} {n : Nat} (f : α → List Value) (m : Nat) (hf : ∀ x, (f x).length = m) (v : Vector α n) (i : Nat) (hi : i < n) (u : α) : Put (flatV f v).toArray (i * m) (.agg (f u).toArray) (flatV f (v.set i u)).toArray := by
  have := Put.mid ((flatV f v).take (i * m)) (f v[i]) ((flatV f v).drop ((i + 1) * m)) (cs := (flatV f v).toArray) (o := i * m) (n := m) (v := .agg (f u).toArray) (congrArg List.toArray (flat_split f m hf v i hi)) (flat_pre f m hf v i hi) (hf _) (by simp [Value.cells, hf])
  rw [flat_set f m hf v i hi u]
  simpa [Value.cells] using this
instance wdv0 {v : Vector CellV 16} : Cells (flatV CellV.list v).toArray 32 := Cells.list (flatV_length _ 2 CellV.list_len v) (flatV_one _ CellV.list_one v)
instance wdv1 {v : Vector CellV 16} : SubAt (flatV CellV.list v).toArray 0 32 (flatV CellV.list v).toArray := ⟨by have h := flatV_length _ 2 CellV.list_len v; apply Array.ext <;> simp [h]⟩
instance wdv2 {v u : Vector CellV 16} : Put (flatV CellV.list v).toArray 0 (.agg (flatV CellV.list u).toArray) (flatV CellV.list u).toArray := ⟨by have := put_mid [] (flatV CellV.list v) [] (v := .agg (flatV CellV.list u).toArray) (o := 0) (n := 32) rfl (flatV_length _ 2 CellV.list_len v) (by simp [Value.cells, flatV_length _ 2 CellV.list_len]); simpa [Value.cells] using this, by simp [Value.cells, flatV_length _ 2 CellV.list_len]⟩
instance wdv3 : TyZ Try.prog 27 (.agg (flatV CellV.list (Vector.replicate 16 CellV.zero)).toArray) := ⟨by kernel_rfl⟩
theorem WorldV.list_eq (v : WorldV) : v.list = v.p0 ++ (v.p1 ++ (v.view.list ++ (v.was.list ++ (v.p4 ++ v.p5)))) := rfl
instance wdp1 {v : WorldV} {u : Int} : Put v.cells 1 (.int .i64 u) { v with first := u }.cells := by
  have := Put.mid v.p0 v.p1 (v.view.list ++ (v.was.list ++ (v.p4 ++ v.p5))) (cs := v.cells) (o := 1) (n := 1) (v := .int .i64 u) (by simp only [WorldV.cells, WorldV.list, List.append_assoc]) rfl rfl rfl
  simpa [WorldV.cells, WorldV.list, Value.cells] using this
instance wdp2 {v : WorldV} {u : ViewV} : Put v.cells 2 (.agg u.cells) { v with view := u }.cells := by
  have := Put.mid (v.p0 ++ v.p1) v.view.list (v.was.list ++ (v.p4 ++ v.p5)) (cs := v.cells) (o := 2) (n := 2) (v := .agg u.cells) (by simp only [WorldV.cells, WorldV.list, List.append_assoc]) rfl v.view.list_len u.size
  simpa [WorldV.cells, WorldV.list, Value.cells, ViewV.cells] using this
instance wdp4 {v : WorldV} {u : ViewV} : Put v.cells 4 (.agg u.cells) { v with was := u }.cells := by
  have := Put.mid (v.p0 ++ (v.p1 ++ v.view.list)) v.was.list (v.p4 ++ v.p5) (cs := v.cells) (o := 4) (n := 2) (v := .agg u.cells) (by simp only [WorldV.cells, WorldV.list, List.append_assoc]) (by simp [ViewV.list_len]) v.was.list_len u.size
  simpa [WorldV.cells, WorldV.list, Value.cells, ViewV.cells] using this
instance wdp6 {v : WorldV} {u : Vector CellV 16} : Put v.cells 6 (.agg (flatV CellV.list u).toArray) { v with cs := u }.cells := by
  have := Put.mid (v.p0 ++ (v.p1 ++ (v.view.list ++ v.was.list))) v.p4 v.p5 (cs := v.cells) (o := 6) (n := 32) (v := .agg (flatV CellV.list u).toArray) (by simp only [WorldV.cells, WorldV.list, List.append_assoc]) (by simp [ViewV.list_len]) v.l4 (by simp [Value.cells, flatV_length _ 2 CellV.list_len])
  simpa [WorldV.cells, WorldV.list, Value.cells] using this
theorem put_last (v : WorldV) (k : Nat) (hk : k < 6) (u : ReplyV) : Put v.cells (38 + k * 5) (.agg u.cells) { v with last := v.last.set k u }.cells := by
  have := Put.mid (v.p0 ++ (v.p1 ++ (v.view.list ++ (v.was.list ++ (v.p4 ++ v.p5.take (k * 5)))))) v.last[k].list (v.p5.drop ((k + 1) * 5)) (cs := v.cells) (o := 38 + k * 5) (n := 5) (v := .agg u.cells)
    (by rw [WorldV.cells, WorldV.list]; conv => lhs; rw [show v.p5 = _ from flat_split ReplyV.list 5 ReplyV.list_len v.last k hk]
        simp only [List.append_assoc])
    (by simp only [List.length_append, ViewV.list_len, v.l4, flat_pre ReplyV.list 5 ReplyV.list_len v.last k hk, List.length_singleton]; omega) (ReplyV.list_len _) u.size
  simpa [WorldV.cells, WorldV.list, Value.cells, ReplyV.cells, flat_set ReplyV.list 5 ReplyV.list_len v.last k hk u] using this
theorem rdFixed_two (l : List UInt8) : (rdFixed l 2).2.1 < 65536 ∧ (rdFixed l 2).2.2 ≤ l.length := by
  unfold rdFixed
  rw [if_neg (by decide)]
  split
  · exact ⟨by decide, Nat.zero_le _⟩
  · rename_i h
    have := beN_lt (l.take (2 : Int).toNat)
    have h2 : (256 : Nat) ^ (l.take (2 : Int).toNat).length ≤ 256 ^ 2 := Nat.pow_le_pow_right (by decide) (by simp; omega)
    have h3 : (256 : Nat) ^ 2 = 65536 := by decide
    exact ⟨by show beN _ < _; omega, by show (2 : Int).toNat ≤ _; omega⟩
theorem fixedW_c {w0 : World} {H : List SA} {p k : Nat} {b : BS} [rb : RdB w0 H (.slice b.a b.l.length b.c) b.l] (hk : k ≤ b.l.length) (hl : b.l.length ≤ 4294967296) :
    CT Try.prog w0 (blk p (.cells (ReaderV.mk b (k : Int)).cells 243 (0, 0)) :: H) 109 [.pointer (some ⟨p, 0, none⟩), .int .i64 2] (α := Nat × Nat × Int) (fun y => .tuple #[.int .u64 (y.1 : Int), .int .i64 y.2.2]) (fun y => pu (y.1 < 65536 ∧ y.2.1 ≤ b.l.length) :: blk p (.cells (ReaderV.mk b (y.2.1 : Int)).cells 243 (0, 0)) :: H) :=
  CT.mono (fixed_c (rb := rb) hk hl (n := 2)) (fun x w hw => ⟨((rdFixed (b.l.drop k) 2).2.1, k + (rdFixed (b.l.drop k) 2).2.2, (rdFixed (b.l.drop k) 2).1), rfl, St.addPure hw (by
    have := rdFixed_two (b.l.drop k)
    rw [List.length_drop] at this
    exact ⟨this.1, by show k + _ ≤ _; omega⟩)⟩)
theorem foldedW_c {w0 : World} {H : List SA} {p k : Nat} {b : BS} [rb : RdB w0 H (.slice b.a b.l.length b.c) b.l] (hk : k ≤ b.l.length) (hl : b.l.length ≤ 4294967296) :
    CT Try.prog w0 (blk p (.cells (ReaderV.mk b (k : Int)).cells 243 (0, 0)) :: H) 110 [.pointer (some ⟨p, 0, none⟩)] (α := Int × Nat × Int) (fun y => .tuple #[.int .i64 y.1, .int .i64 y.2.2]) (fun y => pu (y.2.1 ≤ b.l.length) :: blk p (.cells (ReaderV.mk b (y.2.1 : Int)).cells 243 (0, 0)) :: H) :=
  CT.mono (folded_c (rb := rb) hk hl) (fun x w hw => ⟨(_, k + (rdPacked (b.l.drop k)).2.2, _), rfl, St.addPure hw (by
    have := (rdPacked_bound (b.l.drop k)).2.1
    rw [List.length_drop] at this
    show k + _ ≤ _; omega)⟩)
theorem rdCount_le {l : List UInt8} {m : Nat} : (rdCount l (m : Int)).2.1 ≤ m := by
  by_cases h : (rdCount l (m : Int)).1 = 0
  · have := rdCount_ok h
    rw [this.1]; omega
  · rw [rdCount_err h]; exact Nat.zero_le _
theorem countW_c {w0 : World} {H : List SA} {m : Nat} (hm : m ≤ 1000000) {p k : Nat} {b : BS} [rb : RdB w0 H (.slice b.a b.l.length b.c) b.l] (hk : k ≤ b.l.length) (hl : b.l.length ≤ 4294967296) :
    CT Try.prog w0 (blk p (.cells (ReaderV.mk b (k : Int)).cells 243 (0, 0)) :: H) 145 [.pointer (some ⟨p, 0, none⟩), .int .i64 (m : Int)] (α := Nat × Nat × Int) (fun y => .tuple #[.int .i64 (y.1 : Int), .int .i64 y.2.2]) (fun y => pu (y.1 ≤ m ∧ y.2.1 ≤ b.l.length) :: blk p (.cells (ReaderV.mk b (y.2.1 : Int)).cells 243 (0, 0)) :: H) :=
  CT.mono (count_c (rb := rb) hk hl (m := (m : Int)) (by omega)) (fun x w hw => ⟨((rdCount (b.l.drop k) m).2.1, k + (rdCount (b.l.drop k) m).2.2, _), rfl, St.addPure hw (by
    have := (rdCount_bound (b.l.drop k) m).2.1
    rw [List.length_drop] at this
    exact ⟨rdCount_le, by show k + _ ≤ _; omega⟩)⟩)
theorem textW_c {w0 : World} {H : List SA} {m : Int} (hm : m ≤ 9223372036854775807) {p k : Nat} {b : BS} [rb : RdB w0 H (.slice b.a b.l.length b.c) b.l] (hk : k ≤ b.l.length) (hl : b.l.length ≤ 4294967296) :
    CT Try.prog w0 (blk p (.cells (ReaderV.mk b (k : Int)).cells 243 (0, 0)) :: H) 100 [.pointer (some ⟨p, 0, none⟩), .int .i64 m] (α := BS × Nat × Int) (fun y => .tuple #[.slice y.1.a y.1.l.length y.1.c, .int .i64 y.2.2]) (fun y => pu (y.1.l.length ≤ b.l.length ∧ y.2.1 ≤ b.l.length) :: row (.slice y.1.a y.1.l.length y.1.c) 5 1 (bytesV y.1.l) :: blk p (.cells (ReaderV.mk b (y.2.1 : Int)).cells 243 (0, 0)) :: H) :=
  CT.mono (text_c (rb := rb) hk hl hm) (fun x w hw => ⟨(⟨x.a, x.c, (rdText (b.l.drop k) m).2.1⟩, k + (rdText (b.l.drop k) m).2.2, _), rfl, St.addPure hw (by
    have := rdText_bound (b.l.drop k) m
    rw [List.length_drop] at this
    exact ⟨by show (rdText (b.l.drop k) m).2.1.length ≤ _; omega, by show k + _ ≤ _; omega⟩)⟩)
theorem doneW_c {w0 : World} {H : List SA} {p k : Nat} {b : BS} [rb : RdB w0 H (.slice b.a b.l.length b.c) b.l] (hk : k ≤ b.l.length) (hl : b.l.length ≤ 4294967296) :
    CT Try.prog w0 (blk p (.cells (ReaderV.mk b (k : Int)).cells 243 (0, 0)) :: H) 101 [.pointer (some ⟨p, 0, none⟩)] (α := Int) (fun y => .int .i64 y) (fun _ => blk p (.cells (ReaderV.mk b (k : Int)).cells 243 (0, 0)) :: H) :=
  CT.mono (done_c (rb := rb) hk hl) (fun x w hw => ⟨_, rfl, hw⟩)

set_option maxHeartbeats 1000000 in
theorem viewsGet_c {w0 : World} {H : List SA} {a : Option Addr} {l : List UInt8} {c : Nat} [hr : RdB w0 H (.slice a l.length c) l] (hl : l.length ≤ 4294967296) :
    CT Try.prog w0 (H) 180 [.slice a l.length c] (α := ViewV × Int) (fun y => .tuple #[.agg y.1.cells, .int .i64 y.2]) (fun _ => H) := by
  refine CT_intro Try.func180 rfl Try.ntmps180 rfl ?_
  refine T_seq ?_
  refine T_region ?_
  refine TL_e rfl (Ef_allocN (fun b2 => ?_))
  refine TL_q (Qt_assign (.int .i64 _) rfl) rfl ?_
  refine TL_nil ?_
  refine X_then ?_
  refine T_seq ?_
  refine T_region ?_
  refine TL_q (Qt_move (.slice _ _ _) rfl) rfl ?_
  refine TL_e rfl (Ef_call (rnew_c hl) rfl (fun x11 => ?_))
  refine TL_pure (fun h11 => ?_)
  refine TL_q (Qt_assign (.pointer _) rfl) rfl ?_
  refine TL_nil ?_
  refine X_then ?_
  refine T_seq ?_
  refine T_region ?_
  refine TL_q (Qt_move (.pointer _) rfl) rfl ?_
  refine TL_frontB x11.1 ?_
  refine TL_e rfl (Ef_call (fixedW_c (b := x11.2) (k := 0) (Nat.zero_le _) (by rw [h11]; omega)) rfl (fun x14 => ?_))
  refine TL_pure (fun h14 => ?_)
  refine TL_q (Qt_move (.tuple _) rfl) rfl ?_
  refine TL_q (Qt_extract rfl) rfl ?_
  refine TL_q (Qt_extract rfl) rfl ?_
  refine TL_q (Qt_assign (.int .u64 _) rfl) rfl ?_
  refine TL_q (Qt_assign (.int .i64 _) rfl) rfl ?_
  refine TL_nil ?_
  refine X_then ?_
  refine T_seq ?_
  refine T_region ?_
  refine TL_q (Qt_move (.pointer _) rfl) rfl ?_
  refine TL_frontB x11.1 ?_
  refine TL_e rfl (Ef_call (fixedW_c (b := x11.2) (k := x14.2.1) h14.2 (by rw [h11]; omega)) rfl (fun x19 => ?_))
  refine TL_pure (fun h19 => ?_)
  have h19b := h19.1
  refine TL_q (Qt_move (.tuple _) rfl) rfl ?_
  refine TL_q (Qt_extract rfl) rfl ?_
  refine TL_q (Qt_extract rfl) rfl ?_
  refine TL_q (Qt_assign (.int .u64 _) rfl) rfl ?_
  refine TL_q (Qt_assign (.int .i64 _) rfl) rfl ?_
  refine TL_nil ?_
  refine X_then ?_
  refine T_seq ?_
  refine T_seq ?_
  refine T_region ?_
  refine TL_q (Qt_move (.int .i64 _) rfl) rfl ?_
  refine TL_q (Qt_neq rfl rfl) rfl ?_
  refine TL_nil ?_
  refine X_then ?_
  refine T_cond rfl (fun h23 => ?_) (fun h23 => ?_)
  ·
    have p23 := h23
    try simp only [decide_eq_true_eq, decide_eq_false_iff_not, Bool.not_eq_true', Bool.not_eq_false', Option.isNone_iff_eq_none, ne_eq, Decidable.not_not, Int.not_lt, Int.not_le] at p23
    refine T_seq ?_
    refine T_region ?_
    refine TL_q (Qt_build [] rfl (by kernel_rfl)) rfl ?_
    refine TL_n (Ef_storeN rfl rfl (?_))
    refine TL_q (Qt_assign (.int .i64 _) rfl) rfl ?_
    refine TL_nil ?_
    refine X_then ?_
    refine T_ret ?_
    refine X_then_ret ?_
    exact X_ret (ViewV.zero, 1) [_, _] Try.results180 ⟨⟨_, rfl, res_cellN rfl⟩, rfl, trivial⟩ rfl (Subs.st inferInstance)
  ·
    have p23 := h23
    try simp only [decide_eq_true_eq, decide_eq_false_iff_not, Bool.not_eq_true', Bool.not_eq_false', Option.isNone_iff_eq_none, ne_eq, Decidable.not_not, Int.not_lt, Int.not_le] at p23
    refine T_skip ?_
    refine X_then ?_
    refine T_seq ?_
    refine T_region ?_
    refine TL_q (Qt_move (.int .u64 _) rfl) rfl ?_
    refine TL_q (Qt_conv rfl rfl Try.underlying3) rfl ?_
    refine TL_q (Qt_move (.int .u64 _) rfl) rfl ?_
    refine TL_q (Qt_conv rfl rfl Try.underlying22) rfl ?_
    rw [wrap_nat .u16 rfl (by show _ < 2 ^ 16; omega)]
    refine TL_q (Qt_build [(0, (.int .i64 _)), (1, (.int .u16 _))] rfl (by kernel_rfl)) rfl ?_
    refine TL_e rfl (Ef_allocN (fun b9 => ?_))
    refine TL_n (Ef_storeN rfl rfl (?_))
    refine TL_nil ?_
    refine X_then ?_
    refine T_seq ?_
    refine T_seq ?_
    refine T_region ?_
    refine TL_q (Qt_move (.pointer _) rfl) rfl ?_
    refine TL_frontB x11.1 ?_
    refine TL_e rfl (Ef_call (doneW_c (b := x11.2) (k := x19.2.1) h19.2 (by rw [h11]; omega)) rfl (fun x31 => ?_))
    refine TL_q (Qt_neq rfl rfl) rfl ?_
    refine TL_q (Qt_move (.bool _) rfl) rfl ?_
    refine TL_split 33 rfl (fun h33 => ?_) (fun h33 => ?_)
    ·
      have p33 := h33
      try simp only [decide_eq_true_eq, decide_eq_false_iff_not, Bool.not_eq_true', Bool.not_eq_false', Option.isNone_iff_eq_none, ne_eq, Decidable.not_not, Int.not_lt, Int.not_le] at p33
      refine TL_pass rfl rfl h33 rfl ?_
      refine TL_pass rfl rfl h33 rfl ?_
      refine TL_pass rfl rfl h33 rfl ?_
      refine TL_q (Qt_pick_t (.bool _) rfl h33 rfl) rfl ?_
      refine TL_nil ?_
      refine X_then ?_
      refine T_cond_true rfl rfl ?_
      refine T_seq ?_
      refine T_region ?_
      refine TL_q (Qt_build [] rfl (by kernel_rfl)) rfl ?_
      refine TL_n (Ef_storeN rfl rfl (?_))
      refine TL_q (Qt_assign (.int .i64 _) rfl) rfl ?_
      refine TL_nil ?_
      refine X_then ?_
      refine T_ret ?_
      refine X_then_ret ?_
      exact X_ret (ViewV.zero, 2) [_, _] Try.results180 ⟨⟨_, rfl, res_cellN rfl⟩, rfl, trivial⟩ rfl (Subs.st inferInstance)
    ·
      have p33 := h33
      try simp only [decide_eq_true_eq, decide_eq_false_iff_not, Bool.not_eq_true', Bool.not_eq_false', Option.isNone_iff_eq_none, ne_eq, Decidable.not_not, Int.not_lt, Int.not_le] at p33
      refine TL_take rfl rfl h33 ?_
      refine TL_q (Qt_loadN rfl rfl) rfl ?_
      refine TL_take rfl rfl h33 ?_
      refine TL_e rfl (Ef_call (right_v (mk := x19.1) (by omega)) rfl (fun x35 => ?_))
      refine TL_take rfl rfl h33 ?_
      refine TL_q (Qt_not rfl) rfl ?_
      refine TL_q (Qt_pick_f (.bool _) rfl h33 rfl) rfl ?_
      refine TL_nil ?_
      refine X_then ?_
      refine T_cond rfl (fun h37 => ?_) (fun h37 => ?_)
      ·
        have p37 := h37
        try simp only [decide_eq_true_eq, decide_eq_false_iff_not, Bool.not_eq_true', Bool.not_eq_false', Option.isNone_iff_eq_none, ne_eq, Decidable.not_not, Int.not_lt, Int.not_le] at p37
        refine T_seq ?_
        refine T_region ?_
        refine TL_q (Qt_build [] rfl (by kernel_rfl)) rfl ?_
        refine TL_n (Ef_storeN rfl rfl (?_))
        refine TL_q (Qt_assign (.int .i64 _) rfl) rfl ?_
        refine TL_nil ?_
        refine X_then ?_
        refine T_ret ?_
        refine X_then_ret ?_
        exact X_ret (ViewV.zero, 2) [_, _] Try.results180 ⟨⟨_, rfl, res_cellN rfl⟩, rfl, trivial⟩ rfl (Subs.st inferInstance)
      ·
        have p37 := h37
        try simp only [decide_eq_true_eq, decide_eq_false_iff_not, Bool.not_eq_true', Bool.not_eq_false', Option.isNone_iff_eq_none, ne_eq, Decidable.not_not, Int.not_lt, Int.not_le] at p37
        refine T_skip ?_
        refine X_then ?_
        refine T_seq ?_
        refine T_region ?_
        refine TL_q (Qt_loadN rfl rfl) rfl ?_
        refine TL_n (Ef_storeN rfl rfl (?_))
        refine TL_q (Qt_assign (.int .i64 _) rfl) rfl ?_
        refine TL_nil ?_
        refine X_then ?_
        refine T_ret ?_
        exact X_ret (_, 0) [_, _] Try.results180 ⟨⟨_, rfl, res_cellN rfl⟩, rfl, trivial⟩ rfl (Subs.st inferInstance)
set_option maxHeartbeats 1000000 in
theorem eview_c {w0 : World} {H : List SA} {p k : Nat} {b : BS} [rb : RdB w0 H (.slice b.a b.l.length b.c) b.l] (hk : k ≤ b.l.length) (hl : b.l.length ≤ 4294967296) :
    CT Try.prog w0 (blk p (.cells (ReaderV.mk b (k : Int)).cells 243 (0, 0)) :: H) 147 [.pointer (some ⟨p, 0, none⟩)] (α := (ViewV × Int) × Nat) (fun y => .tuple #[.agg y.1.1.cells, .int .i64 y.1.2]) (fun y => pu (y.2 ≤ b.l.length) :: blk p (.cells (ReaderV.mk b (y.2 : Int)).cells 243 (0, 0)) :: H) := by
  refine CT_intro Try.func147 rfl Try.ntmps147 rfl ?_
  refine T_seq ?_
  refine T_region ?_
  refine TL_e rfl (Ef_allocN (fun b2 => ?_))
  refine TL_q (Qt_assign (.int .i64 _) rfl) rfl ?_
  refine TL_nil ?_
  refine X_then ?_
  refine T_seq ?_
  refine T_region ?_
  refine TL_q (Qt_move (.pointer _) rfl) rfl ?_
  refine TL_frontB p ?_
  refine TL_e rfl (Ef_call (textW_c (m := 1000) (by decide) hk hl) rfl (fun x8 => ?_))
  refine TL_pure (fun h8 => ?_)
  refine TL_q (Qt_move (.tuple _) rfl) rfl ?_
  refine TL_q (Qt_extract rfl) rfl ?_
  refine TL_q (Qt_extract rfl) rfl ?_
  refine TL_q (Qt_assign (.slice _ _ _) rfl) rfl ?_
  refine TL_q (Qt_assign (.int .i64 _) rfl) rfl ?_
  refine TL_nil ?_
  refine X_then ?_
  refine T_seq ?_
  refine T_seq ?_
  refine T_region ?_
  refine TL_q (Qt_move (.int .i64 _) rfl) rfl ?_
  refine TL_q (Qt_neq rfl rfl) rfl ?_
  refine TL_nil ?_
  refine X_then ?_
  refine T_cond rfl (fun h12 => ?_) (fun h12 => ?_)
  ·
    have p12 := h12
    try simp only [decide_eq_true_eq, decide_eq_false_iff_not, Bool.not_eq_true', Bool.not_eq_false', Option.isNone_iff_eq_none, ne_eq, Decidable.not_not, Int.not_lt, Int.not_le] at p12
    refine T_seq ?_
    refine T_region ?_
    refine TL_q (Qt_build [] rfl (by kernel_rfl)) rfl ?_
    refine TL_q (Qt_move (.int .i64 _) rfl) rfl ?_
    refine TL_n (Ef_storeN rfl rfl (?_))
    refine TL_q (Qt_assign (.int .i64 _) rfl) rfl ?_
    refine TL_nil ?_
    refine X_then ?_
    refine T_ret ?_
    refine X_then_ret ?_
    exact X_ret ((ViewV.zero, x8.2.2), x8.2.1) [_, _] Try.results147 ⟨⟨_, rfl, res_cellN rfl⟩, rfl, trivial⟩ rfl (fun w hw => (Subs.st inferInstance w hw : St w0 (blk p (.cells (ReaderV.mk b (x8.2.1 : Int)).cells 243 (0, 0)) :: H) w).addPure h8.2)
  ·
    have p12 := h12
    try simp only [decide_eq_true_eq, decide_eq_false_iff_not, Bool.not_eq_true', Bool.not_eq_false', Option.isNone_iff_eq_none, ne_eq, Decidable.not_not, Int.not_lt, Int.not_le] at p12
    refine T_skip ?_
    refine X_then ?_
    refine T_seq ?_
    refine T_region ?_
    refine TL_q (Qt_move (.slice _ _ _) rfl) rfl ?_
    refine TL_e rfl (Ef_call (viewsGet_c (l := x8.1.l) (by have := h8.1; omega)) rfl (fun x16 => ?_))
    refine TL_q (Qt_extract rfl) rfl ?_
    refine TL_q (Qt_extract rfl) rfl ?_
    refine TL_n (Ef_storeN rfl rfl (?_))
    refine TL_q (Qt_assign (.int .i64 _) rfl) rfl ?_
    refine TL_nil ?_
    refine X_then ?_
    refine T_ret ?_
    exact X_ret (x16, x8.2.1) [_, _] Try.results147 ⟨⟨_, rfl, res_cellN rfl⟩, rfl, trivial⟩ rfl (fun w hw => (Subs.st inferInstance w hw : St w0 (blk p (.cells (ReaderV.mk b (x8.2.1 : Int)).cells 243 (0, 0)) :: H) w).addPure h8.2)
set_option maxHeartbeats 1000000 in
theorem kvSome_c {w0 : World} {H : List SA} {x : Int} :
    CT Try.prog w0 (H) 181 [.int .i64 x] (α := Unit) (fun _ => .agg (CellV.mk true x).cells) (fun _ => H) := by
  refine CT_intro Try.func181 rfl Try.ntmps181 rfl ?_
  refine T_seq ?_
  refine T_region ?_
  refine TL_e rfl (Ef_allocN (fun b2 => ?_))
  refine TL_nil ?_
  refine X_then ?_
  refine T_seq ?_
  refine T_region ?_
  refine TL_q (Qt_move (.int .i64 _) rfl) rfl ?_
  refine TL_q (Qt_build [(0, (.bool _)), (1, (.int .i64 _))] rfl (by kernel_rfl)) rfl ?_
  refine TL_n (Ef_storeN rfl rfl (?_))
  refine TL_nil ?_
  refine X_then ?_
  refine T_ret ?_
  exact X_ret () [_] Try.results181 ⟨⟨_, rfl, res_cellN rfl⟩, trivial⟩ rfl (Subs.st inferInstance)
set_option maxHeartbeats 1000000 in
theorem kvGet_c {w0 : World} {H : List SA} {a : Option Addr} {l : List UInt8} {c : Nat} [hr : RdB w0 H (.slice a l.length c) l] (hl : l.length ≤ 4294967296) :
    CT Try.prog w0 (H) 148 [.slice a l.length c] (α := Vector CellV 16 × Int) (fun y => .tuple #[.agg (flatV CellV.list y.1).toArray, .int .i64 y.2]) (fun _ => H) := by
  refine CT_intro Try.func148 rfl Try.ntmps148 rfl ?_
  refine T_seq ?_
  refine T_region ?_
  refine TL_e rfl (Ef_allocN (fun b2 => ?_))
  refine TL_q (Qt_assign (.int .i64 _) rfl) rfl ?_
  refine TL_nil ?_
  refine X_then ?_
  refine T_seq ?_
  refine T_region ?_
  refine TL_q (Qt_move (.slice _ _ _) rfl) rfl ?_
  refine TL_e rfl (Ef_call (rnew_c hl) rfl (fun x13 => ?_))
  refine TL_pure (fun h13 => ?_)
  refine TL_q (Qt_assign (.pointer _) rfl) rfl ?_
  refine TL_nil ?_
  refine X_then ?_
  refine T_seq ?_
  refine T_region ?_
  refine TL_q (Qt_move (.pointer _) rfl) rfl ?_
  refine TL_frontB x13.1 ?_
  refine TL_e rfl (Ef_call (countW_c (m := 16) (by decide) (b := x13.2) (k := 0) (Nat.zero_le _) (by rw [h13]; omega)) rfl (fun x16 => ?_))
  refine TL_pure (fun h16 => ?_)
  refine TL_q (Qt_move (.tuple _) rfl) rfl ?_
  refine TL_q (Qt_extract rfl) rfl ?_
  refine TL_q (Qt_extract rfl) rfl ?_
  refine TL_q (Qt_assign (.int .i64 _) rfl) rfl ?_
  refine TL_q (Qt_assign (.int .i64 _) rfl) rfl ?_
  refine TL_nil ?_
  refine X_then ?_
  refine T_seq ?_
  refine T_seq ?_
  refine T_region ?_
  refine TL_q (Qt_move (.int .i64 _) rfl) rfl ?_
  refine TL_q (Qt_neq rfl rfl) rfl ?_
  refine TL_nil ?_
  refine X_then ?_
  refine T_cond rfl (fun h20 => ?_) (fun h20 => ?_)
  ·
    have p20 := h20
    try simp only [decide_eq_true_eq, decide_eq_false_iff_not, Bool.not_eq_true', Bool.not_eq_false', Option.isNone_iff_eq_none, ne_eq, Decidable.not_not, Int.not_lt, Int.not_le] at p20
    refine T_seq ?_
    refine T_region ?_
    refine TL_q (Qt_build_arr (flatV CellV.list (Vector.replicate 16 CellV.zero)).toArray (sz := 2) Try.underlying27 rfl rfl rfl) rfl ?_
    refine TL_q (Qt_move (.int .i64 _) rfl) rfl ?_
    refine TL_n (Ef_storeN rfl rfl (?_))
    refine TL_q (Qt_assign (.int .i64 _) rfl) rfl ?_
    refine TL_nil ?_
    refine X_then ?_
    refine T_ret ?_
    refine X_then_ret ?_
    exact X_ret ((Vector.replicate 16 CellV.zero), _) [_, _] Try.results148 ⟨⟨_, rfl, res_cellN rfl⟩, rfl, trivial⟩ rfl (Subs.st inferInstance)
  ·
    have p20 := h20
    try simp only [decide_eq_true_eq, decide_eq_false_iff_not, Bool.not_eq_true', Bool.not_eq_false', Option.isNone_iff_eq_none, ne_eq, Decidable.not_not, Int.not_lt, Int.not_le] at p20
    refine T_skip ?_
    refine X_then ?_
    refine T_seq ?_
    refine T_region ?_
    refine TL_e rfl (Ef_allocN (fun b7 => ?_))
    refine TL_nil ?_
    refine X_then ?_
    refine T_seq ?_
    refine T_region ?_
    refine TL_q (Qt_assign (.int .i64 _) rfl) rfl ?_
    refine TL_nil ?_
    refine X_then ?_
    refine T_seq ?_
    refine T_seq ?_
    refine T_region ?_
    refine TL_q (Qt_move (.int .i64 _) rfl) rfl ?_
    refine TL_q (Qt_move (.int .i64 _) rfl) rfl ?_
    refine TL_nil ?_
    refine X_then ?_
    refine T_block ?_
    refine T_loop [3, 8, 9, 10, 11, 24, 25, 26, 27, 28, 29, 30, 31, 32, 33, 34, 35, 36, 37, 38, 39, 40, 41, 42, 43, 44, 45, 46, 47, 48, 49, 50, 51, 52, 53, 54, 55, 56, 57, 58, 59, 60] [24, 8] (fun us H' => ∃ (k : Nat) (q : Nat) (la : Int) (cs : Vector CellV 16), us = [.int .i64 (k : Int), .int .i64 la] ∧ blk x13.1 (.cells (ReaderV.mk x13.2 (q : Int)).cells 243 (0, 0)) :: blk b7 (.cells (flatV CellV.list cs).toArray 27 (0, 0)) :: blk b2 (.cells (flatV CellV.list (Vector.replicate 16 CellV.zero)).toArray 27 (0, 0)) :: row (.slice x13.2.a x13.2.l.length x13.2.c) 5 1 (bytesV x13.2.l) :: H = H' ∧ k ≤ x16.1 ∧ (q ≤ x13.2.l.length)) (fun us => match us with | .int _ i :: _ => x16.1 - i.toNat | _ => 0) ⟨0, x16.2.1, -1, (Vector.replicate 16 CellV.zero), rfl, rfl, by omega, h16.2⟩ (Subs.st inferInstance) ?_
    rintro τ0 _ _  ⟨k, q, la, cs, rfl, rfl, hk0, hat⟩ _
    refine T_seq ?_
    refine T_region ?_
    refine TL_q (Qt_lss rfl rfl) rfl ?_
    refine TL_nil ?_
    refine X_then ?_
    refine T_seq ?_
    refine T_cond rfl (fun h25 => ?_) (fun h25 => ?_)
    ·
      have p25 := h25
      try simp only [decide_eq_true_eq, decide_eq_false_iff_not, Bool.not_eq_true', Bool.not_eq_false', Option.isNone_iff_eq_none, ne_eq, Decidable.not_not, Int.not_lt, Int.not_le] at p25
      have hk : k < x16.1 := by omega
      refine T_skip ?_
      refine X_then ?_
      refine T_seq ?_
      refine T_block ?_
      refine T_seq ?_
      refine T_region ?_
      refine TL_q (Qt_move (.pointer _) rfl) rfl ?_
      refine TL_frontB x13.1 ?_
      refine TL_e rfl (Ef_call (fixed1_c (b := x13.2) (k := q) hat (by rw [h13]; omega)) rfl (fun x28 => ?_))
      refine TL_pure (fun h28 => ?_)
      have h28b : x28.2.1 ≤ x13.2.l.length := by rcases h28 with h | h <;> omega
      have h28u := x28.1.toNat_lt
      refine TL_q (Qt_move (.tuple _) rfl) rfl ?_
      refine TL_q (Qt_extract rfl) rfl ?_
      refine TL_q (Qt_extract rfl) rfl ?_
      refine TL_q (Qt_assign (.int .u64 _) rfl) rfl ?_
      refine TL_q (Qt_assign (.int .i64 _) rfl) rfl ?_
      refine TL_nil ?_
      refine X_then ?_
      refine T_seq ?_
      refine T_seq ?_
      refine T_region ?_
      refine TL_q (Qt_move (.int .i64 _) rfl) rfl ?_
      refine TL_q (Qt_neq rfl rfl) rfl ?_
      refine TL_nil ?_
      refine X_then ?_
      refine T_cond rfl (fun h32 => ?_) (fun h32 => ?_)
      ·
        have p32 := h32
        try simp only [decide_eq_true_eq, decide_eq_false_iff_not, Bool.not_eq_true', Bool.not_eq_false', Option.isNone_iff_eq_none, ne_eq, Decidable.not_not, Int.not_lt, Int.not_le] at p32
        refine T_seq ?_
        refine T_region ?_
        refine TL_q (Qt_build_arr (flatV CellV.list (Vector.replicate 16 CellV.zero)).toArray (sz := 2) Try.underlying27 rfl rfl rfl) rfl ?_
        refine TL_q (Qt_move (.int .i64 _) rfl) rfl ?_
        refine TL_n (Ef_storeN rfl rfl (?_))
        refine TL_q (Qt_assign (.int .i64 _) rfl) rfl ?_
        refine TL_nil ?_
        refine X_then ?_
        refine T_ret ?_
        refine X_then_ret ?_
        refine X_block_ret ?_
        refine X_then_ret ?_
        refine X_loop_ret ?_
        refine X_block_ret ?_
        refine X_then_ret ?_
        exact X_ret ((Vector.replicate 16 CellV.zero), _) [_, _] Try.results148 ⟨⟨_, rfl, res_cellN rfl⟩, rfl, trivial⟩ rfl (Subs.st inferInstance)
      ·
        have p32 := h32
        try simp only [decide_eq_true_eq, decide_eq_false_iff_not, Bool.not_eq_true', Bool.not_eq_false', Option.isNone_iff_eq_none, ne_eq, Decidable.not_not, Int.not_lt, Int.not_le] at p32
        refine T_skip ?_
        refine X_then ?_
        refine T_seq ?_
        refine T_region ?_
        refine TL_q (Qt_move (.pointer _) rfl) rfl ?_
        refine TL_frontB x13.1 ?_
        refine TL_e rfl (Ef_call (foldedW_c (b := x13.2) (k := x28.2.1) h28b (by rw [h13]; omega)) rfl (fun x37 => ?_))
        refine TL_pure (fun h37 => ?_)
        refine TL_q (Qt_move (.tuple _) rfl) rfl ?_
        refine TL_q (Qt_extract rfl) rfl ?_
        refine TL_q (Qt_extract rfl) rfl ?_
        refine TL_q (Qt_assign (.int .i64 _) rfl) rfl ?_
        refine TL_q (Qt_assign (.int .i64 _) rfl) rfl ?_
        refine TL_nil ?_
        refine X_then ?_
        refine T_seq ?_
        refine T_seq ?_
        refine T_region ?_
        refine TL_q (Qt_move (.int .i64 _) rfl) rfl ?_
        refine TL_q (Qt_neq rfl rfl) rfl ?_
        refine TL_nil ?_
        refine X_then ?_
        refine T_cond rfl (fun h41 => ?_) (fun h41 => ?_)
        ·
          have p41 := h41
          try simp only [decide_eq_true_eq, decide_eq_false_iff_not, Bool.not_eq_true', Bool.not_eq_false', Option.isNone_iff_eq_none, ne_eq, Decidable.not_not, Int.not_lt, Int.not_le] at p41
          refine T_seq ?_
          refine T_region ?_
          refine TL_q (Qt_build_arr (flatV CellV.list (Vector.replicate 16 CellV.zero)).toArray (sz := 2) Try.underlying27 rfl rfl rfl) rfl ?_
          refine TL_q (Qt_move (.int .i64 _) rfl) rfl ?_
          refine TL_n (Ef_storeN rfl rfl (?_))
          refine TL_q (Qt_assign (.int .i64 _) rfl) rfl ?_
          refine TL_nil ?_
          refine X_then ?_
          refine T_ret ?_
          refine X_then_ret ?_
          refine X_block_ret ?_
          refine X_then_ret ?_
          refine X_loop_ret ?_
          refine X_block_ret ?_
          refine X_then_ret ?_
          exact X_ret ((Vector.replicate 16 CellV.zero), _) [_, _] Try.results148 ⟨⟨_, rfl, res_cellN rfl⟩, rfl, trivial⟩ rfl (Subs.st inferInstance)
        ·
          have p41 := h41
          try simp only [decide_eq_true_eq, decide_eq_false_iff_not, Bool.not_eq_true', Bool.not_eq_false', Option.isNone_iff_eq_none, ne_eq, Decidable.not_not, Int.not_lt, Int.not_le] at p41
          refine T_skip ?_
          refine X_then ?_
          refine T_seq ?_
          refine T_seq ?_
          refine T_region ?_
          refine TL_q (Qt_move (.int .u64 _) rfl) rfl ?_
          refine TL_q (Qt_conv_i64 rfl rfl Try.underlying3 (by omega) (by omega)) rfl ?_
          refine TL_q (Qt_geq rfl rfl) rfl ?_
          refine TL_q (Qt_move (.bool _) rfl) rfl ?_
          refine TL_split 47 rfl (fun h47 => ?_) (fun h47 => ?_)
          ·
            have p47 := h47
            try simp only [decide_eq_true_eq, decide_eq_false_iff_not, Bool.not_eq_true', Bool.not_eq_false', Option.isNone_iff_eq_none, ne_eq, Decidable.not_not, Int.not_lt, Int.not_le] at p47
            refine TL_pass rfl rfl h47 rfl ?_
            refine TL_pass rfl rfl h47 rfl ?_
            refine TL_pass rfl rfl h47 rfl ?_
            refine TL_pass rfl rfl h47 rfl ?_
            refine TL_q (Qt_pick_t (.bool _) rfl h47 rfl) rfl ?_
            refine TL_nil ?_
            refine X_then ?_
            refine T_cond_true rfl rfl ?_
            refine T_seq ?_
            refine T_region ?_
            refine TL_q (Qt_build_arr (flatV CellV.list (Vector.replicate 16 CellV.zero)).toArray (sz := 2) Try.underlying27 rfl rfl rfl) rfl ?_
            refine TL_n (Ef_storeN rfl rfl (?_))
            refine TL_q (Qt_assign (.int .i64 _) rfl) rfl ?_
            refine TL_nil ?_
            refine X_then ?_
            refine T_ret ?_
            refine X_then_ret ?_
            refine X_block_ret ?_
            refine X_then_ret ?_
            refine X_loop_ret ?_
            refine X_block_ret ?_
            refine X_then_ret ?_
            exact X_ret ((Vector.replicate 16 CellV.zero), 2) [_, _] Try.results148 ⟨⟨_, rfl, res_cellN rfl⟩, rfl, trivial⟩ rfl (Subs.st inferInstance)
          ·
            have p47 := h47
            try simp only [decide_eq_true_eq, decide_eq_false_iff_not, Bool.not_eq_true', Bool.not_eq_false', Option.isNone_iff_eq_none, ne_eq, Decidable.not_not, Int.not_lt, Int.not_le] at p47
            refine TL_take rfl rfl h47 ?_
            refine TL_q (Qt_move (.int .u64 _) rfl) rfl ?_
            refine TL_take rfl rfl h47 ?_
            refine TL_q (Qt_conv_i64 rfl rfl Try.underlying3 (by omega) (by omega)) rfl ?_
            refine TL_take rfl rfl h47 ?_
            refine TL_q (Qt_move (.int .i64 _) rfl) rfl ?_
            refine TL_take rfl rfl h47 ?_
            refine TL_q (Qt_leq rfl rfl) rfl ?_
            refine TL_q (Qt_pick_f (.bool _) rfl h47 rfl) rfl ?_
            refine TL_nil ?_
            refine X_then ?_
            refine T_cond rfl (fun h52 => ?_) (fun h52 => ?_)
            ·
              have p52 := h52
              try simp only [decide_eq_true_eq, decide_eq_false_iff_not, Bool.not_eq_true', Bool.not_eq_false', Option.isNone_iff_eq_none, ne_eq, Decidable.not_not, Int.not_lt, Int.not_le] at p52
              refine T_seq ?_
              refine T_region ?_
              refine TL_q (Qt_build_arr (flatV CellV.list (Vector.replicate 16 CellV.zero)).toArray (sz := 2) Try.underlying27 rfl rfl rfl) rfl ?_
              refine TL_n (Ef_storeN rfl rfl (?_))
              refine TL_q (Qt_assign (.int .i64 _) rfl) rfl ?_
              refine TL_nil ?_
              refine X_then ?_
              refine T_ret ?_
              refine X_then_ret ?_
              refine X_block_ret ?_
              refine X_then_ret ?_
              refine X_loop_ret ?_
              refine X_block_ret ?_
              refine X_then_ret ?_
              exact X_ret ((Vector.replicate 16 CellV.zero), 2) [_, _] Try.results148 ⟨⟨_, rfl, res_cellN rfl⟩, rfl, trivial⟩ rfl (Subs.st inferInstance)
            ·
              have p52 := h52
              try simp only [decide_eq_true_eq, decide_eq_false_iff_not, Bool.not_eq_true', Bool.not_eq_false', Option.isNone_iff_eq_none, ne_eq, Decidable.not_not, Int.not_lt, Int.not_le] at p52
              have hk16 : x28.1.toNat < 16 := by omega
              have hput : Put (flatV CellV.list cs).toArray (x28.1.toNat * 2) (.agg (CellV.mk true x37.1).cells) _ := put_elem CellV.list 2 CellV.list_len cs x28.1.toNat hk16 (CellV.mk true x37.1)
              refine T_skip ?_
              refine X_then ?_
              refine T_seq ?_
              refine T_region ?_
              refine TL_q (Qt_move (.int .u64 _) rfl) rfl ?_
              refine TL_q (Qt_conv_i64 rfl rfl Try.underlying3 (by omega) (by omega)) rfl ?_
              refine TL_q (Qt_assign (.int .i64 _) rfl) rfl ?_
              refine TL_nil ?_
              refine X_then ?_
              refine T_region ?_
              refine TL_q (Qt_move (.int .u64 _) rfl) rfl ?_
              refine TL_q (Qt_move (.int .i64 _) rfl) rfl ?_
              refine TL_e rfl (Ef_call (kvSome_c) rfl (fun x58 => ?_))
              refine TL_q (Qt_indexAddr_arrC (sz := 2) (x28.1.toNat * 2) x28.1.toNat rfl rfl Try.underlying27 rfl rfl (by rw [Nat.blt_eq]; exact hk16) (by omega)) rfl ?_
              refine TL_n (Ef_storeN rfl rfl (?_))
              refine TL_nil ?_
              refine X_block ?_
              refine X_then ?_
              refine T_region ?_
              first
                | refine TL_q (Qt_add rfl rfl (by omega) (by omega)) rfl ?_
                | refine TL_q (Qt_addw rfl rfl) rfl ?_
              refine TL_q (Qt_move (.int .i64 _) rfl) rfl ?_
              refine TL_nil ?_
              apply X_loop
              case ha => exact (by repeat (first | with_reducible exact agree_refl | refine agree_upd rfl ?_ | refine agree_mix rfl ?_ | refine agree_setAll rfl ?_))
              case hI => exact ⟨k + 1, x37.2.1, (x28.1.toNat : Int), cs.set x28.1.toNat (CellV.mk true x37.1), rfl, rfl, by omega, h37⟩
              case hm => exact by show x16.1 - (k + 1 : Int).toNat < x16.1 - (k : Int).toNat; omega
              case hH => exact (Subs.st inferInstance)
    ·
      have p25 := h25
      try simp only [decide_eq_true_eq, decide_eq_false_iff_not, Bool.not_eq_true', Bool.not_eq_false', Option.isNone_iff_eq_none, ne_eq, Decidable.not_not, Int.not_lt, Int.not_le] at p25
      refine T_exit ?_
      refine X_then_exit ?_
      refine X_loop_exit ?_
      refine X_block_exit ?_
      refine X_then ?_
      refine T_seq ?_
      refine T_seq ?_
      refine T_region ?_
      refine TL_q (Qt_move (.pointer _) rfl) rfl ?_
      refine TL_frontB x13.1 ?_
      refine TL_e rfl (Ef_call (doneW_c (b := x13.2) (k := q) hat (by rw [h13]; omega)) rfl (fun x62 => ?_))
      refine TL_q (Qt_neq rfl rfl) rfl ?_
      refine TL_nil ?_
      refine X_then ?_
      refine T_cond rfl (fun h63 => ?_) (fun h63 => ?_)
      ·
        have p63 := h63
        try simp only [decide_eq_true_eq, decide_eq_false_iff_not, Bool.not_eq_true', Bool.not_eq_false', Option.isNone_iff_eq_none, ne_eq, Decidable.not_not, Int.not_lt, Int.not_le] at p63
        refine T_seq ?_
        refine T_region ?_
        refine TL_q (Qt_build_arr (flatV CellV.list (Vector.replicate 16 CellV.zero)).toArray (sz := 2) Try.underlying27 rfl rfl rfl) rfl ?_
        refine TL_n (Ef_storeN rfl rfl (?_))
        refine TL_q (Qt_assign (.int .i64 _) rfl) rfl ?_
        refine TL_nil ?_
        refine X_then ?_
        refine T_ret ?_
        refine X_then_ret ?_
        exact X_ret ((Vector.replicate 16 CellV.zero), 2) [_, _] Try.results148 ⟨⟨_, rfl, res_cellN rfl⟩, rfl, trivial⟩ rfl (Subs.st inferInstance)
      ·
        have p63 := h63
        try simp only [decide_eq_true_eq, decide_eq_false_iff_not, Bool.not_eq_true', Bool.not_eq_false', Option.isNone_iff_eq_none, ne_eq, Decidable.not_not, Int.not_lt, Int.not_le] at p63
        refine T_skip ?_
        refine X_then ?_
        refine T_seq ?_
        refine T_region ?_
        refine TL_q (Qt_loadN rfl rfl) rfl ?_
        refine TL_n (Ef_storeN rfl rfl (?_))
        refine TL_q (Qt_assign (.int .i64 _) rfl) rfl ?_
        refine TL_nil ?_
        refine X_then ?_
        refine T_ret ?_
        exact X_ret (cs, 0) [_, _] Try.results148 ⟨⟨_, rfl, res_cellN rfl⟩, rfl, trivial⟩ rfl (Subs.st inferInstance)
set_option maxHeartbeats 1000000 in
theorem worldGet_c {w0 : World} {H : List SA} {a : Option Addr} {l : List UInt8} {c : Nat} [hr : RdB w0 H (.slice a l.length c) l] (hl : l.length ≤ 4294967296) :
    CT Try.prog w0 (H) 102 [.slice a l.length c] (α := WorldV × Int) (fun y => .tuple #[.agg y.1.cells, .int .i64 y.2]) (fun _ => H) := by
  refine CT_intro Try.func102 rfl Try.ntmps102 rfl ?_
  refine T_seq ?_
  refine T_region ?_
  refine TL_e rfl (Ef_allocN (fun b2 => ?_))
  refine TL_q (Qt_assign (.int .i64 _) rfl) rfl ?_
  refine TL_nil ?_
  refine X_then ?_
  refine T_seq ?_
  refine T_region ?_
  refine TL_q (Qt_move (.slice _ _ _) rfl) rfl ?_
  refine TL_e rfl (Ef_call (rnew_c hl) rfl (fun x20 => ?_))
  refine TL_pure (fun h20 => ?_)
  refine TL_q (Qt_assign (.pointer _) rfl) rfl ?_
  refine TL_nil ?_
  refine X_then ?_
  refine T_seq ?_
  refine T_region ?_
  refine TL_e rfl (Ef_allocN (fun b5 => ?_))
  refine TL_nil ?_
  refine X_then ?_
  refine T_seq ?_
  refine T_seq ?_
  refine T_region ?_
  refine TL_q (Qt_fieldAddr 0 rfl rfl) rfl ?_
  refine TL_q (Qt_fieldAddr 1 rfl rfl) rfl ?_
  refine TL_q (Qt_build_arr #[(.pointer _), (.pointer _)] Try.underlying246 rfl rfl rfl) rfl ?_
  refine TL_q (Qt_move (.int .i64 _) rfl) rfl ?_
  refine TL_nil ?_
  refine X_then ?_
  refine T_block ?_
  refine T_unroll (TU_round ?_)
  refine T_seq ?_
  refine T_region ?_
  refine TL_q (Qt_lss rfl rfl) rfl ?_
  refine TL_nil ?_
  refine X_then ?_
  refine T_seq ?_
  refine T_cond_true rfl (by first | rfl | decide) ?_
  refine T_skip ?_
  refine X_then ?_
  refine T_seq ?_
  refine T_block ?_
  refine T_seq ?_
  refine T_region ?_
  refine TL_q (Qt_index (.pointer _) rfl rfl Try.underlying246 (by omega) (by omega) (rfl)) rfl ?_
  refine TL_q (Qt_assign (.pointer _) rfl) rfl ?_
  refine TL_nil ?_
  refine X_then ?_
  refine T_seq ?_
  refine T_region ?_
  refine TL_q (Qt_move (.pointer _) rfl) rfl ?_
  refine TL_frontB x20.1 ?_
  refine TL_e rfl (Ef_call (fixedW_c (b := x20.2) (k := 0) (Nat.zero_le _) (by rw [h20]; omega)) rfl (fun x29 => ?_))
  refine TL_pure (fun h29 => ?_)
  refine TL_q (Qt_move (.tuple _) rfl) rfl ?_
  refine TL_q (Qt_extract rfl) rfl ?_
  refine TL_q (Qt_extract rfl) rfl ?_
  refine TL_q (Qt_assign (.int .u64 _) rfl) rfl ?_
  refine TL_q (Qt_assign (.int .i64 _) rfl) rfl ?_
  refine TL_nil ?_
  refine X_then ?_
  refine T_seq ?_
  refine T_seq ?_
  refine T_region ?_
  refine TL_q (Qt_move (.int .i64 _) rfl) rfl ?_
  refine TL_q (Qt_neq rfl rfl) rfl ?_
  refine TL_nil ?_
  refine X_then ?_
  refine T_cond rfl (fun h33 => ?_) (fun h33 => ?_)
  ·
    have p33 := h33
    try simp only [decide_eq_true_eq, decide_eq_false_iff_not, Bool.not_eq_true', Bool.not_eq_false', Option.isNone_iff_eq_none, ne_eq, Decidable.not_not, Int.not_lt, Int.not_le] at p33
    refine T_seq ?_
    refine T_region ?_
    refine TL_q (Qt_build [] rfl (by kernel_rfl)) rfl ?_
    refine TL_q (Qt_move (.int .i64 _) rfl) rfl ?_
    refine TL_n (Ef_storeN rfl rfl (?_))
    refine TL_q (Qt_assign (.int .i64 _) rfl) rfl ?_
    refine TL_nil ?_
    refine X_then ?_
    refine T_ret ?_
    refine X_then_ret ?_
    refine X_block_ret ?_
    refine X_then_ret ?_
    refine X_again_ret ?_
    refine X_block_ret ?_
    refine X_then_ret ?_
    exact X_ret (WorldV.zero, _) [_, _] Try.results102 ⟨⟨_, rfl, res_cellN rfl⟩, rfl, trivial⟩ rfl (Subs.st inferInstance)
  ·
    have p33 := h33
    try simp only [decide_eq_true_eq, decide_eq_false_iff_not, Bool.not_eq_true', Bool.not_eq_false', Option.isNone_iff_eq_none, ne_eq, Decidable.not_not, Int.not_lt, Int.not_le] at p33
    refine T_skip ?_
    refine X_then ?_
    refine T_region ?_
    refine TL_q (Qt_move (.pointer _) rfl) rfl ?_
    refine TL_q (Qt_move (.int .u64 _) rfl) rfl ?_
    refine TL_q (Qt_conv rfl rfl Try.underlying3) rfl ?_
    refine TL_q (Qt_nilCheck rfl) rfl ?_
    refine TL_n (Ef_store1 (.int .i64 _) rfl rfl (?_))
    refine TL_nil ?_
    refine X_block ?_
    refine X_then ?_
    refine T_region ?_
    first
      | refine TL_q (Qt_add rfl rfl (by omega) (by omega)) rfl ?_
      | refine TL_q (Qt_addw rfl rfl) rfl ?_
    refine TL_q (Qt_move (.int .i64 _) rfl) rfl ?_
    refine TL_nil ?_
    refine X_again (TU_round ?_)
    refine T_seq ?_
    refine T_region ?_
    refine TL_q (Qt_lss rfl rfl) rfl ?_
    refine TL_nil ?_
    refine X_then ?_
    refine T_seq ?_
    refine T_cond_true rfl (by first | rfl | decide) ?_
    refine T_skip ?_
    refine X_then ?_
    refine T_seq ?_
    refine T_block ?_
    refine T_seq ?_
    refine T_region ?_
    refine TL_q (Qt_index (.pointer _) rfl rfl Try.underlying246 (by omega) (by omega) (rfl)) rfl ?_
    refine TL_q (Qt_assign (.pointer _) rfl) rfl ?_
    refine TL_nil ?_
    refine X_then ?_
    refine T_seq ?_
    refine T_region ?_
    refine TL_q (Qt_move (.pointer _) rfl) rfl ?_
    refine TL_frontB x20.1 ?_
    refine TL_e rfl (Ef_call (fixedW_c (b := x20.2) (k := x29.2.1) h29.2 (by rw [h20]; omega)) rfl (fun x29 => ?_))
    refine TL_pure (fun h29 => ?_)
    refine TL_q (Qt_move (.tuple _) rfl) rfl ?_
    refine TL_q (Qt_extract rfl) rfl ?_
    refine TL_q (Qt_extract rfl) rfl ?_
    refine TL_q (Qt_assign (.int .u64 _) rfl) rfl ?_
    refine TL_q (Qt_assign (.int .i64 _) rfl) rfl ?_
    refine TL_nil ?_
    refine X_then ?_
    refine T_seq ?_
    refine T_seq ?_
    refine T_region ?_
    refine TL_q (Qt_move (.int .i64 _) rfl) rfl ?_
    refine TL_q (Qt_neq rfl rfl) rfl ?_
    refine TL_nil ?_
    refine X_then ?_
    refine T_cond rfl (fun h33 => ?_) (fun h33 => ?_)
    ·
      have p33 := h33
      try simp only [decide_eq_true_eq, decide_eq_false_iff_not, Bool.not_eq_true', Bool.not_eq_false', Option.isNone_iff_eq_none, ne_eq, Decidable.not_not, Int.not_lt, Int.not_le] at p33
      refine T_seq ?_
      refine T_region ?_
      refine TL_q (Qt_build [] rfl (by kernel_rfl)) rfl ?_
      refine TL_q (Qt_move (.int .i64 _) rfl) rfl ?_
      refine TL_n (Ef_storeN rfl rfl (?_))
      refine TL_q (Qt_assign (.int .i64 _) rfl) rfl ?_
      refine TL_nil ?_
      refine X_then ?_
      refine T_ret ?_
      refine X_then_ret ?_
      refine X_block_ret ?_
      refine X_then_ret ?_
      refine X_again_ret ?_
      refine X_block_ret ?_
      refine X_then_ret ?_
      exact X_ret (WorldV.zero, _) [_, _] Try.results102 ⟨⟨_, rfl, res_cellN rfl⟩, rfl, trivial⟩ rfl (Subs.st inferInstance)
    ·
      have p33 := h33
      try simp only [decide_eq_true_eq, decide_eq_false_iff_not, Bool.not_eq_true', Bool.not_eq_false', Option.isNone_iff_eq_none, ne_eq, Decidable.not_not, Int.not_lt, Int.not_le] at p33
      refine T_skip ?_
      refine X_then ?_
      refine T_region ?_
      refine TL_q (Qt_move (.pointer _) rfl) rfl ?_
      refine TL_q (Qt_move (.int .u64 _) rfl) rfl ?_
      refine TL_q (Qt_conv rfl rfl Try.underlying3) rfl ?_
      refine TL_q (Qt_nilCheck rfl) rfl ?_
      refine TL_n (Ef_store1 (.int .i64 _) rfl rfl (?_))
      refine TL_nil ?_
      refine X_block ?_
      refine X_then ?_
      refine T_region ?_
      first
        | refine TL_q (Qt_add rfl rfl (by omega) (by omega)) rfl ?_
        | refine TL_q (Qt_addw rfl rfl) rfl ?_
      refine TL_q (Qt_move (.int .i64 _) rfl) rfl ?_
      refine TL_nil ?_
      refine X_again (TU_round ?_)
      refine T_seq ?_
      refine T_region ?_
      refine TL_q (Qt_lss rfl rfl) rfl ?_
      refine TL_nil ?_
      refine X_then ?_
      refine T_seq ?_
      refine T_cond_false rfl (by first | rfl | decide) ?_
      refine T_exit ?_
      refine X_then_exit ?_
      refine X_again_exit ?_
      refine X_block_exit ?_
      refine X_then ?_
      refine T_seq ?_
      refine T_seq ?_
      refine T_region ?_
      refine TL_q (Qt_fieldAddr 2 rfl rfl) rfl ?_
      refine TL_q (Qt_fieldAddr 4 rfl rfl) rfl ?_
      refine TL_q (Qt_build_arr #[(.pointer _), (.pointer _)] Try.underlying248 rfl rfl rfl) rfl ?_
      refine TL_q (Qt_move (.int .i64 _) rfl) rfl ?_
      refine TL_nil ?_
      refine X_then ?_
      refine T_block ?_
      refine T_unroll (TU_round ?_)
      refine T_seq ?_
      refine T_region ?_
      refine TL_q (Qt_lss rfl rfl) rfl ?_
      refine TL_nil ?_
      refine X_then ?_
      refine T_seq ?_
      refine T_cond_true rfl (by first | rfl | decide) ?_
      refine T_skip ?_
      refine X_then ?_
      refine T_seq ?_
      refine T_block ?_
      refine T_seq ?_
      refine T_region ?_
      refine TL_q (Qt_index (.pointer _) rfl rfl Try.underlying248 (by omega) (by omega) (rfl)) rfl ?_
      refine TL_q (Qt_assign (.pointer _) rfl) rfl ?_
      refine TL_nil ?_
      refine X_then ?_
      refine T_seq ?_
      refine T_region ?_
      refine TL_q (Qt_move (.pointer _) rfl) rfl ?_
      refine TL_frontB x20.1 ?_
      refine TL_e rfl (Ef_call (eview_c (b := x20.2) (k := x29.2.1) h29.2 (by rw [h20]; omega)) rfl (fun x49 => ?_))
      refine TL_pure (fun h49 => ?_)
      refine TL_q (Qt_move (.tuple _) rfl) rfl ?_
      refine TL_q (Qt_extract rfl) rfl ?_
      refine TL_q (Qt_extract rfl) rfl ?_
      refine TL_e rfl (Ef_allocN (fun b12 => ?_))
      refine TL_n (Ef_storeN rfl rfl (?_))
      refine TL_q (Qt_assign (.int .i64 _) rfl) rfl ?_
      refine TL_nil ?_
      refine X_then ?_
      refine T_seq ?_
      refine T_seq ?_
      refine T_region ?_
      refine TL_q (Qt_move (.int .i64 _) rfl) rfl ?_
      refine TL_q (Qt_neq rfl rfl) rfl ?_
      refine TL_nil ?_
      refine X_then ?_
      refine T_cond rfl (fun h53 => ?_) (fun h53 => ?_)
      ·
        have p53 := h53
        try simp only [decide_eq_true_eq, decide_eq_false_iff_not, Bool.not_eq_true', Bool.not_eq_false', Option.isNone_iff_eq_none, ne_eq, Decidable.not_not, Int.not_lt, Int.not_le] at p53
        refine T_seq ?_
        refine T_region ?_
        refine TL_q (Qt_build [] rfl (by kernel_rfl)) rfl ?_
        refine TL_q (Qt_move (.int .i64 _) rfl) rfl ?_
        refine TL_n (Ef_storeN rfl rfl (?_))
        refine TL_q (Qt_assign (.int .i64 _) rfl) rfl ?_
        refine TL_nil ?_
        refine X_then ?_
        refine T_ret ?_
        refine X_then_ret ?_
        refine X_block_ret ?_
        refine X_then_ret ?_
        refine X_again_ret ?_
        refine X_block_ret ?_
        refine X_then_ret ?_
        exact X_ret (WorldV.zero, _) [_, _] Try.results102 ⟨⟨_, rfl, res_cellN rfl⟩, rfl, trivial⟩ rfl (Subs.st inferInstance)
      ·
        have p53 := h53
        try simp only [decide_eq_true_eq, decide_eq_false_iff_not, Bool.not_eq_true', Bool.not_eq_false', Option.isNone_iff_eq_none, ne_eq, Decidable.not_not, Int.not_lt, Int.not_le] at p53
        refine T_skip ?_
        refine X_then ?_
        refine T_region ?_
        refine TL_q (Qt_move (.pointer _) rfl) rfl ?_
        refine TL_q (Qt_loadN rfl rfl) rfl ?_
        refine TL_q (Qt_nilCheck rfl) rfl ?_
        refine TL_n (Ef_storeN rfl rfl (?_))
        refine TL_nil ?_
        refine X_block ?_
        refine X_then ?_
        refine T_region ?_
        first
          | refine TL_q (Qt_add rfl rfl (by omega) (by omega)) rfl ?_
          | refine TL_q (Qt_addw rfl rfl) rfl ?_
        refine TL_q (Qt_move (.int .i64 _) rfl) rfl ?_
        refine TL_nil ?_
        refine X_again (TU_round ?_)
        refine T_seq ?_
        refine T_region ?_
        refine TL_q (Qt_lss rfl rfl) rfl ?_
        refine TL_nil ?_
        refine X_then ?_
        refine T_seq ?_
        refine T_cond_true rfl (by first | rfl | decide) ?_
        refine T_skip ?_
        refine X_then ?_
        refine T_seq ?_
        refine T_block ?_
        refine T_seq ?_
        refine T_region ?_
        refine TL_q (Qt_index (.pointer _) rfl rfl Try.underlying248 (by omega) (by omega) (rfl)) rfl ?_
        refine TL_q (Qt_assign (.pointer _) rfl) rfl ?_
        refine TL_nil ?_
        refine X_then ?_
        refine T_seq ?_
        refine T_region ?_
        refine TL_q (Qt_move (.pointer _) rfl) rfl ?_
        refine TL_frontB x20.1 ?_
        refine TL_e rfl (Ef_call (eview_c (b := x20.2) (k := x49.2) h49 (by rw [h20]; omega)) rfl (fun x49 => ?_))
        refine TL_pure (fun h49 => ?_)
        refine TL_q (Qt_move (.tuple _) rfl) rfl ?_
        refine TL_q (Qt_extract rfl) rfl ?_
        refine TL_q (Qt_extract rfl) rfl ?_
        refine TL_e rfl (Ef_allocN (fun b12 => ?_))
        refine TL_n (Ef_storeN rfl rfl (?_))
        refine TL_q (Qt_assign (.int .i64 _) rfl) rfl ?_
        refine TL_nil ?_
        refine X_then ?_
        refine T_seq ?_
        refine T_seq ?_
        refine T_region ?_
        refine TL_q (Qt_move (.int .i64 _) rfl) rfl ?_
        refine TL_q (Qt_neq rfl rfl) rfl ?_
        refine TL_nil ?_
        refine X_then ?_
        refine T_cond rfl (fun h53 => ?_) (fun h53 => ?_)
        ·
          have p53 := h53
          try simp only [decide_eq_true_eq, decide_eq_false_iff_not, Bool.not_eq_true', Bool.not_eq_false', Option.isNone_iff_eq_none, ne_eq, Decidable.not_not, Int.not_lt, Int.not_le] at p53
          refine T_seq ?_
          refine T_region ?_
          refine TL_q (Qt_build [] rfl (by kernel_rfl)) rfl ?_
          refine TL_q (Qt_move (.int .i64 _) rfl) rfl ?_
          refine TL_n (Ef_storeN rfl rfl (?_))
          refine TL_q (Qt_assign (.int .i64 _) rfl) rfl ?_
          refine TL_nil ?_
          refine X_then ?_
          refine T_ret ?_
          refine X_then_ret ?_
          refine X_block_ret ?_
          refine X_then_ret ?_
          refine X_again_ret ?_
          refine X_block_ret ?_
          refine X_then_ret ?_
          exact X_ret (WorldV.zero, _) [_, _] Try.results102 ⟨⟨_, rfl, res_cellN rfl⟩, rfl, trivial⟩ rfl (Subs.st inferInstance)
        ·
          have p53 := h53
          try simp only [decide_eq_true_eq, decide_eq_false_iff_not, Bool.not_eq_true', Bool.not_eq_false', Option.isNone_iff_eq_none, ne_eq, Decidable.not_not, Int.not_lt, Int.not_le] at p53
          refine T_skip ?_
          refine X_then ?_
          refine T_region ?_
          refine TL_q (Qt_move (.pointer _) rfl) rfl ?_
          refine TL_q (Qt_loadN rfl rfl) rfl ?_
          refine TL_q (Qt_nilCheck rfl) rfl ?_
          refine TL_n (Ef_storeN rfl rfl (?_))
          refine TL_nil ?_
          refine X_block ?_
          refine X_then ?_
          refine T_region ?_
          first
            | refine TL_q (Qt_add rfl rfl (by omega) (by omega)) rfl ?_
            | refine TL_q (Qt_addw rfl rfl) rfl ?_
          refine TL_q (Qt_move (.int .i64 _) rfl) rfl ?_
          refine TL_nil ?_
          refine X_again (TU_round ?_)
          refine T_seq ?_
          refine T_region ?_
          refine TL_q (Qt_lss rfl rfl) rfl ?_
          refine TL_nil ?_
          refine X_then ?_
          refine T_seq ?_
          refine T_cond_false rfl (by first | rfl | decide) ?_
          refine T_exit ?_
          refine X_then_exit ?_
          refine X_again_exit ?_
          refine X_block_exit ?_
          refine X_then ?_
          refine T_seq ?_
          refine T_region ?_
          refine TL_q (Qt_move (.pointer _) rfl) rfl ?_
          refine TL_frontB x20.1 ?_
          refine TL_e rfl (Ef_call (textW_c (m := 1000) (by decide) (b := x20.2) (k := x49.2) h49 (by rw [h20]; omega)) rfl (fun x62 => ?_))
          refine TL_pure (fun h62 => ?_)
          refine TL_q (Qt_move (.tuple _) rfl) rfl ?_
          refine TL_q (Qt_extract rfl) rfl ?_
          refine TL_q (Qt_extract rfl) rfl ?_
          refine TL_q (Qt_assign (.slice _ _ _) rfl) rfl ?_
          refine TL_q (Qt_assign (.int .i64 _) rfl) rfl ?_
          refine TL_nil ?_
          refine X_then ?_
          refine T_seq ?_
          refine T_seq ?_
          refine T_region ?_
          refine TL_q (Qt_move (.int .i64 _) rfl) rfl ?_
          refine TL_q (Qt_neq rfl rfl) rfl ?_
          refine TL_nil ?_
          refine X_then ?_
          refine T_cond rfl (fun h66 => ?_) (fun h66 => ?_)
          ·
            have p66 := h66
            try simp only [decide_eq_true_eq, decide_eq_false_iff_not, Bool.not_eq_true', Bool.not_eq_false', Option.isNone_iff_eq_none, ne_eq, Decidable.not_not, Int.not_lt, Int.not_le] at p66
            refine T_seq ?_
            refine T_region ?_
            refine TL_q (Qt_build [] rfl (by kernel_rfl)) rfl ?_
            refine TL_q (Qt_move (.int .i64 _) rfl) rfl ?_
            refine TL_n (Ef_storeN rfl rfl (?_))
            refine TL_q (Qt_assign (.int .i64 _) rfl) rfl ?_
            refine TL_nil ?_
            refine X_then ?_
            refine T_ret ?_
            refine X_then_ret ?_
            exact X_ret (WorldV.zero, _) [_, _] Try.results102 ⟨⟨_, rfl, res_cellN rfl⟩, rfl, trivial⟩ rfl (Subs.st inferInstance)
          ·
            have p66 := h66
            try simp only [decide_eq_true_eq, decide_eq_false_iff_not, Bool.not_eq_true', Bool.not_eq_false', Option.isNone_iff_eq_none, ne_eq, Decidable.not_not, Int.not_lt, Int.not_le] at p66
            refine T_skip ?_
            refine X_then ?_
            refine T_seq ?_
            refine T_seq ?_
            refine T_region ?_
            refine TL_q (Qt_move (.slice _ _ _) rfl) rfl ?_
            refine TL_e rfl (Ef_call (kvGet_c (l := x62.1.l) (by rw [h20] at h62; omega)) rfl (fun x71 => ?_))
            refine TL_q (Qt_move (.tuple _) rfl) rfl ?_
            refine TL_q (Qt_extract rfl) rfl ?_
            refine TL_q (Qt_extract rfl) rfl ?_
            refine TL_q (Qt_fieldAddr 6 rfl rfl) rfl ?_
            refine TL_n (Ef_storeN rfl rfl (?_))
            refine TL_q (Qt_assign (.int .i64 _) rfl) rfl ?_
            refine TL_nil ?_
            refine X_then ?_
            refine T_seq ?_
            refine T_region ?_
            refine TL_q (Qt_move (.int .i64 _) rfl) rfl ?_
            refine TL_q (Qt_neq rfl rfl) rfl ?_
            refine TL_nil ?_
            refine X_then ?_
            refine T_cond rfl (fun h76 => ?_) (fun h76 => ?_)
            ·
              have p76 := h76
              try simp only [decide_eq_true_eq, decide_eq_false_iff_not, Bool.not_eq_true', Bool.not_eq_false', Option.isNone_iff_eq_none, ne_eq, Decidable.not_not, Int.not_lt, Int.not_le] at p76
              refine T_seq ?_
              refine T_region ?_
              refine TL_q (Qt_build [] rfl (by kernel_rfl)) rfl ?_
              refine TL_q (Qt_move (.int .i64 _) rfl) rfl ?_
              refine TL_n (Ef_storeN rfl rfl (?_))
              refine TL_q (Qt_assign (.int .i64 _) rfl) rfl ?_
              refine TL_nil ?_
              refine X_then ?_
              refine T_ret ?_
              refine X_then_ret ?_
              exact X_ret (WorldV.zero, _) [_, _] Try.results102 ⟨⟨_, rfl, res_cellN rfl⟩, rfl, trivial⟩ rfl (Subs.st inferInstance)
            ·
              have p76 := h76
              try simp only [decide_eq_true_eq, decide_eq_false_iff_not, Bool.not_eq_true', Bool.not_eq_false', Option.isNone_iff_eq_none, ne_eq, Decidable.not_not, Int.not_lt, Int.not_le] at p76
              refine T_skip ?_
              refine X_then ?_
              refine T_seq ?_
              refine T_seq ?_
              refine T_region ?_
              refine TL_q (Qt_move (.int .i64 _) rfl) rfl ?_
              refine TL_nil ?_
              refine X_then ?_
              refine T_block ?_
              refine T_frontB b5 ?_
              refine T_ex (H' := fun v : WorldV => blk b5 (.cells v.cells 34 (0, 0)) :: _) (fun w hw => ⟨_, hw⟩) (fun wz => ?_)
              refine T_loop [3, 16, 17, 18, 79, 80, 81, 82, 83, 84, 85, 86, 87, 88, 89, 90, 91, 92, 93, 94, 95, 96, 97, 98, 99, 100, 101, 102, 103] [79] (fun us H' => ∃ (k : Nat) (q : Nat) (wv : WorldV), us = [.int .i64 (k : Int)] ∧ blk b5 (.cells wv.cells 34 (0, 0)) :: blk b2 (.cells WorldV.zero.cells 34 (0, 0)) :: blk x20.1 (.cells (ReaderV.mk x20.2 (q : Int)).cells 243 (0, 0)) :: row (.slice x20.2.a x20.2.l.length x20.2.c) 5 1 (bytesV x20.2.l) :: H = H' ∧ k ≤ 6 ∧ (q ≤ x20.2.l.length)) (fun us => match us with | .int _ i :: _ => 6 - i.toNat | _ => 0) ⟨0, x62.2.1, wz, rfl, rfl, by omega, h62.2⟩ (Subs.st inferInstance) ?_
              rintro τ2 _ _  ⟨k, q, wv, rfl, rfl, hk0, hat⟩ _
              refine T_seq ?_
              refine T_region ?_
              refine TL_q (Qt_lss rfl rfl) rfl ?_
              refine TL_nil ?_
              refine X_then ?_
              refine T_seq ?_
              refine T_cond rfl (fun h80 => ?_) (fun h80 => ?_)
              ·
                have p80 := h80
                try simp only [decide_eq_true_eq, decide_eq_false_iff_not, Bool.not_eq_true', Bool.not_eq_false', Option.isNone_iff_eq_none, ne_eq, Decidable.not_not, Int.not_lt, Int.not_le] at p80
                have hk6 : k < 6 := by omega
                refine T_skip ?_
                refine X_then ?_
                refine T_seq ?_
                refine T_block ?_
                refine T_seq ?_
                refine T_region ?_
                refine TL_q (Qt_move (.int .i64 _) rfl) rfl ?_
                refine TL_q (Qt_assign (.int .i64 _) rfl) rfl ?_
                refine TL_nil ?_
                refine X_then ?_
                refine T_seq ?_
                refine T_region ?_
                refine TL_q (Qt_move (.pointer _) rfl) rfl ?_
                refine TL_frontB x20.1 ?_
                refine TL_e rfl (Ef_call (textW_c (m := 1000) (by decide) (b := x20.2) (k := q) hat (by rw [h20]; omega)) rfl (fun x84 => ?_))
                refine TL_pure (fun h84 => ?_)
                have hput := put_last wv k hk6 (replyG x84.1.l).2
                refine TL_q (Qt_move (.tuple _) rfl) rfl ?_
                refine TL_q (Qt_extract rfl) rfl ?_
                refine TL_q (Qt_extract rfl) rfl ?_
                refine TL_q (Qt_assign (.slice _ _ _) rfl) rfl ?_
                refine TL_q (Qt_assign (.int .i64 _) rfl) rfl ?_
                refine TL_nil ?_
                refine X_then ?_
                refine T_seq ?_
                refine T_seq ?_
                refine T_region ?_
                refine TL_q (Qt_move (.int .i64 _) rfl) rfl ?_
                refine TL_q (Qt_neq rfl rfl) rfl ?_
                refine TL_nil ?_
                refine X_then ?_
                refine T_cond rfl (fun h88 => ?_) (fun h88 => ?_)
                ·
                  have p88 := h88
                  try simp only [decide_eq_true_eq, decide_eq_false_iff_not, Bool.not_eq_true', Bool.not_eq_false', Option.isNone_iff_eq_none, ne_eq, Decidable.not_not, Int.not_lt, Int.not_le] at p88
                  refine T_seq ?_
                  refine T_region ?_
                  refine TL_q (Qt_build [] rfl (by kernel_rfl)) rfl ?_
                  refine TL_q (Qt_move (.int .i64 _) rfl) rfl ?_
                  refine TL_n (Ef_storeN rfl rfl (?_))
                  refine TL_q (Qt_assign (.int .i64 _) rfl) rfl ?_
                  refine TL_nil ?_
                  refine X_then ?_
                  refine T_ret ?_
                  refine X_then_ret ?_
                  refine X_block_ret ?_
                  refine X_then_ret ?_
                  refine X_loop_ret ?_
                  refine X_block_ret ?_
                  refine X_then_ret ?_
                  exact X_ret (WorldV.zero, _) [_, _] Try.results102 ⟨⟨_, rfl, res_cellN rfl⟩, rfl, trivial⟩ rfl (Subs.st inferInstance)
                ·
                  have p88 := h88
                  try simp only [decide_eq_true_eq, decide_eq_false_iff_not, Bool.not_eq_true', Bool.not_eq_false', Option.isNone_iff_eq_none, ne_eq, Decidable.not_not, Int.not_lt, Int.not_le] at p88
                  refine T_skip ?_
                  refine X_then ?_
                  refine T_seq ?_
                  refine T_region ?_
                  refine TL_q (Qt_move (.int .i64 _) rfl) rfl ?_
                  refine TL_q (Qt_move (.slice _ _ _) rfl) rfl ?_
                  refine TL_e rfl (Ef_call (getReply_c (l := x84.1.l) (by rw [h20] at h84; omega)) rfl (fun x94 => ?_))
                  refine TL_q (Qt_move (.tuple _) rfl) rfl ?_
                  refine TL_q (Qt_extract rfl) rfl ?_
                  refine TL_q (Qt_extract rfl) rfl ?_
                  refine TL_q (Qt_fieldAddr 38 rfl rfl) rfl ?_
                  refine TL_q (Qt_indexAddr_arrC (sz := 5) (38 + k * 5) k rfl rfl Try.underlying32 rfl rfl (by rw [Nat.blt_eq]; exact hk6) rfl) rfl ?_
                  refine TL_n (Ef_storeN rfl rfl (?_))
                  refine TL_q (Qt_assign (.int .i64 _) rfl) rfl ?_
                  refine TL_nil ?_
                  refine X_then ?_
                  refine T_seq ?_
                  refine T_region ?_
                  refine TL_q (Qt_move (.int .i64 _) rfl) rfl ?_
                  refine TL_q (Qt_neq rfl rfl) rfl ?_
                  refine TL_nil ?_
                  refine X_then ?_
                  refine T_cond rfl (fun h100 => ?_) (fun h100 => ?_)
                  ·
                    have p100 := h100
                    try simp only [decide_eq_true_eq, decide_eq_false_iff_not, Bool.not_eq_true', Bool.not_eq_false', Option.isNone_iff_eq_none, ne_eq, Decidable.not_not, Int.not_lt, Int.not_le] at p100
                    refine T_seq ?_
                    refine T_region ?_
                    refine TL_q (Qt_build [] rfl (by kernel_rfl)) rfl ?_
                    refine TL_q (Qt_move (.int .i64 _) rfl) rfl ?_
                    refine TL_n (Ef_storeN rfl rfl (?_))
                    refine TL_q (Qt_assign (.int .i64 _) rfl) rfl ?_
                    refine TL_nil ?_
                    refine X_then ?_
                    refine T_ret ?_
                    refine X_block_ret ?_
                    refine X_then_ret ?_
                    refine X_loop_ret ?_
                    refine X_block_ret ?_
                    refine X_then_ret ?_
                    exact X_ret (WorldV.zero, _) [_, _] Try.results102 ⟨⟨_, rfl, res_cellN rfl⟩, rfl, trivial⟩ rfl (Subs.st inferInstance)
                  ·
                    have p100 := h100
                    try simp only [decide_eq_true_eq, decide_eq_false_iff_not, Bool.not_eq_true', Bool.not_eq_false', Option.isNone_iff_eq_none, ne_eq, Decidable.not_not, Int.not_lt, Int.not_le] at p100
                    refine T_skip ?_
                    refine X_block ?_
                    refine X_then ?_
                    refine T_region ?_
                    first
                      | refine TL_q (Qt_add rfl rfl (by omega) (by omega)) rfl ?_
                      | refine TL_q (Qt_addw rfl rfl) rfl ?_
                    refine TL_q (Qt_move (.int .i64 _) rfl) rfl ?_
                    refine TL_nil ?_
                    apply X_loop
                    case ha => exact (by repeat (first | with_reducible exact agree_refl | refine agree_upd rfl ?_ | refine agree_mix rfl ?_ | refine agree_setAll rfl ?_))
                    case hI => exact ⟨k + 1, x84.2.1, { wv with last := wv.last.set k (replyG x84.1.l).2 }, rfl, rfl, by omega, h84.2⟩
                    case hm => exact by show 6 - (k + 1 : Int).toNat < 6 - (k : Int).toNat; omega
                    case hH => exact (Subs.st inferInstance)
              ·
                have p80 := h80
                try simp only [decide_eq_true_eq, decide_eq_false_iff_not, Bool.not_eq_true', Bool.not_eq_false', Option.isNone_iff_eq_none, ne_eq, Decidable.not_not, Int.not_lt, Int.not_le] at p80
                refine T_exit ?_
                refine X_then_exit ?_
                refine X_loop_exit ?_
                refine X_block_exit ?_
                refine X_then ?_
                refine T_seq ?_
                refine T_seq ?_
                refine T_region ?_
                refine TL_q (Qt_move (.pointer _) rfl) rfl ?_
                refine TL_frontB x20.1 ?_
                refine TL_e rfl (Ef_call (doneW_c (b := x20.2) (k := q) hat (by rw [h20]; omega)) rfl (fun x105 => ?_))
                refine TL_q (Qt_neq rfl rfl) rfl ?_
                refine TL_nil ?_
                refine X_then ?_
                refine T_cond rfl (fun h106 => ?_) (fun h106 => ?_)
                ·
                  have p106 := h106
                  try simp only [decide_eq_true_eq, decide_eq_false_iff_not, Bool.not_eq_true', Bool.not_eq_false', Option.isNone_iff_eq_none, ne_eq, Decidable.not_not, Int.not_lt, Int.not_le] at p106
                  refine T_seq ?_
                  refine T_region ?_
                  refine TL_q (Qt_build [] rfl (by kernel_rfl)) rfl ?_
                  refine TL_n (Ef_storeN rfl rfl (?_))
                  refine TL_q (Qt_assign (.int .i64 _) rfl) rfl ?_
                  refine TL_nil ?_
                  refine X_then ?_
                  refine T_ret ?_
                  refine X_then_ret ?_
                  exact X_ret (WorldV.zero, 2) [_, _] Try.results102 ⟨⟨_, rfl, res_cellN rfl⟩, rfl, trivial⟩ rfl (Subs.st inferInstance)
                ·
                  have p106 := h106
                  try simp only [decide_eq_true_eq, decide_eq_false_iff_not, Bool.not_eq_true', Bool.not_eq_false', Option.isNone_iff_eq_none, ne_eq, Decidable.not_not, Int.not_lt, Int.not_le] at p106
                  refine T_skip ?_
                  refine X_then ?_
                  refine T_seq ?_
                  refine T_region ?_
                  refine TL_q (Qt_loadN rfl rfl) rfl ?_
                  refine TL_n (Ef_storeN rfl rfl (?_))
                  refine TL_q (Qt_assign (.int .i64 _) rfl) rfl ?_
                  refine TL_nil ?_
                  refine X_then ?_
                  refine T_ret ?_
                  exact X_ret (wv, 0) [_, _] Try.results102 ⟨⟨_, rfl, res_cellN rfl⟩, rfl, trivial⟩ rfl (Subs.st inferInstance)
set_option maxHeartbeats 1000000 in
theorem body_c {w0 : World} {H : List SA} {a : Option Addr} {l : List UInt8} {c : Nat} [hr : RdB w0 H (.slice a l.length c) l] (hl : l.length ≤ 4294967296) :
    CT Try.prog w0 (H) 57 [.slice a l.length c] (α := WorldV × Sl × Int) (fun y => .tuple #[.agg y.1.cells, .slice y.2.1.a y.2.1.n y.2.1.c, .int .i64 y.2.2]) (fun _ => H) := by
  refine CT_intro Try.func57 rfl Try.ntmps57 rfl ?_
  refine T_seq ?_
  refine T_region ?_
  refine TL_e rfl (Ef_allocN (fun b2 => ?_))
  refine TL_q (Qt_assign (.slice _ _ _) rfl) rfl ?_
  refine TL_q (Qt_assign (.int .i64 _) rfl) rfl ?_
  refine TL_nil ?_
  refine X_then ?_
  refine T_seq ?_
  refine T_region ?_
  refine TL_q (Qt_move (.slice _ _ _) rfl) rfl ?_
  refine TL_e rfl (Ef_call (rnew_c hl) rfl (fun x12 => ?_))
  refine TL_pure (fun h12 => ?_)
  refine TL_q (Qt_assign (.pointer _) rfl) rfl ?_
  refine TL_nil ?_
  refine X_then ?_
  refine T_seq ?_
  refine T_region ?_
  refine TL_q (Qt_move (.pointer _) rfl) rfl ?_
  refine TL_frontB x12.1 ?_
  refine TL_e rfl (Ef_call (textW_c (m := 65536) (by decide) (b := x12.2) (k := 0) (Nat.zero_le _) (by rw [h12]; omega)) rfl (fun x15 => ?_))
  refine TL_pure (fun h15 => ?_)
  refine TL_q (Qt_move (.tuple _) rfl) rfl ?_
  refine TL_q (Qt_extract rfl) rfl ?_
  refine TL_q (Qt_extract rfl) rfl ?_
  refine TL_q (Qt_assign (.slice _ _ _) rfl) rfl ?_
  refine TL_q (Qt_assign (.int .i64 _) rfl) rfl ?_
  refine TL_nil ?_
  refine X_then ?_
  refine T_seq ?_
  refine T_region ?_
  refine TL_q (Qt_move (.pointer _) rfl) rfl ?_
  refine TL_frontB x12.1 ?_
  refine TL_e rfl (Ef_call (textW_c (m := 65536) (by decide) (b := x12.2) (k := x15.2.1) h15.2 (by rw [h12]; omega)) rfl (fun x20 => ?_))
  refine TL_pure (fun h20 => ?_)
  refine TL_q (Qt_move (.tuple _) rfl) rfl ?_
  refine TL_q (Qt_extract rfl) rfl ?_
  refine TL_q (Qt_extract rfl) rfl ?_
  refine TL_q (Qt_assign (.slice _ _ _) rfl) rfl ?_
  refine TL_q (Qt_assign (.int .i64 _) rfl) rfl ?_
  refine TL_nil ?_
  refine X_then ?_
  refine T_seq ?_
  refine T_seq ?_
  refine T_region ?_
  refine TL_q (Qt_move (.int .i64 _) rfl) rfl ?_
  refine TL_q (Qt_neq rfl rfl) rfl ?_
  refine TL_q (Qt_move (.bool _) rfl) rfl ?_
  refine TL_split 25 rfl (fun h25 => ?_) (fun h25 => ?_)
  ·
    have p25 := h25
    try simp only [decide_eq_true_eq, decide_eq_false_iff_not, Bool.not_eq_true', Bool.not_eq_false', Option.isNone_iff_eq_none, ne_eq, Decidable.not_not, Int.not_lt, Int.not_le] at p25
    refine TL_pass rfl rfl h25 rfl ?_
    refine TL_pass rfl rfl h25 rfl ?_
    refine TL_q (Qt_pick_t (.bool _) rfl h25 rfl) rfl ?_
    refine TL_q (Qt_move (.bool _) rfl) rfl ?_
    refine TL_pass rfl rfl rfl rfl ?_
    refine TL_frontB x12.1 ?_
    refine TL_pass rfl rfl rfl rfl ?_
    refine TL_pass rfl rfl rfl rfl ?_
    refine TL_q (Qt_pick_t (.bool _) rfl rfl rfl) rfl ?_
    refine TL_nil ?_
    refine X_then ?_
    refine T_cond_true rfl rfl ?_
    refine T_seq ?_
    refine T_region ?_
    refine TL_q (Qt_build [] rfl (by kernel_rfl)) rfl ?_
    refine TL_n (Ef_storeN rfl rfl (?_))
    refine TL_q (Qt_assign (.slice _ _ _) rfl) rfl ?_
    refine TL_q (Qt_assign (.int .i64 _) rfl) rfl ?_
    refine TL_nil ?_
    refine X_then ?_
    refine T_ret ?_
    refine X_then_ret ?_
    exact X_ret (WorldV.zero, ⟨none, 0, 0⟩, 2) [_, _, _] Try.results57 ⟨⟨_, rfl, res_cellN rfl⟩, rfl, rfl, trivial⟩ rfl (Subs.st inferInstance)
  ·
    have p25 := h25
    try simp only [decide_eq_true_eq, decide_eq_false_iff_not, Bool.not_eq_true', Bool.not_eq_false', Option.isNone_iff_eq_none, ne_eq, Decidable.not_not, Int.not_lt, Int.not_le] at p25
    refine TL_take rfl rfl h25 ?_
    refine TL_q (Qt_move (.int .i64 _) rfl) rfl ?_
    refine TL_take rfl rfl h25 ?_
    refine TL_q (Qt_neq rfl rfl) rfl ?_
    refine TL_q (Qt_pick_f (.bool _) rfl h25 rfl) rfl ?_
    refine TL_q (Qt_move (.bool _) rfl) rfl ?_
    refine TL_split 29 rfl (fun h29 => ?_) (fun h29 => ?_)
    ·
      have p29 := h29
      try simp only [decide_eq_true_eq, decide_eq_false_iff_not, Bool.not_eq_true', Bool.not_eq_false', Option.isNone_iff_eq_none, ne_eq, Decidable.not_not, Int.not_lt, Int.not_le] at p29
      refine TL_pass rfl rfl h29 rfl ?_
      refine TL_frontB x12.1 ?_
      refine TL_pass rfl rfl h29 rfl ?_
      refine TL_pass rfl rfl h29 rfl ?_
      refine TL_q (Qt_pick_t (.bool _) rfl h29 rfl) rfl ?_
      refine TL_nil ?_
      refine X_then ?_
      refine T_cond_true rfl rfl ?_
      refine T_seq ?_
      refine T_region ?_
      refine TL_q (Qt_build [] rfl (by kernel_rfl)) rfl ?_
      refine TL_n (Ef_storeN rfl rfl (?_))
      refine TL_q (Qt_assign (.slice _ _ _) rfl) rfl ?_
      refine TL_q (Qt_assign (.int .i64 _) rfl) rfl ?_
      refine TL_nil ?_
      refine X_then ?_
      refine T_ret ?_
      refine X_then_ret ?_
      exact X_ret (WorldV.zero, ⟨none, 0, 0⟩, 2) [_, _, _] Try.results57 ⟨⟨_, rfl, res_cellN rfl⟩, rfl, rfl, trivial⟩ rfl (Subs.st inferInstance)
    ·
      have p29 := h29
      try simp only [decide_eq_true_eq, decide_eq_false_iff_not, Bool.not_eq_true', Bool.not_eq_false', Option.isNone_iff_eq_none, ne_eq, Decidable.not_not, Int.not_lt, Int.not_le] at p29
      refine TL_take rfl rfl h29 ?_
      refine TL_q (Qt_move (.pointer _) rfl) rfl ?_
      refine TL_frontB x12.1 ?_
      refine TL_take rfl rfl h29 ?_
      refine TL_e rfl (Ef_call (doneW_c (b := x12.2) (k := x20.2.1) h20.2 (by rw [h12]; omega)) rfl (fun x31 => ?_))
      refine TL_take rfl rfl h29 ?_
      refine TL_q (Qt_neq rfl rfl) rfl ?_
      refine TL_q (Qt_pick_f (.bool _) rfl h29 rfl) rfl ?_
      refine TL_nil ?_
      refine X_then ?_
      refine T_cond rfl (fun h33 => ?_) (fun h33 => ?_)
      ·
        have p33 := h33
        try simp only [decide_eq_true_eq, decide_eq_false_iff_not, Bool.not_eq_true', Bool.not_eq_false', Option.isNone_iff_eq_none, ne_eq, Decidable.not_not, Int.not_lt, Int.not_le] at p33
        refine T_seq ?_
        refine T_region ?_
        refine TL_q (Qt_build [] rfl (by kernel_rfl)) rfl ?_
        refine TL_n (Ef_storeN rfl rfl (?_))
        refine TL_q (Qt_assign (.slice _ _ _) rfl) rfl ?_
        refine TL_q (Qt_assign (.int .i64 _) rfl) rfl ?_
        refine TL_nil ?_
        refine X_then ?_
        refine T_ret ?_
        refine X_then_ret ?_
        exact X_ret (WorldV.zero, ⟨none, 0, 0⟩, 2) [_, _, _] Try.results57 ⟨⟨_, rfl, res_cellN rfl⟩, rfl, rfl, trivial⟩ rfl (Subs.st inferInstance)
      ·
        have p33 := h33
        try simp only [decide_eq_true_eq, decide_eq_false_iff_not, Bool.not_eq_true', Bool.not_eq_false', Option.isNone_iff_eq_none, ne_eq, Decidable.not_not, Int.not_lt, Int.not_le] at p33
        refine T_skip ?_
        refine X_then ?_
        refine T_seq ?_
        refine T_region ?_
        refine TL_q (Qt_move (.slice _ _ _) rfl) rfl ?_
        refine TL_e rfl (Ef_call (worldGet_c (l := x15.1.l) (by rw [h12] at h15; omega)) rfl (fun x37 => ?_))
        refine TL_q (Qt_move (.tuple _) rfl) rfl ?_
        refine TL_q (Qt_extract rfl) rfl ?_
        refine TL_q (Qt_extract rfl) rfl ?_
        refine TL_e rfl (Ef_allocN (fun b10 => ?_))
        refine TL_n (Ef_storeN rfl rfl (?_))
        refine TL_q (Qt_assign (.int .i64 _) rfl) rfl ?_
        refine TL_nil ?_
        refine X_then ?_
        refine T_seq ?_
        refine T_region ?_
        refine TL_q (Qt_loadN rfl rfl) rfl ?_
        refine TL_q (Qt_move (.slice _ _ _) rfl) rfl ?_
        refine TL_q (Qt_move (.int .i64 _) rfl) rfl ?_
        refine TL_n (Ef_storeN rfl rfl (?_))
        refine TL_q (Qt_assign (.slice _ _ _) rfl) rfl ?_
        refine TL_q (Qt_assign (.int .i64 _) rfl) rfl ?_
        refine TL_nil ?_
        refine X_then ?_
        refine T_ret ?_
        exact X_ret (x37.1, ⟨x20.1.a, x20.1.l.length, x20.1.c⟩, x37.2) [_, _, _] Try.results57 ⟨⟨_, rfl, res_cellN rfl⟩, rfl, rfl, trivial⟩ rfl (Subs.st inferInstance)
end Go.Proofs.Ytpdpapcmfnhgpaa
