/- Walks: files by their names; package disk: size, do of files. -/
import Derived.Test.YtgeknnclmhfjlaaGreatDoorCmP
import Derived.Test.YtgeknnclmhfjlaaGreatDoorStP
import Derived.Test.YtgeknnclmhfjlaaGreatDoorTlP
import Derived.Test.YtgeknnclmhfjlaaGreatDoorSgP
namespace Go.Proofs.YtgeknnclmhfjlaaGreatDoor
section
open Go.RowKit Go.Sx
set_option maxRecDepth 100000
set_option linter.unusedSimpArgs false
set_option linter.unusedVariables false
set_option maxHeartbeats 1000000 in
theorem grow_c {w0 : World} {H : List SA} {n : Nat} (hn : n ≤ 4294967296) :
    CT Tryz.prog w0 (H) 123 [.slice none 0 0, .int .i64 (n : Int)] (α := AC) (fun y => .slice y.a ([] : List UInt8).length y.c) (fun y => row (.slice y.a ([] : List UInt8).length y.c) 5 1 (bytesV []) :: H) := by
  refine CT_intro Tryz.func123 rfl Tryz.ntmps123 rfl ?_
  refine T_seq ?_
  refine T_region ?_
  refine TL_q (Qt_assign (.slice _ _ _) rfl) rfl ?_
  refine TL_nil ?_
  refine X_then ?_
  refine T_seq ?_
  refine T_seq ?_
  refine T_region ?_
  refine TL_q (Qt_move (.int .i64 _) rfl) rfl ?_
  refine TL_q (Qt_lss rfl rfl) rfl ?_
  refine TL_nil ?_
  refine X_then ?_
  refine T_cond rfl (fun h6 => ?_) (fun h6 => ?_)
  ·
    have p6 := h6
    try simp only [decide_eq_true_eq, decide_eq_false_iff_not, Bool.not_eq_true', Bool.not_eq_false', Option.isNone_iff_eq_none, ne_eq, Decidable.not_not, Int.not_lt, Int.not_le] at p6
    exact absurd p6 (by omega)
  ·
    have p6 := h6
    try simp only [decide_eq_true_eq, decide_eq_false_iff_not, Bool.not_eq_true', Bool.not_eq_false', Option.isNone_iff_eq_none, ne_eq, Decidable.not_not, Int.not_lt, Int.not_le] at p6
    refine T_skip ?_
    refine X_then ?_
    refine T_seq ?_
    refine T_seq ?_
    refine T_region ?_
    refine TL_q (Qt_move (.int .i64 _) rfl) rfl ?_
    refine TL_q (Qt_move (.slice _ _ _) rfl) rfl ?_
    refine TL_q (Qt_cap_slice rfl Tryz.underlying41) rfl ?_
    refine TL_q (Qt_move (.slice _ _ _) rfl) rfl ?_
    refine TL_q (Qt_len_slice rfl Tryz.underlying41) rfl ?_
    first
      | refine TL_q (Qt_sub rfl rfl (by omega) (by omega)) rfl ?_
      | refine TL_q (Qt_subw rfl rfl) rfl ?_
    refine TL_q (Qt_val (Qt_sub rfl rfl (by omega) (by omega)) (congrArg (Value.int .i64) (show _ = (n : Int) from by omega))) rfl ?_
    refine TL_q (Qt_assign (.int .i64 _) rfl) rfl ?_
    refine TL_nil ?_
    refine X_then ?_
    refine T_seq ?_
    refine T_region ?_
    refine TL_q (Qt_move (.int .i64 _) rfl) rfl ?_
    refine TL_q (Qt_gtr rfl rfl) rfl ?_
    refine TL_nil ?_
    refine X_then ?_
    refine T_cond rfl (fun h16 => ?_) (fun h16 => ?_)
    ·
      have p16 := h16
      try simp only [decide_eq_true_eq, decide_eq_false_iff_not, Bool.not_eq_true', Bool.not_eq_false', Option.isNone_iff_eq_none, ne_eq, Decidable.not_not, Int.not_lt, Int.not_le] at p16
      refine T_region ?_
      refine TL_q (Qt_move (.slice _ _ _) rfl) rfl ?_
      refine TL_q (Qt_move (.slice _ _ _) rfl) rfl ?_
      refine TL_q (Qt_cap_slice rfl Tryz.underlying41) rfl ?_
      refine TL_q (Qt_slice_h 0 rfl rfl (fun _ _ => Nat.le_refl _)) rfl ?_
      refine TL_q (Qt_move (.int .i64 _) rfl) rfl ?_
      refine TL_e rfl (Ef_appendMake rfl rfl Tryz.underlying3 (by omega) hn rfl (fun a22 c22 => ?_))
      refine TL_q (Qt_move (.slice _ _ _) rfl) rfl ?_
      refine TL_q (Qt_len_slice rfl Tryz.underlying41) rfl ?_
      refine TL_q (Qt_slice_h 0 rfl rfl (fun _ _ => Nat.zero_le _)) rfl ?_
      refine TL_q (Qt_assign (.slice _ _ _) rfl) rfl ?_
      refine TL_nil ?_
      refine X_then ?_
      refine T_seq ?_
      refine T_region ?_
      refine TL_q (Qt_move (.slice _ _ _) rfl) rfl ?_
      refine TL_q (Qt_assign (.slice _ _ _) rfl) rfl ?_
      refine TL_nil ?_
      refine X_then ?_
      refine T_ret ?_
      exact X_ret ⟨a22, c22⟩ [_] Tryz.results123 ⟨rfl, trivial⟩ rfl (fun _ hw => hw)
    ·
      have p16 := h16
      try simp only [decide_eq_true_eq, decide_eq_false_iff_not, Bool.not_eq_true', Bool.not_eq_false', Option.isNone_iff_eq_none, ne_eq, Decidable.not_not, Int.not_lt, Int.not_le] at p16
      obtain rfl : n = 0 := by omega
      refine T_skip ?_
      refine X_then ?_
      refine T_seq ?_
      refine T_region ?_
      refine TL_q (Qt_move (.slice _ _ _) rfl) rfl ?_
      refine TL_q (Qt_assign (.slice _ _ _) rfl) rfl ?_
      refine TL_nil ?_
      refine X_then ?_
      refine T_ret ?_
      exact X_ret ⟨none, 0⟩ [_] Tryz.results123 ⟨rfl, trivial⟩ rfl (fun w hw => (Subs.st inferInstance w hw : St w0 H w).addNilB 5)
def joined (ls : List BS) (k : Nat) : List UInt8 := ((ls.map BS.l).take k).flatten
theorem joined_succ (ls : List BS) (k : Nat) (hk : k < ls.length) : joined ls (k + 1) = joined ls k ++ ls[k].l := by
  unfold joined; rw [take_get _ _ (by simpa using hk)]; simp
theorem joined_all (ls : List BS) {k : Nat} (hk : ls.length ≤ k) : joined ls k = (ls.map BS.l).flatten := by
  unfold joined; rw [List.take_of_length_le (by simpa using hk)]
theorem joined_le (ls : List BS) (k : Nat) : (joined ls k).length ≤ ((ls.map BS.l).flatten).length := by
  have h : (ls.map BS.l).flatten = joined ls k ++ ((ls.map BS.l).drop k).flatten := by unfold joined; rw [← List.flatten_append, List.take_append_drop]
  rw [h]; simp

set_option maxHeartbeats 1000000 in
theorem concat_c {w0 : World} {H : List SA} {a : Option Addr} {ls : List BS} {c : Nat} [hr : RdC w0 H (.slice a ls.length c) 1 (ls.map BS.val)] [re : RdE w0 H ls] (hs : (ls.map BS.l).flatten.length ≤ 4294967296) (hn : ls.length ≤ 4294967296) :
    CT Tryz.prog w0 (H) 80 [.slice a ls.length c] (α := AC) (fun y => .slice y.a (ls.map BS.l).flatten.length y.c) (fun y => row (.slice y.a (ls.map BS.l).flatten.length y.c) 5 1 (bytesV (ls.map BS.l).flatten) :: H) := by
  refine CT_intro Tryz.func80 rfl Tryz.ntmps80 rfl ?_
  refine T_seq ?_
  refine T_region ?_
  refine TL_q (Qt_assign (.slice _ _ _) rfl) rfl ?_
  refine TL_nil ?_
  refine X_then ?_
  refine T_seq ?_
  refine T_region ?_
  refine TL_q (Qt_assign (.int .i64 _) rfl) rfl ?_
  refine TL_nil ?_
  refine X_then ?_
  refine T_seq ?_
  refine T_seq ?_
  refine T_region ?_
  refine TL_q (Qt_move (.slice _ _ _) rfl) rfl ?_
  refine TL_q (Qt_len_slice rfl Tryz.underlying42) rfl ?_
  refine TL_q (Qt_move (.int .i64 _) rfl) rfl ?_
  refine TL_nil ?_
  refine X_then ?_
  refine T_block ?_
  refine T_loop [3, 5, 11, 12, 13, 14, 15, 16, 17, 18, 19, 20, 21, 22] [11, 3] (fun us H' => ∃ (k : Nat), us = [.int .i64 (k : Int), .int .i64 ((joined ls k).length : Int)] ∧ H = H' ∧ k ≤ ls.length) (fun us => match us with | .int _ i :: _ => ls.length - i.toNat | _ => 0) ⟨0, rfl, rfl, by omega⟩ (Subs.st inferInstance) ?_
  rintro τ0 _ _  ⟨k, rfl, rfl, hk0⟩ _
  refine T_seq ?_
  refine T_region ?_
  refine TL_q (Qt_lss rfl rfl) rfl ?_
  refine TL_nil ?_
  refine X_then ?_
  refine T_seq ?_
  refine T_cond rfl (fun h12 => ?_) (fun h12 => ?_)
  ·
    have p12 := h12
    try simp only [decide_eq_true_eq, decide_eq_false_iff_not, Bool.not_eq_true', Bool.not_eq_false', Option.isNone_iff_eq_none, ne_eq, Decidable.not_not, Int.not_lt, Int.not_le] at p12
    have hk : k < ls.length := by omega
    have hj := joined_le ls (k + 1)
    rw [joined_succ ls k hk, List.length_append] at hj
    refine T_skip ?_
    refine X_then ?_
    refine T_seq ?_
    refine T_block ?_
    refine T_seq ?_
    refine T_region ?_
    refine TL_q (Qt_indexR rfl rfl (by omega) (by simp; omega)) rfl ?_
    refine TL_q (Qt_loadR (.slice _ _ _) rfl (vals_get _ _ hk)) rfl ?_
    refine TL_q (Qt_assign (.slice _ _ _) rfl) rfl ?_
    refine TL_nil ?_
    refine X_then ?_
    refine T_seq ?_
    refine T_region ?_
    refine TL_q (Qt_move (.int .i64 _) rfl) rfl ?_
    refine TL_q (Qt_move (.slice _ _ _) rfl) rfl ?_
    refine TL_q (Qt_len_slice rfl Tryz.underlying41) rfl ?_
    refine TL_q (Qt_val (Qt_add rfl rfl (by omega) (by omega)) (congrArg (Value.int .i64) (show ((joined ls k).length : Int) + (ls[k].l.length : Int) = ((joined ls (k + 1)).length : Int) from by rw [joined_succ ls k hk, List.length_append]; omega))) rfl ?_
    refine TL_q (Qt_assign (.int .i64 _) rfl) rfl ?_
    refine TL_nil ?_
    refine X_then ?_
    refine T_seq ?_
    refine T_region ?_
    refine TL_q (Qt_move (.int .i64 _) rfl) rfl ?_
    refine TL_q (Qt_lss rfl rfl) rfl ?_
    refine TL_nil ?_
    refine X_then ?_
    refine T_cond rfl (fun h20 => ?_) (fun h20 => ?_)
    ·
      have p20 := h20
      try simp only [decide_eq_true_eq, decide_eq_false_iff_not, Bool.not_eq_true', Bool.not_eq_false', Option.isNone_iff_eq_none, ne_eq, Decidable.not_not, Int.not_lt, Int.not_le] at p20
      exact absurd p20 (by omega)
    ·
      have p20 := h20
      try simp only [decide_eq_true_eq, decide_eq_false_iff_not, Bool.not_eq_true', Bool.not_eq_false', Option.isNone_iff_eq_none, ne_eq, Decidable.not_not, Int.not_lt, Int.not_le] at p20
      refine T_skip ?_
      refine X_block ?_
      refine X_then ?_
      refine T_region ?_
      first
        | refine TL_q (Qt_add rfl rfl (by omega) (by omega)) rfl ?_
        | refine TL_q (Qt_addw rfl rfl) rfl ?_
      refine TL_q (Qt_move (.int .i64 _) rfl) rfl ?_
      refine TL_nil ?_
      apply X_loop
      case ha => exact (by repeat (first | with_reducible exact agree_refl | refine agree_upd rfl ?_ | refine agree_mix rfl ?_ | refine agree_setAll rfl ?_))
      case hI => exact ⟨k + 1, rfl, rfl, by omega⟩
      case hm => exact by show ls.length - (k + 1 : Int).toNat < ls.length - (k : Int).toNat; omega
      case hH => exact (Subs.st inferInstance)
  ·
    have p12 := h12
    try simp only [decide_eq_true_eq, decide_eq_false_iff_not, Bool.not_eq_true', Bool.not_eq_false', Option.isNone_iff_eq_none, ne_eq, Decidable.not_not, Int.not_lt, Int.not_le] at p12
    have ej := joined_all ls (k := k) (by omega)
    rw [ej]
    refine T_exit ?_
    refine X_then_exit ?_
    refine X_loop_exit ?_
    refine X_block_exit ?_
    refine X_then ?_
    refine T_seq ?_
    refine T_region ?_
    refine TL_q (Qt_move (.int .i64 _) rfl) rfl ?_
    refine TL_e rfl (Ef_call (grow_c hs) rfl (fun x24 => ?_))
    refine TL_q (Qt_assign (.slice _ _ _) rfl) rfl ?_
    refine TL_nil ?_
    refine X_then ?_
    refine T_seq ?_
    refine T_seq ?_
    refine T_region ?_
    refine TL_q (Qt_move (.slice _ _ _) rfl) rfl ?_
    refine TL_q (Qt_len_slice rfl Tryz.underlying42) rfl ?_
    refine TL_q (Qt_move (.int .i64 _) rfl) rfl ?_
    refine TL_nil ?_
    refine X_then ?_
    refine T_block ?_
    refine T_loop [6, 8, 27, 28, 29, 30, 31, 32, 33, 34] [27, 6] (fun us H' => ∃ (k : Nat) (a1 : Option Addr) (c1 : Nat), us = [.int .i64 (k : Int), .slice a1 (joined ls k).length c1] ∧ row (.slice a1 (joined ls k).length c1) 5 1 (bytesV (joined ls k)) :: H = H' ∧ k ≤ ls.length) (fun us => match us with | .int _ i :: _ => ls.length - i.toNat | _ => 0) ⟨0, _, _, rfl, rfl, by omega⟩ (fun _ hw => hw) ?_
    rintro τ1 _ _  ⟨k, a1, c1, rfl, rfl, hk0⟩ _
    refine T_seq ?_
    refine T_region ?_
    refine TL_q (Qt_lss rfl rfl) rfl ?_
    refine TL_nil ?_
    refine X_then ?_
    refine T_seq ?_
    refine T_cond rfl (fun h28 => ?_) (fun h28 => ?_)
    ·
      have p28 := h28
      try simp only [decide_eq_true_eq, decide_eq_false_iff_not, Bool.not_eq_true', Bool.not_eq_false', Option.isNone_iff_eq_none, ne_eq, Decidable.not_not, Int.not_lt, Int.not_le] at p28
      have hk : k < ls.length := by omega
      have hj := joined_le ls (k + 1)
      rw [joined_succ ls k hk, List.length_append] at hj
      refine T_skip ?_
      refine X_then ?_
      refine T_seq ?_
      refine T_block ?_
      refine T_seq ?_
      refine T_region ?_
      refine TL_q (Qt_indexR rfl rfl (by omega) (by simp; omega)) rfl ?_
      refine TL_q (Qt_loadR (.slice _ _ _) rfl (vals_get _ _ hk)) rfl ?_
      refine TL_q (Qt_assign (.slice _ _ _) rfl) rfl ?_
      refine TL_nil ?_
      refine X_then ?_
      refine T_region ?_
      refine TL_q (Qt_move (.slice _ _ _) rfl) rfl ?_
      refine TL_q (Qt_move (.slice _ _ _) rfl) rfl ?_
      refine TL_e rfl (Ef_appendB (sv := .slice _ _ _) (xv := .slice _ _ _) rfl rfl (by omega) rfl (fun a33 c33 => ?_))
      rw [← joined_succ ls k hk]
      refine TL_q (Qt_assign (.slice _ _ _) rfl) rfl ?_
      refine TL_nil ?_
      refine X_block ?_
      refine X_then ?_
      refine T_region ?_
      first
        | refine TL_q (Qt_add rfl rfl (by omega) (by omega)) rfl ?_
        | refine TL_q (Qt_addw rfl rfl) rfl ?_
      refine TL_q (Qt_move (.int .i64 _) rfl) rfl ?_
      refine TL_nil ?_
      apply X_loop
      case ha => exact (by repeat (first | with_reducible exact agree_refl | refine agree_upd rfl ?_ | refine agree_mix rfl ?_ | refine agree_setAll rfl ?_))
      case hI => exact ⟨k + 1, _, _, rfl, rfl, by omega⟩
      case hm => exact by show ls.length - (k + 1 : Int).toNat < ls.length - (k : Int).toNat; omega
      case hH => exact (Subs.st inferInstance)
    ·
      have p28 := h28
      try simp only [decide_eq_true_eq, decide_eq_false_iff_not, Bool.not_eq_true', Bool.not_eq_false', Option.isNone_iff_eq_none, ne_eq, Decidable.not_not, Int.not_lt, Int.not_le] at p28
      have ej := joined_all ls (k := k) (by omega)
      rw [ej]
      refine T_exit ?_
      refine X_then_exit ?_
      refine X_loop_exit ?_
      refine X_block_exit ?_
      refine X_then ?_
      refine T_seq ?_
      refine T_region ?_
      refine TL_q (Qt_move (.slice _ _ _) rfl) rfl ?_
      refine TL_q (Qt_assign (.slice _ _ _) rfl) rfl ?_
      refine TL_nil ?_
      refine X_then ?_
      refine T_ret ?_
      exact X_ret ⟨a1, c1⟩ [_] Tryz.results80 ⟨rfl, trivial⟩ rfl (Subs.st inferInstance)
instance RdE.two {w0 : World} {H : List SA} {x y : BS} [h : RdB w0 H (.slice x.a x.l.length x.c) x.l] [h2 : RdB w0 H (.slice y.a y.l.length y.c) y.l] : RdE w0 H [x, y] := ⟨fun z hz w hw => by
  rcases List.mem_cons.1 hz with rfl | hz
  · exact h.rd w hw
  · obtain rfl : z = y := by simpa using hz
    exact h2.rd w hw⟩
theorem concat2_c {w0 : World} {H : List SA} {a : Option Addr} {x y : BS} {c : Nat} [hr : RdC w0 H (.slice a 2 c) 1 [x.val, y.val]] [h1 : RdB w0 H (.slice x.a x.l.length x.c) x.l] [h2 : RdB w0 H (.slice y.a y.l.length y.c) y.l] (hs : x.l.length + y.l.length ≤ 4294967296) :
    CT Tryz.prog w0 H 80 [.slice a 2 c] (α := AC) (fun z => .slice z.a (x.l ++ y.l).length z.c) (fun z => row (.slice z.a (x.l ++ y.l).length z.c) 5 1 (bytesV (x.l ++ y.l)) :: H) := by
  have e : ([x, y].map BS.l).flatten = x.l ++ y.l := by simp
  have := concat_c (w0 := w0) (H := H) (a := a) (ls := [x, y]) (c := c) (hr := hr) (re := RdE.two) (by rw [e]; simpa using hs) (by simp)
  rwa [e] at this

abbrev FM := List (Ent ByteArray BS)
def encS (s : ByteArray) : Value := .string s
instance keyStr : Key Tryz.prog 9 encS where
  eq x y w := equal_run (x := encS x) (y := encS y) (h := (inferInstance : EqV Tryz.prog 9 (.string x) (.string y) _)) w
  now d hd x y := by
    rw [Tryz.underlying9] at hd
    obtain rfl : .string = d := by simpa using hd
    right
    simp only [encS, Instr.sameNow]
    congr 1
    rw [Bool.eq_iff_iff, beqBytes]
    simp
  there := by rw [Tryz.underlying9]; rfl
  check k empty w := by
    have h : ∀ n, n = 9999 + 1 → (Instr.checkKey empty n 9 (encS k)).run Tryz.prog w = .ok () w := fun n hn => by
      rw [hn, Instr.checkKey]
      simp only [Sem.run_bind, run_underlying Tryz.underlying9, Result.andThen_ok, encS, Sem.run_pure]
    exact h 10000 (by decide)
  same k := by
    have h : ∀ n, Instr.sameBits n (encS k) (encS k) = true := fun n => by cases n <;> exact (beqBytes k k).2 rfl
    exact h 10000
def zB : BS := ⟨none, 0, []⟩
def oldE (es : FM) (k : ByteArray) : BS := (getE es k).getD zB
theorem bs_zero : (Tryz.prog.info? 41).bind (·.zero) = some (BS.val zB) := (inferInstance : TyZ Tryz.prog 41 (.slice none 0 0)).ok
def doE (es : FM) (a : ActV) (x : BS) (c : Nat) : FM := if a.kind = 1 ∨ a.kind = 2 then putE es a.name x c
  else if a.kind = 3 then (if hasE es a.name = true ∧ a.name ≠ a.to then putE (delE es a.name) a.to (oldE es a.name) c else es) else if a.kind = 4 then delE es a.name else es
def doC (es : FM) (a : ActV) (c : Nat) : Nat := if a.kind = 1 ∨ a.kind = 2 then clockE es a.name c
  else if a.kind = 3 then (if hasE es a.name = true ∧ a.name ≠ a.to then clockE (delE es a.name) a.to c else c) else c
def newB (es : FM) (a : ActV) : List UInt8 := if a.kind = 1 then (oldE es a.name).l ++ a.b.l else if a.kind = 2 then a.b.l else []
def sizeE (es : FM) : Nat := (es.map fun e => e.v.l.length).sum
theorem split_sum (g : Ent ByteArray BS → Nat) : ∀ (L : FM) (e : Ent ByteArray BS), (L.map (·.b)).Nodup → e ∈ L → (L.map g).sum = g e + ((L.filter fun x => !(x.b == e.b)).map g).sum
  | [], e, _, he => by cases he
  | x :: L, e, hn, he => by
    simp only [List.map_cons, List.nodup_cons] at hn
    rcases List.mem_cons.1 he with rfl | he
    · have h1 : L.filter (fun x => !(x.b == e.b)) = L := List.filter_eq_self.2 fun y hy => by
        have : y.b ≠ e.b := fun h => hn.1 (h ▸ List.mem_map.2 ⟨y, hy, rfl⟩)
        simpa using this
      rw [List.filter_cons (p := fun x : Ent ByteArray BS => !(x.b == e.b))]
      simp only [beq_self_eq_true, Bool.not_true, Bool.false_eq_true, if_false, h1, List.map_cons, List.sum_cons]
    · have hne : x.b ≠ e.b := fun h => hn.1 (h ▸ List.mem_map.2 ⟨e, he, rfl⟩)
      have ih := split_sum g L e hn.2 he
      rw [List.filter_cons (p := fun x : Ent ByteArray BS => !(x.b == e.b))]
      simp only [show (!(x.b == e.b)) = true from by simpa using hne, if_true, List.map_cons, List.sum_cons]
      omega
theorem leftF_push (es : FM) (seen : Array Nat) (b : Nat) : leftE es (seen.push b) = (leftE es seen).filter fun x => !(x.b == b) := by
  unfold leftE
  rw [List.filter_filter]
  congr 1
  funext x
  simp only [Array.contains_push, Bool.not_or]
  cases seen.contains x.b <;> cases h : (x.b == b) <;> simp_all
theorem leftF_nodup {es : FM} {seen : Array Nat} (h : (es.map (·.b)).Nodup) : ((leftE es seen).map (·.b)).Nodup := by
  unfold leftE
  exact h.sublist (List.filter_sublist.map _)
theorem leftF_sum {es : FM} {seen : Array Nat} {e : Ent ByteArray BS} (h : (es.map (·.b)).Nodup) (he : e ∈ leftE es seen) : sizeE (leftE es seen) = e.v.l.length + sizeE (leftE es (seen.push e.b)) := by
  have := split_sum (fun x => x.v.l.length) _ e (leftF_nodup (seen := seen) h) he
  unfold sizeE
  rw [leftF_push, this]
theorem leftF_less {es : FM} {seen : Array Nat} {e : Ent ByteArray BS} (h : (es.map (·.b)).Nodup) (he : e ∈ leftE es seen) : (leftE es (seen.push e.b)).length < (leftE es seen).length := by
  have := split_sum (fun _ => 1) _ e (leftF_nodup (seen := seen) h) he
  rw [leftF_push]
  simp only [List.map_const', List.sum_replicate_nat, Nat.mul_one] at this
  omega
theorem leftF_all (es : FM) : leftE es #[] = es := by simp [leftE]

set_option maxHeartbeats 1000000 in
theorem mclone_c {w0 : World} {H : List SA} {r c : Nat} {es : FM} :
    CT Tryz.prog w0 (blk r (mapO encS BS.val es c) :: H) 82 [.map (some r)] (α := Nat) (fun q => .map (some q)) (fun q => blk q (mapO encS BS.val es c) :: blk r (mapO encS BS.val es c) :: H) := by
  refine CT_intro Tryz.func82 rfl Tryz.ntmps82 rfl ?_
  refine T_seq ?_
  refine T_region ?_
  refine TL_q (Qt_assign (.map _) rfl) rfl ?_
  refine TL_nil ?_
  refine X_then ?_
  refine T_seq ?_
  refine T_seq ?_
  refine T_region ?_
  refine TL_q (Qt_move (.map _) rfl) rfl ?_
  refine TL_q (Qt_map_nil rfl rfl Tryz.underlying70) rfl ?_
  refine TL_nil ?_
  refine X_then ?_
  refine T_cond rfl (fun h4 => ?_) (fun h4 => ?_)
  ·
    have p4 := h4
    try simp only [decide_eq_true_eq, decide_eq_false_iff_not, Bool.not_eq_true', Bool.not_eq_false', Option.isNone_iff_eq_none, ne_eq, Decidable.not_not, Int.not_lt, Int.not_le] at p4
    cases h4
  ·
    have p4 := h4
    try simp only [decide_eq_true_eq, decide_eq_false_iff_not, Bool.not_eq_true', Bool.not_eq_false', Option.isNone_iff_eq_none, ne_eq, Decidable.not_not, Int.not_lt, Int.not_le] at p4
    refine T_skip ?_
    refine X_then ?_
    refine T_seq ?_
    refine T_region ?_
    refine TL_q (Qt_move (.map _) rfl) rfl ?_
    refine TL_q (Qt_makeIfaceM rfl Tryz.underlying70) rfl ?_
    refine TL_e rfl (Ef_mapsClone (enc := encS) (ev := BS.val) (r := r) (es := es) (c := c) rfl Tryz.func124 (by kernel_rfl) (by kernel_rfl) (by kernel_rfl) (by kernel_rfl) (fun q7 => ?_))
    refine TL_q (Qt_assertMap rfl Tryz.underlying70) rfl ?_
    refine TL_q (Qt_assign (.map _) rfl) rfl ?_
    refine TL_nil ?_
    refine X_then ?_
    refine T_ret ?_
    exact X_ret q7 [_] Tryz.results82 ⟨rfl, trivial⟩ rfl (Subs.st inferInstance)
set_option maxHeartbeats 1000000 in
theorem fsize_c {w0 : World} {H : List SA} {r c : Nat} {es : FM} (hg : GoodM es c) (hs : sizeE es ≤ 4000000000000000) :
    CT Tryz.prog w0 (blk r (mapO encS BS.val es c) :: H) 171 [.map (some r)] (α := Unit) (fun _ => .int .i64 (sizeE es : Int)) (fun _ => blk r (mapO encS BS.val es c) :: H) := by
  refine CT_intro Tryz.func171 rfl Tryz.ntmps171 rfl ?_
  refine T_seq ?_
  refine T_region ?_
  refine TL_q (Qt_assign (.int .i64 _) rfl) rfl ?_
  refine TL_nil ?_
  refine X_then ?_
  refine T_seq ?_
  refine T_region ?_
  refine TL_q (Qt_assign (.int .i64 _) rfl) rfl ?_
  refine TL_nil ?_
  refine X_then ?_
  refine T_seq ?_
  refine T_seq ?_
  refine T_region ?_
  refine TL_q (Qt_move (.map _) rfl) rfl ?_
  refine TL_e rfl (Ef_range rfl Tryz.underlying70 (fun it7 => ?_))
  refine TL_nil ?_
  refine X_then ?_
  refine T_block ?_
  refine T_loopg (m0 := (leftE es #[]).length) [3, 5, 8, 9, 10, 11, 12, 13, 14, 15] [3] (fun us H' m => ∃ (n : Nat) (seen : Array Nat), us = [.int .i64 (n : Int)] ∧ blk it7 (.mapIter (some r) c seen c) :: blk r (mapO encS BS.val es c) :: H = H' ∧ m = (leftE es seen).length ∧ n + sizeE (leftE es seen) = sizeE es) ⟨0, #[], rfl, rfl, rfl, by rw [leftF_all, Nat.zero_add]⟩ (Subs.st inferInstance) ?_
  rintro τ0 _ _ m ⟨n, seen, rfl, rfl, rfl, hn⟩ _
  refine T_seq ?_
  refine T_region ?_
  refine TL_e rfl (Ef_next rfl hg.lt hg.lt (fun hz8 => ?_) (fun en8 hen8 => ?_))
  ·
    rw [hz8] at hn
    have hn2 : n = sizeE es := hn
    rw [hn2]
    refine TL_q (Qt_extract rfl) rfl ?_
    refine TL_nil ?_
    refine X_then ?_
    refine T_seq ?_
    refine T_cond_false rfl rfl ?_
    refine T_exit ?_
    refine X_then_exit ?_
    refine X_loopg_exit ?_
    refine X_block_exit ?_
    refine X_then ?_
    refine T_seq ?_
    refine T_region ?_
    refine TL_q (Qt_move (.int .i64 _) rfl) rfl ?_
    refine TL_q (Qt_assign (.int .i64 _) rfl) rfl ?_
    refine TL_nil ?_
    refine X_then ?_
    refine T_ret ?_
    exact X_ret () [_] Tryz.results171 ⟨rfl, trivial⟩ rfl (Subs.st inferInstance)
  ·
    have hmem : en8 ∈ es := (List.mem_filter.1 hen8).1
    refine TL_q (Qt_extract rfl) rfl ?_
    refine TL_nil ?_
    refine X_then ?_
    refine T_seq ?_
    refine T_cond_true rfl rfl ?_
    refine T_skip ?_
    refine X_then ?_
    refine T_block ?_
    refine T_seq ?_
    refine T_region ?_
    refine TL_q (Qt_entry en8 rfl hmem hg.born) rfl ?_
    refine TL_q (Qt_extract rfl) rfl ?_
    refine TL_q (Qt_assign (.slice _ _ _) rfl) rfl ?_
    refine TL_nil ?_
    refine X_then ?_
    refine T_region ?_
    refine TL_q (Qt_move (.int .i64 _) rfl) rfl ?_
    refine TL_q (Qt_move (.slice _ _ _) rfl) rfl ?_
    refine TL_q (Qt_len_slice rfl Tryz.underlying41) rfl ?_
    have hb2 := leftF_sum hg.born hen8
    refine TL_q (Qt_val (Qt_add rfl rfl (by omega) (by omega)) (congrArg (Value.int .i64) (show (n : Int) + (en8.v.l.length : Int) = ((n + en8.v.l.length : Nat) : Int) from by omega))) rfl ?_
    refine TL_q (Qt_assign (.int .i64 _) rfl) rfl ?_
    refine TL_nil ?_
    refine X_block ?_
    refine X_loopg _ (by repeat (first | with_reducible exact agree_refl | refine agree_upd rfl ?_ | refine agree_mix rfl ?_ | refine agree_setAll rfl ?_)) (⟨n + en8.v.l.length, seen.push en8.b, rfl, rfl, rfl, by omega⟩) (leftF_less hg.born hen8) ((Subs.st inferInstance))
def namedB (s : ByteArray) : Bool := decide (1 ≤ s.size ∧ s.size ≤ 24)
set_option maxHeartbeats 1000000 in
theorem named_c {w0 : World} {H : List SA} {s : ByteArray} :
    CT Tryz.prog w0 (H) 120 [.string s] (α := Unit) (fun _ => .bool (namedB s)) (fun _ => H) := by
  refine CT_intro Tryz.func120 rfl Tryz.ntmps120 rfl ?_
  refine T_seq ?_
  refine T_region ?_
  refine TL_q (Qt_assign (.bool _) rfl) rfl ?_
  refine TL_nil ?_
  refine X_then ?_
  refine T_seq ?_
  refine T_region ?_
  refine TL_q (Qt_move (.string _) rfl) rfl ?_
  refine TL_q (Qt_len_string rfl Tryz.underlying9) rfl ?_
  refine TL_q (Qt_geq rfl rfl) rfl ?_
  refine TL_q (Qt_move (.bool _) rfl) rfl ?_
  refine TL_split 6 rfl (fun h6 => ?_) (fun h6 => ?_)
  ·
    have p6 := h6
    try simp only [decide_eq_true_eq, decide_eq_false_iff_not, Bool.not_eq_true', Bool.not_eq_false', Option.isNone_iff_eq_none, ne_eq, Decidable.not_not, Int.not_lt, Int.not_le] at p6
    refine TL_take rfl rfl h6 ?_
    refine TL_q (Qt_move (.string _) rfl) rfl ?_
    refine TL_take rfl rfl h6 ?_
    refine TL_q (Qt_len_string rfl Tryz.underlying9) rfl ?_
    refine TL_take rfl rfl h6 ?_
    refine TL_q (Qt_leq rfl rfl) rfl ?_
    refine TL_q (Qt_pick_t (.bool _) rfl h6 rfl) rfl ?_
    refine TL_q (Qt_assign (.bool _) rfl) rfl ?_
    refine TL_nil ?_
    refine X_then ?_
    refine T_ret ?_
    refine X_ret () [.bool (namedB s)] Tryz.results120 ⟨?_, trivial⟩ rfl (Subs.st inferInstance)
    refine congrArg Value.bool ?_
    rw [Bool.eq_iff_iff]
    simp only [namedB, decide_eq_true_eq, Bool.false_eq_true, false_iff]
    omega
  ·
    have p6 := h6
    try simp only [decide_eq_true_eq, decide_eq_false_iff_not, Bool.not_eq_true', Bool.not_eq_false', Option.isNone_iff_eq_none, ne_eq, Decidable.not_not, Int.not_lt, Int.not_le] at p6
    refine TL_pass rfl rfl h6 rfl ?_
    refine TL_pass rfl rfl h6 rfl ?_
    refine TL_pass rfl rfl h6 rfl ?_
    refine TL_q (Qt_pick_f (.bool _) rfl h6 rfl) rfl ?_
    refine TL_q (Qt_assign (.bool _) rfl) rfl ?_
    refine TL_nil ?_
    refine X_then ?_
    refine T_ret ?_
    refine X_ret () [.bool (namedB s)] Tryz.results120 ⟨?_, trivial⟩ rfl (Subs.st inferInstance)
    refine congrArg Value.bool ?_
    rw [Bool.eq_iff_iff]
    simp only [namedB, decide_eq_true_eq, Bool.false_eq_true, false_iff]
    omega
theorem St.nilUnder {w0 w : World} {H : List SA} {x : SA} (e : TypeId) (h : St w0 (x :: H) w) : St w0 (x :: row (.slice none ([] : List UInt8).length 0) e 1 (bytesV []) :: H) w := by
  have h1 := h.addNilB e
  exact Subs.st (H := row (.slice none ([] : List UInt8).length 0) e 1 (bytesV []) :: x :: H) inferInstance w h1
set_option maxHeartbeats 1000000 in
theorem fdo_c {w0 : World} {H : List SA} {r c : Nat} {es : FM} {a : ActV} [ro : RdB w0 H (.slice (oldE es a.name).a (oldE es a.name).l.length (oldE es a.name).c) (oldE es a.name).l] [rb : RdB w0 H (.slice a.b.a a.b.l.length a.b.c) a.b.l] (hs : (oldE es a.name).l.length + a.b.l.length ≤ 4294967296) :
    CT Tryz.prog w0 (blk r (mapO encS BS.val es c) :: H) 38 [.map (some r), .agg a.cells] (α := BS) (fun _ => .tuple #[]) (fun x => pu (x.l = newB es a) :: blk r (mapO encS BS.val (doE es a x c) (doC es a c)) :: row (.slice x.a x.l.length x.c) 5 1 (bytesV x.l) :: H) := by
  refine CT_intro Tryz.func38 rfl Tryz.ntmps38 rfl ?_
  refine T_seq ?_
  refine T_region ?_
  refine TL_e rfl (Ef_boxN rfl (fun b3 => ?_))
  refine TL_nil ?_
  refine X_then ?_
  refine T_seq ?_
  refine T_region ?_
  refine TL_q (Qt_fieldAddr 0 rfl rfl) rfl ?_
  refine TL_q (Qt_load1 rfl) rfl ?_
  refine TL_nil ?_
  refine X_then ?_
  refine T_block ?_
  refine T_seq ?_
  refine T_region ?_
  refine TL_q (Qt_eql rfl rfl) rfl ?_
  refine TL_q (Qt_assign (.bool _) rfl) rfl ?_
  refine TL_nil ?_
  refine X_then ?_
  refine T_cond rfl (fun h8 => ?_) (fun h8 => ?_)
  ·
    have p8 := h8
    try simp only [decide_eq_true_eq, decide_eq_false_iff_not, Bool.not_eq_true', Bool.not_eq_false', Option.isNone_iff_eq_none, ne_eq, Decidable.not_not, Int.not_lt, Int.not_le] at p8
    refine T_draw (blk b3 (.cells a.cells 102 (0, 0)) :: H) [(0, true), (1, true), (2, true), (3, true), (4, true), (5, true), (7, true), (8, true), (6, false), (9, false), (10, false), (11, false)] (by kernel_rfl) (by kernel_rfl) rfl (by kernel_rfl) (Subs.st inferInstance) (fun hns0 => ?_)
    refine DL_q hns0 rfl (Qt_move (.map _) rfl) rfl ?_
    refine DL_q hns0 rfl (Qt_fieldAddr 1 rfl rfl) rfl ?_
    refine DL_q hns0 rfl (Qt_load1 rfl) rfl ?_
    refine DL_q hns0 rfl (Qt_move (.map _) rfl) rfl ?_
    refine DL_q hns0 rfl (Qt_fieldAddr 1 rfl rfl) rfl ?_
    refine DL_q hns0 rfl (Qt_load1 rfl) rfl ?_
    refine DL_q hns0 rfl (Qt_fieldAddr 3 rfl rfl) rfl ?_
    refine DL_q hns0 rfl (Qt_load1 rfl) rfl ?_
    refine DL_e rfl rfl (Ef_of_Qt (Qt_lookup1 (key := a.name) (enc := encS) (ev := BS.val) (zB) rfl rfl Tryz.underlying70 bs_zero) (⟨(Subs.st inferInstance), ?_⟩))
    rw [show (getE es a.name).getD zB = oldE es a.name from rfl]
    refine DL_e rfl rfl (Ef_sliceN (m := 2) [BS.val (oldE es a.name), BS.val a.b] [BS.val (oldE es a.name), BS.val a.b] rfl rfl rfl rfl (by simp [Value.cells, BS.val]) rfl rfl (fun a19 c19 => ⟨(Subs.st inferInstance), ?_⟩))
    refine DL_e rfl rfl (Ef_call (concat2_c (x := oldE es a.name) (y := a.b) hs) rfl (fun x20 => ⟨(Subs.st inferInstance), ?_⟩))
    refine DL_n rfl (Ef_mapUpdate (key := a.name) (enc := encS) (ev := BS.val) (⟨x20.a, x20.c, (oldE es a.name).l ++ a.b.l⟩) rfl rfl rfl Tryz.underlying70 (⟨(Subs.st inferInstance), ?_⟩))
    refine DL_nil ?_
    refine X_block ?_
    have e1 : doE es a ⟨x20.a, x20.c, (oldE es a.name).l ++ a.b.l⟩ c = putE es a.name ⟨x20.a, x20.c, (oldE es a.name).l ++ a.b.l⟩ c := by unfold doE; rw [if_pos (by omega)]
    have e2 : doC es a c = clockE es a.name c := by unfold doC; rw [if_pos (by omega)]
    have e3 : newB es a = (oldE es a.name).l ++ a.b.l := by unfold newB; rw [if_pos (by omega)]
    exact X_ret ⟨x20.a, x20.c, (oldE es a.name).l ++ a.b.l⟩ [] Tryz.results38 trivial rfl (fun w hw => by rw [e1, e2]; exact St.addPure ((Subs.st inferInstance w hw : St w0 (blk r (mapO encS BS.val (putE es a.name ⟨x20.a, x20.c, (oldE es a.name).l ++ a.b.l⟩ c) (clockE es a.name c)) :: row (.slice (BS.mk x20.a x20.c ((oldE es a.name).l ++ a.b.l)).a (BS.mk x20.a x20.c ((oldE es a.name).l ++ a.b.l)).l.length (BS.mk x20.a x20.c ((oldE es a.name).l ++ a.b.l)).c) 5 1 (bytesV (BS.mk x20.a x20.c ((oldE es a.name).l ++ a.b.l)).l) :: H) w)) e3.symm)
  ·
    have p8 := h8
    try simp only [decide_eq_true_eq, decide_eq_false_iff_not, Bool.not_eq_true', Bool.not_eq_false', Option.isNone_iff_eq_none, ne_eq, Decidable.not_not, Int.not_lt, Int.not_le] at p8
    refine T_seq ?_
    refine T_region ?_
    refine TL_q (Qt_eql rfl rfl) rfl ?_
    refine TL_q (Qt_assign (.bool _) rfl) rfl ?_
    refine TL_nil ?_
    refine X_then ?_
    refine T_cond rfl (fun h21 => ?_) (fun h21 => ?_)
    ·
      have p21 := h21
      try simp only [decide_eq_true_eq, decide_eq_false_iff_not, Bool.not_eq_true', Bool.not_eq_false', Option.isNone_iff_eq_none, ne_eq, Decidable.not_not, Int.not_lt, Int.not_le] at p21
      refine T_draw (blk b3 (.cells a.cells 102 (0, 0)) :: H) [(0, true), (1, true), (2, true), (3, true), (4, true), (5, false), (6, false)] (by kernel_rfl) (by kernel_rfl) rfl (by kernel_rfl) (Subs.st inferInstance) (fun hns1 => ?_)
      refine DL_q hns1 rfl (Qt_move (.map _) rfl) rfl ?_
      refine DL_q hns1 rfl (Qt_fieldAddr 1 rfl rfl) rfl ?_
      refine DL_q hns1 rfl (Qt_load1 rfl) rfl ?_
      refine DL_q hns1 rfl (Qt_fieldAddr 3 rfl rfl) rfl ?_
      refine DL_q hns1 rfl (Qt_load1 rfl) rfl ?_
      refine DL_e rfl rfl (Ef_call (clone_c (by omega)) rfl (fun x28 => ⟨(Subs.st inferInstance), ?_⟩))
      refine DL_n rfl (Ef_mapUpdate (key := a.name) (enc := encS) (ev := BS.val) (⟨x28.a, x28.c, a.b.l⟩) rfl rfl rfl Tryz.underlying70 (⟨(Subs.st inferInstance), ?_⟩))
      refine DL_nil ?_
      refine X_block ?_
      have e1 : doE es a ⟨x28.a, x28.c, a.b.l⟩ c = putE es a.name ⟨x28.a, x28.c, a.b.l⟩ c := by unfold doE; rw [if_pos (by omega)]
      have e2 : doC es a c = clockE es a.name c := by unfold doC; rw [if_pos (by omega)]
      have e3 : newB es a = a.b.l := by unfold newB; rw [if_neg (by omega), if_pos (by omega)]
      exact X_ret ⟨x28.a, x28.c, a.b.l⟩ [] Tryz.results38 trivial rfl (fun w hw => by rw [e1, e2]; exact St.addPure ((Subs.st inferInstance w hw : St w0 (blk r (mapO encS BS.val (putE es a.name ⟨x28.a, x28.c, a.b.l⟩ c) (clockE es a.name c)) :: row (.slice (BS.mk x28.a x28.c a.b.l).a (BS.mk x28.a x28.c a.b.l).l.length (BS.mk x28.a x28.c a.b.l).c) 5 1 (bytesV (BS.mk x28.a x28.c a.b.l).l) :: H) w)) e3.symm)
    ·
      have p21 := h21
      try simp only [decide_eq_true_eq, decide_eq_false_iff_not, Bool.not_eq_true', Bool.not_eq_false', Option.isNone_iff_eq_none, ne_eq, Decidable.not_not, Int.not_lt, Int.not_le] at p21
      refine T_seq ?_
      refine T_region ?_
      refine TL_q (Qt_eql rfl rfl) rfl ?_
      refine TL_q (Qt_assign (.bool _) rfl) rfl ?_
      refine TL_nil ?_
      refine X_then ?_
      refine T_cond rfl (fun h29 => ?_) (fun h29 => ?_)
      ·
        have p29 := h29
        try simp only [decide_eq_true_eq, decide_eq_false_iff_not, Bool.not_eq_true', Bool.not_eq_false', Option.isNone_iff_eq_none, ne_eq, Decidable.not_not, Int.not_lt, Int.not_le] at p29
        refine T_seq ?_
        refine T_region ?_
        refine TL_q (Qt_move (.map _) rfl) rfl ?_
        refine TL_q (Qt_fieldAddr 1 rfl rfl) rfl ?_
        refine TL_q (Qt_load1 rfl) rfl ?_
        refine TL_q (Qt_lookup2 (key := a.name) (enc := encS) (ev := BS.val) (zB) rfl rfl Tryz.underlying70 bs_zero) rfl ?_
        rw [show (getE es a.name).getD zB = oldE es a.name from rfl]
        refine TL_q (Qt_move (.tuple _) rfl) rfl ?_
        refine TL_q (Qt_extract rfl) rfl ?_
        refine TL_q (Qt_extract rfl) rfl ?_
        refine TL_q (Qt_assign (.slice _ _ _) rfl) rfl ?_
        refine TL_q (Qt_assign (.bool _) rfl) rfl ?_
        refine TL_nil ?_
        refine X_then ?_
        refine T_seq ?_
        refine T_region ?_
        refine TL_q (Qt_move (.bool _) rfl) rfl ?_
        refine TL_q (Qt_move (.bool _) rfl) rfl ?_
        refine TL_split 39 rfl (fun h39 => ?_) (fun h39 => ?_)
        ·
          have p39 := h39
          try simp only [decide_eq_true_eq, decide_eq_false_iff_not, Bool.not_eq_true', Bool.not_eq_false', Option.isNone_iff_eq_none, ne_eq, Decidable.not_not, Int.not_lt, Int.not_le] at p39
          refine TL_take rfl rfl h39 ?_
          refine TL_q (Qt_fieldAddr 1 rfl rfl) rfl ?_
          refine TL_take rfl rfl h39 ?_
          refine TL_q (Qt_load1 rfl) rfl ?_
          refine TL_take rfl rfl h39 ?_
          refine TL_q (Qt_fieldAddr 2 rfl rfl) rfl ?_
          refine TL_take rfl rfl h39 ?_
          refine TL_q (Qt_load1 rfl) rfl ?_
          refine TL_take rfl rfl h39 ?_
          refine TL_q (Qt_str_neq rfl rfl) rfl ?_
          refine TL_q (Qt_pick_t (.bool _) rfl h39 rfl) rfl ?_
          refine TL_nil ?_
          refine X_then ?_
          refine T_cond rfl (fun h45 => ?_) (fun h45 => ?_)
          ·
            have p45 := h45
            try simp only [decide_eq_true_eq, decide_eq_false_iff_not, Bool.not_eq_true', Bool.not_eq_false', Option.isNone_iff_eq_none, ne_eq, Decidable.not_not, Int.not_lt, Int.not_le] at p45
            refine T_seq ?_
            refine T_region ?_
            refine TL_q (Qt_move (.map _) rfl) rfl ?_
            refine TL_q (Qt_fieldAddr 1 rfl rfl) rfl ?_
            refine TL_q (Qt_load1 rfl) rfl ?_
            refine TL_n (Ef_delete (key := a.name) (enc := encS) (ev := BS.val) rfl rfl Tryz.underlying70 (?_))
            refine TL_nil ?_
            refine X_then ?_
            refine T_region ?_
            refine TL_q (Qt_move (.map _) rfl) rfl ?_
            refine TL_q (Qt_fieldAddr 2 rfl rfl) rfl ?_
            refine TL_q (Qt_load1 rfl) rfl ?_
            refine TL_q (Qt_move (.slice _ _ _) rfl) rfl ?_
            refine TL_n (Ef_mapUpdate (key := a.to) (enc := encS) (ev := BS.val) (oldE es a.name) rfl rfl rfl Tryz.underlying70 (?_))
            refine TL_nil ?_
            refine X_block ?_
            have e1 : doE es a (⟨none, 0, []⟩ : BS) c = putE (delE es a.name) a.to (oldE es a.name) c := by unfold doE; rw [if_neg (by omega), if_pos (by omega), if_pos ⟨h39, by simpa using h45⟩]
            have e2 : doC es a c = clockE (delE es a.name) a.to c := by unfold doC; rw [if_neg (by omega), if_pos (by omega), if_pos ⟨h39, by simpa using h45⟩]
            have e3 : newB es a = [] := by unfold newB; rw [if_neg (by omega), if_neg (by omega)]
            exact X_ret (⟨none, 0, []⟩ : BS) [] Tryz.results38 trivial rfl (fun w hw => by rw [e1, e2]; exact St.addPure (St.nilUnder 5 (Subs.st inferInstance w hw : St w0 (blk r (mapO encS BS.val (putE (delE es a.name) a.to (oldE es a.name) c) (clockE (delE es a.name) a.to c)) :: H) w)) e3.symm)
          ·
            have p45 := h45
            try simp only [decide_eq_true_eq, decide_eq_false_iff_not, Bool.not_eq_true', Bool.not_eq_false', Option.isNone_iff_eq_none, ne_eq, Decidable.not_not, Int.not_lt, Int.not_le] at p45
            refine T_skip ?_
            refine X_block ?_
            have e1 : doE es a (⟨none, 0, []⟩ : BS) c = es := by unfold doE; rw [if_neg (by omega), if_pos (by omega), if_neg (by rintro ⟨h1, h2⟩; simp_all)]
            have e2 : doC es a c = c := by unfold doC; rw [if_neg (by omega), if_pos (by omega), if_neg (by rintro ⟨h1, h2⟩; simp_all)]
            have e3 : newB es a = [] := by unfold newB; rw [if_neg (by omega), if_neg (by omega)]
            exact X_ret (⟨none, 0, []⟩ : BS) [] Tryz.results38 trivial rfl (fun w hw => by rw [e1, e2]; exact St.addPure (St.nilUnder 5 (Subs.st inferInstance w hw : St w0 (blk r (mapO encS BS.val es c) :: H) w)) e3.symm)
        ·
          have p39 := h39
          try simp only [decide_eq_true_eq, decide_eq_false_iff_not, Bool.not_eq_true', Bool.not_eq_false', Option.isNone_iff_eq_none, ne_eq, Decidable.not_not, Int.not_lt, Int.not_le] at p39
          refine TL_pass rfl rfl h39 rfl ?_
          refine TL_pass rfl rfl h39 rfl ?_
          refine TL_pass rfl rfl h39 rfl ?_
          refine TL_pass rfl rfl h39 rfl ?_
          refine TL_pass rfl rfl h39 rfl ?_
          refine TL_q (Qt_pick_f (.bool _) rfl h39 rfl) rfl ?_
          refine TL_nil ?_
          refine X_then ?_
          refine T_cond_false rfl rfl ?_
          refine T_skip ?_
          refine X_block ?_
          have e1 : doE es a (⟨none, 0, []⟩ : BS) c = es := by unfold doE; rw [if_neg (by omega), if_pos (by omega), if_neg (by rintro ⟨h1, h2⟩; simp_all)]
          have e2 : doC es a c = c := by unfold doC; rw [if_neg (by omega), if_pos (by omega), if_neg (by rintro ⟨h1, h2⟩; simp_all)]
          have e3 : newB es a = [] := by unfold newB; rw [if_neg (by omega), if_neg (by omega)]
          exact X_ret (⟨none, 0, []⟩ : BS) [] Tryz.results38 trivial rfl (fun w hw => by rw [e1, e2]; exact St.addPure (St.nilUnder 5 (Subs.st inferInstance w hw : St w0 (blk r (mapO encS BS.val es c) :: H) w)) e3.symm)
      ·
        have p29 := h29
        try simp only [decide_eq_true_eq, decide_eq_false_iff_not, Bool.not_eq_true', Bool.not_eq_false', Option.isNone_iff_eq_none, ne_eq, Decidable.not_not, Int.not_lt, Int.not_le] at p29
        refine T_seq ?_
        refine T_region ?_
        refine TL_q (Qt_eql rfl rfl) rfl ?_
        refine TL_q (Qt_assign (.bool _) rfl) rfl ?_
        refine TL_nil ?_
        refine X_then ?_
        refine T_cond rfl (fun h53 => ?_) (fun h53 => ?_)
        ·
          have p53 := h53
          try simp only [decide_eq_true_eq, decide_eq_false_iff_not, Bool.not_eq_true', Bool.not_eq_false', Option.isNone_iff_eq_none, ne_eq, Decidable.not_not, Int.not_lt, Int.not_le] at p53
          refine T_region ?_
          refine TL_q (Qt_move (.map _) rfl) rfl ?_
          refine TL_q (Qt_fieldAddr 1 rfl rfl) rfl ?_
          refine TL_q (Qt_load1 rfl) rfl ?_
          refine TL_n (Ef_delete (key := a.name) (enc := encS) (ev := BS.val) rfl rfl Tryz.underlying70 (?_))
          refine TL_nil ?_
          refine X_block ?_
          have e1 : doE es a (⟨none, 0, []⟩ : BS) c = delE es a.name := by unfold doE; rw [if_neg (by omega), if_neg (by omega), if_pos (by omega)]
          have e2 : doC es a c = c := by unfold doC; rw [if_neg (by omega), if_neg (by omega)]
          have e3 : newB es a = [] := by unfold newB; rw [if_neg (by omega), if_neg (by omega)]
          exact X_ret (⟨none, 0, []⟩ : BS) [] Tryz.results38 trivial rfl (fun w hw => by rw [e1, e2]; exact St.addPure (St.nilUnder 5 (Subs.st inferInstance w hw : St w0 (blk r (mapO encS BS.val (delE es a.name) c) :: H) w)) e3.symm)
        ·
          have p53 := h53
          try simp only [decide_eq_true_eq, decide_eq_false_iff_not, Bool.not_eq_true', Bool.not_eq_false', Option.isNone_iff_eq_none, ne_eq, Decidable.not_not, Int.not_lt, Int.not_le] at p53
          refine T_skip ?_
          refine X_block ?_
          have e1 : doE es a (⟨none, 0, []⟩ : BS) c = es := by unfold doE; rw [if_neg (by omega), if_neg (by omega), if_neg (by omega)]
          have e2 : doC es a c = c := by unfold doC; rw [if_neg (by omega), if_neg (by omega)]
          have e3 : newB es a = [] := by unfold newB; rw [if_neg (by omega), if_neg (by omega)]
          exact X_ret (⟨none, 0, []⟩ : BS) [] Tryz.results38 trivial rfl (fun w hw => by rw [e1, e2]; exact St.addPure (St.nilUnder 5 (Subs.st inferInstance w hw : St w0 (blk r (mapO encS BS.val es c) :: H) w)) e3.symm)
end
section
open Go.RowKit Go.Sx
set_option maxRecDepth 100000
set_option linter.unusedSimpArgs false
set_option linter.unusedVariables false
/-- A disk, and where it lies. -/
structure DS where
 r1 : Nat
 r2 : Nat
 e1 : FM
 c1 : Nat
 e2 : FM
 c2 : Nat
 pa : Option Addr
 pc : Nat
 pend : List ActV
 room : Int
 fuse : Int
 down : Bool
 fp : List Nat
 bs : List BS
@[reducible] def dblk (p : Nat) (s : DS) : SA := blk p (.cells (DiskV.mk s.room (some s.r1) (some s.r2) ⟨s.pa, s.pend.length, s.pc⟩ s.fuse s.down).cells 73 (0, 0))
@[reducible] def prow (s : DS) : SA := row (.slice s.pa s.pend.length s.pc) 102 4 (s.pend.flatMap ActV.list)
@[reducible] def DS.H (p : Nat) (s : DS) (H : List SA) : List SA := dblk p s :: blk s.r1 (mapO encS BS.val s.e1 s.c1) :: blk s.r2 (mapO encS BS.val s.e2 s.c2) :: prow s :: dat s.fp ⟨s.bs, [], []⟩ :: H
structure DS.Ok (s : DS) (N M : Nat) : Prop where
 good1 : GoodM s.e1 s.c1
 good2 : GoodM s.e2 s.c2
 mem1 : ∀ e ∈ s.e1, e.v ∈ s.bs
 mem2 : ∀ e ∈ s.e2, e.v ∈ s.bs
 memp : ∀ a ∈ s.pend, a.b ∈ s.bs
 zero : zB ∈ s.bs
 len : ∀ x ∈ s.bs, x.l.length ≤ M
 short : ∀ a ∈ s.pend, a.b.l.length ≤ 2000000
 n1 : s.e1.length ≤ N
 n2 : s.e2.length ≤ N
 np : s.pend.length ≤ N
 room0 : 0 ≤ s.room
 room1 : s.room ≤ 1048576
 fuse1 : s.fuse ≤ 9223372036854775807
theorem getE_memF {es : FM} {k : ByteArray} {v : BS} (h : getE es k = some v) : ∃ e ∈ es, e.k = k ∧ e.v = v := by
 simp only [getE, Option.map_eq_some_iff] at h
 obtain ⟨e, h1, h2⟩ := h
 have h3 := List.find?_some h1
 exact ⟨e, List.mem_of_find?_eq_some h1, (of_decide_eq_true h3).symm, h2⟩
theorem oldE_mem {es : FM} {bs : List BS} (h : ∀ e ∈ es, e.v ∈ bs) (hz : zB ∈ bs) (k : ByteArray) : oldE es k ∈ bs := by
 unfold oldE
 cases hg : getE es k with
 | none => exact hz
 | some v => obtain ⟨e, he, -, rfl⟩ := getE_memF hg; exact h e he
theorem sum_le (M : Nat) : ∀ es : FM, (∀ e ∈ es, e.v.l.length ≤ M) → sizeE es ≤ es.length * M
 | [], _ => by simp [sizeE]
 | e :: es, h => by
  have h1 := sum_le M es (fun x hx => h x (by simp [hx]))
  have h2 := h e (by simp)
  simp only [sizeE, List.map_cons, List.sum_cons, List.length_cons] at h1 ⊢
  rw [Nat.add_mul, Nat.one_mul]; omega
theorem DS.Ok.size {s : DS} {N M : Nat} (h : s.Ok N M) (hN : N ≤ 1000000) (hM : M ≤ 2000000000) : sizeE s.e2 ≤ 4000000000000000 := by
 have h1 := sum_le M s.e2 (fun e he => h.len _ (h.mem2 e he))
 have h2 := Nat.mul_le_mul h.n2 (Nat.le_refl M)
 have h3 : N * M ≤ 1000000 * 2000000000 := Nat.mul_le_mul hN hM
 omega
def burnF (fuse : Int) : Int := if 0 < fuse then fuse - 1 else fuse
def burnD (fuse : Int) (down : Bool) : Bool := if fuse = 0 then true else down
/-- What a thing that is done leaves, and its error. -/
def DoR (s : DS) (a : ActV) (s' : DS) (e : Int) : Prop :=
 (burnD s.fuse s.down = true ∧ e = 14 ∧ s' = { s with fuse := burnF s.fuse, down := true }) ∨
 (burnD s.fuse s.down = false ∧ e = 0 ∧ ∃ (x : BS) (pa : Option Addr) (pc : Nat) (fp : List Nat), x.l = newB s.e2 a ∧ s' = { s with fuse := burnF s.fuse, down := false, e2 := doE s.e2 a x s.c2, c2 := doC s.e2 a s.c2, pend := s.pend ++ [a], pa := pa, pc := pc, fp := fp, bs := x :: s.bs })
theorem St.datCons {w0 w : World} {H : List SA} {x : BS} {fp : List Nat} {bs : List BS} {e : TypeId} (h : St w0 (row (.slice x.a x.l.length x.c) e 1 (bytesV x.l) :: dat fp ⟨bs, [], []⟩ :: H) w) : St w0 (dat (rowFp (.slice x.a x.l.length x.c) ++ fp) ⟨x :: bs, [], []⟩ :: H) w :=
 h.datB.datAdd

set_option maxHeartbeats 1000000 in
theorem burn_c {w0 : World} {H : List SA} {p : Nat} {room : Int} {sy nw : Option Nat} {pe : Sl} {fuse : Int} {down : Bool} (hf : fuse ≤ 9223372036854775807) :
 CT Tryz.prog w0 (blk p (.cells (DiskV.mk room sy nw pe fuse down).cells 73 (0, 0)) :: H) 164 [.pointer (some ⟨p, 0, none⟩)] (α := Unit) (fun _ => .bool (!burnD fuse down)) (fun _ => blk p (.cells (DiskV.mk room sy nw pe (burnF fuse) (burnD fuse down)).cells 73 (0, 0)) :: H) := by
 refine CT_intro Tryz.func164 rfl Tryz.ntmps164 rfl ?_
 refine T2 (Qab rfl rfl (TX (zS (T2 ?_))))
 refine zq (zm (.pointer _) rfl) rfl (zq (Qt_nilCheck rfl) rfl (zq (zf 4 rfl rfl) rfl (zq (zl rfl) rfl (zq (Qt_eql rfl rfl) rfl (TX ?_)))))
 refine zC rfl (fun h7 => ?_) (fun h7 => ?_)
 ·
  have p7 := h7
  try simp only [dp] at p7
  refine zR (zq (zm (.pointer _) rfl) rfl (zq (Qt_nilCheck rfl) rfl (zq (zf 5 rfl rfl) rfl ?_)))
  refine zN (Ef_store1 (.bool _) rfl rfl (?_))
  refine TX (zS (T2 ?_))
  refine zq (zm (.pointer _) rfl) rfl (zq (Qt_nilCheck rfl) rfl (zq (zf 4 rfl rfl) rfl (zq (zl rfl) rfl (zq (Qt_gtr rfl rfl) rfl (TX ?_)))))
  refine zC rfl (fun h15 => ?_) (fun h15 => ?_)
  ·
   have p15 := h15
   try simp only [dp] at p15
   refine zR (zq (zm (.pointer _) rfl) rfl (zq (Qt_nilCheck rfl) rfl (zq (zf 4 rfl rfl) rfl (zq (zl rfl) rfl (zq (Qt_sub rfl rfl (by omega) (by omega)) rfl ?_)))))
   refine zq (Qt_nilCheck rfl) rfl (zq (zf 4 rfl rfl) rfl ?_)
   refine zN (Ef_store1 (.int .i64 _) rfl rfl (?_))
   refine T4 (zq (zm (.pointer _) rfl) rfl (zq (Qt_nilCheck rfl) rfl (zq (zf 5 rfl rfl) rfl (zq (zl rfl) rfl (zq (Qt_not rfl) rfl ?_)))))
   refine Qab rfl rfl (TX (zQ ?_))
   exfalso; omega
  have p15 := h15
  try simp only [dp] at p15
  refine S4 (zq (zm (.pointer _) rfl) rfl (zq (Qt_nilCheck rfl) rfl (zq (zf 5 rfl rfl) rfl (zq (zl rfl) rfl (zq (Qt_not rfl) rfl ?_)))))
  refine Qab rfl rfl (TX (zQ ?_))
  have e1 : burnF fuse = fuse := by unfold burnF; rw [if_neg (by omega)]
  have e2 : burnD fuse down = true := by unfold burnD; rw [if_pos (by omega)]
  exact zX () [_] Tryz.results164 ⟨rfl, trivial⟩ (by rw [e2]; rfl) (fun w hw => by rw [e1, e2]; exact SB w hw)
 have p7 := h7
 try simp only [dp] at p7
 refine zk (zx (zS (T2 ?_)))
 refine zq (zm (.pointer _) rfl) rfl (zq (Qt_nilCheck rfl) rfl (zq (zf 4 rfl rfl) rfl (zq (zl rfl) rfl (zq (Qt_gtr rfl rfl) rfl (TX ?_)))))
 refine zC rfl (fun h15 => ?_) (fun h15 => ?_)
 ·
  have p15 := h15
  try simp only [dp] at p15
  refine zR (zq (zm (.pointer _) rfl) rfl (zq (Qt_nilCheck rfl) rfl (zq (zf 4 rfl rfl) rfl (zq (zl rfl) rfl (zq (Qt_sub rfl rfl (by omega) (by omega)) rfl ?_)))))
  refine zq (Qt_nilCheck rfl) rfl (zq (zf 4 rfl rfl) rfl ?_)
  refine zN (Ef_store1 (.int .i64 _) rfl rfl (?_))
  refine T4 (zq (zm (.pointer _) rfl) rfl (zq (Qt_nilCheck rfl) rfl (zq (zf 5 rfl rfl) rfl (zq (zl rfl) rfl (zq (Qt_not rfl) rfl ?_)))))
  refine Qab rfl rfl (TX (zQ ?_))
  have e1 : burnF fuse = fuse - 1 := by unfold burnF; rw [if_pos (by omega)]
  have e2 : burnD fuse down = down := by unfold burnD; rw [if_neg (by omega)]
  exact zX () [_] Tryz.results164 ⟨rfl, trivial⟩ (by rw [e2]; rfl) (fun w hw => by rw [e1, e2]; exact SB w hw)
 have p15 := h15
 try simp only [dp] at p15
 refine S4 (zq (zm (.pointer _) rfl) rfl (zq (Qt_nilCheck rfl) rfl (zq (zf 5 rfl rfl) rfl (zq (zl rfl) rfl (zq (Qt_not rfl) rfl ?_)))))
 refine Qab rfl rfl (TX (zQ ?_))
 have e1 : burnF fuse = fuse := by unfold burnF; rw [if_neg (by omega)]
 have e2 : burnD fuse down = down := by unfold burnD; rw [if_neg (by omega)]
 exact zX () [_] Tryz.results164 ⟨rfl, trivial⟩ (by rw [e2]; rfl) (fun w hw => by rw [e1, e2]; exact SB w hw)
def fitsB (room : Int) (es : FM) (more less : Int) : Bool := decide (more ≤ room - (sizeE es : Int) + less)
set_option maxHeartbeats 1000000 in
theorem fits_c {w0 : World} {H : List SA} {p r c : Nat} {es : FM} {room : Int} {sy : Option Nat} {pe : Sl} {fuse : Int} {down : Bool} {more less : Int} (hg : GoodM es c) (hs : sizeE es ≤ 4000000000000000) (h1 : 0 ≤ room ∧ room ≤ 1048576) (h2 : 0 ≤ less ∧ less ≤ 4294967296) :
 CT Tryz.prog w0 (blk p (.cells (DiskV.mk room sy (some r) pe fuse down).cells 73 (0, 0)) :: blk r (mapO encS BS.val es c) :: H) 121 [.pointer (some ⟨p, 0, none⟩), .int .i64 more, .int .i64 less] (α := Unit) (fun _ => .bool (fitsB room es more less)) (fun _ => blk p (.cells (DiskV.mk room sy (some r) pe fuse down).cells 73 (0, 0)) :: blk r (mapO encS BS.val es c) :: H) := by
 refine CT_intro Tryz.func121 rfl Tryz.ntmps121 rfl ?_
 refine T2 (Qab rfl rfl (TX (zS ?_)))
 refine T_draw (blk p (.cells (DiskV.mk room sy (some r) pe fuse down).cells 73 (0, 0)) :: blk r (mapO encS BS.val es c) :: H) [(0, true), (1, true), (2, true), (3, true), (4, true), (5, true), (6, true), (7, true), (8, true), (11, true), (9, false), (10, true), (12, true), (13, true), (14, true)] (by kernel_rfl) (by kernel_rfl) rfl (by kernel_rfl) SB (fun hns0 => ?_)
 refine zd hns0 rfl (zm (.int .i64 _) rfl) rfl (zd hns0 rfl (zm (.pointer _) rfl) rfl (zd hns0 rfl (Qt_nilCheck rfl) rfl (zd hns0 rfl (zf 0 rfl rfl) rfl (zd hns0 rfl (zl rfl) rfl (zd hns0 rfl (zm (.pointer _) rfl) rfl ?_)))))
 refine zd hns0 rfl (Qt_nilCheck rfl) rfl (zd hns0 rfl (zf 2 rfl rfl) rfl (zd hns0 rfl (zl rfl) rfl (zd hns0 rfl (zm (.int .i64 _) rfl) rfl ?_)))
 refine DL_frontB r ?_
 refine DL_e rfl rfl (zc (fsize_c hg hs) rfl (fun x16 => ⟨SB, ?_⟩))
 refine zd hns0 rfl (Qt_sub rfl rfl (by omega) (by omega)) rfl (zd hns0 rfl (Qt_add rfl rfl (by omega) (by omega)) rfl (zd hns0 rfl (Qt_leq rfl rfl) rfl (zd hns0 rfl (za (.bool _) rfl) rfl (DL_nil (zx (zQ ?_))))))
 exact zX () [_] Tryz.results121 ⟨rfl, trivial⟩ rfl SB
theorem ddo_end {w0 w : World} {H : List SA} {p b3 : Nat} {s : DS} {a : ActV} {x13 : BS} {a20 a21 : Option Addr} {c20 c21 : Nat}
 (h : St w0 (blk p (.cells (DiskV.mk s.room (some s.r1) (some s.r2) ⟨a21, (s.pend ++ [a]).length, c21⟩ (burnF s.fuse) false).cells 73 (0, 0)) :: row (.slice a21 (s.pend ++ [a]).length c21) 102 4 ((s.pend ++ [a]).flatMap ActV.list) :: row (.slice a20 1 c20) 102 4 (([a] : List ActV).flatMap ActV.list) :: blk s.r2 (mapO encS BS.val (doE s.e2 a x13 s.c2) (doC s.e2 a s.c2)) :: row (.slice x13.a x13.l.length x13.c) 5 1 (bytesV x13.l) :: blk b3 (.cells a.cells 102 (0, 0)) :: blk s.r1 (mapO encS BS.val s.e1 s.c1) :: dat s.fp ⟨s.bs, [], []⟩ :: H) w) :
 St w0 (DS.H p { s with fuse := burnF s.fuse, down := false, e2 := doE s.e2 a x13 s.c2, c2 := doC s.e2 a s.c2, pend := s.pend ++ [a], pa := a21, pc := c21, fp := rowFp (.slice x13.a x13.l.length x13.c) ++ s.fp, bs := x13 :: s.bs } H) w := by
 have h1 : St w0 (row (.slice x13.a x13.l.length x13.c) 5 1 (bytesV x13.l) :: dat s.fp ⟨s.bs, [], []⟩ :: blk p (.cells (DiskV.mk s.room (some s.r1) (some s.r2) ⟨a21, (s.pend ++ [a]).length, c21⟩ (burnF s.fuse) false).cells 73 (0, 0)) :: blk s.r1 (mapO encS BS.val s.e1 s.c1) :: blk s.r2 (mapO encS BS.val (doE s.e2 a x13 s.c2) (doC s.e2 a s.c2)) :: row (.slice a21 (s.pend ++ [a]).length c21) 102 4 ((s.pend ++ [a]).flatMap ActV.list) :: H) w := Subs.st inferInstance w h
 have h2 := St.datCons h1
 exact Subs.st (H := dat (rowFp (.slice x13.a x13.l.length x13.c) ++ s.fp) ⟨x13 :: s.bs, [], []⟩ :: blk p (.cells (DiskV.mk s.room (some s.r1) (some s.r2) ⟨a21, (s.pend ++ [a]).length, c21⟩ (burnF s.fuse) false).cells 73 (0, 0)) :: blk s.r1 (mapO encS BS.val s.e1 s.c1) :: blk s.r2 (mapO encS BS.val (doE s.e2 a x13 s.c2) (doC s.e2 a s.c2)) :: row (.slice a21 (s.pend ++ [a]).length c21) 102 4 ((s.pend ++ [a]).flatMap ActV.list) :: H) inferInstance w h2
set_option maxHeartbeats 1000000 in
theorem ddo_c {w0 : World} {H : List SA} {p : Nat} {s : DS} {N M : Nat} (hok : s.Ok N M) (hN : N ≤ 1000000) (hM : M ≤ 2000000000) {a : ActV} (ha : a.b ∈ s.bs) :
 CT Tryz.prog w0 (DS.H p s H) 122 [.pointer (some ⟨p, 0, none⟩), .agg a.cells] (α := DS × Int) (fun y => .int .i64 y.2) (fun y => pu (DoR s a y.1 y.2) :: DS.H p y.1 H) := by
 refine CT_intro Tryz.func122 rfl Tryz.ntmps122 rfl ?_
 refine T2 ?_
 refine ze rfl (Ef_boxN rfl (fun b3 => ?_))
 refine Qai rfl rfl (TX (zS (T2 ?_)))
 refine zq (zm (.pointer _) rfl) rfl (TL_frontB p ?_)
 refine ze rfl (zc (burn_c hok.fuse1) rfl (fun x6 => ?_))
 refine zq (Qt_not rfl) rfl (TX (zC rfl (fun h7 => ?_) (fun h7 => ?_)))
 ·
  have p7 := h7
  try simp only [dp] at p7
  refine T2 (Qai rfl rfl (TX (zQ (zr ?_))))
  have hbd : burnD s.fuse s.down = true := by simpa using h7
  rw [hbd]
  exact zX ({ s with fuse := burnF s.fuse, down := true }, 14) [_] Tryz.results122 ⟨rfl, trivial⟩ rfl (fun w hw => St.addPure (SB w hw) (.inl ⟨hbd, rfl, rfl⟩))
 have p7 := h7
 try simp only [dp] at p7
 have hbd : burnD s.fuse s.down = false := by simpa using h7
 rw [hbd]
 refine zk (zx (zS ?_))
 refine T_draw (blk b3 (.cells a.cells 102 (0, 0)) :: dblk p { s with fuse := burnF s.fuse, down := false } :: H) [(0, true), (1, true), (2, true), (3, true), (4, true), (5, false)] (by kernel_rfl) (by kernel_rfl) rfl (by kernel_rfl) SB (fun hns0 => ?_)
 refine zd hns0 rfl (zm (.pointer _) rfl) rfl (zd hns0 rfl (Qt_nilCheck rfl) rfl (zd hns0 rfl (zf 2 rfl rfl) rfl (zd hns0 rfl (zl rfl) rfl (zd hns0 rfl (zn rfl rfl) rfl ?_))))
 refine DL_frontB s.r2 ?_
 refine DL_e rfl rfl (zc (fdo_c (r := s.r2) (es := s.e2) (c := s.c2) (a := a) (ro := RdE.get (ls := s.bs) inferInstance (oldE_mem hok.mem2 hok.zero _)) (rb := RdE.get (ls := s.bs) inferInstance ha) (by have h1 := hok.len _ (oldE_mem hok.mem2 hok.zero a.name); have h2 := hok.len _ ha; omega)) rfl (fun x13 => ⟨SB, ?_⟩))
 refine DL_pure (fun hx => ?_)
 refine DL_nil (zx (zS ?_))
 refine T_drawF (blk b3 (.cells a.cells 102 (0, 0)) :: H) (by kernel_rfl) SB (DLF_q (i := 0) (by kernel_rfl) rfl (by kernel_rfl) (by kernel_rfl) (zm (.pointer _) rfl) rfl (DLF_q (i := 1) (by kernel_rfl) rfl (by kernel_rfl) (by kernel_rfl) (zm (.pointer _) rfl) rfl (DLF_q (i := 2) (by kernel_rfl) rfl (by kernel_rfl) (by kernel_rfl) (Qt_nilCheck rfl) rfl (DLF_q (i := 3) (by kernel_rfl) rfl (by kernel_rfl) (by kernel_rfl) (zf 3 rfl rfl) rfl (DLF_q (i := 5) (by kernel_rfl) rfl (by kernel_rfl) (by kernel_rfl) (zn rfl rfl) rfl ?_)))))
 refine DLF_2 (i := 4) (j := 6) (by kernel_rfl) ?_ ?_
 ·
  refine DLS_e rfl rfl (Ef_of_Qt (zl rfl) ⟨SB, ?_⟩)
  refine DLF_1 (i := 6) (by kernel_rfl) ?_
  refine DLS_e rfl rfl (Ef_sliceN (m := ([a] : List ActV).length) [.agg a.cells] (([a] : List ActV).flatMap ActV.list) rfl rfl rfl rfl (by simp [Value.cells, ActV.size]) rfl rfl (fun a20 c20 => ⟨SB, ?_⟩))
  refine DLF_1 (i := 7) (by kernel_rfl) ?_
  refine DLS_e rfl rfl (Ef_appendS ActV.list (sv := .slice _ _ _) (xv := .slice _ _ _) (xs := s.pend) (ys := [a]) ActV.list_len ActV.list_one rfl rfl (by have := hok.np; simp; omega) rfl rfl (fun a21 c21 => ⟨SB, ?_⟩))
  refine DLF_q (i := 8) (by kernel_rfl) rfl (by kernel_rfl) (by kernel_rfl) (Qt_nilCheck rfl) rfl (DLF_q (i := 9) (by kernel_rfl) rfl (by kernel_rfl) (by kernel_rfl) (zf 3 rfl rfl) rfl ?_)
  refine DLF_1 (i := 10) (by kernel_rfl) ?_
  refine DLS_n rfl (Ef_store1 (.slice _ _ _) rfl rfl (⟨SB, ?_⟩))
  refine DLF_nil (by kernel_rfl) ?_
  refine zx (T2 ?_)
  refine Qai rfl rfl (TX (zQ ?_))
  refine zX ({ s with fuse := burnF s.fuse, down := false, e2 := doE s.e2 a x13 s.c2, c2 := doC s.e2 a s.c2, pend := s.pend ++ [a], pa := a21, pc := c21, fp := rowFp (.slice x13.a x13.l.length x13.c) ++ s.fp, bs := x13 :: s.bs }, 0) [_] Tryz.results122 ⟨rfl, trivial⟩ rfl (fun w hw => St.addPure ?_ (.inr ⟨hbd, rfl, x13, a21, c21, _, hx, rfl⟩))
  exact ddo_end hw
 refine DLS_e rfl rfl (Ef_sliceN (m := ([a] : List ActV).length) [.agg a.cells] (([a] : List ActV).flatMap ActV.list) rfl rfl rfl rfl (by simp [Value.cells, ActV.size]) rfl rfl (fun a20 c20 => ⟨SB, ?_⟩))
 refine DLF_1 (i := 4) (by kernel_rfl) ?_
 refine DLS_e rfl rfl (Ef_of_Qt (zl rfl) ⟨SB, ?_⟩)
 refine DLF_1 (i := 7) (by kernel_rfl) ?_
 refine DLS_e rfl rfl (Ef_appendS ActV.list (sv := .slice _ _ _) (xv := .slice _ _ _) (xs := s.pend) (ys := [a]) ActV.list_len ActV.list_one rfl rfl (by have := hok.np; simp; omega) rfl rfl (fun a21 c21 => ⟨SB, ?_⟩))
 refine DLF_q (i := 8) (by kernel_rfl) rfl (by kernel_rfl) (by kernel_rfl) (Qt_nilCheck rfl) rfl (DLF_q (i := 9) (by kernel_rfl) rfl (by kernel_rfl) (by kernel_rfl) (zf 3 rfl rfl) rfl ?_)
 refine DLF_1 (i := 10) (by kernel_rfl) ?_
 refine DLS_n rfl (Ef_store1 (.slice _ _ _) rfl rfl (⟨SB, ?_⟩))
 refine DLF_nil (by kernel_rfl) ?_
 refine zx (T2 ?_)
 refine Qai rfl rfl (TX (zQ ?_))
 refine zX ({ s with fuse := burnF s.fuse, down := false, e2 := doE s.e2 a x13 s.c2, c2 := doC s.e2 a s.c2, pend := s.pend ++ [a], pa := a21, pc := c21, fp := rowFp (.slice x13.a x13.l.length x13.c) ++ s.fp, bs := x13 :: s.bs }, 0) [_] Tryz.results122 ⟨rfl, trivial⟩ rfl (fun w hw => St.addPure ?_ (.inr ⟨hbd, rfl, x13, a21, c21, _, hx, rfl⟩))
 exact ddo_end hw
end
section
open Go.RowKit Go.Sx
set_option maxRecDepth 100000
set_option linter.unusedSimpArgs false
set_option linter.unusedVariables false
theorem DS.addB {w0 w : World} {H : List SA} {p : Nat} {s : DS} {x : BS} {e : TypeId} (h : St w0 (row (.slice x.a x.l.length x.c) e 1 (bytesV x.l) :: DS.H p s H) w) : St w0 (DS.H p { s with fp := rowFp (.slice x.a x.l.length x.c) ++ s.fp, bs := x :: s.bs } H) w := by
  have h1 : St w0 (row (.slice x.a x.l.length x.c) e 1 (bytesV x.l) :: dat s.fp ⟨s.bs, [], []⟩ :: dblk p s :: blk s.r1 (mapO encS BS.val s.e1 s.c1) :: blk s.r2 (mapO encS BS.val s.e2 s.c2) :: prow s :: H) w := Subs.st inferInstance w h
  have h2 := St.datCons h1
  exact Subs.st (H := dat (rowFp (.slice x.a x.l.length x.c) ++ s.fp) ⟨x :: s.bs, [], []⟩ :: dblk p s :: blk s.r1 (mapO encS BS.val s.e1 s.c1) :: blk s.r2 (mapO encS BS.val s.e2 s.c2) :: prow s :: H) inferInstance w h2
theorem DS.Ok.addB {s : DS} {N M : Nat} (h : s.Ok N M) {x : BS} {fp : List Nat} (hx : x.l.length ≤ M) : ({ s with fp := fp, bs := x :: s.bs } : DS).Ok N M :=
  ⟨h.good1, h.good2, fun e he => List.mem_cons_of_mem _ (h.mem1 e he), fun e he => List.mem_cons_of_mem _ (h.mem2 e he), fun a ha => List.mem_cons_of_mem _ (h.memp a ha), List.mem_cons_of_mem _ h.zero,
    fun y hy => by rcases List.mem_cons.1 hy with rfl | hy; exact hx; exact h.len y hy, h.short, h.n1, h.n2, h.np, h.room0, h.room1, h.fuse1⟩
def AppR (k : Int) (less : Nat) (s : DS) (nm : ByteArray) (b : List UInt8) (s' : DS) (e : Int) : Prop :=
  (s.down = true ∧ e = 14 ∧ s' = s) ∨ (s.down = false ∧ namedB nm = false ∧ e = 15 ∧ s' = s) ∨ (s.down = false ∧ namedB nm = true ∧ fitsB s.room s.e2 b.length less = false ∧ e = 4 ∧ s' = s) ∨
  (s.down = false ∧ namedB nm = true ∧ fitsB s.room s.e2 b.length less = true ∧ ∃ (cl : BS) (fp : List Nat), cl.l = b ∧ DoR { s with fp := fp, bs := cl :: s.bs } ⟨k, nm, ⟨#[]⟩, cl⟩ s' e)
def MvR (a : ActV) (ok : Bool) (s : DS) (s' : DS) (e : Int) : Prop :=
  (s.down = true ∧ e = 14 ∧ s' = s) ∨ (s.down = false ∧ ok = false ∧ e = 15 ∧ s' = s) ∨ (s.down = false ∧ ok = true ∧ hasE s.e2 a.name = false ∧ e = 13 ∧ s' = s) ∨ (s.down = false ∧ ok = true ∧ hasE s.e2 a.name = true ∧ DoR s a s' e)
def SyncR (s s' : DS) : Prop :=
  (burnD s.fuse s.down = true ∧ s' = { s with fuse := burnF s.fuse, down := true }) ∨
  (burnD s.fuse s.down = false ∧ ∃ q1 q2 : Nat, s' = { s with fuse := burnF s.fuse, down := false, r1 := q1, r2 := q2, e1 := s.e2, c1 := s.c2, pend := [], pa := none, pc := 0 })

set_option maxHeartbeats 1000000 in
theorem append_c {w0 : World} {H : List SA} {p : Nat} {s : DS} {N M : Nat} (hok : s.Ok N M) (hN : N ≤ 1000000) (hM : M ≤ 2000000000) {nm : ByteArray} {b : BS} (hb : b.l.length ≤ 2000000) (hbM : b.l.length ≤ M) [rb : RdB w0 H (.slice b.a b.l.length b.c) b.l] :
    CT Tryz.prog w0 (DS.H p s H) 74 [.pointer (some ⟨p, 0, none⟩), .string nm, .slice b.a b.l.length b.c] (α := DS × Int) (fun y => .int .i64 y.2) (fun y => pu (AppR 1 0 s nm b.l y.1 y.2) :: DS.H p y.1 H) := by
  refine CT_intro Tryz.func74 rfl Tryz.ntmps74 rfl ?_
  refine T_seq ?_
  refine T_region ?_
  refine TL_q (Qt_assign (.int .i64 _) rfl) rfl ?_
  refine TL_nil ?_
  refine X_then ?_
  refine T_seq ?_
  refine T_block ?_
  refine T_seq ?_
  refine T_region ?_
  refine TL_q (Qt_move (.pointer _) rfl) rfl ?_
  refine TL_q (Qt_ptr_nil rfl rfl Tryz.underlying28) rfl ?_
  refine TL_q (Qt_assign (.bool _) rfl) rfl ?_
  refine TL_nil ?_
  refine X_then ?_
  refine T_cond rfl (fun h7 => ?_) (fun h7 => ?_)
  ·
    have p7 := h7
    try simp only [decide_eq_true_eq, decide_eq_false_iff_not, Bool.not_eq_true', Bool.not_eq_false', Option.isNone_iff_eq_none, ne_eq, Decidable.not_not, Int.not_lt, Int.not_le] at p7
    cases h7
  ·
    have p7 := h7
    try simp only [decide_eq_true_eq, decide_eq_false_iff_not, Bool.not_eq_true', Bool.not_eq_false', Option.isNone_iff_eq_none, ne_eq, Decidable.not_not, Int.not_lt, Int.not_le] at p7
    refine T_seq ?_
    refine T_region ?_
    refine TL_q (Qt_move (.pointer _) rfl) rfl ?_
    refine TL_q (Qt_nilCheck rfl) rfl ?_
    refine TL_q (Qt_fieldAddr 5 rfl rfl) rfl ?_
    refine TL_q (Qt_load1 rfl) rfl ?_
    refine TL_q (Qt_assign (.bool _) rfl) rfl ?_
    refine TL_nil ?_
    refine X_then ?_
    refine T_cond rfl (fun h10 => ?_) (fun h10 => ?_)
    ·
      have p10 := h10
      try simp only [decide_eq_true_eq, decide_eq_false_iff_not, Bool.not_eq_true', Bool.not_eq_false', Option.isNone_iff_eq_none, ne_eq, Decidable.not_not, Int.not_lt, Int.not_le] at p10
      refine T_seq ?_
      refine T_region ?_
      refine TL_q (Qt_assign (.int .i64 _) rfl) rfl ?_
      refine TL_nil ?_
      refine X_then ?_
      refine T_ret ?_
      refine X_block_ret ?_
      refine X_then_ret ?_
      exact X_ret (s, 14) [_] Tryz.results74 ⟨rfl, trivial⟩ rfl (fun w hw => St.addPure (Subs.st inferInstance w hw) (.inl ⟨h10, rfl, rfl⟩))
    ·
      have p10 := h10
      try simp only [decide_eq_true_eq, decide_eq_false_iff_not, Bool.not_eq_true', Bool.not_eq_false', Option.isNone_iff_eq_none, ne_eq, Decidable.not_not, Int.not_lt, Int.not_le] at p10
      refine T_seq ?_
      refine T_region ?_
      refine TL_q (Qt_move (.string _) rfl) rfl ?_
      refine TL_e rfl (Ef_call (named_c) rfl (fun x17 => ?_))
      refine TL_q (Qt_not rfl) rfl ?_
      refine TL_q (Qt_assign (.bool _) rfl) rfl ?_
      refine TL_nil ?_
      refine X_then ?_
      refine T_cond rfl (fun h15 => ?_) (fun h15 => ?_)
      ·
        have p15 := h15
        try simp only [decide_eq_true_eq, decide_eq_false_iff_not, Bool.not_eq_true', Bool.not_eq_false', Option.isNone_iff_eq_none, ne_eq, Decidable.not_not, Int.not_lt, Int.not_le] at p15
        refine T_seq ?_
        refine T_region ?_
        refine TL_q (Qt_assign (.int .i64 _) rfl) rfl ?_
        refine TL_nil ?_
        refine X_then ?_
        refine T_ret ?_
        refine X_block_ret ?_
        refine X_then_ret ?_
        exact X_ret (s, 15) [_] Tryz.results74 ⟨rfl, trivial⟩ rfl (fun w hw => St.addPure (Subs.st inferInstance w hw) (.inr (.inl ⟨h10, by simpa using h15, rfl, rfl⟩)))
      ·
        have p15 := h15
        try simp only [decide_eq_true_eq, decide_eq_false_iff_not, Bool.not_eq_true', Bool.not_eq_false', Option.isNone_iff_eq_none, ne_eq, Decidable.not_not, Int.not_lt, Int.not_le] at p15
        refine T_seq ?_
        refine T_region ?_
        refine TL_q (Qt_move (.pointer _) rfl) rfl ?_
        refine TL_q (Qt_move (.slice _ _ _) rfl) rfl ?_
        refine TL_q (Qt_len_slice rfl Tryz.underlying41) rfl ?_
        refine TL_frontB s.r2 ?_
        refine TL_frontB p ?_
        refine TL_e rfl (Ef_call (fits_c (r := s.r2) (es := s.e2) (c := s.c2) (less := ((0 : Nat) : Int)) hok.good2 (hok.size hN hM) ⟨hok.room0, hok.room1⟩ ⟨by omega, by omega⟩) rfl (fun x23 => ?_))
        refine TL_q (Qt_not rfl) rfl ?_
        refine TL_q (Qt_assign (.bool _) rfl) rfl ?_
        refine TL_nil ?_
        refine X_then ?_
        refine T_cond rfl (fun h19 => ?_) (fun h19 => ?_)
        ·
          have p19 := h19
          try simp only [decide_eq_true_eq, decide_eq_false_iff_not, Bool.not_eq_true', Bool.not_eq_false', Option.isNone_iff_eq_none, ne_eq, Decidable.not_not, Int.not_lt, Int.not_le] at p19
          refine T_seq ?_
          refine T_region ?_
          refine TL_q (Qt_assign (.int .i64 _) rfl) rfl ?_
          refine TL_nil ?_
          refine X_then ?_
          refine T_ret ?_
          refine X_block_ret ?_
          refine X_then_ret ?_
          exact X_ret (s, 4) [_] Tryz.results74 ⟨rfl, trivial⟩ rfl (fun w hw => St.addPure (Subs.st inferInstance w hw) (.inr (.inr (.inl ⟨h10, by simpa using h15, by simpa using h19, rfl, rfl⟩))))
        ·
          have p19 := h19
          try simp only [decide_eq_true_eq, decide_eq_false_iff_not, Bool.not_eq_true', Bool.not_eq_false', Option.isNone_iff_eq_none, ne_eq, Decidable.not_not, Int.not_lt, Int.not_le] at p19
          refine T_skip ?_
          refine X_block ?_
          refine X_then ?_
          refine T_seq ?_
          refine T_region ?_
          refine TL_q (Qt_move (.pointer _) rfl) rfl ?_
          refine TL_q (Qt_move (.string _) rfl) rfl ?_
          refine TL_q (Qt_move (.slice _ _ _) rfl) rfl ?_
          refine TL_e rfl (Ef_call (clone_c (by omega)) rfl (fun x28 => ?_))
          refine TL_conv (fun w hw => DS.addB (p := p) (s := s) (x := ⟨x28.a, x28.c, b.l⟩) (e := 5) (H := H) (Subs.st inferInstance w hw)) ?_
          refine TL_q (Qt_build [(0, (.int .i64 _)), (1, (.string _)), (3, .slice _ _ _)] rfl (by kernel_rfl)) rfl ?_
          refine TL_e rfl (Ef_call (ddo_c (s := { s with fp := rowFp (.slice x28.a b.l.length x28.c) ++ s.fp, bs := ⟨x28.a, x28.c, b.l⟩ :: s.bs }) (hok.addB (by show b.l.length ≤ M; omega)) hN hM (a := ⟨1, nm, ⟨#[]⟩, ⟨x28.a, x28.c, b.l⟩⟩) (List.mem_cons_self ..)) rfl (fun x30 => ?_))
          refine TL_pure (fun hd => ?_)
          refine TL_q (Qt_assign (.int .i64 _) rfl) rfl ?_
          refine TL_nil ?_
          refine X_then ?_
          refine T_ret ?_
          exact X_ret x30 [_] Tryz.results74 ⟨rfl, trivial⟩ rfl (fun w hw => St.addPure (Subs.st inferInstance w hw) (.inr (.inr (.inr ⟨h10, by simpa using h15, by simpa using h19, ⟨x28.a, x28.c, b.l⟩, _, rfl, hd⟩))))
set_option maxHeartbeats 1000000 in
theorem write_c {w0 : World} {H : List SA} {p : Nat} {s : DS} {N M : Nat} (hok : s.Ok N M) (hN : N ≤ 1000000) (hM : M ≤ 2000000000) {nm : ByteArray} {b : BS} (hb : b.l.length ≤ 2000000) (hbM : b.l.length ≤ M) [rb : RdB w0 H (.slice b.a b.l.length b.c) b.l] :
    CT Tryz.prog w0 (DS.H p s H) 110 [.pointer (some ⟨p, 0, none⟩), .string nm, .slice b.a b.l.length b.c] (α := DS × Int) (fun y => .int .i64 y.2) (fun y => pu (AppR 2 (oldE s.e2 nm).l.length s nm b.l y.1 y.2) :: DS.H p y.1 H) := by
  refine CT_intro Tryz.func110 rfl Tryz.ntmps110 rfl ?_
  refine T_seq ?_
  refine T_region ?_
  refine TL_q (Qt_assign (.int .i64 _) rfl) rfl ?_
  refine TL_nil ?_
  refine X_then ?_
  refine T_seq ?_
  refine T_block ?_
  refine T_seq ?_
  refine T_region ?_
  refine TL_q (Qt_move (.pointer _) rfl) rfl ?_
  refine TL_q (Qt_ptr_nil rfl rfl Tryz.underlying28) rfl ?_
  refine TL_q (Qt_assign (.bool _) rfl) rfl ?_
  refine TL_nil ?_
  refine X_then ?_
  refine T_cond rfl (fun h7 => ?_) (fun h7 => ?_)
  ·
    have p7 := h7
    try simp only [decide_eq_true_eq, decide_eq_false_iff_not, Bool.not_eq_true', Bool.not_eq_false', Option.isNone_iff_eq_none, ne_eq, Decidable.not_not, Int.not_lt, Int.not_le] at p7
    cases h7
  ·
    have p7 := h7
    try simp only [decide_eq_true_eq, decide_eq_false_iff_not, Bool.not_eq_true', Bool.not_eq_false', Option.isNone_iff_eq_none, ne_eq, Decidable.not_not, Int.not_lt, Int.not_le] at p7
    refine T_seq ?_
    refine T_region ?_
    refine TL_q (Qt_move (.pointer _) rfl) rfl ?_
    refine TL_q (Qt_nilCheck rfl) rfl ?_
    refine TL_q (Qt_fieldAddr 5 rfl rfl) rfl ?_
    refine TL_q (Qt_load1 rfl) rfl ?_
    refine TL_q (Qt_assign (.bool _) rfl) rfl ?_
    refine TL_nil ?_
    refine X_then ?_
    refine T_cond rfl (fun h10 => ?_) (fun h10 => ?_)
    ·
      have p10 := h10
      try simp only [decide_eq_true_eq, decide_eq_false_iff_not, Bool.not_eq_true', Bool.not_eq_false', Option.isNone_iff_eq_none, ne_eq, Decidable.not_not, Int.not_lt, Int.not_le] at p10
      refine T_seq ?_
      refine T_region ?_
      refine TL_q (Qt_assign (.int .i64 _) rfl) rfl ?_
      refine TL_nil ?_
      refine X_then ?_
      refine T_ret ?_
      refine X_block_ret ?_
      refine X_then_ret ?_
      exact X_ret (s, 14) [_] Tryz.results110 ⟨rfl, trivial⟩ rfl (fun w hw => St.addPure (Subs.st inferInstance w hw) (.inl ⟨h10, rfl, rfl⟩))
    ·
      have p10 := h10
      try simp only [decide_eq_true_eq, decide_eq_false_iff_not, Bool.not_eq_true', Bool.not_eq_false', Option.isNone_iff_eq_none, ne_eq, Decidable.not_not, Int.not_lt, Int.not_le] at p10
      refine T_seq ?_
      refine T_region ?_
      refine TL_q (Qt_move (.string _) rfl) rfl ?_
      refine TL_e rfl (Ef_call (named_c) rfl (fun x17 => ?_))
      refine TL_q (Qt_not rfl) rfl ?_
      refine TL_q (Qt_assign (.bool _) rfl) rfl ?_
      refine TL_nil ?_
      refine X_then ?_
      refine T_cond rfl (fun h15 => ?_) (fun h15 => ?_)
      ·
        have p15 := h15
        try simp only [decide_eq_true_eq, decide_eq_false_iff_not, Bool.not_eq_true', Bool.not_eq_false', Option.isNone_iff_eq_none, ne_eq, Decidable.not_not, Int.not_lt, Int.not_le] at p15
        refine T_seq ?_
        refine T_region ?_
        refine TL_q (Qt_assign (.int .i64 _) rfl) rfl ?_
        refine TL_nil ?_
        refine X_then ?_
        refine T_ret ?_
        refine X_block_ret ?_
        refine X_then_ret ?_
        exact X_ret (s, 15) [_] Tryz.results110 ⟨rfl, trivial⟩ rfl (fun w hw => St.addPure (Subs.st inferInstance w hw) (.inr (.inl ⟨h10, by simpa using h15, rfl, rfl⟩)))
      ·
        have p15 := h15
        try simp only [decide_eq_true_eq, decide_eq_false_iff_not, Bool.not_eq_true', Bool.not_eq_false', Option.isNone_iff_eq_none, ne_eq, Decidable.not_not, Int.not_lt, Int.not_le] at p15
        refine T_seq ?_
        refine T_region ?_
        refine TL_q (Qt_move (.pointer _) rfl) rfl ?_
        refine TL_q (Qt_move (.slice _ _ _) rfl) rfl ?_
        refine TL_q (Qt_len_slice rfl Tryz.underlying41) rfl ?_
        refine TL_q (Qt_move (.pointer _) rfl) rfl ?_
        refine TL_q (Qt_nilCheck rfl) rfl ?_
        refine TL_q (Qt_fieldAddr 2 rfl rfl) rfl ?_
        refine TL_q (Qt_load1 rfl) rfl ?_
        refine TL_q (Qt_move (.string _) rfl) rfl ?_
        refine TL_q (Qt_lookup1 (key := nm) (enc := encS) (ev := BS.val) (zB) rfl rfl Tryz.underlying70 bs_zero) rfl ?_
        rw [show (getE s.e2 nm).getD zB = oldE s.e2 nm from rfl]
        refine TL_q (Qt_len_slice rfl Tryz.underlying41) rfl ?_
        refine TL_frontB s.r2 ?_
        refine TL_frontB p ?_
        refine TL_e rfl (Ef_call (fits_c (r := s.r2) (es := s.e2) (c := s.c2) (less := (((oldE s.e2 nm).l.length : Nat) : Int)) hok.good2 (hok.size hN hM) ⟨hok.room0, hok.room1⟩ ⟨by omega, by have := hok.len _ (oldE_mem hok.mem2 hok.zero nm); omega⟩) rfl (fun x30 => ?_))
        refine TL_q (Qt_not rfl) rfl ?_
        refine TL_q (Qt_assign (.bool _) rfl) rfl ?_
        refine TL_nil ?_
        refine X_then ?_
        refine T_cond rfl (fun h19 => ?_) (fun h19 => ?_)
        ·
          have p19 := h19
          try simp only [decide_eq_true_eq, decide_eq_false_iff_not, Bool.not_eq_true', Bool.not_eq_false', Option.isNone_iff_eq_none, ne_eq, Decidable.not_not, Int.not_lt, Int.not_le] at p19
          refine T_seq ?_
          refine T_region ?_
          refine TL_q (Qt_assign (.int .i64 _) rfl) rfl ?_
          refine TL_nil ?_
          refine X_then ?_
          refine T_ret ?_
          refine X_block_ret ?_
          refine X_then_ret ?_
          exact X_ret (s, 4) [_] Tryz.results110 ⟨rfl, trivial⟩ rfl (fun w hw => St.addPure (Subs.st inferInstance w hw) (.inr (.inr (.inl ⟨h10, by simpa using h15, by simpa using h19, rfl, rfl⟩))))
        ·
          have p19 := h19
          try simp only [decide_eq_true_eq, decide_eq_false_iff_not, Bool.not_eq_true', Bool.not_eq_false', Option.isNone_iff_eq_none, ne_eq, Decidable.not_not, Int.not_lt, Int.not_le] at p19
          refine T_skip ?_
          refine X_block ?_
          refine X_then ?_
          refine T_seq ?_
          refine T_region ?_
          refine TL_q (Qt_move (.pointer _) rfl) rfl ?_
          refine TL_q (Qt_move (.string _) rfl) rfl ?_
          refine TL_q (Qt_move (.slice _ _ _) rfl) rfl ?_
          refine TL_e rfl (Ef_call (clone_c (by omega)) rfl (fun x35 => ?_))
          refine TL_conv (fun w hw => DS.addB (p := p) (s := s) (x := ⟨x35.a, x35.c, b.l⟩) (e := 5) (H := H) (Subs.st inferInstance w hw)) ?_
          refine TL_q (Qt_build [(0, (.int .i64 _)), (1, (.string _)), (3, .slice _ _ _)] rfl (by kernel_rfl)) rfl ?_
          refine TL_e rfl (Ef_call (ddo_c (s := { s with fp := rowFp (.slice x35.a b.l.length x35.c) ++ s.fp, bs := ⟨x35.a, x35.c, b.l⟩ :: s.bs }) (hok.addB (by show b.l.length ≤ M; omega)) hN hM (a := ⟨2, nm, ⟨#[]⟩, ⟨x35.a, x35.c, b.l⟩⟩) (List.mem_cons_self ..)) rfl (fun x37 => ?_))
          refine TL_pure (fun hd => ?_)
          refine TL_q (Qt_assign (.int .i64 _) rfl) rfl ?_
          refine TL_nil ?_
          refine X_then ?_
          refine T_ret ?_
          exact X_ret x37 [_] Tryz.results110 ⟨rfl, trivial⟩ rfl (fun w hw => St.addPure (Subs.st inferInstance w hw) (.inr (.inr (.inr ⟨h10, by simpa using h15, by simpa using h19, ⟨x35.a, x35.c, b.l⟩, _, rfl, hd⟩))))
set_option maxHeartbeats 1000000 in
theorem settle_c {w0 : World} {H : List SA} {p r c : Nat} {es : FM} {room : Int} {nw : Option Nat} {pe : Sl} {fuse : Int} {down : Bool} :
    CT Tryz.prog w0 (blk p (.cells (DiskV.mk room (some r) nw pe fuse down).cells 73 (0, 0)) :: blk r (mapO encS BS.val es c) :: H) 39 [.pointer (some ⟨p, 0, none⟩)] (α := Nat) (fun _ => .tuple #[]) (fun q => blk p (.cells (DiskV.mk room (some r) (some q) ⟨none, 0, 0⟩ fuse down).cells 73 (0, 0)) :: blk q (mapO encS BS.val es c) :: blk r (mapO encS BS.val es c) :: H) := by
  refine CT_intro Tryz.func39 rfl Tryz.ntmps39 rfl ?_
  refine T_seq ?_
  refine T_region ?_
  refine TL_q (Qt_move (.pointer _) rfl) rfl ?_
  refine TL_q (Qt_nilCheck rfl) rfl ?_
  refine TL_q (Qt_fieldAddr 3 rfl rfl) rfl ?_
  refine TL_n (Ef_store1 (.slice _ _ _) rfl rfl (?_))
  refine TL_nil ?_
  refine X_then ?_
  refine T_region ?_
  refine TL_q (Qt_move (.pointer _) rfl) rfl ?_
  refine TL_q (Qt_move (.pointer _) rfl) rfl ?_
  refine TL_q (Qt_nilCheck rfl) rfl ?_
  refine TL_q (Qt_fieldAddr 1 rfl rfl) rfl ?_
  refine TL_q (Qt_load1 rfl) rfl ?_
  refine TL_frontB r ?_
  refine TL_e rfl (Ef_call (mclone_c) rfl (fun x10 => ?_))
  refine TL_q (Qt_nilCheck rfl) rfl ?_
  refine TL_q (Qt_fieldAddr 2 rfl rfl) rfl ?_
  refine TL_n (Ef_store1 (.map _) rfl rfl (?_))
  refine TL_nil ?_
  exact X_ret x10 [] Tryz.results39 trivial rfl (Subs.st inferInstance)
theorem sync_end {w0 w : World} {H : List SA} {p x14 x18 : Nat} {s : DS} {f : Int} {d : Bool}
    (h : St w0 (blk p (.cells (DiskV.mk s.room (some x14) (some x18) ⟨none, 0, 0⟩ f d).cells 73 (0, 0)) :: blk x18 (mapO encS BS.val s.e2 s.c2) :: blk x14 (mapO encS BS.val s.e2 s.c2) :: blk s.r2 (mapO encS BS.val s.e2 s.c2) :: blk s.r1 (mapO encS BS.val s.e1 s.c1) :: prow s :: dat s.fp ⟨s.bs, [], []⟩ :: H) w) :
    St w0 (DS.H p { s with fuse := f, down := d, r1 := x14, r2 := x18, e1 := s.e2, c1 := s.c2, pend := [], pa := none, pc := 0 } H) w := by
  have h1 : St w0 (blk p (.cells (DiskV.mk s.room (some x14) (some x18) ⟨none, 0, 0⟩ f d).cells 73 (0, 0)) :: blk x14 (mapO encS BS.val s.e2 s.c2) :: blk x18 (mapO encS BS.val s.e2 s.c2) :: dat s.fp ⟨s.bs, [], []⟩ :: H) w := Subs.st inferInstance w h
  have h2 := h1.addNil 102 4
  exact Subs.st (H := row (.slice none 0 0) 102 4 [] :: blk p (.cells (DiskV.mk s.room (some x14) (some x18) ⟨none, 0, 0⟩ f d).cells 73 (0, 0)) :: blk x14 (mapO encS BS.val s.e2 s.c2) :: blk x18 (mapO encS BS.val s.e2 s.c2) :: dat s.fp ⟨s.bs, [], []⟩ :: H) (H' := blk p (.cells (DiskV.mk s.room (some x14) (some x18) ⟨none, 0, 0⟩ f d).cells 73 (0, 0)) :: blk x14 (mapO encS BS.val s.e2 s.c2) :: blk x18 (mapO encS BS.val s.e2 s.c2) :: row (.slice none 0 0) 102 4 [] :: dat s.fp ⟨s.bs, [], []⟩ :: H) inferInstance w h2
set_option maxHeartbeats 1000000 in
theorem sync_c {w0 : World} {H : List SA} {p : Nat} {s : DS} {N M : Nat} (hok : s.Ok N M) (hN : N ≤ 1000000) (hM : M ≤ 2000000000) :
    CT Tryz.prog w0 (DS.H p s H) 111 [.pointer (some ⟨p, 0, none⟩)] (α := DS) (fun _ => .tuple #[]) (fun y => pu (SyncR s y) :: DS.H p y H) := by
  refine CT_intro Tryz.func111 rfl Tryz.ntmps111 rfl ?_
  refine T_seq ?_
  refine T_seq ?_
  refine T_region ?_
  refine TL_q (Qt_move (.pointer _) rfl) rfl ?_
  refine TL_q (Qt_ptr_nil rfl rfl Tryz.underlying28) rfl ?_
  refine TL_q (Qt_move (.bool _) rfl) rfl ?_
  refine TL_split 4 rfl (fun h4 => ?_) (fun h4 => ?_)
  ·
    have p4 := h4
    try simp only [decide_eq_true_eq, decide_eq_false_iff_not, Bool.not_eq_true', Bool.not_eq_false', Option.isNone_iff_eq_none, ne_eq, Decidable.not_not, Int.not_lt, Int.not_le] at p4
    cases h4
  ·
    have p4 := h4
    try simp only [decide_eq_true_eq, decide_eq_false_iff_not, Bool.not_eq_true', Bool.not_eq_false', Option.isNone_iff_eq_none, ne_eq, Decidable.not_not, Int.not_lt, Int.not_le] at p4
    refine TL_take rfl rfl h4 ?_
    refine TL_q (Qt_move (.pointer _) rfl) rfl ?_
    refine TL_frontB p ?_
    refine TL_take rfl rfl h4 ?_
    refine TL_e rfl (Ef_call (burn_c hok.fuse1) rfl (fun x6 => ?_))
    refine TL_take rfl rfl h4 ?_
    refine TL_q (Qt_not rfl) rfl ?_
    refine TL_q (Qt_pick_f (.bool _) rfl h4 rfl) rfl ?_
    refine TL_nil ?_
    refine X_then ?_
    refine T_cond rfl (fun h8 => ?_) (fun h8 => ?_)
    ·
      have p8 := h8
      try simp only [decide_eq_true_eq, decide_eq_false_iff_not, Bool.not_eq_true', Bool.not_eq_false', Option.isNone_iff_eq_none, ne_eq, Decidable.not_not, Int.not_lt, Int.not_le] at p8
      refine T_ret ?_
      refine X_then_ret ?_
      have hbd : burnD s.fuse s.down = true := by simpa using h8
      rw [hbd]
      exact X_ret ({ s with fuse := burnF s.fuse, down := true }) [] Tryz.results111 trivial rfl (fun w hw => St.addPure (Subs.st inferInstance w hw) (.inl ⟨hbd, rfl⟩))
    ·
      have p8 := h8
      try simp only [decide_eq_true_eq, decide_eq_false_iff_not, Bool.not_eq_true', Bool.not_eq_false', Option.isNone_iff_eq_none, ne_eq, Decidable.not_not, Int.not_lt, Int.not_le] at p8
      have hbd : burnD s.fuse s.down = false := by simpa using h8
      rw [hbd]
      refine T_skip ?_
      refine X_then ?_
      refine T_seq ?_
      refine T_region ?_
      refine TL_q (Qt_move (.pointer _) rfl) rfl ?_
      refine TL_q (Qt_move (.pointer _) rfl) rfl ?_
      refine TL_q (Qt_nilCheck rfl) rfl ?_
      refine TL_q (Qt_fieldAddr 2 rfl rfl) rfl ?_
      refine TL_q (Qt_load1 rfl) rfl ?_
      refine TL_frontB s.r2 ?_
      refine TL_e rfl (Ef_call (mclone_c (r := s.r2)) rfl (fun x14 => ?_))
      refine TL_q (Qt_nilCheck rfl) rfl ?_
      refine TL_q (Qt_fieldAddr 1 rfl rfl) rfl ?_
      refine TL_n (Ef_store1 (.map _) rfl rfl (?_))
      refine TL_nil ?_
      refine X_then ?_
      refine T_region ?_
      refine TL_q (Qt_move (.pointer _) rfl) rfl ?_
      refine TL_frontB x14 ?_
      refine TL_frontB p ?_
      refine TL_e rfl (Ef_call (settle_c (r := x14) (es := s.e2) (c := s.c2)) rfl (fun x18 => ?_))
      refine TL_nil ?_
      exact X_ret ({ s with fuse := burnF s.fuse, down := false, r1 := x14, r2 := x18, e1 := s.e2, c1 := s.c2, pend := [], pa := none, pc := 0 }) [] Tryz.results111 trivial rfl (fun w hw => St.addPure (sync_end hw) (.inr ⟨hbd, x14, x18, rfl⟩))
set_option maxHeartbeats 1000000 in
theorem dread_c {w0 : World} {H : List SA} {p : Nat} {s : DS} {N M : Nat} (hok : s.Ok N M) (hN : N ≤ 1000000) (hM : M ≤ 2000000000) {nm : ByteArray} :
    CT Tryz.prog w0 (DS.H p s H) 51 [.pointer (some ⟨p, 0, none⟩), .string nm] (α := AC) (fun y => .tuple #[.slice y.a (oldE s.e2 nm).l.length y.c, .int .i64 (if hasE s.e2 nm = true then 0 else 13)]) (fun y => row (.slice y.a (oldE s.e2 nm).l.length y.c) 5 1 (bytesV (oldE s.e2 nm).l) :: DS.H p s H) := by
  refine CT_intro Tryz.func51 rfl Tryz.ntmps51 rfl ?_
  refine T_seq ?_
  refine T_region ?_
  refine TL_q (Qt_assign (.slice _ _ _) rfl) rfl ?_
  refine TL_q (Qt_assign (.int .i64 _) rfl) rfl ?_
  refine TL_nil ?_
  refine X_then ?_
  refine T_seq ?_
  refine T_seq ?_
  refine T_region ?_
  refine TL_q (Qt_move (.pointer _) rfl) rfl ?_
  refine TL_q (Qt_ptr_nil rfl rfl Tryz.underlying28) rfl ?_
  refine TL_nil ?_
  refine X_then ?_
  refine T_cond rfl (fun h9 => ?_) (fun h9 => ?_)
  ·
    have p9 := h9
    try simp only [decide_eq_true_eq, decide_eq_false_iff_not, Bool.not_eq_true', Bool.not_eq_false', Option.isNone_iff_eq_none, ne_eq, Decidable.not_not, Int.not_lt, Int.not_le] at p9
    cases h9
  ·
    have p9 := h9
    try simp only [decide_eq_true_eq, decide_eq_false_iff_not, Bool.not_eq_true', Bool.not_eq_false', Option.isNone_iff_eq_none, ne_eq, Decidable.not_not, Int.not_lt, Int.not_le] at p9
    refine T_skip ?_
    refine X_then ?_
    refine T_seq ?_
    refine T_region ?_
    refine TL_q (Qt_move (.pointer _) rfl) rfl ?_
    refine TL_q (Qt_nilCheck rfl) rfl ?_
    refine TL_q (Qt_fieldAddr 2 rfl rfl) rfl ?_
    refine TL_q (Qt_load1 rfl) rfl ?_
    refine TL_q (Qt_move (.string _) rfl) rfl ?_
    refine TL_q (Qt_lookup2 (key := nm) (enc := encS) (ev := BS.val) (zB) rfl rfl Tryz.underlying70 bs_zero) rfl ?_
    rw [show (getE s.e2 nm).getD zB = oldE s.e2 nm from rfl]
    refine TL_q (Qt_move (.tuple _) rfl) rfl ?_
    refine TL_q (Qt_extract rfl) rfl ?_
    refine TL_q (Qt_extract rfl) rfl ?_
    refine TL_q (Qt_assign (.slice _ _ _) rfl) rfl ?_
    refine TL_q (Qt_assign (.bool _) rfl) rfl ?_
    refine TL_nil ?_
    refine X_then ?_
    refine T_seq ?_
    refine T_seq ?_
    refine T_region ?_
    refine TL_q (Qt_move (.bool _) rfl) rfl ?_
    refine TL_q (Qt_not rfl) rfl ?_
    refine TL_nil ?_
    refine X_then ?_
    refine T_cond rfl (fun h20 => ?_) (fun h20 => ?_)
    ·
      have p20 := h20
      try simp only [decide_eq_true_eq, decide_eq_false_iff_not, Bool.not_eq_true', Bool.not_eq_false', Option.isNone_iff_eq_none, ne_eq, Decidable.not_not, Int.not_lt, Int.not_le] at p20
      refine T_seq ?_
      refine T_region ?_
      refine TL_q (Qt_assign (.slice _ _ _) rfl) rfl ?_
      refine TL_q (Qt_assign (.int .i64 _) rfl) rfl ?_
      refine TL_nil ?_
      refine X_then ?_
      refine T_ret ?_
      refine X_then_ret ?_
      have hh : hasE s.e2 nm = false := by simpa using h20
      have ho : oldE s.e2 nm = zB := by unfold oldE; unfold hasE at hh; cases hg : getE s.e2 nm with
        | none => rfl
        | some v => rw [hg] at hh; cases hh
      rw [ho, hh]
      exact X_ret ⟨none, 0⟩ [_, _] Tryz.results51 ⟨rfl, rfl, trivial⟩ rfl (fun w hw => (Subs.st inferInstance w hw : St w0 (DS.H p s H) w).addNilB 5)
    ·
      have p20 := h20
      try simp only [decide_eq_true_eq, decide_eq_false_iff_not, Bool.not_eq_true', Bool.not_eq_false', Option.isNone_iff_eq_none, ne_eq, Decidable.not_not, Int.not_lt, Int.not_le] at p20
      refine T_skip ?_
      refine X_then ?_
      refine T_seq ?_
      refine T_region ?_
      refine TL_q (Qt_move (.slice _ _ _) rfl) rfl ?_
      refine TL_e rfl (Ef_call (clone_c (hr := RdE.get (ls := s.bs) inferInstance (oldE_mem hok.mem2 hok.zero nm)) (by have := hok.len _ (oldE_mem hok.mem2 hok.zero nm); omega)) rfl (fun x22 => ?_))
      refine TL_q (Qt_assign (.slice _ _ _) rfl) rfl ?_
      refine TL_q (Qt_assign (.int .i64 _) rfl) rfl ?_
      refine TL_nil ?_
      refine X_then ?_
      refine T_ret ?_
      have hh : hasE s.e2 nm = true := by simpa using h20
      rw [hh]
      exact X_ret x22 [_, _] Tryz.results51 ⟨rfl, rfl, trivial⟩ rfl (Subs.st inferInstance)
def roomOf (n : Int) : Int := if (if (1048576 : Int) < n then 1048576 else n) > 0 then (if (1048576 : Int) < n then 1048576 else n) else 0
def newS (r1 r2 : Nat) (n : Int) : DS := ⟨r1, r2, [], 0, [], 0, none, 0, [], roomOf n, -1, false, [], [zB]⟩
theorem newS_ok (r1 r2 : Nat) (n : Int) : (newS r1 r2 n).Ok 0 0 := ⟨GoodM.nil, GoodM.nil, (fun _ h => by cases h), (fun _ h => by cases h), (fun _ h => by cases h), by simp [newS], (fun x hx => by obtain rfl : x = zB := (by simpa [newS] using hx); exact Nat.le_refl _), (fun _ h => by cases h), Nat.le_refl _, Nat.le_refl _, Nat.le_refl _, by unfold newS roomOf; simp only; split <;> split <;> omega, by unfold newS roomOf; simp only; split <;> split <;> omega, by show (-1 : Int) ≤ 9223372036854775807; decide⟩
theorem St.datZ {w0 w : World} {H : List SA} (h : St w0 H w) : St w0 (dat [] ⟨[zB], [], []⟩ :: H) w :=
  h.datNil.turn rfl fun _ => ⟨fun y hy => (by obtain rfl : y = zB := (by simpa using hy)
                                              exact ⟨none, 0, 0, rfl, rfl, Nat.le_refl _, by unfold maxLen; omega, fun h => absurd h (by simp [zB])⟩), fun _ h => (by cases h), fun _ h => (by cases h), fun _ h => (by cases h)⟩
theorem new_end {w0 w : World} {H : List SA} {p r1 r2 : Nat} {n : Int} (h : St w0 (blk p (.cells (DiskV.mk (roomOf n) (some r1) (some r2) ⟨none, 0, 0⟩ (-1) false).cells 73 (0, 0)) :: blk r2 (mapO encS BS.val [] 0) :: blk r1 (mapO encS BS.val [] 0) :: H) w) : St w0 (DS.H p (newS r1 r2 n) H) w := by
  have h2 := (St.datZ h).addNil 102 4
  exact Subs.st (H := row (.slice none 0 0) 102 4 [] :: dat [] ⟨[zB], [], []⟩ :: blk p (.cells (DiskV.mk (roomOf n) (some r1) (some r2) ⟨none, 0, 0⟩ (-1) false).cells 73 (0, 0)) :: blk r2 (mapO encS BS.val [] 0) :: blk r1 (mapO encS BS.val [] 0) :: H) (H' := blk p (.cells (DiskV.mk (roomOf n) (some r1) (some r2) ⟨none, 0, 0⟩ (-1) false).cells 73 (0, 0)) :: blk r1 (mapO encS BS.val [] 0) :: blk r2 (mapO encS BS.val [] 0) :: row (.slice none 0 0) 102 4 [] :: dat [] ⟨[zB], [], []⟩ :: H) inferInstance w h2
set_option maxHeartbeats 1000000 in
theorem dnew_c {w0 : World} {H : List SA} {n : Int} :
    CT Tryz.prog w0 (H) 6 [.int .i64 n] (α := Nat × Nat × Nat) (fun y => .pointer (some ⟨y.1, 0, none⟩)) (fun y => DS.H y.1 (newS y.2.1 y.2.2 n) H) := by
  refine CT_intro Tryz.func6 rfl Tryz.ntmps6 rfl ?_
  refine T_seq ?_
  refine T_region ?_
  refine TL_q (Qt_assign (.pointer _) rfl) rfl ?_
  refine TL_nil ?_
  refine X_then ?_
  refine T_seq ?_
  refine T_region ?_
  refine TL_q (Qt_move (.int .i64 _) rfl) rfl ?_
  refine TL_q (Qt_min rfl rfl) rfl ?_
  refine TL_q (Qt_max rfl rfl) rfl ?_
  rw [show (if (if (1048576 : Int) < n then (1048576 : Int) else n) > 0 then (if (1048576 : Int) < n then (1048576 : Int) else n) else 0) = roomOf n from rfl]
  refine TL_e rfl (Ef_makeMap encS BS.val (fun r6 => ?_))
  refine TL_e rfl (Ef_makeMap encS BS.val (fun r7 => ?_))
  refine TL_q (Qt_build [(0, (.int .i64 _)), (1, (.map _)), (2, (.map _)), (4, (.int .i64 _))] rfl (by kernel_rfl)) rfl ?_
  refine TL_e rfl (Ef_boxN rfl (fun b9 => ?_))
  refine TL_q (Qt_assign (.pointer _) rfl) rfl ?_
  refine TL_nil ?_
  refine X_then ?_
  refine T_ret ?_
  exact X_ret (b9, r6, r7) [_] Tryz.results6 ⟨rfl, trivial⟩ rfl (fun w hw => new_end (Subs.st inferInstance w hw))
end
section
open Go.RowKit Go.Sx
set_option maxRecDepth 100000
set_option linter.unusedSimpArgs false
set_option linter.unusedVariables false
theorem getE_cons {κ ν : Type} [DecidableEq κ] (e : Ent κ ν) (es : List (Ent κ ν)) (k : κ) : getE (e :: es) k = if k = e.k then some e.v else getE es k := by
  unfold getE
  by_cases h : k = e.k <;> simp [List.find?_cons, h]
theorem getE_put_ne : ∀ (es : FM) (k key : ByteArray) (v : BS) (c : Nat), key ≠ k → getE (putE es k v c) key = getE es key
  | [], k, key, v, c, h => by simp [putE, getE, h]
  | e :: es, k, key, v, c, h => by
    unfold putE
    split
    · rename_i hk; subst hk; rw [getE_cons, getE_cons, if_neg h, if_neg h]
    · rw [getE_cons, getE_cons, getE_put_ne es k key v c h]
theorem getE_put_eq : ∀ (es : FM) (k : ByteArray) (v : BS) (c : Nat), getE (putE es k v c) k = some v
  | [], k, v, c => by simp [putE, getE]
  | e :: es, k, v, c => by
    unfold putE
    split
    · rw [getE_cons, if_pos rfl]
    · rename_i hk; rw [getE_cons, if_neg hk, getE_put_eq es k v c]
theorem getE_del_ne : ∀ (es : FM) (k key : ByteArray), key ≠ k → getE (delE es k) key = getE es key
  | [], k, key, h => rfl
  | e :: es, k, key, h => by
    unfold delE
    split
    · rename_i hk; subst hk; rw [getE_cons, if_neg h]
    · rw [getE_cons, getE_cons, getE_del_ne es k key h]
theorem getE_doE {es : FM} {a : ActV} {x : BS} {c : Nat} {key : ByteArray} (h1 : a.name ≠ key) (h2 : a.to ≠ key) : getE (doE es a x c) key = getE es key := by
  have h1' := Ne.symm h1
  have h2' := Ne.symm h2
  unfold doE
  split
  · exact getE_put_ne _ _ _ _ _ h1'
  · split
    · split
      · rw [getE_put_ne _ _ _ _ _ h2', getE_del_ne _ _ _ h1']
      · rfl
    · split
      · exact getE_del_ne _ _ _ h1'
      · rfl
theorem putF_map : ∀ (es : FM) (k : ByteArray) (v : BS) (c : Nat), hasE es k = true → (putE es k v c).map (·.k) = es.map (·.k) ∧ (putE es k v c).map (·.b) = es.map (·.b)
  | [], k, v, c, h => by simp [hasE, getE] at h
  | e :: es, k, v, c, h => by
    unfold putE
    split
    · rename_i hk; exact ⟨by simp [hk], by simp⟩
    · rename_i hk
      have h1 : hasE es k = true := by simpa [hasE, getE, List.find?_cons, hk] using h
      have := putF_map es k v c h1
      exact ⟨by simp [this.1], by simp [this.2]⟩
theorem putF_new (es : FM) (k : ByteArray) (v : BS) (c : Nat) (h : GoodM es c) (hh : hasE es k = false) : GoodM (putE es k v c) (c + 1) := by
  rw [putE_none _ _ _ _ hh]
  refine ⟨?_, ?_, ?_⟩
  · rw [List.map_append]
    refine List.nodup_append.2 ⟨h.keys, by simp, fun a ha b hb => ?_⟩
    obtain rfl : b = k := by simpa using hb
    rintro rfl
    obtain ⟨e, he, hek⟩ := List.mem_map.1 ha
    have : (getE es a).isSome = true := by
      simp only [getE, Option.isSome_map]
      rw [List.find?_isSome]
      exact ⟨e, he, by simp [hek]⟩
    rw [hasE, this] at hh
    cases hh
  · rw [List.map_append]
    refine List.nodup_append.2 ⟨h.born, by simp, fun a ha b hb => ?_⟩
    obtain rfl : b = c := by simpa using hb
    rintro rfl
    obtain ⟨e, he, hek⟩ := List.mem_map.1 ha
    have := h.lt e he
    omega
  · intro e he
    rcases List.mem_append.1 he with he | he
    · have := h.lt e he; omega
    · obtain rfl : e = ⟨k, v, c⟩ := by simpa using he
      show c < c + 1
      omega
theorem putF_good (es : FM) (k : ByteArray) (v : BS) (c : Nat) (h : GoodM es c) : GoodM (putE es k v c) (clockE es k c) := by
  cases hh : hasE es k with
  | false => unfold clockE; rw [hh]; exact putF_new es k v c h hh
  | true =>
    have hm := putF_map es k v c hh
    unfold clockE
    rw [hh]
    refine ⟨by rw [hm.1]; exact h.keys, by rw [hm.2]; exact h.born, fun e he => ?_⟩
    have hb : e.b ∈ (putE es k v c).map (·.b) := List.mem_map.2 ⟨e, he, rfl⟩
    rw [hm.2] at hb
    obtain ⟨e', he', hb'⟩ := List.mem_map.1 hb
    have := h.lt e' he'
    simp only [cond_true]
    omega
theorem delF_sub : ∀ (es : FM) (k : ByteArray), (delE es k).Sublist es
  | [], k => List.Sublist.refl _
  | e :: es, k => by
    unfold delE
    split
    · exact List.sublist_cons_self _ _
    · exact (delF_sub es k).cons_cons e
theorem delF_good {es : FM} {c : Nat} (h : GoodM es c) (k : ByteArray) : GoodM (delE es k) c :=
  ⟨h.keys.sublist ((delF_sub es k).map _), h.born.sublist ((delF_sub es k).map _), fun e he => h.lt e ((delF_sub es k).subset he)⟩
theorem doE_good {es : FM} {a : ActV} {x : BS} {c : Nat} (h : GoodM es c) : GoodM (doE es a x c) (doC es a c) := by
  unfold doE doC
  split
  · exact putF_good _ _ _ _ h
  · split
    · split
      · exact putF_good _ _ _ _ (delF_good h _)
      · exact h
    · split
      · exact delF_good h _
      · exact h
theorem putF_vals : ∀ (es : FM) (k : ByteArray) (v : BS) (c : Nat), ∀ e ∈ putE es k v c, e.v = v ∨ ∃ e' ∈ es, e.v = e'.v
  | [], k, v, c, e, he => by
    left
    have : e = ⟨k, v, c⟩ := by simpa [putE] using he
    rw [this]
  | d :: es, k, v, c, e, he => by
    unfold putE at he
    split at he
    · rcases List.mem_cons.1 he with rfl | he
      · exact .inl rfl
      · exact .inr ⟨e, by simp [he], rfl⟩
    · rcases List.mem_cons.1 he with rfl | he
      · exact .inr ⟨e, by simp, rfl⟩
      · rcases putF_vals es k v c e he with h | ⟨e', h1, h2⟩
        · exact .inl h
        · exact .inr ⟨e', by simp [h1], h2⟩
theorem doE_vals {es : FM} {a : ActV} {x : BS} {c : Nat} {bs : List BS} (hm : ∀ e ∈ es, e.v ∈ bs) (hz : zB ∈ bs) : ∀ e ∈ doE es a x c, e.v ∈ x :: bs := by
  intro e he
  have hold := oldE_mem hm hz
  unfold doE at he
  split at he
  · rcases putF_vals _ _ _ _ e he with h | ⟨e', h1, h2⟩
    · rw [h]; simp
    · rw [h2]; exact List.mem_cons_of_mem _ (hm e' h1)
  · split at he
    · split at he
      · rcases putF_vals _ _ _ _ e he with h | ⟨e', h1, h2⟩
        · rw [h]; exact List.mem_cons_of_mem _ (hold _)
        · rw [h2]; exact List.mem_cons_of_mem _ (hm e' ((delF_sub es _).subset h1))
      · exact List.mem_cons_of_mem _ (hm e he)
    · split at he
      · exact List.mem_cons_of_mem _ (hm e ((delF_sub es _).subset he))
      · exact List.mem_cons_of_mem _ (hm e he)
theorem putF_len : ∀ (es : FM) (k : ByteArray) (v : BS) (c : Nat), (putE es k v c).length ≤ es.length + 1
  | [], k, v, c => by simp [putE]
  | e :: es, k, v, c => by
    unfold putE
    split
    · simp
    · have := putF_len es k v c; simp; omega
theorem doE_len {es : FM} {a : ActV} {x : BS} {c : Nat} : (doE es a x c).length ≤ es.length + 1 := by
  unfold doE
  split
  · exact putF_len _ _ _ _
  · split
    · split
      · have h1 := putF_len (delE es a.name) a.to (oldE es a.name) c
        have h2 := (delF_sub es a.name).length_le
        omega
      · omega
    · split
      · have h2 := (delF_sub es a.name).length_le; omega
      · omega
theorem DS.Ok.mono {s : DS} {N M N' M' : Nat} (h : s.Ok N M) (hN : N ≤ N') (hM : M ≤ M') : s.Ok N' M' :=
  ⟨h.good1, h.good2, h.mem1, h.mem2, h.memp, h.zero, fun x hx => Nat.le_trans (h.len x hx) hM, h.short, Nat.le_trans h.n1 hN, Nat.le_trans h.n2 hN, Nat.le_trans h.np hN, h.room0, h.room1, h.fuse1⟩
theorem burnF_le {f : Int} (h : f ≤ 9223372036854775807) : burnF f ≤ 9223372036854775807 := by unfold burnF; split <;> omega
theorem newB_len {es : FM} {a : ActV} {bs : List BS} {M : Nat} (hm : ∀ e ∈ es, e.v ∈ bs) (hz : zB ∈ bs) (hl : ∀ x ∈ bs, x.l.length ≤ M) (ha : a.b.l.length ≤ 2000000) : (newB es a).length ≤ M + 2000000 := by
  have h1 := hl _ (oldE_mem hm hz a.name)
  unfold newB
  split
  · rw [List.length_append]; omega
  · split
    · omega
    · simp
theorem DoR.ok {s s' : DS} {N M : Nat} {a : ActV} {e : Int} (h : DoR s a s' e) (hok : s.Ok N M) (ha : a.b ∈ s.bs) (hb : a.b.l.length ≤ 2000000) : s'.Ok (N + 1) (M + 2000000) := by
  rcases h with ⟨-, -, rfl⟩ | ⟨-, -, x, pa, pc, fp, hx, rfl⟩
  · have h1 := hok.mono (Nat.le_add_right N 1) (Nat.le_add_right M 2000000)
    exact ⟨h1.good1, h1.good2, h1.mem1, h1.mem2, h1.memp, h1.zero, h1.len, h1.short, h1.n1, h1.n2, h1.np, h1.room0, h1.room1, burnF_le h1.fuse1⟩
  · refine ⟨hok.good1, doE_good hok.good2, fun e he => List.mem_cons_of_mem _ (hok.mem1 e he), doE_vals hok.mem2 hok.zero, fun b hb' => ?_, List.mem_cons_of_mem _ hok.zero, fun y hy => ?_, fun b hb' => ?_, by have := hok.n1; show s.e1.length ≤ _; omega, by have h1 := doE_len (es := s.e2) (a := a) (x := x) (c := s.c2); have h2 := hok.n2; show (doE s.e2 a x s.c2).length ≤ _; omega, by have := hok.np; show (s.pend ++ [a]).length ≤ _; simp; omega, hok.room0, hok.room1, burnF_le hok.fuse1⟩
    · rcases List.mem_append.1 hb' with h1 | h1
      · exact List.mem_cons_of_mem _ (hok.memp b h1)
      · obtain rfl : b = a := by simpa using h1
        exact List.mem_cons_of_mem _ ha
    · rcases List.mem_cons.1 hy with rfl | hy
      · rw [hx]; exact newB_len hok.mem2 hok.zero hok.len hb
      · have := hok.len y hy; omega
    · rcases List.mem_append.1 hb' with h1 | h1
      · exact hok.short b h1
      · obtain rfl : b = a := by simpa using h1
        exact hb
theorem AppR.ok {k : Int} {less : Nat} {s s' : DS} {N M : Nat} {nm : ByteArray} {b : List UInt8} {e : Int} (h : AppR k less s nm b s' e) (hok : s.Ok N M) (hb : b.length ≤ 2000000) (hbM : b.length ≤ M) : s'.Ok (N + 1) (M + 2000000) := by
  have h1 := hok.mono (Nat.le_add_right N 1) (Nat.le_add_right M 2000000)
  rcases h with ⟨-, -, rfl⟩ | ⟨-, -, -, rfl⟩ | ⟨-, -, -, -, rfl⟩ | ⟨-, -, -, cl, fp, hcl, hd⟩
  · exact h1
  · exact h1
  · exact h1
  · exact hd.ok (hok.addB (by rw [hcl]; exact hbM)) (List.mem_cons_self ..) (by show cl.l.length ≤ 2000000; rw [hcl]; exact hb)
theorem SyncR.ok {s s' : DS} {N M : Nat} (h : SyncR s s') (hok : s.Ok N M) : s'.Ok N M := by
  rcases h with ⟨-, rfl⟩ | ⟨-, q1, q2, rfl⟩
  · exact ⟨hok.good1, hok.good2, hok.mem1, hok.mem2, hok.memp, hok.zero, hok.len, hok.short, hok.n1, hok.n2, hok.np, hok.room0, hok.room1, burnF_le hok.fuse1⟩
  · exact ⟨hok.good2, hok.good2, hok.mem2, hok.mem2, (fun _ h => by cases h), hok.zero, hok.len, (fun _ h => by cases h), hok.n2, hok.n2, Nat.zero_le _, hok.room0, hok.room1, burnF_le hok.fuse1⟩
set_option maxHeartbeats 1000000 in
theorem there_c {w0 : World} {H : List SA} {p : Nat} {s : DS} {nm : ByteArray} :
    CT Tryz.prog w0 (DS.H p s H) 165 [.pointer (some ⟨p, 0, none⟩), .string nm] (α := Unit) (fun _ => .bool (hasE s.e2 nm)) (fun _ => DS.H p s H) := by
  refine CT_intro Tryz.func165 rfl Tryz.ntmps165 rfl ?_
  refine T_seq ?_
  refine T_region ?_
  refine TL_q (Qt_assign (.bool _) rfl) rfl ?_
  refine TL_nil ?_
  refine X_then ?_
  refine T_seq ?_
  refine T_region ?_
  refine TL_q (Qt_move (.pointer _) rfl) rfl ?_
  refine TL_q (Qt_nilCheck rfl) rfl ?_
  refine TL_q (Qt_fieldAddr 2 rfl rfl) rfl ?_
  refine TL_q (Qt_load1 rfl) rfl ?_
  refine TL_q (Qt_move (.string _) rfl) rfl ?_
  refine TL_q (Qt_lookup2 (key := nm) (enc := encS) (ev := BS.val) (zB) rfl rfl Tryz.underlying70 bs_zero) rfl ?_
  refine TL_q (Qt_move (.tuple _) rfl) rfl ?_
  refine TL_q (Qt_extract rfl) rfl ?_
  refine TL_q (Qt_extract rfl) rfl ?_
  refine TL_q (Qt_assign (.slice _ _ _) rfl) rfl ?_
  refine TL_q (Qt_assign (.bool _) rfl) rfl ?_
  refine TL_nil ?_
  refine X_then ?_
  refine T_seq ?_
  refine T_region ?_
  refine TL_q (Qt_move (.bool _) rfl) rfl ?_
  refine TL_q (Qt_assign (.bool _) rfl) rfl ?_
  refine TL_nil ?_
  refine X_then ?_
  refine T_ret ?_
  exact X_ret () [_] Tryz.results165 ⟨rfl, trivial⟩ rfl (Subs.st inferInstance)
set_option maxHeartbeats 1000000 in
theorem rename_c {w0 : World} {H : List SA} {p : Nat} {s : DS} {N M : Nat} (hok : s.Ok N M) (hN : N ≤ 1000000) (hM : M ≤ 1000000000) {nm to : ByteArray} :
    CT Tryz.prog w0 (DS.H p s H) 112 [.pointer (some ⟨p, 0, none⟩), .string nm, .string to] (α := DS × Int) (fun y => .int .i64 y.2) (fun y => pu (MvR (⟨3, nm, to, ⟨none, 0, []⟩⟩ : ActV) (namedB nm && namedB to) s y.1 y.2) :: DS.H p y.1 H) := by
  refine CT_intro Tryz.func112 rfl Tryz.ntmps112 rfl ?_
  refine T_seq ?_
  refine T_region ?_
  refine TL_q (Qt_assign (.int .i64 _) rfl) rfl ?_
  refine TL_nil ?_
  refine X_then ?_
  refine T_seq ?_
  refine T_block ?_
  refine T_seq ?_
  refine T_region ?_
  refine TL_q (Qt_move (.pointer _) rfl) rfl ?_
  refine TL_q (Qt_ptr_nil rfl rfl Tryz.underlying28) rfl ?_
  refine TL_q (Qt_assign (.bool _) rfl) rfl ?_
  refine TL_nil ?_
  refine X_then ?_
  refine T_cond rfl (fun h7 => ?_) (fun h7 => ?_)
  ·
    have p7 := h7
    try simp only [decide_eq_true_eq, decide_eq_false_iff_not, Bool.not_eq_true', Bool.not_eq_false', Option.isNone_iff_eq_none, ne_eq, Decidable.not_not, Int.not_lt, Int.not_le] at p7
    cases h7
  ·
    have p7 := h7
    try simp only [decide_eq_true_eq, decide_eq_false_iff_not, Bool.not_eq_true', Bool.not_eq_false', Option.isNone_iff_eq_none, ne_eq, Decidable.not_not, Int.not_lt, Int.not_le] at p7
    refine T_seq ?_
    refine T_region ?_
    refine TL_q (Qt_move (.pointer _) rfl) rfl ?_
    refine TL_q (Qt_nilCheck rfl) rfl ?_
    refine TL_q (Qt_fieldAddr 5 rfl rfl) rfl ?_
    refine TL_q (Qt_load1 rfl) rfl ?_
    refine TL_q (Qt_assign (.bool _) rfl) rfl ?_
    refine TL_nil ?_
    refine X_then ?_
    refine T_cond rfl (fun h10 => ?_) (fun h10 => ?_)
    ·
      have p10 := h10
      try simp only [decide_eq_true_eq, decide_eq_false_iff_not, Bool.not_eq_true', Bool.not_eq_false', Option.isNone_iff_eq_none, ne_eq, Decidable.not_not, Int.not_lt, Int.not_le] at p10
      refine T_seq ?_
      refine T_region ?_
      refine TL_q (Qt_assign (.int .i64 _) rfl) rfl ?_
      refine TL_nil ?_
      refine X_then ?_
      refine T_ret ?_
      refine X_block_ret ?_
      refine X_then_ret ?_
      exact X_ret (s, 14) [_] Tryz.results112 ⟨rfl, trivial⟩ rfl (fun w hw => St.addPure (Subs.st inferInstance w hw) (.inl ⟨h10, rfl, rfl⟩))
    ·
      have p10 := h10
      try simp only [decide_eq_true_eq, decide_eq_false_iff_not, Bool.not_eq_true', Bool.not_eq_false', Option.isNone_iff_eq_none, ne_eq, Decidable.not_not, Int.not_lt, Int.not_le] at p10
      refine T_seq ?_
      refine T_region ?_
      refine TL_q (Qt_move (.string _) rfl) rfl ?_
      refine TL_e rfl (Ef_call (named_c) rfl (fun x17 => ?_))
      refine TL_q (Qt_not rfl) rfl ?_
      refine TL_q (Qt_move (.bool _) rfl) rfl ?_
      refine TL_split 19 rfl (fun h19 => ?_) (fun h19 => ?_)
      ·
        have p19 := h19
        try simp only [decide_eq_true_eq, decide_eq_false_iff_not, Bool.not_eq_true', Bool.not_eq_false', Option.isNone_iff_eq_none, ne_eq, Decidable.not_not, Int.not_lt, Int.not_le] at p19
        refine TL_pass rfl rfl h19 rfl ?_
        refine TL_pass rfl rfl h19 rfl ?_
        refine TL_pass rfl rfl h19 rfl ?_
        refine TL_q (Qt_pick_t (.bool _) rfl h19 rfl) rfl ?_
        refine TL_q (Qt_assign (.bool _) rfl) rfl ?_
        refine TL_nil ?_
        refine X_then ?_
        refine T_cond_true rfl rfl ?_
        refine T_seq ?_
        refine T_region ?_
        refine TL_q (Qt_assign (.int .i64 _) rfl) rfl ?_
        refine TL_nil ?_
        refine X_then ?_
        refine T_ret ?_
        refine X_block_ret ?_
        refine X_then_ret ?_
        exact X_ret (s, 15) [_] Tryz.results112 ⟨rfl, trivial⟩ rfl (fun w hw => St.addPure (Subs.st inferInstance w hw) (.inr (.inl ⟨h10, by simp_all, rfl, rfl⟩)))
      ·
        have p19 := h19
        try simp only [decide_eq_true_eq, decide_eq_false_iff_not, Bool.not_eq_true', Bool.not_eq_false', Option.isNone_iff_eq_none, ne_eq, Decidable.not_not, Int.not_lt, Int.not_le] at p19
        refine TL_take rfl rfl h19 ?_
        refine TL_q (Qt_move (.string _) rfl) rfl ?_
        refine TL_take rfl rfl h19 ?_
        refine TL_e rfl (Ef_call (named_c) rfl (fun x21 => ?_))
        refine TL_take rfl rfl h19 ?_
        refine TL_q (Qt_not rfl) rfl ?_
        refine TL_q (Qt_pick_f (.bool _) rfl h19 rfl) rfl ?_
        refine TL_q (Qt_assign (.bool _) rfl) rfl ?_
        refine TL_nil ?_
        refine X_then ?_
        refine T_cond rfl (fun h15 => ?_) (fun h15 => ?_)
        ·
          have p15 := h15
          try simp only [decide_eq_true_eq, decide_eq_false_iff_not, Bool.not_eq_true', Bool.not_eq_false', Option.isNone_iff_eq_none, ne_eq, Decidable.not_not, Int.not_lt, Int.not_le] at p15
          refine T_seq ?_
          refine T_region ?_
          refine TL_q (Qt_assign (.int .i64 _) rfl) rfl ?_
          refine TL_nil ?_
          refine X_then ?_
          refine T_ret ?_
          refine X_block_ret ?_
          refine X_then_ret ?_
          exact X_ret (s, 15) [_] Tryz.results112 ⟨rfl, trivial⟩ rfl (fun w hw => St.addPure (Subs.st inferInstance w hw) (.inr (.inl ⟨h10, by simp_all, rfl, rfl⟩)))
        ·
          have p15 := h15
          try simp only [decide_eq_true_eq, decide_eq_false_iff_not, Bool.not_eq_true', Bool.not_eq_false', Option.isNone_iff_eq_none, ne_eq, Decidable.not_not, Int.not_lt, Int.not_le] at p15
          refine T_seq ?_
          refine T_region ?_
          refine TL_q (Qt_move (.pointer _) rfl) rfl ?_
          refine TL_q (Qt_move (.string _) rfl) rfl ?_
          refine TL_e rfl (Ef_call (there_c (s := s)) rfl (fun x27 => ?_))
          refine TL_q (Qt_not rfl) rfl ?_
          refine TL_q (Qt_assign (.bool _) rfl) rfl ?_
          refine TL_nil ?_
          refine X_then ?_
          refine T_cond rfl (fun h24 => ?_) (fun h24 => ?_)
          ·
            have p24 := h24
            try simp only [decide_eq_true_eq, decide_eq_false_iff_not, Bool.not_eq_true', Bool.not_eq_false', Option.isNone_iff_eq_none, ne_eq, Decidable.not_not, Int.not_lt, Int.not_le] at p24
            refine T_seq ?_
            refine T_region ?_
            refine TL_q (Qt_assign (.int .i64 _) rfl) rfl ?_
            refine TL_nil ?_
            refine X_then ?_
            refine T_ret ?_
            refine X_block_ret ?_
            refine X_then_ret ?_
            exact X_ret (s, 13) [_] Tryz.results112 ⟨rfl, trivial⟩ rfl (fun w hw => St.addPure (Subs.st inferInstance w hw) (.inr (.inr (.inl ⟨h10, by simp_all, by simpa using h24, rfl, rfl⟩))))
          ·
            have p24 := h24
            try simp only [decide_eq_true_eq, decide_eq_false_iff_not, Bool.not_eq_true', Bool.not_eq_false', Option.isNone_iff_eq_none, ne_eq, Decidable.not_not, Int.not_lt, Int.not_le] at p24
            refine T_skip ?_
            refine X_block ?_
            refine X_then ?_
            refine T_seq ?_
            refine T_region ?_
            refine TL_q (Qt_move (.pointer _) rfl) rfl ?_
            refine TL_q (Qt_move (.string _) rfl) rfl ?_
            refine TL_q (Qt_move (.string _) rfl) rfl ?_
            refine TL_q (Qt_build [(0, (.int .i64 _)), (1, (.string _)), (2, (.string _))] rfl (by kernel_rfl)) rfl ?_
            refine TL_e rfl (Ef_call (ddo_c (s := s) hok hN (by omega) (a := ⟨3, nm, to, ⟨none, 0, []⟩⟩) hok.zero) rfl (fun x33 => ?_))
            refine TL_pure (fun hd => ?_)
            refine TL_q (Qt_assign (.int .i64 _) rfl) rfl ?_
            refine TL_nil ?_
            refine X_then ?_
            refine T_ret ?_
            exact X_ret x33 [_] Tryz.results112 ⟨rfl, trivial⟩ rfl (fun w hw => St.addPure (Subs.st inferInstance w hw) (.inr (.inr (.inr ⟨h10, by simp_all, by simpa using h24, hd⟩))))
set_option maxHeartbeats 1000000 in
theorem delete_c {w0 : World} {H : List SA} {p : Nat} {s : DS} {N M : Nat} (hok : s.Ok N M) (hN : N ≤ 1000000) (hM : M ≤ 1000000000) {nm : ByteArray} :
    CT Tryz.prog w0 (DS.H p s H) 113 [.pointer (some ⟨p, 0, none⟩), .string nm] (α := DS × Int) (fun y => .int .i64 y.2) (fun y => pu (MvR (⟨4, nm, ⟨#[]⟩, ⟨none, 0, []⟩⟩ : ActV) (namedB nm) s y.1 y.2) :: DS.H p y.1 H) := by
  refine CT_intro Tryz.func113 rfl Tryz.ntmps113 rfl ?_
  refine T_seq ?_
  refine T_region ?_
  refine TL_q (Qt_assign (.int .i64 _) rfl) rfl ?_
  refine TL_nil ?_
  refine X_then ?_
  refine T_seq ?_
  refine T_block ?_
  refine T_seq ?_
  refine T_region ?_
  refine TL_q (Qt_move (.pointer _) rfl) rfl ?_
  refine TL_q (Qt_ptr_nil rfl rfl Tryz.underlying28) rfl ?_
  refine TL_q (Qt_assign (.bool _) rfl) rfl ?_
  refine TL_nil ?_
  refine X_then ?_
  refine T_cond rfl (fun h5 => ?_) (fun h5 => ?_)
  ·
    have p5 := h5
    try simp only [decide_eq_true_eq, decide_eq_false_iff_not, Bool.not_eq_true', Bool.not_eq_false', Option.isNone_iff_eq_none, ne_eq, Decidable.not_not, Int.not_lt, Int.not_le] at p5
    cases h5
  ·
    have p5 := h5
    try simp only [decide_eq_true_eq, decide_eq_false_iff_not, Bool.not_eq_true', Bool.not_eq_false', Option.isNone_iff_eq_none, ne_eq, Decidable.not_not, Int.not_lt, Int.not_le] at p5
    refine T_seq ?_
    refine T_region ?_
    refine TL_q (Qt_move (.pointer _) rfl) rfl ?_
    refine TL_q (Qt_nilCheck rfl) rfl ?_
    refine TL_q (Qt_fieldAddr 5 rfl rfl) rfl ?_
    refine TL_q (Qt_load1 rfl) rfl ?_
    refine TL_q (Qt_assign (.bool _) rfl) rfl ?_
    refine TL_nil ?_
    refine X_then ?_
    refine T_cond rfl (fun h8 => ?_) (fun h8 => ?_)
    ·
      have p8 := h8
      try simp only [decide_eq_true_eq, decide_eq_false_iff_not, Bool.not_eq_true', Bool.not_eq_false', Option.isNone_iff_eq_none, ne_eq, Decidable.not_not, Int.not_lt, Int.not_le] at p8
      refine T_seq ?_
      refine T_region ?_
      refine TL_q (Qt_assign (.int .i64 _) rfl) rfl ?_
      refine TL_nil ?_
      refine X_then ?_
      refine T_ret ?_
      refine X_block_ret ?_
      refine X_then_ret ?_
      exact X_ret (s, 14) [_] Tryz.results113 ⟨rfl, trivial⟩ rfl (fun w hw => St.addPure (Subs.st inferInstance w hw) (.inl ⟨h8, rfl, rfl⟩))
    ·
      have p8 := h8
      try simp only [decide_eq_true_eq, decide_eq_false_iff_not, Bool.not_eq_true', Bool.not_eq_false', Option.isNone_iff_eq_none, ne_eq, Decidable.not_not, Int.not_lt, Int.not_le] at p8
      refine T_seq ?_
      refine T_region ?_
      refine TL_q (Qt_move (.string _) rfl) rfl ?_
      refine TL_e rfl (Ef_call (named_c) rfl (fun x15 => ?_))
      refine TL_q (Qt_not rfl) rfl ?_
      refine TL_q (Qt_assign (.bool _) rfl) rfl ?_
      refine TL_nil ?_
      refine X_then ?_
      refine T_cond rfl (fun h13 => ?_) (fun h13 => ?_)
      ·
        have p13 := h13
        try simp only [decide_eq_true_eq, decide_eq_false_iff_not, Bool.not_eq_true', Bool.not_eq_false', Option.isNone_iff_eq_none, ne_eq, Decidable.not_not, Int.not_lt, Int.not_le] at p13
        refine T_seq ?_
        refine T_region ?_
        refine TL_q (Qt_assign (.int .i64 _) rfl) rfl ?_
        refine TL_nil ?_
        refine X_then ?_
        refine T_ret ?_
        refine X_block_ret ?_
        refine X_then_ret ?_
        exact X_ret (s, 15) [_] Tryz.results113 ⟨rfl, trivial⟩ rfl (fun w hw => St.addPure (Subs.st inferInstance w hw) (.inr (.inl ⟨h8, by simpa using h13, rfl, rfl⟩)))
      ·
        have p13 := h13
        try simp only [decide_eq_true_eq, decide_eq_false_iff_not, Bool.not_eq_true', Bool.not_eq_false', Option.isNone_iff_eq_none, ne_eq, Decidable.not_not, Int.not_lt, Int.not_le] at p13
        refine T_seq ?_
        refine T_region ?_
        refine TL_q (Qt_move (.pointer _) rfl) rfl ?_
        refine TL_q (Qt_move (.string _) rfl) rfl ?_
        refine TL_e rfl (Ef_call (there_c (s := s)) rfl (fun x20 => ?_))
        refine TL_q (Qt_not rfl) rfl ?_
        refine TL_q (Qt_assign (.bool _) rfl) rfl ?_
        refine TL_nil ?_
        refine X_then ?_
        refine T_cond rfl (fun h17 => ?_) (fun h17 => ?_)
        ·
          have p17 := h17
          try simp only [decide_eq_true_eq, decide_eq_false_iff_not, Bool.not_eq_true', Bool.not_eq_false', Option.isNone_iff_eq_none, ne_eq, Decidable.not_not, Int.not_lt, Int.not_le] at p17
          refine T_seq ?_
          refine T_region ?_
          refine TL_q (Qt_assign (.int .i64 _) rfl) rfl ?_
          refine TL_nil ?_
          refine X_then ?_
          refine T_ret ?_
          refine X_block_ret ?_
          refine X_then_ret ?_
          exact X_ret (s, 13) [_] Tryz.results113 ⟨rfl, trivial⟩ rfl (fun w hw => St.addPure (Subs.st inferInstance w hw) (.inr (.inr (.inl ⟨h8, by simpa using h13, by simpa using h17, rfl, rfl⟩))))
        ·
          have p17 := h17
          try simp only [decide_eq_true_eq, decide_eq_false_iff_not, Bool.not_eq_true', Bool.not_eq_false', Option.isNone_iff_eq_none, ne_eq, Decidable.not_not, Int.not_lt, Int.not_le] at p17
          refine T_skip ?_
          refine X_block ?_
          refine X_then ?_
          refine T_seq ?_
          refine T_region ?_
          refine TL_q (Qt_move (.pointer _) rfl) rfl ?_
          refine TL_q (Qt_move (.string _) rfl) rfl ?_
          refine TL_q (Qt_build [(0, (.int .i64 _)), (1, (.string _))] rfl (by kernel_rfl)) rfl ?_
          refine TL_e rfl (Ef_call (ddo_c (s := s) hok hN (by omega) (a := ⟨4, nm, ⟨#[]⟩, ⟨none, 0, []⟩⟩) hok.zero) rfl (fun x25 => ?_))
          refine TL_pure (fun hd => ?_)
          refine TL_q (Qt_assign (.int .i64 _) rfl) rfl ?_
          refine TL_nil ?_
          refine X_then ?_
          refine T_ret ?_
          exact X_ret x25 [_] Tryz.results113 ⟨rfl, trivial⟩ rfl (fun w hw => St.addPure (Subs.st inferInstance w hw) (.inr (.inr (.inr ⟨h8, by simpa using h13, by simpa using h17, hd⟩))))
theorem MvR.ok {s s' : DS} {N M : Nat} {a : ActV} {ok : Bool} {e : Int} (h : MvR a ok s s' e) (hok : s.Ok N M) (ha : a.b = zB) : s'.Ok (N + 1) (M + 2000000) := by
  have h1 := hok.mono (Nat.le_add_right N 1) (Nat.le_add_right M 2000000)
  rcases h with ⟨-, -, rfl⟩ | ⟨-, -, -, rfl⟩ | ⟨-, -, -, -, rfl⟩ | ⟨-, -, -, hd⟩
  · exact h1
  · exact h1
  · exact h1
  · exact hd.ok hok (by rw [ha]; exact hok.zero) (by rw [ha]; exact Nat.zero_le _)
end
section
open Go.RowKit Go.Sx
set_option maxRecDepth 100000
set_option linter.unusedSimpArgs false
set_option linter.unusedVariables false
def leftA (a : ActV) (m : Nat) : ActV := { a with b := ⟨a.b.a, a.b.c, a.b.l.take m⟩ }
def cutN (cut : Int) (n : Nat) : Int := if (if (n : Int) < cut then (n : Int) else cut) > 0 then (if (n : Int) < cut then (n : Int) else cut) else 0
theorem cutN_range (cut : Int) (n : Nat) : 0 ≤ cutN cut n ∧ cutN cut n ≤ n := by
  unfold cutN
  split <;> split at * <;> omega
theorem leftA_all (a : ActV) : leftA a a.b.l.length = a := by
  unfold leftA; rw [List.take_length]
instance RdB.leftA {w0 : World} {H : List SA} {a : ActV} {m : Nat} [h : RdB w0 H (.slice a.b.a a.b.l.length a.b.c) a.b.l] : RdB w0 H (.slice (leftA a m).b.a (leftA a m).b.l.length (leftA a m).b.c) (leftA a m).b.l := (RdB.takeI (a := a.b.a) (c := a.b.c) (l := a.b.l) (m := m) : RdB w0 H (.slice a.b.a (a.b.l.take m).length a.b.c) (a.b.l.take m))
structure CrP (s : DS) (N M k kp : Nat) (torn : Int) (e1 : FM) (c1 : Nat) (bs : List BS) : Prop where
  good : GoodM e1 c1
  mem : ∀ e ∈ e1, e.v ∈ bs
  sub : ∀ x ∈ s.bs, x ∈ bs
  len : ∀ x ∈ bs, x.l.length ≤ M + 2000000 * k
  n : e1.length ≤ N + k
  keep : ∀ key : ByteArray, (∀ a ∈ s.pend.take k, a.name ≠ key ∧ a.to ≠ key) → getE e1 key = getE s.e1 key
  same : torn = -1 → kp = 0 → e1 = s.e1 ∧ c1 = s.c1
theorem CrP.start {s : DS} {N M kp : Nat} {torn : Int} (h : s.Ok N M) : CrP s N M 0 kp torn s.e1 s.c1 s.bs :=
  ⟨h.good1, h.mem1, fun _ h => h, fun x hx => by have := h.len x hx; omega, by have := h.n1; omega, fun _ _ => rfl, fun _ _ => ⟨rfl, rfl⟩⟩
theorem CrP.none {s : DS} {N M k kp : Nat} {torn : Int} {e1 : FM} {c1 : Nat} {bs : List BS} (h : CrP s N M k kp torn e1 c1 bs) (hk : k < s.pend.length) : CrP s N M (k + 1) kp torn e1 c1 bs :=
  ⟨h.good, h.mem, h.sub, fun x hx => by have := h.len x hx; omega, by have := h.n; omega, fun key hkey => h.keep key fun a ha => hkey a ((List.take_sublist_take_left (Nat.le_succ k)).subset ha), h.same⟩
theorem CrP.step {s : DS} {N M k kp : Nat} {torn : Int} {e1 : FM} {c1 : Nat} {bs : List BS} (h : CrP s N M k kp torn e1 c1 bs) (hok : s.Ok N M) (hk : k < s.pend.length) {x : BS} {m : Nat} (hx : x.l = newB e1 (leftA s.pend[k] m)) (hl : torn = -1 → kp = 0 → false = true) :
    CrP s N M (k + 1) kp torn (doE e1 (leftA s.pend[k] m) x c1) (doC e1 (leftA s.pend[k] m) c1) (x :: bs) := by
  have hz := h.sub _ hok.zero
  refine ⟨doE_good h.good, doE_vals h.mem hz, fun y hy => List.mem_cons_of_mem _ (h.sub y hy), fun y hy => ?_, by have h1 := h.n; have h2 := doE_len (es := e1) (a := leftA s.pend[k] m) (x := x) (c := c1); omega, fun key hkey => ?_, fun h1 h2 => by cases hl h1 h2⟩
  · rcases List.mem_cons.1 hy with rfl | hy
    · rw [hx]
      have h1 := h.len _ (oldE_mem h.mem hz (leftA s.pend[k] m).name)
      have h2 := hok.short _ (List.getElem_mem hk)
      have h3 : (leftA s.pend[k] m).b.l.length ≤ s.pend[k].b.l.length := by simp [leftA]; omega
      unfold newB
      split
      · rw [List.length_append]; omega
      · split
        · omega
        · simp
    · have := h.len y hy; omega
  · have h1 := hkey s.pend[k] (by rw [take_get _ _ hk]; exact List.mem_append_right _ (List.mem_singleton.2 rfl))
    rw [getE_doE (by exact h1.1) (by exact h1.2)]
    exact h.keep key fun a ha => hkey a ((List.take_sublist_take_left (Nat.le_succ k)).subset ha)
def CrashR (s : DS) (N M kp : Nat) (torn : Int) (s' : DS) : Prop :=
  ∃ (e1 : FM) (c1 q : Nat) (fp : List Nat) (bs : List BS), CrP s N M s.pend.length kp torn e1 c1 bs ∧ s' = { s with e1 := e1, c1 := c1, e2 := e1, c2 := c1, r2 := q, pend := [], pa := none, pc := 0, fuse := -1, down := false, fp := fp, bs := bs }
theorem CrashR.ok {s s' : DS} {N M kp : Nat} {torn : Int} (h : CrashR s N M kp torn s') (hok : s.Ok N M) : s'.Ok (N + s.pend.length) (M + 2000000 * s.pend.length) := by
  obtain ⟨e1, c1, q, fp, bs, hc, rfl⟩ := h
  exact ⟨hc.good, hc.good, hc.mem, hc.mem, (fun _ h => by cases h), hc.sub _ hok.zero, hc.len, (fun _ h => by cases h), hc.n, hc.n, Nat.zero_le _, hok.room0, hok.room1, by show (-1 : Int) ≤ 9223372036854775807; decide⟩
theorem crash_end {w0 w : World} {H : List SA} {p b3 b6 : Nat} {s : DS} {a : ActV} {x : BS} {e1 : FM} {c1 : Nat} {fp : List Nat} {bs : List BS} {pl : PlanV}
    (h : St w0 (blk s.r1 (mapO encS BS.val e1 c1) :: row (.slice x.a x.l.length x.c) 5 1 (bytesV x.l) :: dblk p s :: blk s.r2 (mapO encS BS.val s.e2 s.c2) :: prow s :: dat fp ⟨bs, [], []⟩ :: blk b3 (.cells pl.cells 25 (0, 0)) :: H) w) :
    St w0 (dblk p s :: blk s.r1 (mapO encS BS.val e1 c1) :: blk s.r2 (mapO encS BS.val s.e2 s.c2) :: prow s :: dat (rowFp (.slice x.a x.l.length x.c) ++ fp) ⟨x :: bs, [], []⟩ :: blk b3 (.cells pl.cells 25 (0, 0)) :: H) w := by
  have h1 : St w0 (row (.slice x.a x.l.length x.c) 5 1 (bytesV x.l) :: dat fp ⟨bs, [], []⟩ :: dblk p s :: blk s.r1 (mapO encS BS.val e1 c1) :: blk s.r2 (mapO encS BS.val s.e2 s.c2) :: prow s :: blk b3 (.cells pl.cells 25 (0, 0)) :: H) w := Subs.st inferInstance w h
  have h2 := St.datCons h1
  exact Subs.st (H := dat (rowFp (.slice x.a x.l.length x.c) ++ fp) ⟨x :: bs, [], []⟩ :: dblk p s :: blk s.r1 (mapO encS BS.val e1 c1) :: blk s.r2 (mapO encS BS.val s.e2 s.c2) :: prow s :: blk b3 (.cells pl.cells 25 (0, 0)) :: H) inferInstance w h2
theorem crash_fin {w0 w : World} {H : List SA} {p x36 : Nat} {s : DS} {e1 : FM} {c1 : Nat} {fp : List Nat} {bs : List BS}
    (h : St w0 (blk p (.cells (DiskV.mk s.room (some s.r1) (some x36) ⟨none, 0, 0⟩ (-1) false).cells 73 (0, 0)) :: blk s.r1 (mapO encS BS.val e1 c1) :: blk x36 (mapO encS BS.val e1 c1) :: dat fp ⟨bs, [], []⟩ :: H) w) :
    St w0 (DS.H p { s with e1 := e1, c1 := c1, e2 := e1, c2 := c1, r2 := x36, pend := [], pa := none, pc := 0, fuse := -1, down := false, fp := fp, bs := bs } H) w := by
  have h2 := h.addNil 102 4
  exact Subs.st (H := row (.slice none 0 0) 102 4 [] :: blk p (.cells (DiskV.mk s.room (some s.r1) (some x36) ⟨none, 0, 0⟩ (-1) false).cells 73 (0, 0)) :: blk s.r1 (mapO encS BS.val e1 c1) :: blk x36 (mapO encS BS.val e1 c1) :: dat fp ⟨bs, [], []⟩ :: H) (H' := blk p (.cells (DiskV.mk s.room (some s.r1) (some x36) ⟨none, 0, 0⟩ (-1) false).cells 73 (0, 0)) :: blk s.r1 (mapO encS BS.val e1 c1) :: blk x36 (mapO encS BS.val e1 c1) :: row (.slice none 0 0) 102 4 [] :: dat fp ⟨bs, [], []⟩ :: H) inferInstance w h2
abbrev Cont := ByteArray → Option (List UInt8)
def cont (es : FM) : Cont := fun k => (getE es k).map BS.l
def doF (f : Cont) (a : ActV) : Cont := fun k =>
  if a.kind = 1 then (if k = a.name then some ((f a.name).getD [] ++ a.b.l) else f k)
  else if a.kind = 2 then (if k = a.name then some a.b.l else f k)
  else if a.kind = 3 then (if (f a.name).isSome = true ∧ a.name ≠ a.to then (if k = a.to then f a.name else if k = a.name then none else f k) else f k)
  else if a.kind = 4 then (if k = a.name then none else f k) else f k
theorem cont_old (es : FM) (k : ByteArray) : (oldE es k).l = (cont es k).getD [] := by
  unfold oldE cont
  cases getE es k <;> rfl
theorem cont_has (es : FM) (k : ByteArray) : hasE es k = (cont es k).isSome := by
  unfold hasE cont
  cases getE es k <;> rfl
theorem cont_put (es : FM) (k : ByteArray) (v : BS) (c : Nat) (key : ByteArray) : cont (putE es k v c) key = if key = k then some v.l else cont es key := by
  unfold cont
  by_cases h : key = k
  · subst h; rw [getE_put_eq, if_pos rfl]; rfl
  · rw [getE_put_ne _ _ _ _ _ h, if_neg h]
theorem getE_del_eq : ∀ (es : FM) (k : ByteArray), (es.map (·.k)).Nodup → getE (delE es k) k = none
  | [], _, _ => rfl
  | e :: es, k, h => by
    rw [List.map_cons, List.nodup_cons] at h
    unfold delE
    split
    · rename_i hk
      cases hg : getE es k with
      | none => rfl
      | some v => obtain ⟨d, hd, hdk, -⟩ := getE_memF hg; exact absurd (List.mem_map.2 ⟨d, hd, hdk.trans hk⟩) h.1
    · rename_i hk; rw [getE_cons, if_neg hk]; exact getE_del_eq es k h.2
theorem cont_del {es : FM} {c : Nat} (hg : GoodM es c) (k key : ByteArray) : cont (delE es k) key = if key = k then none else cont es key := by
  unfold cont
  by_cases h : key = k
  · subst h; rw [getE_del_eq _ _ hg.keys, if_pos rfl]; rfl
  · rw [getE_del_ne _ _ _ h, if_neg h]
theorem cont_doE {es : FM} {c : Nat} (hg : GoodM es c) {a : ActV} {x : BS} (hx : x.l = newB es a) (c2 : Nat) : cont (doE es a x c2) = doF (cont es) a := by
  funext k
  unfold doE doF
  by_cases h1 : a.kind = 1
  · rw [if_pos (.inl h1), if_pos h1, cont_put]
    by_cases hk : k = a.name
    · rw [if_pos hk, if_pos hk, hx, newB, if_pos h1, cont_old]
    · rw [if_neg hk, if_neg hk]
  · rw [if_neg h1]
    by_cases h2 : a.kind = 2
    · rw [if_pos (.inr h2), if_pos h2, cont_put]
      by_cases hk : k = a.name
      · rw [if_pos hk, if_pos hk, hx, newB, if_neg h1, if_pos h2]
      · rw [if_neg hk, if_neg hk]
    · rw [if_neg (by rintro (h | h); exact h1 h; exact h2 h), if_neg h2]
      by_cases h3 : a.kind = 3
      · rw [if_pos h3, if_pos h3, cont_has]
        by_cases hh : (cont es a.name).isSome = true ∧ a.name ≠ a.to
        · rw [if_pos hh, if_pos hh, cont_put, cont_del hg]
          obtain ⟨l, hl⟩ := Option.isSome_iff_exists.1 hh.1
          by_cases hk : k = a.to
          · rw [if_pos hk, if_pos hk, cont_old, hl]; rfl
          · rw [if_neg hk, if_neg hk]
        · rw [if_neg hh, if_neg hh]
      · rw [if_neg h3, if_neg h3]
        by_cases h4 : a.kind = 4
        · rw [if_pos h4, if_pos h4, cont_del hg]
        · rw [if_neg h4, if_neg h4]
/-- What a crash leaves of a thing. -/
def lftA (kp : Nat) (torn cut : Int) (a : ActV) (i : Nat) : Option ActV :=
  if (i : Int) = torn ∧ (a.kind = 1 ∨ a.kind = 2) then some (leftA a (cutN cut a.b.l.length).toNat) else if kp / 2 ^ (i % 64) % 2 ≠ 0 then some a else none
def crF (kp : Nat) (torn cut : Int) (f : Cont) (L : List ActV) : Cont := L.zipIdx.foldl (fun f x => match lftA kp torn cut x.1 x.2 with | some b => doF f b | none => f) f
theorem crF_snoc (kp : Nat) (torn cut : Int) (f : Cont) (L : List ActV) (a : ActV) : crF kp torn cut f (L ++ [a]) = match lftA kp torn cut a L.length with | some b => doF (crF kp torn cut f L) b | none => crF kp torn cut f L := by
  unfold crF
  rw [List.zipIdx_append, List.foldl_append]
  simp
theorem lft_zero {torn cut : Int} {kp : Nat} (h1 : torn = -1) (h2 : kp = 0) (a : ActV) (i : Nat) : lftA kp torn cut a i = none := by
  subst h1 h2
  unfold lftA
  rw [if_neg (by omega), if_neg (by simp)]
structure CrX (s : DS) (N M k kp : Nat) (torn cut : Int) (e1 : FM) (c1 : Nat) (bs : List BS) : Prop where
  p : CrP s N M k kp torn e1 c1 bs
  con : cont e1 = crF kp torn cut (cont s.e1) (s.pend.take k)
theorem CrX.start {s : DS} {N M kp : Nat} {torn cut : Int} (h : s.Ok N M) : CrX s N M 0 kp torn cut s.e1 s.c1 s.bs := ⟨CrP.start h, rfl⟩
theorem CrX.none {s : DS} {N M k kp : Nat} {torn cut : Int} {e1 : FM} {c1 : Nat} {bs : List BS} (h : CrX s N M k kp torn cut e1 c1 bs) (hk : k < s.pend.length) (hl : lftA kp torn cut s.pend[k] k = none) : CrX s N M (k + 1) kp torn cut e1 c1 bs :=
  ⟨h.p.none hk, by rw [List.take_succ_eq_append_getElem hk, crF_snoc, List.length_take, Nat.min_eq_left (Nat.le_of_lt hk), hl]; exact h.con⟩
theorem CrX.step {s : DS} {N M k kp : Nat} {torn cut : Int} {e1 : FM} {c1 : Nat} {bs : List BS} (h : CrX s N M k kp torn cut e1 c1 bs) (hok : s.Ok N M) (hk : k < s.pend.length) {x : BS} {m : Nat} (hx : x.l = newB e1 (leftA s.pend[k] m)) (hl : lftA kp torn cut s.pend[k] k = some (leftA s.pend[k] m)) :
    CrX s N M (k + 1) kp torn cut (doE e1 (leftA s.pend[k] m) x c1) (doC e1 (leftA s.pend[k] m) c1) (x :: bs) :=
  ⟨h.p.step hok hk hx (fun h1 h2 => by rw [lft_zero h1 h2] at hl; cases hl), by
    rw [List.take_succ_eq_append_getElem hk, crF_snoc, List.length_take, Nat.min_eq_left (Nat.le_of_lt hk), hl, cont_doE h.p.good hx, h.con]⟩
def CrashX (s : DS) (N M kp : Nat) (torn cut : Int) (s' : DS) : Prop :=
  ∃ (e1 : FM) (c1 q : Nat) (fp : List Nat) (bs : List BS), CrX s N M s.pend.length kp torn cut e1 c1 bs ∧ s' = { s with e1 := e1, c1 := c1, e2 := e1, c2 := c1, r2 := q, pend := [], pa := none, pc := 0, fuse := -1, down := false, fp := fp, bs := bs }
theorem CrashX.toR {s s' : DS} {N M kp : Nat} {torn cut : Int} (h : CrashX s N M kp torn cut s') : CrashR s N M kp torn s' := by
  obtain ⟨e1, c1, q, fp, bs, hc, rfl⟩ := h
  exact ⟨e1, c1, q, fp, bs, hc.p, rfl⟩
theorem CrashX.sub {s s' : DS} {N M kp : Nat} {torn cut : Int} (h : CrashX s N M kp torn cut s') : ∀ x ∈ s.bs, x ∈ s'.bs := by
  obtain ⟨e1, c1, q, fp, bs, hc, rfl⟩ := h
  exact hc.p.sub
theorem CrashX.con {s s' : DS} {N M kp : Nat} {torn cut : Int} (h : CrashX s N M kp torn cut s') : cont s'.e2 = crF kp torn cut (cont s.e1) s.pend := by
  obtain ⟨e1, c1, q, fp, bs, hc, rfl⟩ := h
  have := hc.con
  rwa [List.take_length] at this

set_option maxHeartbeats 1000000 in
theorem left2_c {w0 : World} {H : List SA} {a : ActV} {i : Nat} {kp : Nat} {torn cut : Int} (hi : i ≤ 1000000) (hk : kp < 18446744073709551616) [rb : RdB w0 H (.slice a.b.a a.b.l.length a.b.c) a.b.l] (hb : a.b.l.length ≤ 4294967296) :
    CT Tryz.prog w0 (H) 37 [.agg a.cells, .int .i64 (i : Int), .agg (PlanV.mk (kp : Int) torn cut).cells] (α := Nat × Bool) (fun y => .tuple #[.agg (leftA a y.1).cells, .bool y.2]) (fun y => pu (lftA kp torn cut a i = if y.2 = true then some (leftA a y.1) else none) :: H) := by
  refine CT_intro Tryz.func37 rfl Tryz.ntmps37 rfl ?_
  refine T_seq ?_
  refine T_region ?_
  refine TL_e rfl (Ef_boxN rfl (fun b3 => ?_))
  refine TL_e rfl (Ef_boxN rfl (fun b5 => ?_))
  refine TL_e rfl (Ef_allocN (fun b6 => ?_))
  refine TL_q (Qt_assign (.bool _) rfl) rfl ?_
  refine TL_nil ?_
  refine X_then ?_
  refine T_seq ?_
  refine T_seq ?_
  refine T_region ?_
  refine TL_q (Qt_move (.int .i64 _) rfl) rfl ?_
  refine TL_q (Qt_fieldAddr 1 rfl rfl) rfl ?_
  refine TL_q (Qt_load1 rfl) rfl ?_
  refine TL_q (Qt_eql rfl rfl) rfl ?_
  refine TL_q (Qt_move (.bool _) rfl) rfl ?_
  refine TL_split 12 rfl (fun h12 => ?_) (fun h12 => ?_)
  ·
    have p12 := h12
    try simp only [decide_eq_true_eq, decide_eq_false_iff_not, Bool.not_eq_true', Bool.not_eq_false', Option.isNone_iff_eq_none, ne_eq, Decidable.not_not, Int.not_lt, Int.not_le] at p12
    refine TL_take rfl rfl h12 ?_
    refine TL_q (Qt_fieldAddr 0 rfl rfl) rfl ?_
    refine TL_take rfl rfl h12 ?_
    refine TL_q (Qt_load1 rfl) rfl ?_
    refine TL_take rfl rfl h12 ?_
    refine TL_q (Qt_eql rfl rfl) rfl ?_
    refine TL_take rfl rfl h12 ?_
    refine TL_q (Qt_move (.bool _) rfl) rfl ?_
    refine TL_split 16 rfl (fun h16 => ?_) (fun h16 => ?_)
    ·
      have p16 := h16
      try simp only [decide_eq_true_eq, decide_eq_false_iff_not, Bool.not_eq_true', Bool.not_eq_false', Option.isNone_iff_eq_none, ne_eq, Decidable.not_not, Int.not_lt, Int.not_le] at p16
      refine TL_pass rfl rfl h16 rfl ?_
      refine TL_pass rfl rfl h16 rfl ?_
      refine TL_pass rfl rfl h16 rfl ?_
      refine TL_take rfl rfl h12 ?_
      refine TL_q (Qt_pick_t (.bool _) rfl h16 rfl) rfl ?_
      refine TL_q (Qt_pick_t (.bool _) rfl h12 rfl) rfl ?_
      refine TL_nil ?_
      refine X_then ?_
      refine T_cond_true rfl rfl ?_
      refine T_seq ?_
      refine T_region ?_
      refine TL_q (Qt_fieldAddr 3 rfl rfl) rfl ?_
      refine TL_q (Qt_load1 rfl) rfl ?_
      refine TL_q (Qt_fieldAddr 2 rfl rfl) rfl ?_
      refine TL_q (Qt_load1 rfl) rfl ?_
      refine TL_q (Qt_fieldAddr 3 rfl rfl) rfl ?_
      refine TL_q (Qt_load1 rfl) rfl ?_
      refine TL_q (Qt_len_slice rfl Tryz.underlying41) rfl ?_
      refine TL_q (Qt_min rfl rfl) rfl ?_
      refine TL_q (Qt_max rfl rfl) rfl ?_
      rw [show (if (if (a.b.l.length : Int) < cut then (a.b.l.length : Int) else cut) > 0 then (if (a.b.l.length : Int) < cut then (a.b.l.length : Int) else cut) else 0) = cutN cut a.b.l.length from rfl]
      have hc := cutN_range cut a.b.l.length
      obtain ⟨m, hm⟩ := Int.eq_ofNat_of_zero_le hc.1
      rw [hm] at hc ⊢
      have hcap := fun w hw => rb.cap (w := w) hw
      refine TL_q (Qt_sliceB_h m rfl rfl (by omega)) rfl ?_
      refine TL_q (Qt_fieldAddr 3 rfl rfl) rfl ?_
      refine TL_n (Ef_store1 (.slice _ _ _) rfl rfl (?_))
      refine TL_nil ?_
      refine X_then ?_
      refine T_seq ?_
      refine T_region ?_
      refine TL_q (Qt_loadN rfl rfl) rfl ?_
      refine TL_n (Ef_storeN rfl rfl (?_))
      refine TL_q (Qt_assign (.bool _) rfl) rfl ?_
      refine TL_nil ?_
      refine X_then ?_
      refine T_ret ?_
      refine X_then_ret ?_
      exact X_ret (m, true) [_, _] Tryz.results37 ⟨⟨_, rfl, res_cellN rfl⟩, rfl, trivial⟩ rfl (fun w hw => (Subs.st inferInstance w hw : St w0 H w).addPure (by rw [if_pos rfl, lftA, if_pos (by first | (simp_all; done) | (simp_all; omega)), hm]; rfl))
    ·
      have p16 := h16
      try simp only [decide_eq_true_eq, decide_eq_false_iff_not, Bool.not_eq_true', Bool.not_eq_false', Option.isNone_iff_eq_none, ne_eq, Decidable.not_not, Int.not_lt, Int.not_le] at p16
      refine TL_take rfl rfl h16 ?_
      refine TL_q (Qt_fieldAddr 0 rfl rfl) rfl ?_
      refine TL_take rfl rfl h16 ?_
      refine TL_q (Qt_load1 rfl) rfl ?_
      refine TL_take rfl rfl h16 ?_
      refine TL_q (Qt_eql rfl rfl) rfl ?_
      refine TL_take rfl rfl h12 ?_
      refine TL_q (Qt_pick_f (.bool _) rfl h16 rfl) rfl ?_
      refine TL_q (Qt_pick_t (.bool _) rfl h12 rfl) rfl ?_
      refine TL_nil ?_
      refine X_then ?_
      refine T_cond rfl (fun h21 => ?_) (fun h21 => ?_)
      ·
        have p21 := h21
        try simp only [decide_eq_true_eq, decide_eq_false_iff_not, Bool.not_eq_true', Bool.not_eq_false', Option.isNone_iff_eq_none, ne_eq, Decidable.not_not, Int.not_lt, Int.not_le] at p21
        refine T_seq ?_
        refine T_region ?_
        refine TL_q (Qt_fieldAddr 3 rfl rfl) rfl ?_
        refine TL_q (Qt_load1 rfl) rfl ?_
        refine TL_q (Qt_fieldAddr 2 rfl rfl) rfl ?_
        refine TL_q (Qt_load1 rfl) rfl ?_
        refine TL_q (Qt_fieldAddr 3 rfl rfl) rfl ?_
        refine TL_q (Qt_load1 rfl) rfl ?_
        refine TL_q (Qt_len_slice rfl Tryz.underlying41) rfl ?_
        refine TL_q (Qt_min rfl rfl) rfl ?_
        refine TL_q (Qt_max rfl rfl) rfl ?_
        rw [show (if (if (a.b.l.length : Int) < cut then (a.b.l.length : Int) else cut) > 0 then (if (a.b.l.length : Int) < cut then (a.b.l.length : Int) else cut) else 0) = cutN cut a.b.l.length from rfl]
        have hc := cutN_range cut a.b.l.length
        obtain ⟨m, hm⟩ := Int.eq_ofNat_of_zero_le hc.1
        rw [hm] at hc ⊢
        have hcap := fun w hw => rb.cap (w := w) hw
        refine TL_q (Qt_sliceB_h m rfl rfl (by omega)) rfl ?_
        refine TL_q (Qt_fieldAddr 3 rfl rfl) rfl ?_
        refine TL_n (Ef_store1 (.slice _ _ _) rfl rfl (?_))
        refine TL_nil ?_
        refine X_then ?_
        refine T_seq ?_
        refine T_region ?_
        refine TL_q (Qt_loadN rfl rfl) rfl ?_
        refine TL_n (Ef_storeN rfl rfl (?_))
        refine TL_q (Qt_assign (.bool _) rfl) rfl ?_
        refine TL_nil ?_
        refine X_then ?_
        refine T_ret ?_
        refine X_then_ret ?_
        exact X_ret (m, true) [_, _] Tryz.results37 ⟨⟨_, rfl, res_cellN rfl⟩, rfl, trivial⟩ rfl (fun w hw => (Subs.st inferInstance w hw : St w0 H w).addPure (by rw [if_pos rfl, lftA, if_pos (by first | (simp_all; done) | (simp_all; omega)), hm]; rfl))
      ·
        have p21 := h21
        try simp only [decide_eq_true_eq, decide_eq_false_iff_not, Bool.not_eq_true', Bool.not_eq_false', Option.isNone_iff_eq_none, ne_eq, Decidable.not_not, Int.not_lt, Int.not_le] at p21
        refine T_skip ?_
        refine X_then ?_
        refine T_seq ?_
        refine T_draw (blk b3 (.cells a.cells 102 (0, 0)) :: blk b5 (.cells (PlanV.mk (kp : Int) torn cut).cells 25 (0, 0)) :: H) [(0, true), (1, true), (2, true), (3, true), (4, true), (5, true), (6, true), (7, true), (8, false), (9, true)] (by kernel_rfl) (by kernel_rfl) rfl (by kernel_rfl) (Subs.st inferInstance) (fun hns0 => ?_)
        refine DL_q hns0 rfl (Qt_loadN rfl rfl) rfl ?_
        refine DL_q hns0 rfl (Qt_fieldAddr 0 rfl rfl) rfl ?_
        refine DL_q hns0 rfl (Qt_load1 rfl) rfl ?_
        refine DL_q hns0 rfl (Qt_move (.int .i64 _) rfl) rfl ?_
        refine DL_q hns0 rfl (Qt_val (Qt_rem rfl rfl (by omega)) (congrArg (Value.int .i64) (rem_nat i 64))) rfl ?_
        refine DL_q hns0 rfl (Qt_shrN (i % 64) rfl rfl (by show i % 64 ≤ 64; omega)) rfl ?_
        refine DL_q hns0 rfl (Qt_andN (b := 1) rfl rfl rfl (by have := Nat.div_le_self kp (2 ^ (i % 64)); show _ < 2 ^ 64; omega) (by decide)) rfl ?_
        rw [Nat.and_one_is_mod]
        refine DL_q hns0 rfl (Qt_neq rfl rfl) rfl ?_
        refine DL_n rfl (Ef_storeN rfl rfl (⟨(Subs.st inferInstance), ?_⟩))
        refine DL_q hns0 rfl (Qt_assign (.bool _) rfl) rfl ?_
        refine DL_nil ?_
        refine X_then ?_
        refine T_ret ?_
        exact X_ret (a.b.l.length, decide (((kp / 2 ^ (i % 64) % 2 : Nat) : Int) ≠ 0)) [_, _] Tryz.results37 ⟨⟨_, rfl, res_cellN rfl⟩, rfl, trivial⟩ (by rw [leftA_all]; rfl) (fun w hw => (Subs.st inferInstance w hw : St w0 H w).addPure (by
            have hno : ¬ ((i : Int) = torn ∧ (a.kind = 1 ∨ a.kind = 2)) := by first | (simp_all; done) | (rintro ⟨q1, q2⟩; simp_all)
            rw [lftA, if_neg hno, leftA_all]
            generalize kp / 2 ^ (i % 64) % 2 = z
            by_cases hb0 : z = 0
            · rw [if_neg (by omega), if_neg (by simp; omega)]
            · rw [if_pos (by omega), if_pos (by simp; omega)]))
  ·
    have p12 := h12
    try simp only [decide_eq_true_eq, decide_eq_false_iff_not, Bool.not_eq_true', Bool.not_eq_false', Option.isNone_iff_eq_none, ne_eq, Decidable.not_not, Int.not_lt, Int.not_le] at p12
    refine TL_pass rfl rfl h12 rfl ?_
    refine TL_pass rfl rfl h12 rfl ?_
    refine TL_pass rfl rfl h12 rfl ?_
    refine TL_pass rfl rfl h12 rfl ?_
    refine TL_passU rfl rfl rfl ?_
    refine TL_passU rfl rfl rfl ?_
    refine TL_passU rfl rfl rfl ?_
    refine TL_pass rfl rfl h12 rfl ?_
    refine TL_q (Qt_pick_f (.bool _) rfl h12 rfl) rfl ?_
    refine TL_nil ?_
    refine X_then ?_
    refine T_cond_false rfl rfl ?_
    refine T_skip ?_
    refine X_then ?_
    refine T_seq ?_
    refine T_draw (blk b3 (.cells a.cells 102 (0, 0)) :: blk b5 (.cells (PlanV.mk (kp : Int) torn cut).cells 25 (0, 0)) :: H) [(0, true), (1, true), (2, true), (3, true), (4, true), (5, true), (6, true), (7, true), (8, false), (9, true)] (by kernel_rfl) (by kernel_rfl) rfl (by kernel_rfl) (Subs.st inferInstance) (fun hns1 => ?_)
    refine DL_q hns1 rfl (Qt_loadN rfl rfl) rfl ?_
    refine DL_q hns1 rfl (Qt_fieldAddr 0 rfl rfl) rfl ?_
    refine DL_q hns1 rfl (Qt_load1 rfl) rfl ?_
    refine DL_q hns1 rfl (Qt_move (.int .i64 _) rfl) rfl ?_
    refine DL_q hns1 rfl (Qt_val (Qt_rem rfl rfl (by omega)) (congrArg (Value.int .i64) (rem_nat i 64))) rfl ?_
    refine DL_q hns1 rfl (Qt_shrN (i % 64) rfl rfl (by show i % 64 ≤ 64; omega)) rfl ?_
    refine DL_q hns1 rfl (Qt_andN (b := 1) rfl rfl rfl (by have := Nat.div_le_self kp (2 ^ (i % 64)); show _ < 2 ^ 64; omega) (by decide)) rfl ?_
    rw [Nat.and_one_is_mod]
    refine DL_q hns1 rfl (Qt_neq rfl rfl) rfl ?_
    refine DL_n rfl (Ef_storeN rfl rfl (⟨(Subs.st inferInstance), ?_⟩))
    refine DL_q hns1 rfl (Qt_assign (.bool _) rfl) rfl ?_
    refine DL_nil ?_
    refine X_then ?_
    refine T_ret ?_
    exact X_ret (a.b.l.length, decide (((kp / 2 ^ (i % 64) % 2 : Nat) : Int) ≠ 0)) [_, _] Tryz.results37 ⟨⟨_, rfl, res_cellN rfl⟩, rfl, trivial⟩ (by rw [leftA_all]; rfl) (fun w hw => (Subs.st inferInstance w hw : St w0 H w).addPure (by
        have hno : ¬ ((i : Int) = torn ∧ (a.kind = 1 ∨ a.kind = 2)) := by first | (simp_all; done) | (rintro ⟨q1, q2⟩; simp_all)
        rw [lftA, if_neg hno, leftA_all]
        generalize kp / 2 ^ (i % 64) % 2 = z
        by_cases hb0 : z = 0
        · rw [if_neg (by omega), if_neg (by simp; omega)]
        · rw [if_pos (by omega), if_pos (by simp; omega)]))
set_option maxHeartbeats 1000000 in
theorem crash2_c {w0 : World} {H : List SA} {p : Nat} {s : DS} {N M : Nat} (hok : s.Ok N M) (hN : N ≤ 1000000) (hM : M + 2000000 * N ≤ 4000000000) {kp : Nat} {torn cut : Int} (hkp : kp < 18446744073709551616) :
    CT Tryz.prog w0 (DS.H p s H) 12 [.pointer (some ⟨p, 0, none⟩), .agg (PlanV.mk (kp : Int) torn cut).cells] (α := DS) (fun _ => .tuple #[]) (fun y => pu (CrashX s N M kp torn cut y) :: DS.H p y H) := by
  refine CT_intro Tryz.func12 rfl Tryz.ntmps12 rfl ?_
  refine T_seq ?_
  refine T_region ?_
  refine TL_e rfl (Ef_boxN rfl (fun b3 => ?_))
  refine TL_nil ?_
  refine X_then ?_
  refine T_seq ?_
  refine T_seq ?_
  refine T_region ?_
  refine TL_q (Qt_move (.pointer _) rfl) rfl ?_
  refine TL_q (Qt_ptr_nil rfl rfl Tryz.underlying28) rfl ?_
  refine TL_nil ?_
  refine X_then ?_
  refine T_cond rfl (fun h9 => ?_) (fun h9 => ?_)
  ·
    have p9 := h9
    try simp only [decide_eq_true_eq, decide_eq_false_iff_not, Bool.not_eq_true', Bool.not_eq_false', Option.isNone_iff_eq_none, ne_eq, Decidable.not_not, Int.not_lt, Int.not_le] at p9
    cases h9
  ·
    have p9 := h9
    try simp only [decide_eq_true_eq, decide_eq_false_iff_not, Bool.not_eq_true', Bool.not_eq_false', Option.isNone_iff_eq_none, ne_eq, Decidable.not_not, Int.not_lt, Int.not_le] at p9
    refine T_skip ?_
    refine X_then ?_
    refine T_seq ?_
    refine T_seq ?_
    refine T_region ?_
    refine TL_q (Qt_move (.pointer _) rfl) rfl ?_
    refine TL_q (Qt_nilCheck rfl) rfl ?_
    refine TL_q (Qt_fieldAddr 3 rfl rfl) rfl ?_
    refine TL_q (Qt_load1 rfl) rfl ?_
    refine TL_q (Qt_len_slice rfl Tryz.underlying71) rfl ?_
    refine TL_q (Qt_move (.int .i64 _) rfl) rfl ?_
    refine TL_nil ?_
    refine X_then ?_
    refine T_block ?_
    have hnp := hok.np
    refine T_loop [4, 5, 6, 7, 15, 16, 17, 18, 19, 20, 21, 22, 23, 24, 25, 26, 27, 28, 29, 30, 31, 32, 33, 34] [15] (fun us H' => ∃ (k : Nat) (e1 : FM) (c1 : Nat) (fp : List Nat) (bs : List BS), us = [.int .i64 (k : Int)] ∧ dblk p s :: blk s.r1 (mapO encS BS.val e1 c1) :: blk s.r2 (mapO encS BS.val s.e2 s.c2) :: prow s :: dat fp ⟨bs, [], []⟩ :: blk b3 (.cells (PlanV.mk (kp : Int) torn cut).cells 25 (0, 0)) :: H = H' ∧ k ≤ s.pend.length ∧ (CrX s N M k kp torn cut e1 c1 bs)) (fun us => match us with | .int _ i :: _ => s.pend.length - i.toNat | _ => 0) ⟨0, s.e1, s.c1, s.fp, s.bs, rfl, rfl, by omega, CrX.start hok⟩ (Subs.st inferInstance) ?_
    rintro τ0 _ _  ⟨k, e1, c1, fp, bs, rfl, rfl, hk0, hc⟩ _
    refine T_seq ?_
    refine T_region ?_
    refine TL_q (Qt_lss rfl rfl) rfl ?_
    refine TL_nil ?_
    refine X_then ?_
    refine T_seq ?_
    refine T_cond rfl (fun h16 => ?_) (fun h16 => ?_)
    ·
      have p16 := h16
      try simp only [decide_eq_true_eq, decide_eq_false_iff_not, Bool.not_eq_true', Bool.not_eq_false', Option.isNone_iff_eq_none, ne_eq, Decidable.not_not, Int.not_lt, Int.not_le] at p16
      have hk : k < s.pend.length := by omega
      refine T_skip ?_
      refine X_then ?_
      refine T_seq ?_
      refine T_block ?_
      refine T_seq ?_
      refine T_region ?_
      refine TL_q (Qt_move (.int .i64 _) rfl) rfl ?_
      refine TL_q (Qt_indexN rfl rfl (by omega) (by omega)) rfl ?_
      refine TL_q (Qt_val (Qt_loadRN 4 s.pend[k].list rfl (flat_slice _ 4 ActV.list_len s.pend k hk) (ActV.list_len _) (by decide)) (show Value.agg s.pend[k].list.toArray = Value.agg s.pend[k].cells from rfl)) rfl ?_
      refine TL_e rfl (Ef_allocN (fun b5 => ?_))
      refine TL_q (Qt_assign (.int .i64 _) rfl) rfl ?_
      refine TL_n (Ef_storeN rfl rfl (?_))
      refine TL_nil ?_
      refine X_then ?_
      refine T_seq ?_
      refine T_region ?_
      refine TL_q (Qt_loadN rfl rfl) rfl ?_
      refine TL_q (Qt_move (.int .i64 _) rfl) rfl ?_
      refine TL_q (Qt_loadN rfl rfl) rfl ?_
      refine TL_e rfl (Ef_call (left2_c (a := s.pend[k]) (i := k) (kp := kp) (torn := torn) (cut := cut) (by have := hok.np; omega) hkp (rb := RdE.get (ls := bs) inferInstance (hc.p.sub _ (hok.memp _ (List.getElem_mem hk)))) (by have := hok.short _ (List.getElem_mem hk); omega)) rfl (fun x24 => ?_))
      refine TL_pure (fun hx24 => ?_)
      refine TL_q (Qt_move (.tuple _) rfl) rfl ?_
      refine TL_q (Qt_extract rfl) rfl ?_
      refine TL_q (Qt_extract rfl) rfl ?_
      refine TL_e rfl (Ef_allocN (fun b6 => ?_))
      refine TL_n (Ef_storeN rfl rfl (?_))
      refine TL_q (Qt_assign (.bool _) rfl) rfl ?_
      refine TL_nil ?_
      refine X_then ?_
      refine T_seq ?_
      refine T_region ?_
      refine TL_q (Qt_move (.bool _) rfl) rfl ?_
      refine TL_nil ?_
      refine X_then ?_
      refine T_cond rfl (fun h27 => ?_) (fun h27 => ?_)
      ·
        have p27 := h27
        try simp only [decide_eq_true_eq, decide_eq_false_iff_not, Bool.not_eq_true', Bool.not_eq_false', Option.isNone_iff_eq_none, ne_eq, Decidable.not_not, Int.not_lt, Int.not_le] at p27
        refine T_draw (blk b6 (.cells (leftA s.pend[k] x24.1).cells 102 (0, 0)) :: dblk p s :: H) [(0, true), (1, true), (2, true), (3, true), (4, true), (5, false)] (by kernel_rfl) (by kernel_rfl) rfl (by kernel_rfl) (Subs.st inferInstance) (fun hns0 => ?_)
        refine DL_q hns0 rfl (Qt_move (.pointer _) rfl) rfl ?_
        refine DL_q hns0 rfl (Qt_nilCheck rfl) rfl ?_
        refine DL_q hns0 rfl (Qt_fieldAddr 1 rfl rfl) rfl ?_
        refine DL_q hns0 rfl (Qt_load1 rfl) rfl ?_
        refine DL_q hns0 rfl (Qt_loadN rfl rfl) rfl ?_
        refine DL_frontB s.r1 ?_
        refine DL_e rfl rfl (Ef_call (fdo_c (r := s.r1) (es := e1) (c := c1) (a := (leftA s.pend[k] x24.1)) (ro := RdE.get (ls := bs) inferInstance (oldE_mem hc.p.mem (hc.p.sub _ hok.zero) _)) (rb := RdB.leftA (h := RdE.get (ls := bs) inferInstance (hc.p.sub _ (hok.memp _ (List.getElem_mem hk))))) (by have h1 := hc.p.len _ (oldE_mem hc.p.mem (hc.p.sub _ hok.zero) (leftA s.pend[k] x24.1).name); have h2 := hok.short _ (List.getElem_mem hk); have h3 : (leftA s.pend[k] x24.1).b.l.length ≤ s.pend[k].b.l.length := (by simp [leftA]; omega); have h4 := hok.np; omega)) rfl (fun x33 => ⟨(Subs.st inferInstance), ?_⟩))
        refine DL_pure (fun hx33 => ?_)
        refine DL_nil ?_
        refine X_block ?_
        refine X_then ?_
        refine T_region ?_
        first
          | refine TL_q (Qt_add rfl rfl (by omega) (by omega)) rfl ?_
          | refine TL_q (Qt_addw rfl rfl) rfl ?_
        refine TL_q (Qt_move (.int .i64 _) rfl) rfl ?_
        refine TL_nil ?_
        apply X_loop
        case ha => exact (by repeat (first | with_reducible exact agree_refl | refine agree_upd rfl ?_ | refine agree_mix rfl ?_ | refine agree_setAll rfl ?_))
        case hI => exact by first | exact ⟨k + 1, doE e1 (leftA s.pend[k] x24.1) x33 c1, doC e1 (leftA s.pend[k] x24.1) c1, rowFp (.slice x33.a x33.l.length x33.c) ++ fp, x33 :: bs, rfl, rfl, by omega, hc.step hok hk hx33 (by rw [hx24, h27]; rfl)⟩ | exact ⟨k + 1, e1, c1, fp, bs, rfl, rfl, by omega, hc.none hk (by rw [hx24, h27]; rfl)⟩
        case hm => exact by show s.pend.length - (k + 1 : Int).toNat < s.pend.length - (k : Int).toNat; omega
        case hH => exact by first | exact (fun w hw => crash_end (b6 := b6) (a := (leftA s.pend[k] x24.1)) (x := x33) (Subs.st inferInstance w hw)) | exact (Subs.st inferInstance)
      ·
        have p27 := h27
        try simp only [decide_eq_true_eq, decide_eq_false_iff_not, Bool.not_eq_true', Bool.not_eq_false', Option.isNone_iff_eq_none, ne_eq, Decidable.not_not, Int.not_lt, Int.not_le] at p27
        refine T_skip ?_
        refine X_block ?_
        refine X_then ?_
        refine T_region ?_
        first
          | refine TL_q (Qt_add rfl rfl (by omega) (by omega)) rfl ?_
          | refine TL_q (Qt_addw rfl rfl) rfl ?_
        refine TL_q (Qt_move (.int .i64 _) rfl) rfl ?_
        refine TL_nil ?_
        apply X_loop
        case ha => exact (by repeat (first | with_reducible exact agree_refl | refine agree_upd rfl ?_ | refine agree_mix rfl ?_ | refine agree_setAll rfl ?_))
        case hI => exact by first | exact ⟨k + 1, doE e1 (leftA s.pend[k] x24.1) x33 c1, doC e1 (leftA s.pend[k] x24.1) c1, rowFp (.slice x33.a x33.l.length x33.c) ++ fp, x33 :: bs, rfl, rfl, by omega, hc.step hok hk hx33 (by rw [hx24, h27]; rfl)⟩ | exact ⟨k + 1, e1, c1, fp, bs, rfl, rfl, by omega, hc.none hk (by rw [hx24, h27]; rfl)⟩
        case hm => exact by show s.pend.length - (k + 1 : Int).toNat < s.pend.length - (k : Int).toNat; omega
        case hH => exact by first | exact (fun w hw => crash_end (b6 := b6) (a := (leftA s.pend[k] x24.1)) (x := x33) (Subs.st inferInstance w hw)) | exact (Subs.st inferInstance)
    ·
      have p16 := h16
      try simp only [decide_eq_true_eq, decide_eq_false_iff_not, Bool.not_eq_true', Bool.not_eq_false', Option.isNone_iff_eq_none, ne_eq, Decidable.not_not, Int.not_lt, Int.not_le] at p16
      obtain rfl : k = s.pend.length := by omega
      refine T_exit ?_
      refine X_then_exit ?_
      refine X_loop_exit ?_
      refine X_block_exit ?_
      refine X_then ?_
      refine T_seq ?_
      refine T_region ?_
      refine TL_q (Qt_move (.pointer _) rfl) rfl ?_
      refine TL_frontB s.r1 ?_
      refine TL_frontB p ?_
      refine TL_e rfl (Ef_call (settle_c (r := s.r1) (es := e1) (c := c1)) rfl (fun x36 => ?_))
      refine TL_nil ?_
      refine X_then ?_
      refine T_region ?_
      refine TL_q (Qt_move (.pointer _) rfl) rfl ?_
      refine TL_q (Qt_move (.pointer _) rfl) rfl ?_
      refine TL_q (Qt_nilCheck rfl) rfl ?_
      refine TL_q (Qt_fieldAddr 4 rfl rfl) rfl ?_
      refine TL_n (Ef_store1 (.int .i64 _) rfl rfl (?_))
      refine TL_q (Qt_nilCheck rfl) rfl ?_
      refine TL_q (Qt_fieldAddr 5 rfl rfl) rfl ?_
      refine TL_n (Ef_store1 (.bool _) rfl rfl (?_))
      refine TL_nil ?_
      exact X_ret ({ s with e1 := e1, c1 := c1, e2 := e1, c2 := c1, r2 := x36, pend := [], pa := none, pc := 0, fuse := -1, down := false, fp := fp, bs := bs }) [] Tryz.results12 trivial rfl (fun w hw => St.addPure (crash_fin (Subs.st inferInstance w hw)) ⟨e1, c1, x36, fp, bs, hc, rfl⟩)
@[reducible] def fuseS (s : DS) (n : Int) : DS := { s with fuse := if s.down = true then s.fuse else n }
set_option maxHeartbeats 1000000 in
theorem dfuse_c {w0 : World} {H : List SA} {p : Nat} {s : DS} {n : Int} :
    CT Tryz.prog w0 (DS.H p s H) 9 [.pointer (some ⟨p, 0, none⟩), .int .i64 n] (α := Unit) (fun _ => .tuple #[]) (fun _ => DS.H p (fuseS s n) H) := by
  refine CT_intro Tryz.func9 rfl Tryz.ntmps9 rfl ?_
  refine T_seq ?_
  refine T_region ?_
  refine TL_q (Qt_move (.pointer _) rfl) rfl ?_
  refine TL_q (Qt_ptr_not_nil rfl rfl Tryz.underlying28) rfl ?_
  refine TL_q (Qt_move (.bool _) rfl) rfl ?_
  refine TL_split 6 rfl (fun h6 => ?_) (fun h6 => ?_)
  ·
    have p6 := h6
    try simp only [decide_eq_true_eq, decide_eq_false_iff_not, Bool.not_eq_true', Bool.not_eq_false', Option.isNone_iff_eq_none, ne_eq, Decidable.not_not, Int.not_lt, Int.not_le] at p6
    refine TL_take rfl rfl h6 ?_
    refine TL_q (Qt_move (.pointer _) rfl) rfl ?_
    refine TL_take rfl rfl h6 ?_
    refine TL_q (Qt_nilCheck rfl) rfl ?_
    refine TL_take rfl rfl h6 ?_
    refine TL_q (Qt_fieldAddr 5 rfl rfl) rfl ?_
    refine TL_take rfl rfl h6 ?_
    refine TL_q (Qt_load1 rfl) rfl ?_
    refine TL_take rfl rfl h6 ?_
    refine TL_q (Qt_not rfl) rfl ?_
    refine TL_q (Qt_pick_t (.bool _) rfl h6 rfl) rfl ?_
    refine TL_nil ?_
    refine X_then ?_
    refine T_cond rfl (fun h12 => ?_) (fun h12 => ?_)
    ·
      have p12 := h12
      try simp only [decide_eq_true_eq, decide_eq_false_iff_not, Bool.not_eq_true', Bool.not_eq_false', Option.isNone_iff_eq_none, ne_eq, Decidable.not_not, Int.not_lt, Int.not_le] at p12
      refine T_region ?_
      refine TL_q (Qt_move (.pointer _) rfl) rfl ?_
      refine TL_q (Qt_move (.int .i64 _) rfl) rfl ?_
      refine TL_q (Qt_nilCheck rfl) rfl ?_
      refine TL_q (Qt_fieldAddr 4 rfl rfl) rfl ?_
      refine TL_n (Ef_store1 (.int .i64 _) rfl rfl (?_))
      refine TL_nil ?_
      have e : (if s.down = true then s.fuse else n) = n := if_neg (by simp_all)
      exact X_ret () [] Tryz.results9 trivial rfl (fun w hw => by
          show St w0 (DS.H p { s with fuse := if s.down = true then s.fuse else n } H) w
          rw [e]
          exact Subs.st inferInstance w hw)
    ·
      have p12 := h12
      try simp only [decide_eq_true_eq, decide_eq_false_iff_not, Bool.not_eq_true', Bool.not_eq_false', Option.isNone_iff_eq_none, ne_eq, Decidable.not_not, Int.not_lt, Int.not_le] at p12
      refine T_skip ?_
      have e : (if s.down = true then s.fuse else n) = s.fuse := if_pos (by simp_all)
      exact X_ret () [] Tryz.results9 trivial rfl (fun w hw => by
          show St w0 (DS.H p { s with fuse := if s.down = true then s.fuse else n } H) w
          rw [e]
          exact Subs.st inferInstance w hw)
  ·
    have p6 := h6
    try simp only [decide_eq_true_eq, decide_eq_false_iff_not, Bool.not_eq_true', Bool.not_eq_false', Option.isNone_iff_eq_none, ne_eq, Decidable.not_not, Int.not_lt, Int.not_le] at p6
    cases h6
theorem fuseS_ok {s : DS} {N M : Nat} (h : s.Ok N M) {n : Int} (hn : n ≤ 9223372036854775807) : (fuseS s n).Ok N M := ⟨h.good1, h.good2, h.mem1, h.mem2, h.memp, h.zero, h.len, h.short, h.n1, h.n2, h.np, h.room0, h.room1, by show (if s.down = true then s.fuse else n) ≤ _; split; exact h.fuse1; exact hn⟩
set_option maxHeartbeats 1000000 in
theorem ddown_c {w0 : World} {H : List SA} {p : Nat} {s : DS} :
    CT Tryz.prog w0 (DS.H p s H) 11 [.pointer (some ⟨p, 0, none⟩)] (α := Unit) (fun _ => .bool s.down) (fun _ => DS.H p s H) := by
  refine CT_intro Tryz.func11 rfl Tryz.ntmps11 rfl ?_
  refine T_seq ?_
  refine T_region ?_
  refine TL_q (Qt_assign (.bool _) rfl) rfl ?_
  refine TL_nil ?_
  refine X_then ?_
  refine T_seq ?_
  refine T_region ?_
  refine TL_q (Qt_move (.pointer _) rfl) rfl ?_
  refine TL_q (Qt_ptr_not_nil rfl rfl Tryz.underlying28) rfl ?_
  refine TL_q (Qt_move (.bool _) rfl) rfl ?_
  refine TL_split 5 rfl (fun h5 => ?_) (fun h5 => ?_)
  ·
    have p5 := h5
    try simp only [decide_eq_true_eq, decide_eq_false_iff_not, Bool.not_eq_true', Bool.not_eq_false', Option.isNone_iff_eq_none, ne_eq, Decidable.not_not, Int.not_lt, Int.not_le] at p5
    refine TL_take rfl rfl h5 ?_
    refine TL_q (Qt_move (.pointer _) rfl) rfl ?_
    refine TL_take rfl rfl h5 ?_
    refine TL_q (Qt_nilCheck rfl) rfl ?_
    refine TL_take rfl rfl h5 ?_
    refine TL_q (Qt_fieldAddr 5 rfl rfl) rfl ?_
    refine TL_take rfl rfl h5 ?_
    refine TL_q (Qt_load1 rfl) rfl ?_
    refine TL_q (Qt_pick_t (.bool _) rfl h5 rfl) rfl ?_
    refine TL_q (Qt_assign (.bool _) rfl) rfl ?_
    refine TL_nil ?_
    refine X_then ?_
    refine T_ret ?_
    exact X_ret () [_] Tryz.results11 ⟨rfl, trivial⟩ rfl (Subs.st inferInstance)
  ·
    have p5 := h5
    try simp only [decide_eq_true_eq, decide_eq_false_iff_not, Bool.not_eq_true', Bool.not_eq_false', Option.isNone_iff_eq_none, ne_eq, Decidable.not_not, Int.not_lt, Int.not_le] at p5
    cases h5
end
end Go.Proofs.YtgeknnclmhfjlaaGreatDoor
