/- Walks: files by their names; package disk: size, do of files. -/
import Derived.Test.YtldnfbghjnhklaaGreatDoorCm
import Derived.Test.YtldnfbghjnhklaaGreatDoorSt
import Derived.Test.YtldnfbghjnhklaaGreatDoorTl
namespace Go.Proofs.YtldnfbghjnhklaaGreatDoor
open Go.RowKit Go.Sx
set_option maxRecDepth 100000
set_option linter.unusedSimpArgs false
set_option linter.unusedVariables false
set_option maxHeartbeats 1000000 in
theorem grow_c {w0 : World} {H : List SA} {n : Nat} (hn : n ≤ 4294967296) :
    CT Tryz.prog w0 (H) 327 [.slice none 0 0, .int .i64 (n : Int)] (α := AC) (fun y => .slice y.a ([] : List UInt8).length y.c) (fun y => row (.slice y.a ([] : List UInt8).length y.c) 5 1 (bytesV []) :: H) := by
  refine CT_intro Tryz.func327 rfl Tryz.ntmps327 rfl ?_
  refine T_seq ?_
  refine T_region ?_
  refine TL_q (Qt_assign (.slice _ _ _) rfl) rfl ?_
  refine TL_nil ?_
  refine X_then ?_
  refine T_seq ?_
  refine T_seq ?_
  refine T_region ?_
  refine TL_q (Qt_move (.int .i64 _) rfl) rfl ?_
  refine TL_q (Qt_lss rfl rfl) rfl ?_
  refine TL_nil ?_
  refine X_then ?_
  refine T_cond rfl (fun h6 => ?_) (fun h6 => ?_)
  ·
    have p6 := h6
    try simp only [decide_eq_true_eq, decide_eq_false_iff_not, Bool.not_eq_true', Bool.not_eq_false', Option.isNone_iff_eq_none, ne_eq, Decidable.not_not, Int.not_lt, Int.not_le] at p6
    exact absurd p6 (by omega)
  ·
    have p6 := h6
    try simp only [decide_eq_true_eq, decide_eq_false_iff_not, Bool.not_eq_true', Bool.not_eq_false', Option.isNone_iff_eq_none, ne_eq, Decidable.not_not, Int.not_lt, Int.not_le] at p6
    refine T_skip ?_
    refine X_then ?_
    refine T_seq ?_
    refine T_seq ?_
    refine T_region ?_
    refine TL_q (Qt_move (.int .i64 _) rfl) rfl ?_
    refine TL_q (Qt_move (.slice _ _ _) rfl) rfl ?_
    refine TL_q (Qt_cap_slice rfl Tryz.underlying22) rfl ?_
    refine TL_q (Qt_move (.slice _ _ _) rfl) rfl ?_
    refine TL_q (Qt_len_slice rfl Tryz.underlying22) rfl ?_
    first
      | refine TL_q (Qt_sub rfl rfl (by omega) (by omega)) rfl ?_
      | refine TL_q (Qt_subw rfl rfl) rfl ?_
    refine TL_q (Qt_val (Qt_sub rfl rfl (by omega) (by omega)) (congrArg (Value.int .i64) (show _ = (n : Int) from by omega))) rfl ?_
    refine TL_q (Qt_assign (.int .i64 _) rfl) rfl ?_
    refine TL_nil ?_
    refine X_then ?_
    refine T_seq ?_
    refine T_region ?_
    refine TL_q (Qt_move (.int .i64 _) rfl) rfl ?_
    refine TL_q (Qt_gtr rfl rfl) rfl ?_
    refine TL_nil ?_
    refine X_then ?_
    refine T_cond rfl (fun h16 => ?_) (fun h16 => ?_)
    ·
      have p16 := h16
      try simp only [decide_eq_true_eq, decide_eq_false_iff_not, Bool.not_eq_true', Bool.not_eq_false', Option.isNone_iff_eq_none, ne_eq, Decidable.not_not, Int.not_lt, Int.not_le] at p16
      refine T_region ?_
      refine TL_q (Qt_move (.slice _ _ _) rfl) rfl ?_
      refine TL_q (Qt_move (.slice _ _ _) rfl) rfl ?_
      refine TL_q (Qt_cap_slice rfl Tryz.underlying22) rfl ?_
      refine TL_q (Qt_slice_h 0 rfl rfl (fun _ _ => Nat.le_refl _)) rfl ?_
      refine TL_q (Qt_move (.int .i64 _) rfl) rfl ?_
      refine TL_e rfl (Ef_appendMake rfl rfl Tryz.underlying3 (by omega) hn rfl (fun a22 c22 => ?_))
      refine TL_q (Qt_move (.slice _ _ _) rfl) rfl ?_
      refine TL_q (Qt_len_slice rfl Tryz.underlying22) rfl ?_
      refine TL_q (Qt_slice_h 0 rfl rfl (fun _ _ => Nat.zero_le _)) rfl ?_
      refine TL_q (Qt_assign (.slice _ _ _) rfl) rfl ?_
      refine TL_nil ?_
      refine X_then ?_
      refine T_seq ?_
      refine T_region ?_
      refine TL_q (Qt_move (.slice _ _ _) rfl) rfl ?_
      refine TL_q (Qt_assign (.slice _ _ _) rfl) rfl ?_
      refine TL_nil ?_
      refine X_then ?_
      refine T_ret ?_
      exact X_ret ⟨a22, c22⟩ [_] Tryz.results327 ⟨rfl, trivial⟩ rfl (fun _ hw => hw)
    ·
      have p16 := h16
      try simp only [decide_eq_true_eq, decide_eq_false_iff_not, Bool.not_eq_true', Bool.not_eq_false', Option.isNone_iff_eq_none, ne_eq, Decidable.not_not, Int.not_lt, Int.not_le] at p16
      obtain rfl : n = 0 := by omega
      refine T_skip ?_
      refine X_then ?_
      refine T_seq ?_
      refine T_region ?_
      refine TL_q (Qt_move (.slice _ _ _) rfl) rfl ?_
      refine TL_q (Qt_assign (.slice _ _ _) rfl) rfl ?_
      refine TL_nil ?_
      refine X_then ?_
      refine T_ret ?_
      exact X_ret ⟨none, 0⟩ [_] Tryz.results327 ⟨rfl, trivial⟩ rfl (fun w hw => (Subs.st inferInstance w hw : St w0 H w).addNilB 5)
def joined (ls : List BS) (k : Nat) : List UInt8 := ((ls.map BS.l).take k).flatten
theorem joined_succ (ls : List BS) (k : Nat) (hk : k < ls.length) : joined ls (k + 1) = joined ls k ++ ls[k].l := by
  unfold joined; rw [take_get _ _ (by simpa using hk)]; simp
theorem joined_all (ls : List BS) {k : Nat} (hk : ls.length ≤ k) : joined ls k = (ls.map BS.l).flatten := by
  unfold joined; rw [List.take_of_length_le (by simpa using hk)]
theorem joined_le (ls : List BS) (k : Nat) : (joined ls k).length ≤ ((ls.map BS.l).flatten).length := by
  have h : (ls.map BS.l).flatten = joined ls k ++ ((ls.map BS.l).drop k).flatten := by unfold joined; rw [← List.flatten_append, List.take_append_drop]
  rw [h]; simp

set_option maxHeartbeats 1000000 in
theorem concat_c {w0 : World} {H : List SA} {a : Option Addr} {ls : List BS} {c : Nat} [hr : RdC w0 H (.slice a ls.length c) 1 (ls.map BS.val)] [re : RdE w0 H ls] (hs : (ls.map BS.l).flatten.length ≤ 4294967296) (hn : ls.length ≤ 4294967296) :
    CT Tryz.prog w0 (H) 278 [.slice a ls.length c] (α := AC) (fun y => .slice y.a (ls.map BS.l).flatten.length y.c) (fun y => row (.slice y.a (ls.map BS.l).flatten.length y.c) 5 1 (bytesV (ls.map BS.l).flatten) :: H) := by
  refine CT_intro Tryz.func278 rfl Tryz.ntmps278 rfl ?_
  refine T_seq ?_
  refine T_region ?_
  refine TL_q (Qt_assign (.slice _ _ _) rfl) rfl ?_
  refine TL_nil ?_
  refine X_then ?_
  refine T_seq ?_
  refine T_region ?_
  refine TL_q (Qt_assign (.int .i64 _) rfl) rfl ?_
  refine TL_nil ?_
  refine X_then ?_
  refine T_seq ?_
  refine T_seq ?_
  refine T_region ?_
  refine TL_q (Qt_move (.slice _ _ _) rfl) rfl ?_
  refine TL_q (Qt_len_slice rfl Tryz.underlying46) rfl ?_
  refine TL_q (Qt_move (.int .i64 _) rfl) rfl ?_
  refine TL_nil ?_
  refine X_then ?_
  refine T_block ?_
  refine T_loop [3, 5, 11, 12, 13, 14, 15, 16, 17, 18, 19, 20, 21, 22] [11, 3] (fun us H' => ∃ (k : Nat), us = [.int .i64 (k : Int), .int .i64 ((joined ls k).length : Int)] ∧ H = H' ∧ k ≤ ls.length) (fun us => match us with | .int _ i :: _ => ls.length - i.toNat | _ => 0) ⟨0, rfl, rfl, by omega⟩ (Subs.st inferInstance) ?_
  rintro τ0 _ _  ⟨k, rfl, rfl, hk0⟩ _
  refine T_seq ?_
  refine T_region ?_
  refine TL_q (Qt_lss rfl rfl) rfl ?_
  refine TL_nil ?_
  refine X_then ?_
  refine T_seq ?_
  refine T_cond rfl (fun h12 => ?_) (fun h12 => ?_)
  ·
    have p12 := h12
    try simp only [decide_eq_true_eq, decide_eq_false_iff_not, Bool.not_eq_true', Bool.not_eq_false', Option.isNone_iff_eq_none, ne_eq, Decidable.not_not, Int.not_lt, Int.not_le] at p12
    have hk : k < ls.length := by omega
    have hj := joined_le ls (k + 1)
    rw [joined_succ ls k hk, List.length_append] at hj
    refine T_skip ?_
    refine X_then ?_
    refine T_seq ?_
    refine T_block ?_
    refine T_seq ?_
    refine T_region ?_
    refine TL_q (Qt_indexR rfl rfl (by omega) (by simp; omega)) rfl ?_
    refine TL_q (Qt_loadR (.slice _ _ _) rfl (vals_get _ _ hk)) rfl ?_
    refine TL_q (Qt_assign (.slice _ _ _) rfl) rfl ?_
    refine TL_nil ?_
    refine X_then ?_
    refine T_seq ?_
    refine T_region ?_
    refine TL_q (Qt_move (.int .i64 _) rfl) rfl ?_
    refine TL_q (Qt_move (.slice _ _ _) rfl) rfl ?_
    refine TL_q (Qt_len_slice rfl Tryz.underlying22) rfl ?_
    refine TL_q (Qt_val (Qt_add rfl rfl (by omega) (by omega)) (congrArg (Value.int .i64) (show ((joined ls k).length : Int) + (ls[k].l.length : Int) = ((joined ls (k + 1)).length : Int) from by rw [joined_succ ls k hk, List.length_append]; omega))) rfl ?_
    refine TL_q (Qt_assign (.int .i64 _) rfl) rfl ?_
    refine TL_nil ?_
    refine X_then ?_
    refine T_seq ?_
    refine T_region ?_
    refine TL_q (Qt_move (.int .i64 _) rfl) rfl ?_
    refine TL_q (Qt_lss rfl rfl) rfl ?_
    refine TL_nil ?_
    refine X_then ?_
    refine T_cond rfl (fun h20 => ?_) (fun h20 => ?_)
    ·
      have p20 := h20
      try simp only [decide_eq_true_eq, decide_eq_false_iff_not, Bool.not_eq_true', Bool.not_eq_false', Option.isNone_iff_eq_none, ne_eq, Decidable.not_not, Int.not_lt, Int.not_le] at p20
      exact absurd p20 (by omega)
    ·
      have p20 := h20
      try simp only [decide_eq_true_eq, decide_eq_false_iff_not, Bool.not_eq_true', Bool.not_eq_false', Option.isNone_iff_eq_none, ne_eq, Decidable.not_not, Int.not_lt, Int.not_le] at p20
      refine T_skip ?_
      refine X_block ?_
      refine X_then ?_
      refine T_region ?_
      first
        | refine TL_q (Qt_add rfl rfl (by omega) (by omega)) rfl ?_
        | refine TL_q (Qt_addw rfl rfl) rfl ?_
      refine TL_q (Qt_move (.int .i64 _) rfl) rfl ?_
      refine TL_nil ?_
      apply X_loop
      case ha => exact (by repeat (first | with_reducible exact agree_refl | refine agree_upd rfl ?_ | refine agree_mix rfl ?_ | refine agree_setAll rfl ?_))
      case hI => exact ⟨k + 1, rfl, rfl, by omega⟩
      case hm => exact by show ls.length - (k + 1 : Int).toNat < ls.length - (k : Int).toNat; omega
      case hH => exact (Subs.st inferInstance)
  ·
    have p12 := h12
    try simp only [decide_eq_true_eq, decide_eq_false_iff_not, Bool.not_eq_true', Bool.not_eq_false', Option.isNone_iff_eq_none, ne_eq, Decidable.not_not, Int.not_lt, Int.not_le] at p12
    have ej := joined_all ls (k := k) (by omega)
    rw [ej]
    refine T_exit ?_
    refine X_then_exit ?_
    refine X_loop_exit ?_
    refine X_block_exit ?_
    refine X_then ?_
    refine T_seq ?_
    refine T_region ?_
    refine TL_q (Qt_move (.int .i64 _) rfl) rfl ?_
    refine TL_e rfl (Ef_call (grow_c hs) rfl (fun x24 => ?_))
    refine TL_q (Qt_assign (.slice _ _ _) rfl) rfl ?_
    refine TL_nil ?_
    refine X_then ?_
    refine T_seq ?_
    refine T_seq ?_
    refine T_region ?_
    refine TL_q (Qt_move (.slice _ _ _) rfl) rfl ?_
    refine TL_q (Qt_len_slice rfl Tryz.underlying46) rfl ?_
    refine TL_q (Qt_move (.int .i64 _) rfl) rfl ?_
    refine TL_nil ?_
    refine X_then ?_
    refine T_block ?_
    refine T_loop [6, 8, 27, 28, 29, 30, 31, 32, 33, 34] [27, 6] (fun us H' => ∃ (k : Nat) (a1 : Option Addr) (c1 : Nat), us = [.int .i64 (k : Int), .slice a1 (joined ls k).length c1] ∧ row (.slice a1 (joined ls k).length c1) 5 1 (bytesV (joined ls k)) :: H = H' ∧ k ≤ ls.length) (fun us => match us with | .int _ i :: _ => ls.length - i.toNat | _ => 0) ⟨0, _, _, rfl, rfl, by omega⟩ (fun _ hw => hw) ?_
    rintro τ1 _ _  ⟨k, a1, c1, rfl, rfl, hk0⟩ _
    refine T_seq ?_
    refine T_region ?_
    refine TL_q (Qt_lss rfl rfl) rfl ?_
    refine TL_nil ?_
    refine X_then ?_
    refine T_seq ?_
    refine T_cond rfl (fun h28 => ?_) (fun h28 => ?_)
    ·
      have p28 := h28
      try simp only [decide_eq_true_eq, decide_eq_false_iff_not, Bool.not_eq_true', Bool.not_eq_false', Option.isNone_iff_eq_none, ne_eq, Decidable.not_not, Int.not_lt, Int.not_le] at p28
      have hk : k < ls.length := by omega
      have hj := joined_le ls (k + 1)
      rw [joined_succ ls k hk, List.length_append] at hj
      refine T_skip ?_
      refine X_then ?_
      refine T_seq ?_
      refine T_block ?_
      refine T_seq ?_
      refine T_region ?_
      refine TL_q (Qt_indexR rfl rfl (by omega) (by simp; omega)) rfl ?_
      refine TL_q (Qt_loadR (.slice _ _ _) rfl (vals_get _ _ hk)) rfl ?_
      refine TL_q (Qt_assign (.slice _ _ _) rfl) rfl ?_
      refine TL_nil ?_
      refine X_then ?_
      refine T_region ?_
      refine TL_q (Qt_move (.slice _ _ _) rfl) rfl ?_
      refine TL_q (Qt_move (.slice _ _ _) rfl) rfl ?_
      refine TL_e rfl (Ef_appendB (sv := .slice _ _ _) (xv := .slice _ _ _) rfl rfl (by omega) rfl (fun a33 c33 => ?_))
      rw [← joined_succ ls k hk]
      refine TL_q (Qt_assign (.slice _ _ _) rfl) rfl ?_
      refine TL_nil ?_
      refine X_block ?_
      refine X_then ?_
      refine T_region ?_
      first
        | refine TL_q (Qt_add rfl rfl (by omega) (by omega)) rfl ?_
        | refine TL_q (Qt_addw rfl rfl) rfl ?_
      refine TL_q (Qt_move (.int .i64 _) rfl) rfl ?_
      refine TL_nil ?_
      apply X_loop
      case ha => exact (by repeat (first | with_reducible exact agree_refl | refine agree_upd rfl ?_ | refine agree_mix rfl ?_ | refine agree_setAll rfl ?_))
      case hI => exact ⟨k + 1, _, _, rfl, rfl, by omega⟩
      case hm => exact by show ls.length - (k + 1 : Int).toNat < ls.length - (k : Int).toNat; omega
      case hH => exact (Subs.st inferInstance)
    ·
      have p28 := h28
      try simp only [decide_eq_true_eq, decide_eq_false_iff_not, Bool.not_eq_true', Bool.not_eq_false', Option.isNone_iff_eq_none, ne_eq, Decidable.not_not, Int.not_lt, Int.not_le] at p28
      have ej := joined_all ls (k := k) (by omega)
      rw [ej]
      refine T_exit ?_
      refine X_then_exit ?_
      refine X_loop_exit ?_
      refine X_block_exit ?_
      refine X_then ?_
      refine T_seq ?_
      refine T_region ?_
      refine TL_q (Qt_move (.slice _ _ _) rfl) rfl ?_
      refine TL_q (Qt_assign (.slice _ _ _) rfl) rfl ?_
      refine TL_nil ?_
      refine X_then ?_
      refine T_ret ?_
      exact X_ret ⟨a1, c1⟩ [_] Tryz.results278 ⟨rfl, trivial⟩ rfl (Subs.st inferInstance)
instance RdE.two {w0 : World} {H : List SA} {x y : BS} [h : RdB w0 H (.slice x.a x.l.length x.c) x.l] [h2 : RdB w0 H (.slice y.a y.l.length y.c) y.l] : RdE w0 H [x, y] := ⟨fun z hz w hw => by
  rcases List.mem_cons.1 hz with rfl | hz
  · exact h.rd w hw
  · obtain rfl : z = y := by simpa using hz
    exact h2.rd w hw⟩
theorem concat2_c {w0 : World} {H : List SA} {a : Option Addr} {x y : BS} {c : Nat} [hr : RdC w0 H (.slice a 2 c) 1 [x.val, y.val]] [h1 : RdB w0 H (.slice x.a x.l.length x.c) x.l] [h2 : RdB w0 H (.slice y.a y.l.length y.c) y.l] (hs : x.l.length + y.l.length ≤ 4294967296) :
    CT Tryz.prog w0 H 278 [.slice a 2 c] (α := AC) (fun z => .slice z.a (x.l ++ y.l).length z.c) (fun z => row (.slice z.a (x.l ++ y.l).length z.c) 5 1 (bytesV (x.l ++ y.l)) :: H) := by
  have e : ([x, y].map BS.l).flatten = x.l ++ y.l := by simp
  have := concat_c (w0 := w0) (H := H) (a := a) (ls := [x, y]) (c := c) (hr := hr) (re := RdE.two) (by rw [e]; simpa using hs) (by simp)
  rwa [e] at this

abbrev FM := List (Ent ByteArray BS)
def encS (s : ByteArray) : Value := .string s
instance keyStr : Key Tryz.prog 9 encS where
  eq x y w := equal_run (x := encS x) (y := encS y) (h := (inferInstance : EqV Tryz.prog 9 (.string x) (.string y) _)) w
  now d hd x y := by
    rw [Tryz.underlying9] at hd
    obtain rfl : .string = d := by simpa using hd
    right
    simp only [encS, Instr.sameNow]
    congr 1
    rw [Bool.eq_iff_iff, beqBytes]
    simp
  there := by rw [Tryz.underlying9]; rfl
  check k empty w := by
    have h : ∀ n, n = 9999 + 1 → (Instr.checkKey empty n 9 (encS k)).run Tryz.prog w = .ok () w := fun n hn => by
      rw [hn, Instr.checkKey]
      simp only [Sem.run_bind, run_underlying Tryz.underlying9, Result.andThen_ok, encS, Sem.run_pure]
    exact h 10000 (by decide)
  same k := by
    have h : ∀ n, Instr.sameBits n (encS k) (encS k) = true := fun n => by cases n <;> exact (beqBytes k k).2 rfl
    exact h 10000
def zB : BS := ⟨none, 0, []⟩
def oldE (es : FM) (k : ByteArray) : BS := (getE es k).getD zB
theorem bs_zero : (Tryz.prog.info? 22).bind (·.zero) = some (BS.val zB) := (inferInstance : TyZ Tryz.prog 22 (.slice none 0 0)).ok
def doE (es : FM) (a : ActV) (x : BS) (c : Nat) : FM := if a.kind = 1 ∨ a.kind = 2 then putE es a.name x c
  else if a.kind = 3 then (if hasE es a.name = true ∧ a.name ≠ a.to then putE (delE es a.name) a.to (oldE es a.name) c else es) else if a.kind = 4 then delE es a.name else es
def doC (es : FM) (a : ActV) (c : Nat) : Nat := if a.kind = 1 ∨ a.kind = 2 then clockE es a.name c
  else if a.kind = 3 then (if hasE es a.name = true ∧ a.name ≠ a.to then clockE (delE es a.name) a.to c else c) else c
def newB (es : FM) (a : ActV) : List UInt8 := if a.kind = 1 then (oldE es a.name).l ++ a.b.l else if a.kind = 2 then a.b.l else []
def sizeE (es : FM) : Nat := (es.map fun e => e.v.l.length).sum
theorem split_sum (g : Ent ByteArray BS → Nat) : ∀ (L : FM) (e : Ent ByteArray BS), (L.map (·.b)).Nodup → e ∈ L → (L.map g).sum = g e + ((L.filter fun x => !(x.b == e.b)).map g).sum
  | [], e, _, he => by cases he
  | x :: L, e, hn, he => by
    simp only [List.map_cons, List.nodup_cons] at hn
    rcases List.mem_cons.1 he with rfl | he
    · have h1 : L.filter (fun x => !(x.b == e.b)) = L := List.filter_eq_self.2 fun y hy => by
        have : y.b ≠ e.b := fun h => hn.1 (h ▸ List.mem_map.2 ⟨y, hy, rfl⟩)
        simpa using this
      rw [List.filter_cons (p := fun x : Ent ByteArray BS => !(x.b == e.b))]
      simp only [beq_self_eq_true, Bool.not_true, Bool.false_eq_true, if_false, h1, List.map_cons, List.sum_cons]
    · have hne : x.b ≠ e.b := fun h => hn.1 (h ▸ List.mem_map.2 ⟨e, he, rfl⟩)
      have ih := split_sum g L e hn.2 he
      rw [List.filter_cons (p := fun x : Ent ByteArray BS => !(x.b == e.b))]
      simp only [show (!(x.b == e.b)) = true from by simpa using hne, if_true, List.map_cons, List.sum_cons]
      omega
theorem leftF_push (es : FM) (seen : Array Nat) (b : Nat) : leftE es (seen.push b) = (leftE es seen).filter fun x => !(x.b == b) := by
  unfold leftE
  rw [List.filter_filter]
  congr 1
  funext x
  simp only [Array.contains_push, Bool.not_or]
  cases seen.contains x.b <;> cases h : (x.b == b) <;> simp_all
theorem leftF_nodup {es : FM} {seen : Array Nat} (h : (es.map (·.b)).Nodup) : ((leftE es seen).map (·.b)).Nodup := by
  unfold leftE
  exact h.sublist (List.filter_sublist.map _)
theorem leftF_sum {es : FM} {seen : Array Nat} {e : Ent ByteArray BS} (h : (es.map (·.b)).Nodup) (he : e ∈ leftE es seen) : sizeE (leftE es seen) = e.v.l.length + sizeE (leftE es (seen.push e.b)) := by
  have := split_sum (fun x => x.v.l.length) _ e (leftF_nodup (seen := seen) h) he
  unfold sizeE
  rw [leftF_push, this]
theorem leftF_less {es : FM} {seen : Array Nat} {e : Ent ByteArray BS} (h : (es.map (·.b)).Nodup) (he : e ∈ leftE es seen) : (leftE es (seen.push e.b)).length < (leftE es seen).length := by
  have := split_sum (fun _ => 1) _ e (leftF_nodup (seen := seen) h) he
  rw [leftF_push]
  simp only [List.map_const', List.sum_replicate_nat, Nat.mul_one] at this
  omega
theorem leftF_all (es : FM) : leftE es #[] = es := by simp [leftE]

set_option maxHeartbeats 1000000 in
theorem mclone_c {w0 : World} {H : List SA} {r c : Nat} {es : FM} :
    CT Tryz.prog w0 (blk r (mapO encS BS.val es c) :: H) 308 [.map (some r)] (α := Nat) (fun q => .map (some q)) (fun q => blk q (mapO encS BS.val es c) :: blk r (mapO encS BS.val es c) :: H) := by
  refine CT_intro Tryz.func308 rfl Tryz.ntmps308 rfl ?_
  refine T_seq ?_
  refine T_region ?_
  refine TL_q (Qt_assign (.map _) rfl) rfl ?_
  refine TL_nil ?_
  refine X_then ?_
  refine T_seq ?_
  refine T_seq ?_
  refine T_region ?_
  refine TL_q (Qt_move (.map _) rfl) rfl ?_
  refine TL_q (Qt_map_nil rfl rfl Tryz.underlying103) rfl ?_
  refine TL_nil ?_
  refine X_then ?_
  refine T_cond rfl (fun h4 => ?_) (fun h4 => ?_)
  ·
    have p4 := h4
    try simp only [decide_eq_true_eq, decide_eq_false_iff_not, Bool.not_eq_true', Bool.not_eq_false', Option.isNone_iff_eq_none, ne_eq, Decidable.not_not, Int.not_lt, Int.not_le] at p4
    cases h4
  ·
    have p4 := h4
    try simp only [decide_eq_true_eq, decide_eq_false_iff_not, Bool.not_eq_true', Bool.not_eq_false', Option.isNone_iff_eq_none, ne_eq, Decidable.not_not, Int.not_lt, Int.not_le] at p4
    refine T_skip ?_
    refine X_then ?_
    refine T_seq ?_
    refine T_region ?_
    refine TL_q (Qt_move (.map _) rfl) rfl ?_
    refine TL_q (Qt_makeIfaceM rfl Tryz.underlying103) rfl ?_
    refine TL_e rfl (Ef_mapsClone (enc := encS) (ev := BS.val) (r := r) (es := es) (c := c) rfl Tryz.func345 (by kernel_rfl) (by kernel_rfl) (by kernel_rfl) (by kernel_rfl) (fun q7 => ?_))
    refine TL_q (Qt_assertMap rfl Tryz.underlying103) rfl ?_
    refine TL_q (Qt_assign (.map _) rfl) rfl ?_
    refine TL_nil ?_
    refine X_then ?_
    refine T_ret ?_
    exact X_ret q7 [_] Tryz.results308 ⟨rfl, trivial⟩ rfl (Subs.st inferInstance)
set_option maxHeartbeats 1000000 in
theorem fsize_c {w0 : World} {H : List SA} {r c : Nat} {es : FM} (hg : GoodM es c) (hs : sizeE es ≤ 4000000000000000) :
    CT Tryz.prog w0 (blk r (mapO encS BS.val es c) :: H) 343 [.map (some r)] (α := Unit) (fun _ => .int .i64 (sizeE es : Int)) (fun _ => blk r (mapO encS BS.val es c) :: H) := by
  refine CT_intro Tryz.func343 rfl Tryz.ntmps343 rfl ?_
  refine T_seq ?_
  refine T_region ?_
  refine TL_q (Qt_assign (.int .i64 _) rfl) rfl ?_
  refine TL_nil ?_
  refine X_then ?_
  refine T_seq ?_
  refine T_region ?_
  refine TL_q (Qt_assign (.int .i64 _) rfl) rfl ?_
  refine TL_nil ?_
  refine X_then ?_
  refine T_seq ?_
  refine T_seq ?_
  refine T_region ?_
  refine TL_q (Qt_move (.map _) rfl) rfl ?_
  refine TL_e rfl (Ef_range rfl Tryz.underlying103 (fun it7 => ?_))
  refine TL_nil ?_
  refine X_then ?_
  refine T_block ?_
  refine T_loopg (m0 := (leftE es #[]).length) [3, 5, 8, 9, 10, 11, 12, 13, 14, 15] [3] (fun us H' m => ∃ (n : Nat) (seen : Array Nat), us = [.int .i64 (n : Int)] ∧ blk it7 (.mapIter (some r) c seen c) :: blk r (mapO encS BS.val es c) :: H = H' ∧ m = (leftE es seen).length ∧ n + sizeE (leftE es seen) = sizeE es) ⟨0, #[], rfl, rfl, rfl, by rw [leftF_all, Nat.zero_add]⟩ (Subs.st inferInstance) ?_
  rintro τ0 _ _ m ⟨n, seen, rfl, rfl, rfl, hn⟩ _
  refine T_seq ?_
  refine T_region ?_
  refine TL_e rfl (Ef_next rfl hg.lt hg.lt (fun hz8 => ?_) (fun en8 hen8 => ?_))
  ·
    rw [hz8] at hn
    have hn2 : n = sizeE es := hn
    rw [hn2]
    refine TL_q (Qt_extract rfl) rfl ?_
    refine TL_nil ?_
    refine X_then ?_
    refine T_seq ?_
    refine T_cond_false rfl rfl ?_
    refine T_exit ?_
    refine X_then_exit ?_
    refine X_loopg_exit ?_
    refine X_block_exit ?_
    refine X_then ?_
    refine T_seq ?_
    refine T_region ?_
    refine TL_q (Qt_move (.int .i64 _) rfl) rfl ?_
    refine TL_q (Qt_assign (.int .i64 _) rfl) rfl ?_
    refine TL_nil ?_
    refine X_then ?_
    refine T_ret ?_
    exact X_ret () [_] Tryz.results343 ⟨rfl, trivial⟩ rfl (Subs.st inferInstance)
  ·
    have hmem : en8 ∈ es := (List.mem_filter.1 hen8).1
    refine TL_q (Qt_extract rfl) rfl ?_
    refine TL_nil ?_
    refine X_then ?_
    refine T_seq ?_
    refine T_cond_true rfl rfl ?_
    refine T_skip ?_
    refine X_then ?_
    refine T_block ?_
    refine T_seq ?_
    refine T_region ?_
    refine TL_q (Qt_entry en8 rfl hmem hg.born) rfl ?_
    refine TL_q (Qt_extract rfl) rfl ?_
    refine TL_q (Qt_assign (.slice _ _ _) rfl) rfl ?_
    refine TL_nil ?_
    refine X_then ?_
    refine T_region ?_
    refine TL_q (Qt_move (.int .i64 _) rfl) rfl ?_
    refine TL_q (Qt_move (.slice _ _ _) rfl) rfl ?_
    refine TL_q (Qt_len_slice rfl Tryz.underlying22) rfl ?_
    have hb2 := leftF_sum hg.born hen8
    refine TL_q (Qt_val (Qt_add rfl rfl (by omega) (by omega)) (congrArg (Value.int .i64) (show (n : Int) + (en8.v.l.length : Int) = ((n + en8.v.l.length : Nat) : Int) from by omega))) rfl ?_
    refine TL_q (Qt_assign (.int .i64 _) rfl) rfl ?_
    refine TL_nil ?_
    refine X_block ?_
    refine X_loopg _ (by repeat (first | with_reducible exact agree_refl | refine agree_upd rfl ?_ | refine agree_mix rfl ?_ | refine agree_setAll rfl ?_)) (⟨n + en8.v.l.length, seen.push en8.b, rfl, rfl, rfl, by omega⟩) (leftF_less hg.born hen8) ((Subs.st inferInstance))
def namedB (s : ByteArray) : Bool := decide (1 ≤ s.size ∧ s.size ≤ 24)
set_option maxHeartbeats 1000000 in
theorem named_c {w0 : World} {H : List SA} {s : ByteArray} :
    CT Tryz.prog w0 (H) 304 [.string s] (α := Unit) (fun _ => .bool (namedB s)) (fun _ => H) := by
  refine CT_intro Tryz.func304 rfl Tryz.ntmps304 rfl ?_
  refine T_seq ?_
  refine T_region ?_
  refine TL_q (Qt_assign (.bool _) rfl) rfl ?_
  refine TL_nil ?_
  refine X_then ?_
  refine T_seq ?_
  refine T_region ?_
  refine TL_q (Qt_move (.string _) rfl) rfl ?_
  refine TL_q (Qt_len_string rfl Tryz.underlying9) rfl ?_
  refine TL_q (Qt_geq rfl rfl) rfl ?_
  refine TL_q (Qt_move (.bool _) rfl) rfl ?_
  refine TL_split 6 rfl (fun h6 => ?_) (fun h6 => ?_)
  ·
    have p6 := h6
    try simp only [decide_eq_true_eq, decide_eq_false_iff_not, Bool.not_eq_true', Bool.not_eq_false', Option.isNone_iff_eq_none, ne_eq, Decidable.not_not, Int.not_lt, Int.not_le] at p6
    refine TL_take rfl rfl h6 ?_
    refine TL_q (Qt_move (.string _) rfl) rfl ?_
    refine TL_take rfl rfl h6 ?_
    refine TL_q (Qt_len_string rfl Tryz.underlying9) rfl ?_
    refine TL_take rfl rfl h6 ?_
    refine TL_q (Qt_leq rfl rfl) rfl ?_
    refine TL_q (Qt_pick_t (.bool _) rfl h6 rfl) rfl ?_
    refine TL_q (Qt_assign (.bool _) rfl) rfl ?_
    refine TL_nil ?_
    refine X_then ?_
    refine T_ret ?_
    refine X_ret () [.bool (namedB s)] Tryz.results304 ⟨?_, trivial⟩ rfl (Subs.st inferInstance)
    refine congrArg Value.bool ?_
    rw [Bool.eq_iff_iff]
    simp only [namedB, decide_eq_true_eq, Bool.false_eq_true, false_iff]
    omega
  ·
    have p6 := h6
    try simp only [decide_eq_true_eq, decide_eq_false_iff_not, Bool.not_eq_true', Bool.not_eq_false', Option.isNone_iff_eq_none, ne_eq, Decidable.not_not, Int.not_lt, Int.not_le] at p6
    refine TL_pass rfl rfl h6 rfl ?_
    refine TL_pass rfl rfl h6 rfl ?_
    refine TL_pass rfl rfl h6 rfl ?_
    refine TL_q (Qt_pick_f (.bool _) rfl h6 rfl) rfl ?_
    refine TL_q (Qt_assign (.bool _) rfl) rfl ?_
    refine TL_nil ?_
    refine X_then ?_
    refine T_ret ?_
    refine X_ret () [.bool (namedB s)] Tryz.results304 ⟨?_, trivial⟩ rfl (Subs.st inferInstance)
    refine congrArg Value.bool ?_
    rw [Bool.eq_iff_iff]
    simp only [namedB, decide_eq_true_eq, Bool.false_eq_true, false_iff]
    omega
theorem St.nilUnder {w0 w : World} {H : List SA} {x : SA} (e : TypeId) (h : St w0 (x :: H) w) : St w0 (x :: row (.slice none ([] : List UInt8).length 0) e 1 (bytesV []) :: H) w := by
  have h1 := h.addNilB e
  exact Subs.st (H := row (.slice none ([] : List UInt8).length 0) e 1 (bytesV []) :: x :: H) inferInstance w h1
set_option maxHeartbeats 1000000 in
theorem fdo_c {w0 : World} {H : List SA} {r c : Nat} {es : FM} {a : ActV} [ro : RdB w0 H (.slice (oldE es a.name).a (oldE es a.name).l.length (oldE es a.name).c) (oldE es a.name).l] [rb : RdB w0 H (.slice a.b.a a.b.l.length a.b.c) a.b.l] (hs : (oldE es a.name).l.length + a.b.l.length ≤ 4294967296) :
    CT Tryz.prog w0 (blk r (mapO encS BS.val es c) :: H) 344 [.map (some r), .agg a.cells] (α := BS) (fun _ => .tuple #[]) (fun x => pu (x.l = newB es a) :: blk r (mapO encS BS.val (doE es a x c) (doC es a c)) :: row (.slice x.a x.l.length x.c) 5 1 (bytesV x.l) :: H) := by
  refine CT_intro Tryz.func344 rfl Tryz.ntmps344 rfl ?_
  refine T_seq ?_
  refine T_region ?_
  refine TL_e rfl (Ef_boxN rfl (fun b3 => ?_))
  refine TL_nil ?_
  refine X_then ?_
  refine T_seq ?_
  refine T_region ?_
  refine TL_q (Qt_fieldAddr 0 rfl rfl) rfl ?_
  refine TL_q (Qt_load1 rfl) rfl ?_
  refine TL_nil ?_
  refine X_then ?_
  refine T_block ?_
  refine T_seq ?_
  refine T_region ?_
  refine TL_q (Qt_eql rfl rfl) rfl ?_
  refine TL_q (Qt_assign (.bool _) rfl) rfl ?_
  refine TL_nil ?_
  refine X_then ?_
  refine T_cond rfl (fun h8 => ?_) (fun h8 => ?_)
  ·
    have p8 := h8
    try simp only [decide_eq_true_eq, decide_eq_false_iff_not, Bool.not_eq_true', Bool.not_eq_false', Option.isNone_iff_eq_none, ne_eq, Decidable.not_not, Int.not_lt, Int.not_le] at p8
    refine T_draw (blk b3 (.cells a.cells 426 (0, 0)) :: H) [(0, true), (1, true), (2, true), (3, true), (4, true), (5, true), (7, true), (8, true), (6, false), (9, false), (10, false), (11, false)] (by kernel_rfl) (by kernel_rfl) rfl (by kernel_rfl) (Subs.st inferInstance) (fun hns0 => ?_)
    refine DL_q hns0 rfl (Qt_move (.map _) rfl) rfl ?_
    refine DL_q hns0 rfl (Qt_fieldAddr 1 rfl rfl) rfl ?_
    refine DL_q hns0 rfl (Qt_load1 rfl) rfl ?_
    refine DL_q hns0 rfl (Qt_move (.map _) rfl) rfl ?_
    refine DL_q hns0 rfl (Qt_fieldAddr 1 rfl rfl) rfl ?_
    refine DL_q hns0 rfl (Qt_load1 rfl) rfl ?_
    refine DL_q hns0 rfl (Qt_fieldAddr 3 rfl rfl) rfl ?_
    refine DL_q hns0 rfl (Qt_load1 rfl) rfl ?_
    refine DL_e rfl rfl (Ef_of_Qt (Qt_lookup1 (key := a.name) (enc := encS) (ev := BS.val) (zB) rfl rfl Tryz.underlying103 bs_zero) (⟨(Subs.st inferInstance), ?_⟩))
    rw [show (getE es a.name).getD zB = oldE es a.name from rfl]
    refine DL_e rfl rfl (Ef_sliceN (m := 2) [BS.val (oldE es a.name), BS.val a.b] [BS.val (oldE es a.name), BS.val a.b] rfl rfl rfl rfl (by simp [Value.cells, BS.val]) rfl rfl (fun a19 c19 => ⟨(Subs.st inferInstance), ?_⟩))
    refine DL_e rfl rfl (Ef_call (concat2_c (x := oldE es a.name) (y := a.b) hs) rfl (fun x20 => ⟨(Subs.st inferInstance), ?_⟩))
    refine DL_n rfl (Ef_mapUpdate (key := a.name) (enc := encS) (ev := BS.val) (⟨x20.a, x20.c, (oldE es a.name).l ++ a.b.l⟩) rfl rfl rfl Tryz.underlying103 (⟨(Subs.st inferInstance), ?_⟩))
    refine DL_nil ?_
    refine X_block ?_
    have e1 : doE es a ⟨x20.a, x20.c, (oldE es a.name).l ++ a.b.l⟩ c = putE es a.name ⟨x20.a, x20.c, (oldE es a.name).l ++ a.b.l⟩ c := by unfold doE; rw [if_pos (by omega)]
    have e2 : doC es a c = clockE es a.name c := by unfold doC; rw [if_pos (by omega)]
    have e3 : newB es a = (oldE es a.name).l ++ a.b.l := by unfold newB; rw [if_pos (by omega)]
    exact X_ret ⟨x20.a, x20.c, (oldE es a.name).l ++ a.b.l⟩ [] Tryz.results344 trivial rfl (fun w hw => by rw [e1, e2]; exact St.addPure ((Subs.st inferInstance w hw : St w0 (blk r (mapO encS BS.val (putE es a.name ⟨x20.a, x20.c, (oldE es a.name).l ++ a.b.l⟩ c) (clockE es a.name c)) :: row (.slice (BS.mk x20.a x20.c ((oldE es a.name).l ++ a.b.l)).a (BS.mk x20.a x20.c ((oldE es a.name).l ++ a.b.l)).l.length (BS.mk x20.a x20.c ((oldE es a.name).l ++ a.b.l)).c) 5 1 (bytesV (BS.mk x20.a x20.c ((oldE es a.name).l ++ a.b.l)).l) :: H) w)) e3.symm)
  ·
    have p8 := h8
    try simp only [decide_eq_true_eq, decide_eq_false_iff_not, Bool.not_eq_true', Bool.not_eq_false', Option.isNone_iff_eq_none, ne_eq, Decidable.not_not, Int.not_lt, Int.not_le] at p8
    refine T_seq ?_
    refine T_region ?_
    refine TL_q (Qt_eql rfl rfl) rfl ?_
    refine TL_q (Qt_assign (.bool _) rfl) rfl ?_
    refine TL_nil ?_
    refine X_then ?_
    refine T_cond rfl (fun h21 => ?_) (fun h21 => ?_)
    ·
      have p21 := h21
      try simp only [decide_eq_true_eq, decide_eq_false_iff_not, Bool.not_eq_true', Bool.not_eq_false', Option.isNone_iff_eq_none, ne_eq, Decidable.not_not, Int.not_lt, Int.not_le] at p21
      refine T_draw (blk b3 (.cells a.cells 426 (0, 0)) :: H) [(0, true), (1, true), (2, true), (3, true), (4, true), (5, false), (6, false)] (by kernel_rfl) (by kernel_rfl) rfl (by kernel_rfl) (Subs.st inferInstance) (fun hns1 => ?_)
      refine DL_q hns1 rfl (Qt_move (.map _) rfl) rfl ?_
      refine DL_q hns1 rfl (Qt_fieldAddr 1 rfl rfl) rfl ?_
      refine DL_q hns1 rfl (Qt_load1 rfl) rfl ?_
      refine DL_q hns1 rfl (Qt_fieldAddr 3 rfl rfl) rfl ?_
      refine DL_q hns1 rfl (Qt_load1 rfl) rfl ?_
      refine DL_e rfl rfl (Ef_call (clone_c (by omega)) rfl (fun x28 => ⟨(Subs.st inferInstance), ?_⟩))
      refine DL_n rfl (Ef_mapUpdate (key := a.name) (enc := encS) (ev := BS.val) (⟨x28.a, x28.c, a.b.l⟩) rfl rfl rfl Tryz.underlying103 (⟨(Subs.st inferInstance), ?_⟩))
      refine DL_nil ?_
      refine X_block ?_
      have e1 : doE es a ⟨x28.a, x28.c, a.b.l⟩ c = putE es a.name ⟨x28.a, x28.c, a.b.l⟩ c := by unfold doE; rw [if_pos (by omega)]
      have e2 : doC es a c = clockE es a.name c := by unfold doC; rw [if_pos (by omega)]
      have e3 : newB es a = a.b.l := by unfold newB; rw [if_neg (by omega), if_pos (by omega)]
      exact X_ret ⟨x28.a, x28.c, a.b.l⟩ [] Tryz.results344 trivial rfl (fun w hw => by rw [e1, e2]; exact St.addPure ((Subs.st inferInstance w hw : St w0 (blk r (mapO encS BS.val (putE es a.name ⟨x28.a, x28.c, a.b.l⟩ c) (clockE es a.name c)) :: row (.slice (BS.mk x28.a x28.c a.b.l).a (BS.mk x28.a x28.c a.b.l).l.length (BS.mk x28.a x28.c a.b.l).c) 5 1 (bytesV (BS.mk x28.a x28.c a.b.l).l) :: H) w)) e3.symm)
    ·
      have p21 := h21
      try simp only [decide_eq_true_eq, decide_eq_false_iff_not, Bool.not_eq_true', Bool.not_eq_false', Option.isNone_iff_eq_none, ne_eq, Decidable.not_not, Int.not_lt, Int.not_le] at p21
      refine T_seq ?_
      refine T_region ?_
      refine TL_q (Qt_eql rfl rfl) rfl ?_
      refine TL_q (Qt_assign (.bool _) rfl) rfl ?_
      refine TL_nil ?_
      refine X_then ?_
      refine T_cond rfl (fun h29 => ?_) (fun h29 => ?_)
      ·
        have p29 := h29
        try simp only [decide_eq_true_eq, decide_eq_false_iff_not, Bool.not_eq_true', Bool.not_eq_false', Option.isNone_iff_eq_none, ne_eq, Decidable.not_not, Int.not_lt, Int.not_le] at p29
        refine T_seq ?_
        refine T_region ?_
        refine TL_q (Qt_move (.map _) rfl) rfl ?_
        refine TL_q (Qt_fieldAddr 1 rfl rfl) rfl ?_
        refine TL_q (Qt_load1 rfl) rfl ?_
        refine TL_q (Qt_lookup2 (key := a.name) (enc := encS) (ev := BS.val) (zB) rfl rfl Tryz.underlying103 bs_zero) rfl ?_
        rw [show (getE es a.name).getD zB = oldE es a.name from rfl]
        refine TL_q (Qt_move (.tuple _) rfl) rfl ?_
        refine TL_q (Qt_extract rfl) rfl ?_
        refine TL_q (Qt_extract rfl) rfl ?_
        refine TL_q (Qt_assign (.slice _ _ _) rfl) rfl ?_
        refine TL_q (Qt_assign (.bool _) rfl) rfl ?_
        refine TL_nil ?_
        refine X_then ?_
        refine T_seq ?_
        refine T_region ?_
        refine TL_q (Qt_move (.bool _) rfl) rfl ?_
        refine TL_q (Qt_move (.bool _) rfl) rfl ?_
        refine TL_split 39 rfl (fun h39 => ?_) (fun h39 => ?_)
        ·
          have p39 := h39
          try simp only [decide_eq_true_eq, decide_eq_false_iff_not, Bool.not_eq_true', Bool.not_eq_false', Option.isNone_iff_eq_none, ne_eq, Decidable.not_not, Int.not_lt, Int.not_le] at p39
          refine TL_take rfl rfl h39 ?_
          refine TL_q (Qt_fieldAddr 1 rfl rfl) rfl ?_
          refine TL_take rfl rfl h39 ?_
          refine TL_q (Qt_load1 rfl) rfl ?_
          refine TL_take rfl rfl h39 ?_
          refine TL_q (Qt_fieldAddr 2 rfl rfl) rfl ?_
          refine TL_take rfl rfl h39 ?_
          refine TL_q (Qt_load1 rfl) rfl ?_
          refine TL_take rfl rfl h39 ?_
          refine TL_q (Qt_str_neq rfl rfl) rfl ?_
          refine TL_q (Qt_pick_t (.bool _) rfl h39 rfl) rfl ?_
          refine TL_nil ?_
          refine X_then ?_
          refine T_cond rfl (fun h45 => ?_) (fun h45 => ?_)
          ·
            have p45 := h45
            try simp only [decide_eq_true_eq, decide_eq_false_iff_not, Bool.not_eq_true', Bool.not_eq_false', Option.isNone_iff_eq_none, ne_eq, Decidable.not_not, Int.not_lt, Int.not_le] at p45
            refine T_seq ?_
            refine T_region ?_
            refine TL_q (Qt_move (.map _) rfl) rfl ?_
            refine TL_q (Qt_fieldAddr 1 rfl rfl) rfl ?_
            refine TL_q (Qt_load1 rfl) rfl ?_
            refine TL_n (Ef_delete (key := a.name) (enc := encS) (ev := BS.val) rfl rfl Tryz.underlying103 (?_))
            refine TL_nil ?_
            refine X_then ?_
            refine T_region ?_
            refine TL_q (Qt_move (.map _) rfl) rfl ?_
            refine TL_q (Qt_fieldAddr 2 rfl rfl) rfl ?_
            refine TL_q (Qt_load1 rfl) rfl ?_
            refine TL_q (Qt_move (.slice _ _ _) rfl) rfl ?_
            refine TL_n (Ef_mapUpdate (key := a.to) (enc := encS) (ev := BS.val) (oldE es a.name) rfl rfl rfl Tryz.underlying103 (?_))
            refine TL_nil ?_
            refine X_block ?_
            have e1 : doE es a (⟨none, 0, []⟩ : BS) c = putE (delE es a.name) a.to (oldE es a.name) c := by unfold doE; rw [if_neg (by omega), if_pos (by omega), if_pos ⟨h39, by simpa using h45⟩]
            have e2 : doC es a c = clockE (delE es a.name) a.to c := by unfold doC; rw [if_neg (by omega), if_pos (by omega), if_pos ⟨h39, by simpa using h45⟩]
            have e3 : newB es a = [] := by unfold newB; rw [if_neg (by omega), if_neg (by omega)]
            exact X_ret (⟨none, 0, []⟩ : BS) [] Tryz.results344 trivial rfl (fun w hw => by rw [e1, e2]; exact St.addPure (St.nilUnder 5 (Subs.st inferInstance w hw : St w0 (blk r (mapO encS BS.val (putE (delE es a.name) a.to (oldE es a.name) c) (clockE (delE es a.name) a.to c)) :: H) w)) e3.symm)
          ·
            have p45 := h45
            try simp only [decide_eq_true_eq, decide_eq_false_iff_not, Bool.not_eq_true', Bool.not_eq_false', Option.isNone_iff_eq_none, ne_eq, Decidable.not_not, Int.not_lt, Int.not_le] at p45
            refine T_skip ?_
            refine X_block ?_
            have e1 : doE es a (⟨none, 0, []⟩ : BS) c = es := by unfold doE; rw [if_neg (by omega), if_pos (by omega), if_neg (by rintro ⟨h1, h2⟩; simp_all)]
            have e2 : doC es a c = c := by unfold doC; rw [if_neg (by omega), if_pos (by omega), if_neg (by rintro ⟨h1, h2⟩; simp_all)]
            have e3 : newB es a = [] := by unfold newB; rw [if_neg (by omega), if_neg (by omega)]
            exact X_ret (⟨none, 0, []⟩ : BS) [] Tryz.results344 trivial rfl (fun w hw => by rw [e1, e2]; exact St.addPure (St.nilUnder 5 (Subs.st inferInstance w hw : St w0 (blk r (mapO encS BS.val es c) :: H) w)) e3.symm)
        ·
          have p39 := h39
          try simp only [decide_eq_true_eq, decide_eq_false_iff_not, Bool.not_eq_true', Bool.not_eq_false', Option.isNone_iff_eq_none, ne_eq, Decidable.not_not, Int.not_lt, Int.not_le] at p39
          refine TL_pass rfl rfl h39 rfl ?_
          refine TL_pass rfl rfl h39 rfl ?_
          refine TL_pass rfl rfl h39 rfl ?_
          refine TL_pass rfl rfl h39 rfl ?_
          refine TL_pass rfl rfl h39 rfl ?_
          refine TL_q (Qt_pick_f (.bool _) rfl h39 rfl) rfl ?_
          refine TL_nil ?_
          refine X_then ?_
          refine T_cond_false rfl rfl ?_
          refine T_skip ?_
          refine X_block ?_
          have e1 : doE es a (⟨none, 0, []⟩ : BS) c = es := by unfold doE; rw [if_neg (by omega), if_pos (by omega), if_neg (by rintro ⟨h1, h2⟩; simp_all)]
          have e2 : doC es a c = c := by unfold doC; rw [if_neg (by omega), if_pos (by omega), if_neg (by rintro ⟨h1, h2⟩; simp_all)]
          have e3 : newB es a = [] := by unfold newB; rw [if_neg (by omega), if_neg (by omega)]
          exact X_ret (⟨none, 0, []⟩ : BS) [] Tryz.results344 trivial rfl (fun w hw => by rw [e1, e2]; exact St.addPure (St.nilUnder 5 (Subs.st inferInstance w hw : St w0 (blk r (mapO encS BS.val es c) :: H) w)) e3.symm)
      ·
        have p29 := h29
        try simp only [decide_eq_true_eq, decide_eq_false_iff_not, Bool.not_eq_true', Bool.not_eq_false', Option.isNone_iff_eq_none, ne_eq, Decidable.not_not, Int.not_lt, Int.not_le] at p29
        refine T_seq ?_
        refine T_region ?_
        refine TL_q (Qt_eql rfl rfl) rfl ?_
        refine TL_q (Qt_assign (.bool _) rfl) rfl ?_
        refine TL_nil ?_
        refine X_then ?_
        refine T_cond rfl (fun h53 => ?_) (fun h53 => ?_)
        ·
          have p53 := h53
          try simp only [decide_eq_true_eq, decide_eq_false_iff_not, Bool.not_eq_true', Bool.not_eq_false', Option.isNone_iff_eq_none, ne_eq, Decidable.not_not, Int.not_lt, Int.not_le] at p53
          refine T_region ?_
          refine TL_q (Qt_move (.map _) rfl) rfl ?_
          refine TL_q (Qt_fieldAddr 1 rfl rfl) rfl ?_
          refine TL_q (Qt_load1 rfl) rfl ?_
          refine TL_n (Ef_delete (key := a.name) (enc := encS) (ev := BS.val) rfl rfl Tryz.underlying103 (?_))
          refine TL_nil ?_
          refine X_block ?_
          have e1 : doE es a (⟨none, 0, []⟩ : BS) c = delE es a.name := by unfold doE; rw [if_neg (by omega), if_neg (by omega), if_pos (by omega)]
          have e2 : doC es a c = c := by unfold doC; rw [if_neg (by omega), if_neg (by omega)]
          have e3 : newB es a = [] := by unfold newB; rw [if_neg (by omega), if_neg (by omega)]
          exact X_ret (⟨none, 0, []⟩ : BS) [] Tryz.results344 trivial rfl (fun w hw => by rw [e1, e2]; exact St.addPure (St.nilUnder 5 (Subs.st inferInstance w hw : St w0 (blk r (mapO encS BS.val (delE es a.name) c) :: H) w)) e3.symm)
        ·
          have p53 := h53
          try simp only [decide_eq_true_eq, decide_eq_false_iff_not, Bool.not_eq_true', Bool.not_eq_false', Option.isNone_iff_eq_none, ne_eq, Decidable.not_not, Int.not_lt, Int.not_le] at p53
          refine T_skip ?_
          refine X_block ?_
          have e1 : doE es a (⟨none, 0, []⟩ : BS) c = es := by unfold doE; rw [if_neg (by omega), if_neg (by omega), if_neg (by omega)]
          have e2 : doC es a c = c := by unfold doC; rw [if_neg (by omega), if_neg (by omega)]
          have e3 : newB es a = [] := by unfold newB; rw [if_neg (by omega), if_neg (by omega)]
          exact X_ret (⟨none, 0, []⟩ : BS) [] Tryz.results344 trivial rfl (fun w hw => by rw [e1, e2]; exact St.addPure (St.nilUnder 5 (Subs.st inferInstance w hw : St w0 (blk r (mapO encS BS.val es c) :: H) w)) e3.symm)
end Go.Proofs.YtldnfbghjnhklaaGreatDoor
