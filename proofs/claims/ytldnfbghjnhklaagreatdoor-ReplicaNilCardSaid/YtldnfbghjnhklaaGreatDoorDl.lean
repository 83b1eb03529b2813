/- Walks: package disk: burn, fits, do, Append. -/
import Derived.Test.YtldnfbghjnhklaaGreatDoorDk
namespace Go.Proofs.YtldnfbghjnhklaaGreatDoor
open Go.RowKit Go.Sx
set_option maxRecDepth 100000
set_option linter.unusedSimpArgs false
set_option linter.unusedVariables false
/-- A disk, and where it lies. -/
structure DS where
  r1 : Nat
  r2 : Nat
  e1 : FM
  c1 : Nat
  e2 : FM
  c2 : Nat
  pa : Option Addr
  pc : Nat
  pend : List ActV
  room : Int
  fuse : Int
  down : Bool
  fp : List Nat
  bs : List BS
@[reducible] def dblk (p : Nat) (s : DS) : SA := blk p (.cells (DiskV.mk s.room (some s.r1) (some s.r2) ⟨s.pa, s.pend.length, s.pc⟩ s.fuse s.down).cells 106 (0, 0))
@[reducible] def prow (s : DS) : SA := row (.slice s.pa s.pend.length s.pc) 426 4 (s.pend.flatMap ActV.list)
@[reducible] def DS.H (p : Nat) (s : DS) (H : List SA) : List SA := dblk p s :: blk s.r1 (mapO encS BS.val s.e1 s.c1) :: blk s.r2 (mapO encS BS.val s.e2 s.c2) :: prow s :: dat s.fp ⟨s.bs, [], []⟩ :: H
structure DS.Ok (s : DS) (N M : Nat) : Prop where
  good1 : GoodM s.e1 s.c1
  good2 : GoodM s.e2 s.c2
  mem1 : ∀ e ∈ s.e1, e.v ∈ s.bs
  mem2 : ∀ e ∈ s.e2, e.v ∈ s.bs
  memp : ∀ a ∈ s.pend, a.b ∈ s.bs
  zero : zB ∈ s.bs
  len : ∀ x ∈ s.bs, x.l.length ≤ M
  short : ∀ a ∈ s.pend, a.b.l.length ≤ 100000
  n1 : s.e1.length ≤ N
  n2 : s.e2.length ≤ N
  np : s.pend.length ≤ N
  room0 : 0 ≤ s.room
  room1 : s.room ≤ 1048576
  fuse1 : s.fuse ≤ 9223372036854775807
theorem getE_memF {es : FM} {k : ByteArray} {v : BS} (h : getE es k = some v) : ∃ e ∈ es, e.k = k ∧ e.v = v := by
  simp only [getE, Option.map_eq_some_iff] at h
  obtain ⟨e, h1, h2⟩ := h
  have h3 := List.find?_some h1
  exact ⟨e, List.mem_of_find?_eq_some h1, (of_decide_eq_true h3).symm, h2⟩
theorem oldE_mem {es : FM} {bs : List BS} (h : ∀ e ∈ es, e.v ∈ bs) (hz : zB ∈ bs) (k : ByteArray) : oldE es k ∈ bs := by
  unfold oldE
  cases hg : getE es k with
  | none => exact hz
  | some v => obtain ⟨e, he, -, rfl⟩ := getE_memF hg; exact h e he
theorem sum_le (M : Nat) : ∀ es : FM, (∀ e ∈ es, e.v.l.length ≤ M) → sizeE es ≤ es.length * M
  | [], _ => by simp [sizeE]
  | e :: es, h => by
    have h1 := sum_le M es (fun x hx => h x (by simp [hx]))
    have h2 := h e (by simp)
    simp only [sizeE, List.map_cons, List.sum_cons, List.length_cons] at h1 ⊢
    rw [Nat.add_mul, Nat.one_mul]; omega
theorem DS.Ok.size {s : DS} {N M : Nat} (h : s.Ok N M) (hN : N ≤ 1000000) (hM : M ≤ 2000000000) : sizeE s.e2 ≤ 4000000000000000 := by
  have h1 := sum_le M s.e2 (fun e he => h.len _ (h.mem2 e he))
  have h2 := Nat.mul_le_mul h.n2 (Nat.le_refl M)
  have h3 : N * M ≤ 1000000 * 2000000000 := Nat.mul_le_mul hN hM
  omega
def burnF (fuse : Int) : Int := if 0 < fuse then fuse - 1 else fuse
def burnD (fuse : Int) (down : Bool) : Bool := if fuse = 0 then true else down
/-- What a thing that is done leaves, and its error. -/
def DoR (s : DS) (a : ActV) (s' : DS) (e : Int) : Prop :=
  (burnD s.fuse s.down = true ∧ e = 14 ∧ s' = { s with fuse := burnF s.fuse, down := true }) ∨
  (burnD s.fuse s.down = false ∧ e = 0 ∧ ∃ (x : BS) (pa : Option Addr) (pc : Nat) (fp : List Nat), x.l = newB s.e2 a ∧ s' = { s with fuse := burnF s.fuse, down := false, e2 := doE s.e2 a x s.c2, c2 := doC s.e2 a s.c2, pend := s.pend ++ [a], pa := pa, pc := pc, fp := fp, bs := x :: s.bs })
theorem St.datCons {w0 w : World} {H : List SA} {x : BS} {fp : List Nat} {bs : List BS} {e : TypeId} (h : St w0 (row (.slice x.a x.l.length x.c) e 1 (bytesV x.l) :: dat fp ⟨bs, [], []⟩ :: H) w) : St w0 (dat (rowFp (.slice x.a x.l.length x.c) ++ fp) ⟨x :: bs, [], []⟩ :: H) w :=
  h.datB.datAdd

set_option maxHeartbeats 1000000 in
theorem burn_c {w0 : World} {H : List SA} {p : Nat} {room : Int} {sy nw : Option Nat} {pe : Sl} {fuse : Int} {down : Bool} (hf : fuse ≤ 9223372036854775807) :
    CT Tryz.prog w0 (blk p (.cells (DiskV.mk room sy nw pe fuse down).cells 106 (0, 0)) :: H) 307 [.pointer (some ⟨p, 0, none⟩)] (α := Unit) (fun _ => .bool (!burnD fuse down)) (fun _ => blk p (.cells (DiskV.mk room sy nw pe (burnF fuse) (burnD fuse down)).cells 106 (0, 0)) :: H) := by
  refine CT_intro Tryz.func307 rfl Tryz.ntmps307 rfl ?_
  refine T_seq ?_
  refine T_region ?_
  refine TL_q (Qt_assign (.bool _) rfl) rfl ?_
  refine TL_nil ?_
  refine X_then ?_
  refine T_seq ?_
  refine T_seq ?_
  refine T_region ?_
  refine TL_q (Qt_move (.pointer _) rfl) rfl ?_
  refine TL_q (Qt_nilCheck rfl) rfl ?_
  refine TL_q (Qt_fieldAddr 4 rfl rfl) rfl ?_
  refine TL_q (Qt_load1 rfl) rfl ?_
  refine TL_q (Qt_eql rfl rfl) rfl ?_
  refine TL_nil ?_
  refine X_then ?_
  refine T_cond rfl (fun h7 => ?_) (fun h7 => ?_)
  ·
    have p7 := h7
    try simp only [decide_eq_true_eq, decide_eq_false_iff_not, Bool.not_eq_true', Bool.not_eq_false', Option.isNone_iff_eq_none, ne_eq, Decidable.not_not, Int.not_lt, Int.not_le] at p7
    refine T_region ?_
    refine TL_q (Qt_move (.pointer _) rfl) rfl ?_
    refine TL_q (Qt_nilCheck rfl) rfl ?_
    refine TL_q (Qt_fieldAddr 5 rfl rfl) rfl ?_
    refine TL_n (Ef_store1 (.bool _) rfl rfl (?_))
    refine TL_nil ?_
    refine X_then ?_
    refine T_seq ?_
    refine T_seq ?_
    refine T_region ?_
    refine TL_q (Qt_move (.pointer _) rfl) rfl ?_
    refine TL_q (Qt_nilCheck rfl) rfl ?_
    refine TL_q (Qt_fieldAddr 4 rfl rfl) rfl ?_
    refine TL_q (Qt_load1 rfl) rfl ?_
    refine TL_q (Qt_gtr rfl rfl) rfl ?_
    refine TL_nil ?_
    refine X_then ?_
    refine T_cond rfl (fun h15 => ?_) (fun h15 => ?_)
    ·
      have p15 := h15
      try simp only [decide_eq_true_eq, decide_eq_false_iff_not, Bool.not_eq_true', Bool.not_eq_false', Option.isNone_iff_eq_none, ne_eq, Decidable.not_not, Int.not_lt, Int.not_le] at p15
      refine T_region ?_
      refine TL_q (Qt_move (.pointer _) rfl) rfl ?_
      refine TL_q (Qt_nilCheck rfl) rfl ?_
      refine TL_q (Qt_fieldAddr 4 rfl rfl) rfl ?_
      refine TL_q (Qt_load1 rfl) rfl ?_
      first
        | refine TL_q (Qt_sub rfl rfl (by omega) (by omega)) rfl ?_
        | refine TL_q (Qt_subw rfl rfl) rfl ?_
      refine TL_q (Qt_nilCheck rfl) rfl ?_
      refine TL_q (Qt_fieldAddr 4 rfl rfl) rfl ?_
      refine TL_n (Ef_store1 (.int .i64 _) rfl rfl (?_))
      refine TL_nil ?_
      refine X_then ?_
      refine T_seq ?_
      refine T_region ?_
      refine TL_q (Qt_move (.pointer _) rfl) rfl ?_
      refine TL_q (Qt_nilCheck rfl) rfl ?_
      refine TL_q (Qt_fieldAddr 5 rfl rfl) rfl ?_
      refine TL_q (Qt_load1 rfl) rfl ?_
      refine TL_q (Qt_not rfl) rfl ?_
      refine TL_q (Qt_assign (.bool _) rfl) rfl ?_
      refine TL_nil ?_
      refine X_then ?_
      refine T_ret ?_
      exfalso; omega
    ·
      have p15 := h15
      try simp only [decide_eq_true_eq, decide_eq_false_iff_not, Bool.not_eq_true', Bool.not_eq_false', Option.isNone_iff_eq_none, ne_eq, Decidable.not_not, Int.not_lt, Int.not_le] at p15
      refine T_skip ?_
      refine X_then ?_
      refine T_seq ?_
      refine T_region ?_
      refine TL_q (Qt_move (.pointer _) rfl) rfl ?_
      refine TL_q (Qt_nilCheck rfl) rfl ?_
      refine TL_q (Qt_fieldAddr 5 rfl rfl) rfl ?_
      refine TL_q (Qt_load1 rfl) rfl ?_
      refine TL_q (Qt_not rfl) rfl ?_
      refine TL_q (Qt_assign (.bool _) rfl) rfl ?_
      refine TL_nil ?_
      refine X_then ?_
      refine T_ret ?_
      have e1 : burnF fuse = fuse := by unfold burnF; rw [if_neg (by omega)]
      have e2 : burnD fuse down = true := by unfold burnD; rw [if_pos (by omega)]
      exact X_ret () [_] Tryz.results307 ⟨rfl, trivial⟩ (by rw [e2]; rfl) (fun w hw => by rw [e1, e2]; exact Subs.st inferInstance w hw)
  ·
    have p7 := h7
    try simp only [decide_eq_true_eq, decide_eq_false_iff_not, Bool.not_eq_true', Bool.not_eq_false', Option.isNone_iff_eq_none, ne_eq, Decidable.not_not, Int.not_lt, Int.not_le] at p7
    refine T_skip ?_
    refine X_then ?_
    refine T_seq ?_
    refine T_seq ?_
    refine T_region ?_
    refine TL_q (Qt_move (.pointer _) rfl) rfl ?_
    refine TL_q (Qt_nilCheck rfl) rfl ?_
    refine TL_q (Qt_fieldAddr 4 rfl rfl) rfl ?_
    refine TL_q (Qt_load1 rfl) rfl ?_
    refine TL_q (Qt_gtr rfl rfl) rfl ?_
    refine TL_nil ?_
    refine X_then ?_
    refine T_cond rfl (fun h15 => ?_) (fun h15 => ?_)
    ·
      have p15 := h15
      try simp only [decide_eq_true_eq, decide_eq_false_iff_not, Bool.not_eq_true', Bool.not_eq_false', Option.isNone_iff_eq_none, ne_eq, Decidable.not_not, Int.not_lt, Int.not_le] at p15
      refine T_region ?_
      refine TL_q (Qt_move (.pointer _) rfl) rfl ?_
      refine TL_q (Qt_nilCheck rfl) rfl ?_
      refine TL_q (Qt_fieldAddr 4 rfl rfl) rfl ?_
      refine TL_q (Qt_load1 rfl) rfl ?_
      first
        | refine TL_q (Qt_sub rfl rfl (by omega) (by omega)) rfl ?_
        | refine TL_q (Qt_subw rfl rfl) rfl ?_
      refine TL_q (Qt_nilCheck rfl) rfl ?_
      refine TL_q (Qt_fieldAddr 4 rfl rfl) rfl ?_
      refine TL_n (Ef_store1 (.int .i64 _) rfl rfl (?_))
      refine TL_nil ?_
      refine X_then ?_
      refine T_seq ?_
      refine T_region ?_
      refine TL_q (Qt_move (.pointer _) rfl) rfl ?_
      refine TL_q (Qt_nilCheck rfl) rfl ?_
      refine TL_q (Qt_fieldAddr 5 rfl rfl) rfl ?_
      refine TL_q (Qt_load1 rfl) rfl ?_
      refine TL_q (Qt_not rfl) rfl ?_
      refine TL_q (Qt_assign (.bool _) rfl) rfl ?_
      refine TL_nil ?_
      refine X_then ?_
      refine T_ret ?_
      have e1 : burnF fuse = fuse - 1 := by unfold burnF; rw [if_pos (by omega)]
      have e2 : burnD fuse down = down := by unfold burnD; rw [if_neg (by omega)]
      exact X_ret () [_] Tryz.results307 ⟨rfl, trivial⟩ (by rw [e2]; rfl) (fun w hw => by rw [e1, e2]; exact Subs.st inferInstance w hw)
    ·
      have p15 := h15
      try simp only [decide_eq_true_eq, decide_eq_false_iff_not, Bool.not_eq_true', Bool.not_eq_false', Option.isNone_iff_eq_none, ne_eq, Decidable.not_not, Int.not_lt, Int.not_le] at p15
      refine T_skip ?_
      refine X_then ?_
      refine T_seq ?_
      refine T_region ?_
      refine TL_q (Qt_move (.pointer _) rfl) rfl ?_
      refine TL_q (Qt_nilCheck rfl) rfl ?_
      refine TL_q (Qt_fieldAddr 5 rfl rfl) rfl ?_
      refine TL_q (Qt_load1 rfl) rfl ?_
      refine TL_q (Qt_not rfl) rfl ?_
      refine TL_q (Qt_assign (.bool _) rfl) rfl ?_
      refine TL_nil ?_
      refine X_then ?_
      refine T_ret ?_
      have e1 : burnF fuse = fuse := by unfold burnF; rw [if_neg (by omega)]
      have e2 : burnD fuse down = down := by unfold burnD; rw [if_neg (by omega)]
      exact X_ret () [_] Tryz.results307 ⟨rfl, trivial⟩ (by rw [e2]; rfl) (fun w hw => by rw [e1, e2]; exact Subs.st inferInstance w hw)
def fitsB (room : Int) (es : FM) (more less : Int) : Bool := decide (more ≤ room - (sizeE es : Int) + less)
set_option maxHeartbeats 1000000 in
theorem fits_c {w0 : World} {H : List SA} {p r c : Nat} {es : FM} {room : Int} {sy : Option Nat} {pe : Sl} {fuse : Int} {down : Bool} {more less : Int} (hg : GoodM es c) (hs : sizeE es ≤ 4000000000000000) (h1 : 0 ≤ room ∧ room ≤ 1048576) (h2 : 0 ≤ less ∧ less ≤ 4294967296) :
    CT Tryz.prog w0 (blk p (.cells (DiskV.mk room sy (some r) pe fuse down).cells 106 (0, 0)) :: blk r (mapO encS BS.val es c) :: H) 305 [.pointer (some ⟨p, 0, none⟩), .int .i64 more, .int .i64 less] (α := Unit) (fun _ => .bool (fitsB room es more less)) (fun _ => blk p (.cells (DiskV.mk room sy (some r) pe fuse down).cells 106 (0, 0)) :: blk r (mapO encS BS.val es c) :: H) := by
  refine CT_intro Tryz.func305 rfl Tryz.ntmps305 rfl ?_
  refine T_seq ?_
  refine T_region ?_
  refine TL_q (Qt_assign (.bool _) rfl) rfl ?_
  refine TL_nil ?_
  refine X_then ?_
  refine T_seq ?_
  refine T_draw (blk p (.cells (DiskV.mk room sy (some r) pe fuse down).cells 106 (0, 0)) :: blk r (mapO encS BS.val es c) :: H) [(0, true), (1, true), (2, true), (3, true), (4, true), (5, true), (6, true), (7, true), (8, true), (11, true), (9, false), (10, true), (12, true), (13, true), (14, true)] (by kernel_rfl) (by kernel_rfl) rfl (by kernel_rfl) (Subs.st inferInstance) (fun hns0 => ?_)
  refine DL_q hns0 rfl (Qt_move (.int .i64 _) rfl) rfl ?_
  refine DL_q hns0 rfl (Qt_move (.pointer _) rfl) rfl ?_
  refine DL_q hns0 rfl (Qt_nilCheck rfl) rfl ?_
  refine DL_q hns0 rfl (Qt_fieldAddr 0 rfl rfl) rfl ?_
  refine DL_q hns0 rfl (Qt_load1 rfl) rfl ?_
  refine DL_q hns0 rfl (Qt_move (.pointer _) rfl) rfl ?_
  refine DL_q hns0 rfl (Qt_nilCheck rfl) rfl ?_
  refine DL_q hns0 rfl (Qt_fieldAddr 2 rfl rfl) rfl ?_
  refine DL_q hns0 rfl (Qt_load1 rfl) rfl ?_
  refine DL_q hns0 rfl (Qt_move (.int .i64 _) rfl) rfl ?_
  refine DL_frontB r ?_
  refine DL_e rfl rfl (Ef_call (fsize_c hg hs) rfl (fun x16 => ⟨(Subs.st inferInstance), ?_⟩))
  first
    | refine DL_q hns0 rfl (Qt_sub rfl rfl (by omega) (by omega)) rfl ?_
    | refine DL_q hns0 rfl (Qt_subw rfl rfl) rfl ?_
  first
    | refine DL_q hns0 rfl (Qt_add rfl rfl (by omega) (by omega)) rfl ?_
    | refine DL_q hns0 rfl (Qt_addw rfl rfl) rfl ?_
  refine DL_q hns0 rfl (Qt_leq rfl rfl) rfl ?_
  refine DL_q hns0 rfl (Qt_assign (.bool _) rfl) rfl ?_
  refine DL_nil ?_
  refine X_then ?_
  refine T_ret ?_
  exact X_ret () [_] Tryz.results305 ⟨rfl, trivial⟩ rfl (Subs.st inferInstance)
theorem ddo_end {w0 w : World} {H : List SA} {p b3 : Nat} {s : DS} {a : ActV} {x13 : BS} {a20 a21 : Option Addr} {c20 c21 : Nat}
    (h : St w0 (blk p (.cells (DiskV.mk s.room (some s.r1) (some s.r2) ⟨a21, (s.pend ++ [a]).length, c21⟩ (burnF s.fuse) false).cells 106 (0, 0)) :: row (.slice a21 (s.pend ++ [a]).length c21) 426 4 ((s.pend ++ [a]).flatMap ActV.list) :: row (.slice a20 1 c20) 426 4 (([a] : List ActV).flatMap ActV.list) :: blk s.r2 (mapO encS BS.val (doE s.e2 a x13 s.c2) (doC s.e2 a s.c2)) :: row (.slice x13.a x13.l.length x13.c) 5 1 (bytesV x13.l) :: blk b3 (.cells a.cells 426 (0, 0)) :: blk s.r1 (mapO encS BS.val s.e1 s.c1) :: dat s.fp ⟨s.bs, [], []⟩ :: H) w) :
    St w0 (DS.H p { s with fuse := burnF s.fuse, down := false, e2 := doE s.e2 a x13 s.c2, c2 := doC s.e2 a s.c2, pend := s.pend ++ [a], pa := a21, pc := c21, fp := rowFp (.slice x13.a x13.l.length x13.c) ++ s.fp, bs := x13 :: s.bs } H) w := by
  have h1 : St w0 (row (.slice x13.a x13.l.length x13.c) 5 1 (bytesV x13.l) :: dat s.fp ⟨s.bs, [], []⟩ :: blk p (.cells (DiskV.mk s.room (some s.r1) (some s.r2) ⟨a21, (s.pend ++ [a]).length, c21⟩ (burnF s.fuse) false).cells 106 (0, 0)) :: blk s.r1 (mapO encS BS.val s.e1 s.c1) :: blk s.r2 (mapO encS BS.val (doE s.e2 a x13 s.c2) (doC s.e2 a s.c2)) :: row (.slice a21 (s.pend ++ [a]).length c21) 426 4 ((s.pend ++ [a]).flatMap ActV.list) :: H) w := Subs.st inferInstance w h
  have h2 := St.datCons h1
  exact Subs.st (H := dat (rowFp (.slice x13.a x13.l.length x13.c) ++ s.fp) ⟨x13 :: s.bs, [], []⟩ :: blk p (.cells (DiskV.mk s.room (some s.r1) (some s.r2) ⟨a21, (s.pend ++ [a]).length, c21⟩ (burnF s.fuse) false).cells 106 (0, 0)) :: blk s.r1 (mapO encS BS.val s.e1 s.c1) :: blk s.r2 (mapO encS BS.val (doE s.e2 a x13 s.c2) (doC s.e2 a s.c2)) :: row (.slice a21 (s.pend ++ [a]).length c21) 426 4 ((s.pend ++ [a]).flatMap ActV.list) :: H) inferInstance w h2
set_option maxHeartbeats 1000000 in
theorem ddo_c {w0 : World} {H : List SA} {p : Nat} {s : DS} {N M : Nat} (hok : s.Ok N M) (hN : N ≤ 1000000) (hM : M ≤ 2000000000) {a : ActV} (ha : a.b ∈ s.bs) :
    CT Tryz.prog w0 (DS.H p s H) 306 [.pointer (some ⟨p, 0, none⟩), .agg a.cells] (α := DS × Int) (fun y => .int .i64 y.2) (fun y => pu (DoR s a y.1 y.2) :: DS.H p y.1 H) := by
  refine CT_intro Tryz.func306 rfl Tryz.ntmps306 rfl ?_
  refine T_seq ?_
  refine T_region ?_
  refine TL_e rfl (Ef_boxN rfl (fun b3 => ?_))
  refine TL_q (Qt_assign (.int .i64 _) rfl) rfl ?_
  refine TL_nil ?_
  refine X_then ?_
  refine T_seq ?_
  refine T_seq ?_
  refine T_region ?_
  refine TL_q (Qt_move (.pointer _) rfl) rfl ?_
  refine TL_frontB p ?_
  refine TL_e rfl (Ef_call (burn_c hok.fuse1) rfl (fun x6 => ?_))
  refine TL_q (Qt_not rfl) rfl ?_
  refine TL_nil ?_
  refine X_then ?_
  refine T_cond rfl (fun h7 => ?_) (fun h7 => ?_)
  ·
    have p7 := h7
    try simp only [decide_eq_true_eq, decide_eq_false_iff_not, Bool.not_eq_true', Bool.not_eq_false', Option.isNone_iff_eq_none, ne_eq, Decidable.not_not, Int.not_lt, Int.not_le] at p7
    refine T_seq ?_
    refine T_region ?_
    refine TL_q (Qt_assign (.int .i64 _) rfl) rfl ?_
    refine TL_nil ?_
    refine X_then ?_
    refine T_ret ?_
    refine X_then_ret ?_
    have hbd : burnD s.fuse s.down = true := by simpa using h7
    rw [hbd]
    exact X_ret ({ s with fuse := burnF s.fuse, down := true }, 14) [_] Tryz.results306 ⟨rfl, trivial⟩ rfl (fun w hw => St.addPure (Subs.st inferInstance w hw) (.inl ⟨hbd, rfl, rfl⟩))
  ·
    have p7 := h7
    try simp only [decide_eq_true_eq, decide_eq_false_iff_not, Bool.not_eq_true', Bool.not_eq_false', Option.isNone_iff_eq_none, ne_eq, Decidable.not_not, Int.not_lt, Int.not_le] at p7
    have hbd : burnD s.fuse s.down = false := by simpa using h7
    rw [hbd]
    refine T_skip ?_
    refine X_then ?_
    refine T_seq ?_
    refine T_draw (blk b3 (.cells a.cells 426 (0, 0)) :: dblk p { s with fuse := burnF s.fuse, down := false } :: H) [(0, true), (1, true), (2, true), (3, true), (4, true), (5, false)] (by kernel_rfl) (by kernel_rfl) rfl (by kernel_rfl) (Subs.st inferInstance) (fun hns0 => ?_)
    refine DL_q hns0 rfl (Qt_move (.pointer _) rfl) rfl ?_
    refine DL_q hns0 rfl (Qt_nilCheck rfl) rfl ?_
    refine DL_q hns0 rfl (Qt_fieldAddr 2 rfl rfl) rfl ?_
    refine DL_q hns0 rfl (Qt_load1 rfl) rfl ?_
    refine DL_q hns0 rfl (Qt_loadN rfl rfl) rfl ?_
    refine DL_frontB s.r2 ?_
    refine DL_e rfl rfl (Ef_call (fdo_c (r := s.r2) (es := s.e2) (c := s.c2) (a := a) (ro := RdE.get (ls := s.bs) inferInstance (oldE_mem hok.mem2 hok.zero _)) (rb := RdE.get (ls := s.bs) inferInstance ha) (by have h1 := hok.len _ (oldE_mem hok.mem2 hok.zero a.name); have h2 := hok.len _ ha; omega)) rfl (fun x13 => ⟨(Subs.st inferInstance), ?_⟩))
    refine DL_pure (fun hx => ?_)
    refine DL_nil ?_
    refine X_then ?_
    refine T_seq ?_
    refine T_drawF (blk b3 (.cells a.cells 426 (0, 0)) :: H) (by kernel_rfl) (Subs.st inferInstance) ?_
    refine DLF_q (i := 0) (by kernel_rfl) rfl (by kernel_rfl) (by kernel_rfl) (Qt_move (.pointer _) rfl) rfl ?_
    refine DLF_q (i := 1) (by kernel_rfl) rfl (by kernel_rfl) (by kernel_rfl) (Qt_move (.pointer _) rfl) rfl ?_
    refine DLF_q (i := 2) (by kernel_rfl) rfl (by kernel_rfl) (by kernel_rfl) (Qt_nilCheck rfl) rfl ?_
    refine DLF_q (i := 3) (by kernel_rfl) rfl (by kernel_rfl) (by kernel_rfl) (Qt_fieldAddr 3 rfl rfl) rfl ?_
    refine DLF_q (i := 5) (by kernel_rfl) rfl (by kernel_rfl) (by kernel_rfl) (Qt_loadN rfl rfl) rfl ?_
    refine DLF_2 (i := 4) (j := 6) (by kernel_rfl) ?_ ?_
    ·
      refine DLS_e rfl rfl (Ef_of_Qt (Qt_load1 rfl) ⟨(Subs.st inferInstance), ?_⟩)
      refine DLF_1 (i := 6) (by kernel_rfl) ?_
      refine DLS_e rfl rfl (Ef_sliceN (m := ([a] : List ActV).length) [.agg a.cells] (([a] : List ActV).flatMap ActV.list) rfl rfl rfl rfl (by simp [Value.cells, ActV.size]) rfl rfl (fun a20 c20 => ⟨(Subs.st inferInstance), ?_⟩))
      refine DLF_1 (i := 7) (by kernel_rfl) ?_
      refine DLS_e rfl rfl (Ef_appendS ActV.list (sv := .slice _ _ _) (xv := .slice _ _ _) (xs := s.pend) (ys := [a]) ActV.list_len ActV.list_one rfl rfl (by have := hok.np; simp; omega) rfl rfl (fun a21 c21 => ⟨(Subs.st inferInstance), ?_⟩))
      refine DLF_q (i := 8) (by kernel_rfl) rfl (by kernel_rfl) (by kernel_rfl) (Qt_nilCheck rfl) rfl ?_
      refine DLF_q (i := 9) (by kernel_rfl) rfl (by kernel_rfl) (by kernel_rfl) (Qt_fieldAddr 3 rfl rfl) rfl ?_
      refine DLF_1 (i := 10) (by kernel_rfl) ?_
      refine DLS_n rfl (Ef_store1 (.slice _ _ _) rfl rfl (⟨(Subs.st inferInstance), ?_⟩))
      refine DLF_nil (by kernel_rfl) ?_
      refine X_then ?_
      refine T_seq ?_
      refine T_region ?_
      refine TL_q (Qt_assign (.int .i64 _) rfl) rfl ?_
      refine TL_nil ?_
      refine X_then ?_
      refine T_ret ?_
      refine X_ret ({ s with fuse := burnF s.fuse, down := false, e2 := doE s.e2 a x13 s.c2, c2 := doC s.e2 a s.c2, pend := s.pend ++ [a], pa := a21, pc := c21, fp := rowFp (.slice x13.a x13.l.length x13.c) ++ s.fp, bs := x13 :: s.bs }, 0) [_] Tryz.results306 ⟨rfl, trivial⟩ rfl (fun w hw => St.addPure ?_ (.inr ⟨hbd, rfl, x13, a21, c21, _, hx, rfl⟩))
      exact ddo_end hw
    ·
      refine DLS_e rfl rfl (Ef_sliceN (m := ([a] : List ActV).length) [.agg a.cells] (([a] : List ActV).flatMap ActV.list) rfl rfl rfl rfl (by simp [Value.cells, ActV.size]) rfl rfl (fun a20 c20 => ⟨(Subs.st inferInstance), ?_⟩))
      refine DLF_1 (i := 4) (by kernel_rfl) ?_
      refine DLS_e rfl rfl (Ef_of_Qt (Qt_load1 rfl) ⟨(Subs.st inferInstance), ?_⟩)
      refine DLF_1 (i := 7) (by kernel_rfl) ?_
      refine DLS_e rfl rfl (Ef_appendS ActV.list (sv := .slice _ _ _) (xv := .slice _ _ _) (xs := s.pend) (ys := [a]) ActV.list_len ActV.list_one rfl rfl (by have := hok.np; simp; omega) rfl rfl (fun a21 c21 => ⟨(Subs.st inferInstance), ?_⟩))
      refine DLF_q (i := 8) (by kernel_rfl) rfl (by kernel_rfl) (by kernel_rfl) (Qt_nilCheck rfl) rfl ?_
      refine DLF_q (i := 9) (by kernel_rfl) rfl (by kernel_rfl) (by kernel_rfl) (Qt_fieldAddr 3 rfl rfl) rfl ?_
      refine DLF_1 (i := 10) (by kernel_rfl) ?_
      refine DLS_n rfl (Ef_store1 (.slice _ _ _) rfl rfl (⟨(Subs.st inferInstance), ?_⟩))
      refine DLF_nil (by kernel_rfl) ?_
      refine X_then ?_
      refine T_seq ?_
      refine T_region ?_
      refine TL_q (Qt_assign (.int .i64 _) rfl) rfl ?_
      refine TL_nil ?_
      refine X_then ?_
      refine T_ret ?_
      refine X_ret ({ s with fuse := burnF s.fuse, down := false, e2 := doE s.e2 a x13 s.c2, c2 := doC s.e2 a s.c2, pend := s.pend ++ [a], pa := a21, pc := c21, fp := rowFp (.slice x13.a x13.l.length x13.c) ++ s.fp, bs := x13 :: s.bs }, 0) [_] Tryz.results306 ⟨rfl, trivial⟩ rfl (fun w hw => St.addPure ?_ (.inr ⟨hbd, rfl, x13, a21, c21, _, hx, rfl⟩))
      exact ddo_end hw
end Go.Proofs.YtldnfbghjnhklaaGreatDoor
