/- Walks: package disk: Append, Write, Rename, Delete, Sync, Read, Pending, New. -/
import Derived.Test.YtldnfbghjnhklaaGreatDoorDl
namespace Go.Proofs.YtldnfbghjnhklaaGreatDoor
open Go.RowKit Go.Sx
set_option maxRecDepth 100000
set_option linter.unusedSimpArgs false
set_option linter.unusedVariables false
theorem DS.addB {w0 w : World} {H : List SA} {p : Nat} {s : DS} {x : BS} {e : TypeId} (h : St w0 (row (.slice x.a x.l.length x.c) e 1 (bytesV x.l) :: DS.H p s H) w) : St w0 (DS.H p { s with fp := rowFp (.slice x.a x.l.length x.c) ++ s.fp, bs := x :: s.bs } H) w := by
  have h1 : St w0 (row (.slice x.a x.l.length x.c) e 1 (bytesV x.l) :: dat s.fp ⟨s.bs, [], []⟩ :: dblk p s :: blk s.r1 (mapO encS BS.val s.e1 s.c1) :: blk s.r2 (mapO encS BS.val s.e2 s.c2) :: prow s :: H) w := Subs.st inferInstance w h
  have h2 := St.datCons h1
  exact Subs.st (H := dat (rowFp (.slice x.a x.l.length x.c) ++ s.fp) ⟨x :: s.bs, [], []⟩ :: dblk p s :: blk s.r1 (mapO encS BS.val s.e1 s.c1) :: blk s.r2 (mapO encS BS.val s.e2 s.c2) :: prow s :: H) inferInstance w h2
theorem DS.Ok.addB {s : DS} {N M : Nat} (h : s.Ok N M) {x : BS} {fp : List Nat} (hx : x.l.length ≤ M) : ({ s with fp := fp, bs := x :: s.bs } : DS).Ok N M :=
  ⟨h.good1, h.good2, fun e he => List.mem_cons_of_mem _ (h.mem1 e he), fun e he => List.mem_cons_of_mem _ (h.mem2 e he), fun a ha => List.mem_cons_of_mem _ (h.memp a ha), List.mem_cons_of_mem _ h.zero,
    fun y hy => by rcases List.mem_cons.1 hy with rfl | hy; exact hx; exact h.len y hy, h.short, h.n1, h.n2, h.np, h.room0, h.room1, h.fuse1⟩
def AppR (k : Int) (less : Nat) (s : DS) (nm : ByteArray) (b : List UInt8) (s' : DS) (e : Int) : Prop :=
  (s.down = true ∧ e = 14 ∧ s' = s) ∨ (s.down = false ∧ namedB nm = false ∧ e = 15 ∧ s' = s) ∨ (s.down = false ∧ namedB nm = true ∧ fitsB s.room s.e2 b.length less = false ∧ e = 4 ∧ s' = s) ∨
  (s.down = false ∧ namedB nm = true ∧ fitsB s.room s.e2 b.length less = true ∧ ∃ (cl : BS) (fp : List Nat), cl.l = b ∧ DoR { s with fp := fp, bs := cl :: s.bs } ⟨k, nm, ⟨#[]⟩, cl⟩ s' e)
def MvR (a : ActV) (ok : Bool) (s : DS) (s' : DS) (e : Int) : Prop :=
  (s.down = true ∧ e = 14 ∧ s' = s) ∨ (s.down = false ∧ ok = false ∧ e = 15 ∧ s' = s) ∨ (s.down = false ∧ ok = true ∧ hasE s.e2 a.name = false ∧ e = 13 ∧ s' = s) ∨ (s.down = false ∧ ok = true ∧ hasE s.e2 a.name = true ∧ DoR s a s' e)
def SyncR (s s' : DS) : Prop :=
  (burnD s.fuse s.down = true ∧ s' = { s with fuse := burnF s.fuse, down := true }) ∨
  (burnD s.fuse s.down = false ∧ ∃ q1 q2 : Nat, s' = { s with fuse := burnF s.fuse, down := false, r1 := q1, r2 := q2, e1 := s.e2, c1 := s.c2, pend := [], pa := none, pc := 0 })

set_option maxHeartbeats 1000000 in
theorem append_c {w0 : World} {H : List SA} {p : Nat} {s : DS} {N M : Nat} (hok : s.Ok N M) (hN : N ≤ 1000000) (hM : M ≤ 2000000000) {nm : ByteArray} {b : BS} (hb : b.l.length ≤ 100000) (hbM : b.l.length ≤ M) [rb : RdB w0 H (.slice b.a b.l.length b.c) b.l] :
    CT Tryz.prog w0 (DS.H p s H) 274 [.pointer (some ⟨p, 0, none⟩), .string nm, .slice b.a b.l.length b.c] (α := DS × Int) (fun y => .int .i64 y.2) (fun y => pu (AppR 1 0 s nm b.l y.1 y.2) :: DS.H p y.1 H) := by
  refine CT_intro Tryz.func274 rfl Tryz.ntmps274 rfl ?_
  refine T_seq ?_
  refine T_region ?_
  refine TL_q (Qt_assign (.int .i64 _) rfl) rfl ?_
  refine TL_nil ?_
  refine X_then ?_
  refine T_seq ?_
  refine T_block ?_
  refine T_seq ?_
  refine T_region ?_
  refine TL_q (Qt_move (.pointer _) rfl) rfl ?_
  refine TL_q (Qt_ptr_nil rfl rfl Tryz.underlying63) rfl ?_
  refine TL_q (Qt_assign (.bool _) rfl) rfl ?_
  refine TL_nil ?_
  refine X_then ?_
  refine T_cond rfl (fun h7 => ?_) (fun h7 => ?_)
  ·
    have p7 := h7
    try simp only [decide_eq_true_eq, decide_eq_false_iff_not, Bool.not_eq_true', Bool.not_eq_false', Option.isNone_iff_eq_none, ne_eq, Decidable.not_not, Int.not_lt, Int.not_le] at p7
    cases h7
  ·
    have p7 := h7
    try simp only [decide_eq_true_eq, decide_eq_false_iff_not, Bool.not_eq_true', Bool.not_eq_false', Option.isNone_iff_eq_none, ne_eq, Decidable.not_not, Int.not_lt, Int.not_le] at p7
    refine T_seq ?_
    refine T_region ?_
    refine TL_q (Qt_move (.pointer _) rfl) rfl ?_
    refine TL_q (Qt_nilCheck rfl) rfl ?_
    refine TL_q (Qt_fieldAddr 5 rfl rfl) rfl ?_
    refine TL_q (Qt_load1 rfl) rfl ?_
    refine TL_q (Qt_assign (.bool _) rfl) rfl ?_
    refine TL_nil ?_
    refine X_then ?_
    refine T_cond rfl (fun h10 => ?_) (fun h10 => ?_)
    ·
      have p10 := h10
      try simp only [decide_eq_true_eq, decide_eq_false_iff_not, Bool.not_eq_true', Bool.not_eq_false', Option.isNone_iff_eq_none, ne_eq, Decidable.not_not, Int.not_lt, Int.not_le] at p10
      refine T_seq ?_
      refine T_region ?_
      refine TL_q (Qt_assign (.int .i64 _) rfl) rfl ?_
      refine TL_nil ?_
      refine X_then ?_
      refine T_ret ?_
      refine X_block_ret ?_
      refine X_then_ret ?_
      exact X_ret (s, 14) [_] Tryz.results274 ⟨rfl, trivial⟩ rfl (fun w hw => St.addPure (Subs.st inferInstance w hw) (.inl ⟨h10, rfl, rfl⟩))
    ·
      have p10 := h10
      try simp only [decide_eq_true_eq, decide_eq_false_iff_not, Bool.not_eq_true', Bool.not_eq_false', Option.isNone_iff_eq_none, ne_eq, Decidable.not_not, Int.not_lt, Int.not_le] at p10
      refine T_seq ?_
      refine T_region ?_
      refine TL_q (Qt_move (.string _) rfl) rfl ?_
      refine TL_e rfl (Ef_call (named_c) rfl (fun x17 => ?_))
      refine TL_q (Qt_not rfl) rfl ?_
      refine TL_q (Qt_assign (.bool _) rfl) rfl ?_
      refine TL_nil ?_
      refine X_then ?_
      refine T_cond rfl (fun h15 => ?_) (fun h15 => ?_)
      ·
        have p15 := h15
        try simp only [decide_eq_true_eq, decide_eq_false_iff_not, Bool.not_eq_true', Bool.not_eq_false', Option.isNone_iff_eq_none, ne_eq, Decidable.not_not, Int.not_lt, Int.not_le] at p15
        refine T_seq ?_
        refine T_region ?_
        refine TL_q (Qt_assign (.int .i64 _) rfl) rfl ?_
        refine TL_nil ?_
        refine X_then ?_
        refine T_ret ?_
        refine X_block_ret ?_
        refine X_then_ret ?_
        exact X_ret (s, 15) [_] Tryz.results274 ⟨rfl, trivial⟩ rfl (fun w hw => St.addPure (Subs.st inferInstance w hw) (.inr (.inl ⟨h10, by simpa using h15, rfl, rfl⟩)))
      ·
        have p15 := h15
        try simp only [decide_eq_true_eq, decide_eq_false_iff_not, Bool.not_eq_true', Bool.not_eq_false', Option.isNone_iff_eq_none, ne_eq, Decidable.not_not, Int.not_lt, Int.not_le] at p15
        refine T_seq ?_
        refine T_region ?_
        refine TL_q (Qt_move (.pointer _) rfl) rfl ?_
        refine TL_q (Qt_move (.slice _ _ _) rfl) rfl ?_
        refine TL_q (Qt_len_slice rfl Tryz.underlying22) rfl ?_
        refine TL_frontB s.r2 ?_
        refine TL_frontB p ?_
        refine TL_e rfl (Ef_call (fits_c (r := s.r2) (es := s.e2) (c := s.c2) (less := ((0 : Nat) : Int)) hok.good2 (hok.size hN hM) ⟨hok.room0, hok.room1⟩ ⟨by omega, by omega⟩) rfl (fun x23 => ?_))
        refine TL_q (Qt_not rfl) rfl ?_
        refine TL_q (Qt_assign (.bool _) rfl) rfl ?_
        refine TL_nil ?_
        refine X_then ?_
        refine T_cond rfl (fun h19 => ?_) (fun h19 => ?_)
        ·
          have p19 := h19
          try simp only [decide_eq_true_eq, decide_eq_false_iff_not, Bool.not_eq_true', Bool.not_eq_false', Option.isNone_iff_eq_none, ne_eq, Decidable.not_not, Int.not_lt, Int.not_le] at p19
          refine T_seq ?_
          refine T_region ?_
          refine TL_q (Qt_assign (.int .i64 _) rfl) rfl ?_
          refine TL_nil ?_
          refine X_then ?_
          refine T_ret ?_
          refine X_block_ret ?_
          refine X_then_ret ?_
          exact X_ret (s, 4) [_] Tryz.results274 ⟨rfl, trivial⟩ rfl (fun w hw => St.addPure (Subs.st inferInstance w hw) (.inr (.inr (.inl ⟨h10, by simpa using h15, by simpa using h19, rfl, rfl⟩))))
        ·
          have p19 := h19
          try simp only [decide_eq_true_eq, decide_eq_false_iff_not, Bool.not_eq_true', Bool.not_eq_false', Option.isNone_iff_eq_none, ne_eq, Decidable.not_not, Int.not_lt, Int.not_le] at p19
          refine T_skip ?_
          refine X_block ?_
          refine X_then ?_
          refine T_seq ?_
          refine T_region ?_
          refine TL_q (Qt_move (.pointer _) rfl) rfl ?_
          refine TL_q (Qt_move (.string _) rfl) rfl ?_
          refine TL_q (Qt_move (.slice _ _ _) rfl) rfl ?_
          refine TL_e rfl (Ef_call (clone_c (by omega)) rfl (fun x28 => ?_))
          refine TL_conv (fun w hw => DS.addB (p := p) (s := s) (x := ⟨x28.a, x28.c, b.l⟩) (e := 5) (H := H) (Subs.st inferInstance w hw)) ?_
          refine TL_q (Qt_build [(0, (.int .i64 _)), (1, (.string _)), (3, .slice _ _ _)] rfl (by kernel_rfl)) rfl ?_
          refine TL_e rfl (Ef_call (ddo_c (s := { s with fp := rowFp (.slice x28.a b.l.length x28.c) ++ s.fp, bs := ⟨x28.a, x28.c, b.l⟩ :: s.bs }) (hok.addB (by show b.l.length ≤ M; omega)) hN hM (a := ⟨1, nm, ⟨#[]⟩, ⟨x28.a, x28.c, b.l⟩⟩) (List.mem_cons_self ..)) rfl (fun x30 => ?_))
          refine TL_pure (fun hd => ?_)
          refine TL_q (Qt_assign (.int .i64 _) rfl) rfl ?_
          refine TL_nil ?_
          refine X_then ?_
          refine T_ret ?_
          exact X_ret x30 [_] Tryz.results274 ⟨rfl, trivial⟩ rfl (fun w hw => St.addPure (Subs.st inferInstance w hw) (.inr (.inr (.inr ⟨h10, by simpa using h15, by simpa using h19, ⟨x28.a, x28.c, b.l⟩, _, rfl, hd⟩))))
set_option maxHeartbeats 1000000 in
theorem appendNil_c {w0 : World} {H : List SA} {nm : ByteArray} {a : Option Addr} {n c : Nat} :
    CT Tryz.prog w0 (H) 274 [.pointer none, .string nm, .slice a n c] (α := Unit) (fun _ => .int .i64 16) (fun _ => H) := by
  refine CT_intro Tryz.func274 rfl Tryz.ntmps274 rfl ?_
  refine T_seq ?_
  refine T_region ?_
  refine TL_q (Qt_assign (.int .i64 _) rfl) rfl ?_
  refine TL_nil ?_
  refine X_then ?_
  refine T_seq ?_
  refine T_block ?_
  refine T_seq ?_
  refine T_region ?_
  refine TL_q (Qt_move (.pointer _) rfl) rfl ?_
  refine TL_q (Qt_ptr_nil rfl rfl Tryz.underlying63) rfl ?_
  refine TL_q (Qt_assign (.bool _) rfl) rfl ?_
  refine TL_nil ?_
  refine X_then ?_
  refine T_cond rfl (fun h7 => ?_) (fun h7 => ?_)
  ·
    have p7 := h7
    try simp only [decide_eq_true_eq, decide_eq_false_iff_not, Bool.not_eq_true', Bool.not_eq_false', Option.isNone_iff_eq_none, ne_eq, Decidable.not_not, Int.not_lt, Int.not_le] at p7
    refine T_seq ?_
    refine T_region ?_
    refine TL_q (Qt_assign (.int .i64 _) rfl) rfl ?_
    refine TL_nil ?_
    refine X_then ?_
    refine T_ret ?_
    refine X_block_ret ?_
    refine X_then_ret ?_
    exact X_ret () [_] Tryz.results274 ⟨rfl, trivial⟩ rfl (Subs.st inferInstance)
  ·
    have p7 := h7
    try simp only [decide_eq_true_eq, decide_eq_false_iff_not, Bool.not_eq_true', Bool.not_eq_false', Option.isNone_iff_eq_none, ne_eq, Decidable.not_not, Int.not_lt, Int.not_le] at p7
    cases h7
set_option maxHeartbeats 1000000 in
theorem write_c {w0 : World} {H : List SA} {p : Nat} {s : DS} {N M : Nat} (hok : s.Ok N M) (hN : N ≤ 1000000) (hM : M ≤ 2000000000) {nm : ByteArray} {b : BS} (hb : b.l.length ≤ 100000) (hbM : b.l.length ≤ M) [rb : RdB w0 H (.slice b.a b.l.length b.c) b.l] :
    CT Tryz.prog w0 (DS.H p s H) 236 [.pointer (some ⟨p, 0, none⟩), .string nm, .slice b.a b.l.length b.c] (α := DS × Int) (fun y => .int .i64 y.2) (fun y => pu (AppR 2 (oldE s.e2 nm).l.length s nm b.l y.1 y.2) :: DS.H p y.1 H) := by
  refine CT_intro Tryz.func236 rfl Tryz.ntmps236 rfl ?_
  refine T_seq ?_
  refine T_region ?_
  refine TL_q (Qt_assign (.int .i64 _) rfl) rfl ?_
  refine TL_nil ?_
  refine X_then ?_
  refine T_seq ?_
  refine T_block ?_
  refine T_seq ?_
  refine T_region ?_
  refine TL_q (Qt_move (.pointer _) rfl) rfl ?_
  refine TL_q (Qt_ptr_nil rfl rfl Tryz.underlying63) rfl ?_
  refine TL_q (Qt_assign (.bool _) rfl) rfl ?_
  refine TL_nil ?_
  refine X_then ?_
  refine T_cond rfl (fun h7 => ?_) (fun h7 => ?_)
  ·
    have p7 := h7
    try simp only [decide_eq_true_eq, decide_eq_false_iff_not, Bool.not_eq_true', Bool.not_eq_false', Option.isNone_iff_eq_none, ne_eq, Decidable.not_not, Int.not_lt, Int.not_le] at p7
    cases h7
  ·
    have p7 := h7
    try simp only [decide_eq_true_eq, decide_eq_false_iff_not, Bool.not_eq_true', Bool.not_eq_false', Option.isNone_iff_eq_none, ne_eq, Decidable.not_not, Int.not_lt, Int.not_le] at p7
    refine T_seq ?_
    refine T_region ?_
    refine TL_q (Qt_move (.pointer _) rfl) rfl ?_
    refine TL_q (Qt_nilCheck rfl) rfl ?_
    refine TL_q (Qt_fieldAddr 5 rfl rfl) rfl ?_
    refine TL_q (Qt_load1 rfl) rfl ?_
    refine TL_q (Qt_assign (.bool _) rfl) rfl ?_
    refine TL_nil ?_
    refine X_then ?_
    refine T_cond rfl (fun h10 => ?_) (fun h10 => ?_)
    ·
      have p10 := h10
      try simp only [decide_eq_true_eq, decide_eq_false_iff_not, Bool.not_eq_true', Bool.not_eq_false', Option.isNone_iff_eq_none, ne_eq, Decidable.not_not, Int.not_lt, Int.not_le] at p10
      refine T_seq ?_
      refine T_region ?_
      refine TL_q (Qt_assign (.int .i64 _) rfl) rfl ?_
      refine TL_nil ?_
      refine X_then ?_
      refine T_ret ?_
      refine X_block_ret ?_
      refine X_then_ret ?_
      exact X_ret (s, 14) [_] Tryz.results236 ⟨rfl, trivial⟩ rfl (fun w hw => St.addPure (Subs.st inferInstance w hw) (.inl ⟨h10, rfl, rfl⟩))
    ·
      have p10 := h10
      try simp only [decide_eq_true_eq, decide_eq_false_iff_not, Bool.not_eq_true', Bool.not_eq_false', Option.isNone_iff_eq_none, ne_eq, Decidable.not_not, Int.not_lt, Int.not_le] at p10
      refine T_seq ?_
      refine T_region ?_
      refine TL_q (Qt_move (.string _) rfl) rfl ?_
      refine TL_e rfl (Ef_call (named_c) rfl (fun x17 => ?_))
      refine TL_q (Qt_not rfl) rfl ?_
      refine TL_q (Qt_assign (.bool _) rfl) rfl ?_
      refine TL_nil ?_
      refine X_then ?_
      refine T_cond rfl (fun h15 => ?_) (fun h15 => ?_)
      ·
        have p15 := h15
        try simp only [decide_eq_true_eq, decide_eq_false_iff_not, Bool.not_eq_true', Bool.not_eq_false', Option.isNone_iff_eq_none, ne_eq, Decidable.not_not, Int.not_lt, Int.not_le] at p15
        refine T_seq ?_
        refine T_region ?_
        refine TL_q (Qt_assign (.int .i64 _) rfl) rfl ?_
        refine TL_nil ?_
        refine X_then ?_
        refine T_ret ?_
        refine X_block_ret ?_
        refine X_then_ret ?_
        exact X_ret (s, 15) [_] Tryz.results236 ⟨rfl, trivial⟩ rfl (fun w hw => St.addPure (Subs.st inferInstance w hw) (.inr (.inl ⟨h10, by simpa using h15, rfl, rfl⟩)))
      ·
        have p15 := h15
        try simp only [decide_eq_true_eq, decide_eq_false_iff_not, Bool.not_eq_true', Bool.not_eq_false', Option.isNone_iff_eq_none, ne_eq, Decidable.not_not, Int.not_lt, Int.not_le] at p15
        refine T_seq ?_
        refine T_region ?_
        refine TL_q (Qt_move (.pointer _) rfl) rfl ?_
        refine TL_q (Qt_move (.slice _ _ _) rfl) rfl ?_
        refine TL_q (Qt_len_slice rfl Tryz.underlying22) rfl ?_
        refine TL_q (Qt_move (.pointer _) rfl) rfl ?_
        refine TL_q (Qt_nilCheck rfl) rfl ?_
        refine TL_q (Qt_fieldAddr 2 rfl rfl) rfl ?_
        refine TL_q (Qt_load1 rfl) rfl ?_
        refine TL_q (Qt_move (.string _) rfl) rfl ?_
        refine TL_q (Qt_lookup1 (key := nm) (enc := encS) (ev := BS.val) (zB) rfl rfl Tryz.underlying103 bs_zero) rfl ?_
        rw [show (getE s.e2 nm).getD zB = oldE s.e2 nm from rfl]
        refine TL_q (Qt_len_slice rfl Tryz.underlying22) rfl ?_
        refine TL_frontB s.r2 ?_
        refine TL_frontB p ?_
        refine TL_e rfl (Ef_call (fits_c (r := s.r2) (es := s.e2) (c := s.c2) (less := (((oldE s.e2 nm).l.length : Nat) : Int)) hok.good2 (hok.size hN hM) ⟨hok.room0, hok.room1⟩ ⟨by omega, by have := hok.len _ (oldE_mem hok.mem2 hok.zero nm); omega⟩) rfl (fun x30 => ?_))
        refine TL_q (Qt_not rfl) rfl ?_
        refine TL_q (Qt_assign (.bool _) rfl) rfl ?_
        refine TL_nil ?_
        refine X_then ?_
        refine T_cond rfl (fun h19 => ?_) (fun h19 => ?_)
        ·
          have p19 := h19
          try simp only [decide_eq_true_eq, decide_eq_false_iff_not, Bool.not_eq_true', Bool.not_eq_false', Option.isNone_iff_eq_none, ne_eq, Decidable.not_not, Int.not_lt, Int.not_le] at p19
          refine T_seq ?_
          refine T_region ?_
          refine TL_q (Qt_assign (.int .i64 _) rfl) rfl ?_
          refine TL_nil ?_
          refine X_then ?_
          refine T_ret ?_
          refine X_block_ret ?_
          refine X_then_ret ?_
          exact X_ret (s, 4) [_] Tryz.results236 ⟨rfl, trivial⟩ rfl (fun w hw => St.addPure (Subs.st inferInstance w hw) (.inr (.inr (.inl ⟨h10, by simpa using h15, by simpa using h19, rfl, rfl⟩))))
        ·
          have p19 := h19
          try simp only [decide_eq_true_eq, decide_eq_false_iff_not, Bool.not_eq_true', Bool.not_eq_false', Option.isNone_iff_eq_none, ne_eq, Decidable.not_not, Int.not_lt, Int.not_le] at p19
          refine T_skip ?_
          refine X_block ?_
          refine X_then ?_
          refine T_seq ?_
          refine T_region ?_
          refine TL_q (Qt_move (.pointer _) rfl) rfl ?_
          refine TL_q (Qt_move (.string _) rfl) rfl ?_
          refine TL_q (Qt_move (.slice _ _ _) rfl) rfl ?_
          refine TL_e rfl (Ef_call (clone_c (by omega)) rfl (fun x35 => ?_))
          refine TL_conv (fun w hw => DS.addB (p := p) (s := s) (x := ⟨x35.a, x35.c, b.l⟩) (e := 5) (H := H) (Subs.st inferInstance w hw)) ?_
          refine TL_q (Qt_build [(0, (.int .i64 _)), (1, (.string _)), (3, .slice _ _ _)] rfl (by kernel_rfl)) rfl ?_
          refine TL_e rfl (Ef_call (ddo_c (s := { s with fp := rowFp (.slice x35.a b.l.length x35.c) ++ s.fp, bs := ⟨x35.a, x35.c, b.l⟩ :: s.bs }) (hok.addB (by show b.l.length ≤ M; omega)) hN hM (a := ⟨2, nm, ⟨#[]⟩, ⟨x35.a, x35.c, b.l⟩⟩) (List.mem_cons_self ..)) rfl (fun x37 => ?_))
          refine TL_pure (fun hd => ?_)
          refine TL_q (Qt_assign (.int .i64 _) rfl) rfl ?_
          refine TL_nil ?_
          refine X_then ?_
          refine T_ret ?_
          exact X_ret x37 [_] Tryz.results236 ⟨rfl, trivial⟩ rfl (fun w hw => St.addPure (Subs.st inferInstance w hw) (.inr (.inr (.inr ⟨h10, by simpa using h15, by simpa using h19, ⟨x35.a, x35.c, b.l⟩, _, rfl, hd⟩))))
set_option maxHeartbeats 1000000 in
theorem writeNil_c {w0 : World} {H : List SA} {nm : ByteArray} {a : Option Addr} {n c : Nat} :
    CT Tryz.prog w0 (H) 236 [.pointer none, .string nm, .slice a n c] (α := Unit) (fun _ => .int .i64 16) (fun _ => H) := by
  refine CT_intro Tryz.func236 rfl Tryz.ntmps236 rfl ?_
  refine T_seq ?_
  refine T_region ?_
  refine TL_q (Qt_assign (.int .i64 _) rfl) rfl ?_
  refine TL_nil ?_
  refine X_then ?_
  refine T_seq ?_
  refine T_block ?_
  refine T_seq ?_
  refine T_region ?_
  refine TL_q (Qt_move (.pointer _) rfl) rfl ?_
  refine TL_q (Qt_ptr_nil rfl rfl Tryz.underlying63) rfl ?_
  refine TL_q (Qt_assign (.bool _) rfl) rfl ?_
  refine TL_nil ?_
  refine X_then ?_
  refine T_cond rfl (fun h7 => ?_) (fun h7 => ?_)
  ·
    have p7 := h7
    try simp only [decide_eq_true_eq, decide_eq_false_iff_not, Bool.not_eq_true', Bool.not_eq_false', Option.isNone_iff_eq_none, ne_eq, Decidable.not_not, Int.not_lt, Int.not_le] at p7
    refine T_seq ?_
    refine T_region ?_
    refine TL_q (Qt_assign (.int .i64 _) rfl) rfl ?_
    refine TL_nil ?_
    refine X_then ?_
    refine T_ret ?_
    refine X_block_ret ?_
    refine X_then_ret ?_
    exact X_ret () [_] Tryz.results236 ⟨rfl, trivial⟩ rfl (Subs.st inferInstance)
  ·
    have p7 := h7
    try simp only [decide_eq_true_eq, decide_eq_false_iff_not, Bool.not_eq_true', Bool.not_eq_false', Option.isNone_iff_eq_none, ne_eq, Decidable.not_not, Int.not_lt, Int.not_le] at p7
    cases h7
set_option maxHeartbeats 1000000 in
theorem settle_c {w0 : World} {H : List SA} {p r c : Nat} {es : FM} {room : Int} {nw : Option Nat} {pe : Sl} {fuse : Int} {down : Bool} :
    CT Tryz.prog w0 (blk p (.cells (DiskV.mk room (some r) nw pe fuse down).cells 106 (0, 0)) :: blk r (mapO encS BS.val es c) :: H) 309 [.pointer (some ⟨p, 0, none⟩)] (α := Nat) (fun _ => .tuple #[]) (fun q => blk p (.cells (DiskV.mk room (some r) (some q) ⟨none, 0, 0⟩ fuse down).cells 106 (0, 0)) :: blk q (mapO encS BS.val es c) :: blk r (mapO encS BS.val es c) :: H) := by
  refine CT_intro Tryz.func309 rfl Tryz.ntmps309 rfl ?_
  refine T_seq ?_
  refine T_region ?_
  refine TL_q (Qt_move (.pointer _) rfl) rfl ?_
  refine TL_q (Qt_nilCheck rfl) rfl ?_
  refine TL_q (Qt_fieldAddr 3 rfl rfl) rfl ?_
  refine TL_n (Ef_store1 (.slice _ _ _) rfl rfl (?_))
  refine TL_nil ?_
  refine X_then ?_
  refine T_region ?_
  refine TL_q (Qt_move (.pointer _) rfl) rfl ?_
  refine TL_q (Qt_move (.pointer _) rfl) rfl ?_
  refine TL_q (Qt_nilCheck rfl) rfl ?_
  refine TL_q (Qt_fieldAddr 1 rfl rfl) rfl ?_
  refine TL_q (Qt_load1 rfl) rfl ?_
  refine TL_frontB r ?_
  refine TL_e rfl (Ef_call (mclone_c) rfl (fun x10 => ?_))
  refine TL_q (Qt_nilCheck rfl) rfl ?_
  refine TL_q (Qt_fieldAddr 2 rfl rfl) rfl ?_
  refine TL_n (Ef_store1 (.map _) rfl rfl (?_))
  refine TL_nil ?_
  exact X_ret x10 [] Tryz.results309 trivial rfl (Subs.st inferInstance)
theorem sync_end {w0 w : World} {H : List SA} {p x14 x18 : Nat} {s : DS} {f : Int} {d : Bool}
    (h : St w0 (blk p (.cells (DiskV.mk s.room (some x14) (some x18) ⟨none, 0, 0⟩ f d).cells 106 (0, 0)) :: blk x18 (mapO encS BS.val s.e2 s.c2) :: blk x14 (mapO encS BS.val s.e2 s.c2) :: blk s.r2 (mapO encS BS.val s.e2 s.c2) :: blk s.r1 (mapO encS BS.val s.e1 s.c1) :: prow s :: dat s.fp ⟨s.bs, [], []⟩ :: H) w) :
    St w0 (DS.H p { s with fuse := f, down := d, r1 := x14, r2 := x18, e1 := s.e2, c1 := s.c2, pend := [], pa := none, pc := 0 } H) w := by
  have h1 : St w0 (blk p (.cells (DiskV.mk s.room (some x14) (some x18) ⟨none, 0, 0⟩ f d).cells 106 (0, 0)) :: blk x14 (mapO encS BS.val s.e2 s.c2) :: blk x18 (mapO encS BS.val s.e2 s.c2) :: dat s.fp ⟨s.bs, [], []⟩ :: H) w := Subs.st inferInstance w h
  have h2 := h1.addNil 426 4
  exact Subs.st (H := row (.slice none 0 0) 426 4 [] :: blk p (.cells (DiskV.mk s.room (some x14) (some x18) ⟨none, 0, 0⟩ f d).cells 106 (0, 0)) :: blk x14 (mapO encS BS.val s.e2 s.c2) :: blk x18 (mapO encS BS.val s.e2 s.c2) :: dat s.fp ⟨s.bs, [], []⟩ :: H) (H' := blk p (.cells (DiskV.mk s.room (some x14) (some x18) ⟨none, 0, 0⟩ f d).cells 106 (0, 0)) :: blk x14 (mapO encS BS.val s.e2 s.c2) :: blk x18 (mapO encS BS.val s.e2 s.c2) :: row (.slice none 0 0) 426 4 [] :: dat s.fp ⟨s.bs, [], []⟩ :: H) inferInstance w h2
set_option maxHeartbeats 1000000 in
theorem sync_c {w0 : World} {H : List SA} {p : Nat} {s : DS} {N M : Nat} (hok : s.Ok N M) (hN : N ≤ 1000000) (hM : M ≤ 2000000000) :
    CT Tryz.prog w0 (DS.H p s H) 237 [.pointer (some ⟨p, 0, none⟩)] (α := DS) (fun _ => .tuple #[]) (fun y => pu (SyncR s y) :: DS.H p y H) := by
  refine CT_intro Tryz.func237 rfl Tryz.ntmps237 rfl ?_
  refine T_seq ?_
  refine T_seq ?_
  refine T_region ?_
  refine TL_q (Qt_move (.pointer _) rfl) rfl ?_
  refine TL_q (Qt_ptr_nil rfl rfl Tryz.underlying63) rfl ?_
  refine TL_q (Qt_move (.bool _) rfl) rfl ?_
  refine TL_split 4 rfl (fun h4 => ?_) (fun h4 => ?_)
  ·
    have p4 := h4
    try simp only [decide_eq_true_eq, decide_eq_false_iff_not, Bool.not_eq_true', Bool.not_eq_false', Option.isNone_iff_eq_none, ne_eq, Decidable.not_not, Int.not_lt, Int.not_le] at p4
    cases h4
  ·
    have p4 := h4
    try simp only [decide_eq_true_eq, decide_eq_false_iff_not, Bool.not_eq_true', Bool.not_eq_false', Option.isNone_iff_eq_none, ne_eq, Decidable.not_not, Int.not_lt, Int.not_le] at p4
    refine TL_take rfl rfl h4 ?_
    refine TL_q (Qt_move (.pointer _) rfl) rfl ?_
    refine TL_frontB p ?_
    refine TL_take rfl rfl h4 ?_
    refine TL_e rfl (Ef_call (burn_c hok.fuse1) rfl (fun x6 => ?_))
    refine TL_take rfl rfl h4 ?_
    refine TL_q (Qt_not rfl) rfl ?_
    refine TL_q (Qt_pick_f (.bool _) rfl h4 rfl) rfl ?_
    refine TL_nil ?_
    refine X_then ?_
    refine T_cond rfl (fun h8 => ?_) (fun h8 => ?_)
    ·
      have p8 := h8
      try simp only [decide_eq_true_eq, decide_eq_false_iff_not, Bool.not_eq_true', Bool.not_eq_false', Option.isNone_iff_eq_none, ne_eq, Decidable.not_not, Int.not_lt, Int.not_le] at p8
      refine T_ret ?_
      refine X_then_ret ?_
      have hbd : burnD s.fuse s.down = true := by simpa using h8
      rw [hbd]
      exact X_ret ({ s with fuse := burnF s.fuse, down := true }) [] Tryz.results237 trivial rfl (fun w hw => St.addPure (Subs.st inferInstance w hw) (.inl ⟨hbd, rfl⟩))
    ·
      have p8 := h8
      try simp only [decide_eq_true_eq, decide_eq_false_iff_not, Bool.not_eq_true', Bool.not_eq_false', Option.isNone_iff_eq_none, ne_eq, Decidable.not_not, Int.not_lt, Int.not_le] at p8
      have hbd : burnD s.fuse s.down = false := by simpa using h8
      rw [hbd]
      refine T_skip ?_
      refine X_then ?_
      refine T_seq ?_
      refine T_region ?_
      refine TL_q (Qt_move (.pointer _) rfl) rfl ?_
      refine TL_q (Qt_move (.pointer _) rfl) rfl ?_
      refine TL_q (Qt_nilCheck rfl) rfl ?_
      refine TL_q (Qt_fieldAddr 2 rfl rfl) rfl ?_
      refine TL_q (Qt_load1 rfl) rfl ?_
      refine TL_frontB s.r2 ?_
      refine TL_e rfl (Ef_call (mclone_c (r := s.r2)) rfl (fun x14 => ?_))
      refine TL_q (Qt_nilCheck rfl) rfl ?_
      refine TL_q (Qt_fieldAddr 1 rfl rfl) rfl ?_
      refine TL_n (Ef_store1 (.map _) rfl rfl (?_))
      refine TL_nil ?_
      refine X_then ?_
      refine T_region ?_
      refine TL_q (Qt_move (.pointer _) rfl) rfl ?_
      refine TL_frontB x14 ?_
      refine TL_frontB p ?_
      refine TL_e rfl (Ef_call (settle_c (r := x14) (es := s.e2) (c := s.c2)) rfl (fun x18 => ?_))
      refine TL_nil ?_
      exact X_ret ({ s with fuse := burnF s.fuse, down := false, r1 := x14, r2 := x18, e1 := s.e2, c1 := s.c2, pend := [], pa := none, pc := 0 }) [] Tryz.results237 trivial rfl (fun w hw => St.addPure (sync_end hw) (.inr ⟨hbd, x14, x18, rfl⟩))
set_option maxHeartbeats 1000000 in
theorem syncNil_c {w0 : World} {H : List SA}  :
    CT Tryz.prog w0 (H) 237 [.pointer none] (α := Unit) (fun _ => .tuple #[]) (fun _ => H) := by
  refine CT_intro Tryz.func237 rfl Tryz.ntmps237 rfl ?_
  refine T_seq ?_
  refine T_seq ?_
  refine T_region ?_
  refine TL_q (Qt_move (.pointer _) rfl) rfl ?_
  refine TL_q (Qt_ptr_nil rfl rfl Tryz.underlying63) rfl ?_
  refine TL_q (Qt_move (.bool _) rfl) rfl ?_
  refine TL_split 4 rfl (fun h4 => ?_) (fun h4 => ?_)
  ·
    have p4 := h4
    try simp only [decide_eq_true_eq, decide_eq_false_iff_not, Bool.not_eq_true', Bool.not_eq_false', Option.isNone_iff_eq_none, ne_eq, Decidable.not_not, Int.not_lt, Int.not_le] at p4
    refine TL_pass rfl rfl h4 rfl ?_
    refine TL_pass rfl rfl h4 rfl ?_
    refine TL_pass rfl rfl h4 rfl ?_
    refine TL_q (Qt_pick_t (.bool _) rfl h4 rfl) rfl ?_
    refine TL_nil ?_
    refine X_then ?_
    refine T_cond_true rfl rfl ?_
    refine T_ret ?_
    refine X_then_ret ?_
    exact X_ret () [] Tryz.results237 trivial rfl (Subs.st inferInstance)
  ·
    have p4 := h4
    try simp only [decide_eq_true_eq, decide_eq_false_iff_not, Bool.not_eq_true', Bool.not_eq_false', Option.isNone_iff_eq_none, ne_eq, Decidable.not_not, Int.not_lt, Int.not_le] at p4
    cases h4
set_option maxHeartbeats 1000000 in
theorem dread_c {w0 : World} {H : List SA} {p : Nat} {s : DS} {N M : Nat} (hok : s.Ok N M) (hN : N ≤ 1000000) (hM : M ≤ 2000000000) {nm : ByteArray} :
    CT Tryz.prog w0 (DS.H p s H) 152 [.pointer (some ⟨p, 0, none⟩), .string nm] (α := AC) (fun y => .tuple #[.slice y.a (oldE s.e2 nm).l.length y.c, .int .i64 (if hasE s.e2 nm = true then 0 else 13)]) (fun y => row (.slice y.a (oldE s.e2 nm).l.length y.c) 5 1 (bytesV (oldE s.e2 nm).l) :: DS.H p s H) := by
  refine CT_intro Tryz.func152 rfl Tryz.ntmps152 rfl ?_
  refine T_seq ?_
  refine T_region ?_
  refine TL_q (Qt_assign (.slice _ _ _) rfl) rfl ?_
  refine TL_q (Qt_assign (.int .i64 _) rfl) rfl ?_
  refine TL_nil ?_
  refine X_then ?_
  refine T_seq ?_
  refine T_seq ?_
  refine T_region ?_
  refine TL_q (Qt_move (.pointer _) rfl) rfl ?_
  refine TL_q (Qt_ptr_nil rfl rfl Tryz.underlying63) rfl ?_
  refine TL_nil ?_
  refine X_then ?_
  refine T_cond rfl (fun h9 => ?_) (fun h9 => ?_)
  ·
    have p9 := h9
    try simp only [decide_eq_true_eq, decide_eq_false_iff_not, Bool.not_eq_true', Bool.not_eq_false', Option.isNone_iff_eq_none, ne_eq, Decidable.not_not, Int.not_lt, Int.not_le] at p9
    cases h9
  ·
    have p9 := h9
    try simp only [decide_eq_true_eq, decide_eq_false_iff_not, Bool.not_eq_true', Bool.not_eq_false', Option.isNone_iff_eq_none, ne_eq, Decidable.not_not, Int.not_lt, Int.not_le] at p9
    refine T_skip ?_
    refine X_then ?_
    refine T_seq ?_
    refine T_region ?_
    refine TL_q (Qt_move (.pointer _) rfl) rfl ?_
    refine TL_q (Qt_nilCheck rfl) rfl ?_
    refine TL_q (Qt_fieldAddr 2 rfl rfl) rfl ?_
    refine TL_q (Qt_load1 rfl) rfl ?_
    refine TL_q (Qt_move (.string _) rfl) rfl ?_
    refine TL_q (Qt_lookup2 (key := nm) (enc := encS) (ev := BS.val) (zB) rfl rfl Tryz.underlying103 bs_zero) rfl ?_
    rw [show (getE s.e2 nm).getD zB = oldE s.e2 nm from rfl]
    refine TL_q (Qt_move (.tuple _) rfl) rfl ?_
    refine TL_q (Qt_extract rfl) rfl ?_
    refine TL_q (Qt_extract rfl) rfl ?_
    refine TL_q (Qt_assign (.slice _ _ _) rfl) rfl ?_
    refine TL_q (Qt_assign (.bool _) rfl) rfl ?_
    refine TL_nil ?_
    refine X_then ?_
    refine T_seq ?_
    refine T_seq ?_
    refine T_region ?_
    refine TL_q (Qt_move (.bool _) rfl) rfl ?_
    refine TL_q (Qt_not rfl) rfl ?_
    refine TL_nil ?_
    refine X_then ?_
    refine T_cond rfl (fun h20 => ?_) (fun h20 => ?_)
    ·
      have p20 := h20
      try simp only [decide_eq_true_eq, decide_eq_false_iff_not, Bool.not_eq_true', Bool.not_eq_false', Option.isNone_iff_eq_none, ne_eq, Decidable.not_not, Int.not_lt, Int.not_le] at p20
      refine T_seq ?_
      refine T_region ?_
      refine TL_q (Qt_assign (.slice _ _ _) rfl) rfl ?_
      refine TL_q (Qt_assign (.int .i64 _) rfl) rfl ?_
      refine TL_nil ?_
      refine X_then ?_
      refine T_ret ?_
      refine X_then_ret ?_
      have hh : hasE s.e2 nm = false := by simpa using h20
      have ho : oldE s.e2 nm = zB := by unfold oldE; unfold hasE at hh; cases hg : getE s.e2 nm with
        | none => rfl
        | some v => rw [hg] at hh; cases hh
      rw [ho, hh]
      exact X_ret ⟨none, 0⟩ [_, _] Tryz.results152 ⟨rfl, rfl, trivial⟩ rfl (fun w hw => (Subs.st inferInstance w hw : St w0 (DS.H p s H) w).addNilB 5)
    ·
      have p20 := h20
      try simp only [decide_eq_true_eq, decide_eq_false_iff_not, Bool.not_eq_true', Bool.not_eq_false', Option.isNone_iff_eq_none, ne_eq, Decidable.not_not, Int.not_lt, Int.not_le] at p20
      refine T_skip ?_
      refine X_then ?_
      refine T_seq ?_
      refine T_region ?_
      refine TL_q (Qt_move (.slice _ _ _) rfl) rfl ?_
      refine TL_e rfl (Ef_call (clone_c (hr := RdE.get (ls := s.bs) inferInstance (oldE_mem hok.mem2 hok.zero nm)) (by have := hok.len _ (oldE_mem hok.mem2 hok.zero nm); omega)) rfl (fun x22 => ?_))
      refine TL_q (Qt_assign (.slice _ _ _) rfl) rfl ?_
      refine TL_q (Qt_assign (.int .i64 _) rfl) rfl ?_
      refine TL_nil ?_
      refine X_then ?_
      refine T_ret ?_
      have hh : hasE s.e2 nm = true := by simpa using h20
      rw [hh]
      exact X_ret x22 [_, _] Tryz.results152 ⟨rfl, rfl, trivial⟩ rfl (Subs.st inferInstance)
set_option maxHeartbeats 1000000 in
theorem dreadNil_c {w0 : World} {H : List SA} {nm : ByteArray} :
    CT Tryz.prog w0 (H) 152 [.pointer none, .string nm] (α := Unit) (fun _ => .tuple #[.slice none 0 0, .int .i64 16]) (fun _ => H) := by
  refine CT_intro Tryz.func152 rfl Tryz.ntmps152 rfl ?_
  refine T_seq ?_
  refine T_region ?_
  refine TL_q (Qt_assign (.slice _ _ _) rfl) rfl ?_
  refine TL_q (Qt_assign (.int .i64 _) rfl) rfl ?_
  refine TL_nil ?_
  refine X_then ?_
  refine T_seq ?_
  refine T_seq ?_
  refine T_region ?_
  refine TL_q (Qt_move (.pointer _) rfl) rfl ?_
  refine TL_q (Qt_ptr_nil rfl rfl Tryz.underlying63) rfl ?_
  refine TL_nil ?_
  refine X_then ?_
  refine T_cond rfl (fun h9 => ?_) (fun h9 => ?_)
  ·
    have p9 := h9
    try simp only [decide_eq_true_eq, decide_eq_false_iff_not, Bool.not_eq_true', Bool.not_eq_false', Option.isNone_iff_eq_none, ne_eq, Decidable.not_not, Int.not_lt, Int.not_le] at p9
    refine T_seq ?_
    refine T_region ?_
    refine TL_q (Qt_assign (.slice _ _ _) rfl) rfl ?_
    refine TL_q (Qt_assign (.int .i64 _) rfl) rfl ?_
    refine TL_nil ?_
    refine X_then ?_
    refine T_ret ?_
    refine X_then_ret ?_
    exact X_ret () [_, _] Tryz.results152 ⟨rfl, rfl, trivial⟩ rfl (Subs.st inferInstance)
  ·
    have p9 := h9
    try simp only [decide_eq_true_eq, decide_eq_false_iff_not, Bool.not_eq_true', Bool.not_eq_false', Option.isNone_iff_eq_none, ne_eq, Decidable.not_not, Int.not_lt, Int.not_le] at p9
    cases h9
def roomOf (n : Int) : Int := if (if (1048576 : Int) < n then 1048576 else n) > 0 then (if (1048576 : Int) < n then 1048576 else n) else 0
def newS (r1 r2 : Nat) (n : Int) : DS := ⟨r1, r2, [], 0, [], 0, none, 0, [], roomOf n, -1, false, [], [zB]⟩
theorem newS_ok (r1 r2 : Nat) (n : Int) : (newS r1 r2 n).Ok 0 0 := ⟨GoodM.nil, GoodM.nil, (fun _ h => by cases h), (fun _ h => by cases h), (fun _ h => by cases h), by simp [newS], (fun x hx => by obtain rfl : x = zB := (by simpa [newS] using hx); exact Nat.le_refl _), (fun _ h => by cases h), Nat.le_refl _, Nat.le_refl _, Nat.le_refl _, by unfold newS roomOf; simp only; split <;> split <;> omega, by unfold newS roomOf; simp only; split <;> split <;> omega, by show (-1 : Int) ≤ 9223372036854775807; decide⟩
theorem St.datZ {w0 w : World} {H : List SA} (h : St w0 H w) : St w0 (dat [] ⟨[zB], [], []⟩ :: H) w :=
  h.datNil.turn rfl fun _ => ⟨fun y hy => (by obtain rfl : y = zB := (by simpa using hy)
                                              exact ⟨none, 0, 0, rfl, rfl, Nat.le_refl _, by unfold maxLen; omega, fun h => absurd h (by simp [zB])⟩), fun _ h => (by cases h), fun _ h => (by cases h), fun _ h => (by cases h)⟩
theorem new_end {w0 w : World} {H : List SA} {p r1 r2 : Nat} {n : Int} (h : St w0 (blk p (.cells (DiskV.mk (roomOf n) (some r1) (some r2) ⟨none, 0, 0⟩ (-1) false).cells 106 (0, 0)) :: blk r2 (mapO encS BS.val [] 0) :: blk r1 (mapO encS BS.val [] 0) :: H) w) : St w0 (DS.H p (newS r1 r2 n) H) w := by
  have h2 := (St.datZ h).addNil 426 4
  exact Subs.st (H := row (.slice none 0 0) 426 4 [] :: dat [] ⟨[zB], [], []⟩ :: blk p (.cells (DiskV.mk (roomOf n) (some r1) (some r2) ⟨none, 0, 0⟩ (-1) false).cells 106 (0, 0)) :: blk r2 (mapO encS BS.val [] 0) :: blk r1 (mapO encS BS.val [] 0) :: H) (H' := blk p (.cells (DiskV.mk (roomOf n) (some r1) (some r2) ⟨none, 0, 0⟩ (-1) false).cells 106 (0, 0)) :: blk r1 (mapO encS BS.val [] 0) :: blk r2 (mapO encS BS.val [] 0) :: row (.slice none 0 0) 426 4 [] :: dat [] ⟨[zB], [], []⟩ :: H) inferInstance w h2
set_option maxHeartbeats 1000000 in
theorem dnew_c {w0 : World} {H : List SA} {n : Int} :
    CT Tryz.prog w0 (H) 15 [.int .i64 n] (α := Nat × Nat × Nat) (fun y => .pointer (some ⟨y.1, 0, none⟩)) (fun y => DS.H y.1 (newS y.2.1 y.2.2 n) H) := by
  refine CT_intro Tryz.func15 rfl Tryz.ntmps15 rfl ?_
  refine T_seq ?_
  refine T_region ?_
  refine TL_q (Qt_assign (.pointer _) rfl) rfl ?_
  refine TL_nil ?_
  refine X_then ?_
  refine T_seq ?_
  refine T_region ?_
  refine TL_q (Qt_move (.int .i64 _) rfl) rfl ?_
  refine TL_q (Qt_min rfl rfl) rfl ?_
  refine TL_q (Qt_max rfl rfl) rfl ?_
  rw [show (if (if (1048576 : Int) < n then (1048576 : Int) else n) > 0 then (if (1048576 : Int) < n then (1048576 : Int) else n) else 0) = roomOf n from rfl]
  refine TL_e rfl (Ef_makeMap encS BS.val (fun r6 => ?_))
  refine TL_e rfl (Ef_makeMap encS BS.val (fun r7 => ?_))
  refine TL_q (Qt_build [(0, (.int .i64 _)), (1, (.map _)), (2, (.map _)), (4, (.int .i64 _))] rfl (by kernel_rfl)) rfl ?_
  refine TL_e rfl (Ef_boxN rfl (fun b9 => ?_))
  refine TL_q (Qt_assign (.pointer _) rfl) rfl ?_
  refine TL_nil ?_
  refine X_then ?_
  refine T_ret ?_
  exact X_ret (b9, r6, r7) [_] Tryz.results15 ⟨rfl, trivial⟩ rfl (fun w hw => new_end (Subs.st inferInstance w hw))
end Go.Proofs.YtldnfbghjnhklaaGreatDoor
