/- The reference of disks: Do. -/
import Derived.Test.YtededghplnoajaaDv
namespace Go.Proofs.Ytededghplnoajaa
open Go.RowKit Go.Sx
set_option maxRecDepth 100000
set_option linter.unusedSimpArgs false
set_option linter.unusedVariables false
theorem RSOk.conv {w0 : World} {H H' : List SA} {s : RS} {B N : Nat} (h : RSOk w0 H s B N) (hs : ∀ w, St w0 H' w → St w0 H w) : RSOk w0 H' s B N :=
  ⟨⟨fun w hw => h.syn.rd w (hs w hw)⟩, ⟨fun x hx w hw => h.syb.rd x hx w (hs w hw)⟩, fun a ha => ⟨fun w hw => (h.pb a ha).rd w (hs w hw)⟩, h.sl, h.bl, h.pl, h.pn⟩
def fsz (kd : Int) (nm : ByteArray) (f : FileV) : Nat := if kd = 0 ∨ f.name ≠ nm then f.b.l.length else 0
def sumL (kd : Int) (nm : ByteArray) (M : List FileV) : Nat := (M.map (fsz kd nm)).sum
theorem sumL_take (kd : Int) (nm : ByteArray) (M : List FileV) (k : Nat) (hk : k < M.length) : sumL kd nm (M.take (k + 1)) = sumL kd nm (M.take k) + fsz kd nm M[k] := by
  unfold sumL
  rw [List.take_succ_eq_append_getElem hk, List.map_append, List.sum_append]; simp
theorem sumL_le (kd : Int) (nm : ByteArray) (B : Nat) : ∀ M : List FileV, (∀ f ∈ M, f.b.l.length ≤ B) → sumL kd nm M ≤ M.length * B
  | [], _ => by simp [sumL]
  | f :: M, h => by
    have h1 := sumL_le kd nm B M (fun x hx => h x (List.mem_cons_of_mem _ hx))
    have h2 := h f (List.mem_cons_self ..)
    have h3 : fsz kd nm f ≤ B := by unfold fsz; split <;> omega
    unfold sumL at h1 ⊢
    simp only [List.map_cons, List.sum_cons, List.length_cons, Nat.add_mul, Nat.one_mul]
    omega
theorem sumL_part (kd : Int) (nm : ByteArray) (M : List FileV) (k : Nat) : sumL kd nm (M.take k) ≤ sumL kd nm M := by
  unfold sumL
  conv => rhs; rw [← List.take_append_drop k M]
  rw [List.map_append, List.sum_append]; omega
def okNm (ra : RActV) : Bool := namedB ra.name && (if ra.kind = 2 then namedB ra.to else true)
def okSz (room : Int) (ra : RActV) (M : List FileV) : Bool := if ra.kind ≤ 1 then decide (((ra.b.l.length + sumL ra.kind ra.name M : Nat) : Int) ≤ room) else (findC M ra.name).isSome
/-- What the reference does. -/
def RDo (kp : Nat) (s : RS) (ra : RActV) (M : List FileV) (s' : RS) (e : Int) : Prop :=
  (ra.kind = 4 ∧ e = 0 ∧ ((burnD s.fuse s.down = true ∧ s' = ⟨s.room, s.syn, s.pa, s.pc, s.pend, burnF s.fuse, true⟩) ∨ (burnD s.fuse s.down = false ∧ ∃ y : FL, y.ls = M ∧ s' = ⟨s.room, y, none, 0, [], burnF s.fuse, false⟩))) ∨
  (ra.kind = 5 ∧ e = 0 ∧ ∃ y : FL, (∀ f, Rep s.syn.ls f → Rep y.ls (crG kp ra.p.torn ra.p.cut f s.pend)) ∧ s' = ⟨s.room, y, none, 0, [], -1, false⟩) ∨
  (ra.kind = 6 ∧ e = 0 ∧ s' = s) ∨ (ra.kind = 7 ∧ e = 0 ∧ s' = ⟨s.room, s.syn, s.pa, s.pc, s.pend, if s.down = true then s.fuse else ra.n, s.down⟩) ∨
  (ra.kind < 4 ∧ s.down = true ∧ e = 14 ∧ s' = s) ∨ (ra.kind < 4 ∧ s.down = false ∧ okNm ra = false ∧ e = 15 ∧ s' = s) ∨
  (ra.kind < 4 ∧ s.down = false ∧ okNm ra = true ∧ okSz s.room ra M = false ∧ e = (if ra.kind ≤ 1 then 4 else 13) ∧ s' = s) ∨
  (ra.kind < 4 ∧ s.down = false ∧ okNm ra = true ∧ okSz s.room ra M = true ∧ burnD s.fuse s.down = true ∧ e = 14 ∧ s' = ⟨s.room, s.syn, s.pa, s.pc, s.pend, burnF s.fuse, true⟩) ∨
  (ra.kind < 4 ∧ s.down = false ∧ okNm ra = true ∧ okSz s.room ra M = true ∧ burnD s.fuse s.down = false ∧ e = 0 ∧ ∃ (pa : Option Addr) (pc : Nat), s' = ⟨s.room, s.syn, pa, pc, s.pend ++ [ra], burnF s.fuse, false⟩)
/-- .. with what Now tells, and what holds behind it. -/
def RDoX (Src : BS → Prop) (kp B N : Nat) (s : RS) (ra : RActV) (s' : RS) (P' : PL) (e : Int) : Prop :=
  (∃ M, (∀ f, Rep s.syn.ls f → Rep M (s.pend.foldl (fun f a => doF f (acV a)) f)) ∧ RDo kp s ra M s' e) ∧ RI Src s' P' (B + 1000 * (s.pend.length + 1)) (N + s.pend.length + 1)
theorem RI.fd {Src : BS → Prop} {s : RS} {P : PL} {B N : Nat} (h : RI Src s P B N) (B' N' : Nat) (hB : B ≤ B') (hN : N ≤ N') (f : Int) (d : Bool) : RI Src ⟨s.room, s.syn, s.pa, s.pc, s.pend, f, d⟩ P B' N' :=
  ⟨h.at_, h.src, h.pb, by have := h.sl; show s.syn.ls.length ≤ _; omega, fun x hx => by have := h.bl x hx; omega, h.pl, h.pn⟩
theorem RI.snoc {Src : BS → Prop} {s : RS} {P : PL} {B N : Nat} (h : RI Src s P B N) (B' N' : Nat) (hB : B ≤ B') (hN : N ≤ N') {ra : RActV} (hr : ∀ m, Src ⟨ra.b.a, ra.b.c, ra.b.l.take m⟩) (hb : ra.b.l.length ≤ 1000) (hn : s.pend.length ≤ 999) (pa : Option Addr) (pc : Nat) (f : Int) (d : Bool) : RI Src ⟨s.room, s.syn, pa, pc, s.pend ++ [ra], f, d⟩ P B' N' :=
  ⟨h.at_, h.src, fun a ha => by
      rcases List.mem_append.1 ha with h1 | h1
      · exact h.pb a h1
      · obtain rfl : a = ra := by simpa using h1
        exact hr, by have := h.sl; show s.syn.ls.length ≤ _; omega, fun x hx => by have := h.bl x hx; omega, fun a ha => by
      rcases List.mem_append.1 ha with h1 | h1
      · exact h.pl a h1
      · obtain rfl : a = ra := by simpa using h1
        exact hb, by show (s.pend ++ [ra]).length ≤ 1000; simp; omega⟩
theorem do_end4 {w0 w : World} {H : List SA} {q : Nat} {r f : Int} {d : Bool} {P : PL} {y : DO} (h : St w0 (blk q (.cells (RDiskV.mk r ⟨y.M.a, y.M.ls.length, y.M.c⟩ ⟨none, 0, 0⟩ f d).cells 54 (0, 0)) :: flA y.ff y.fls :: eachA y.fo y.xs :: flA P.ff P.fls :: eachA P.fo P.xs :: H) w) : St w0 (rblk q ⟨r, y.M, none, 0, [], f, d⟩ :: rrow ⟨r, y.M, none, 0, [], f, d⟩ :: flA (P.add y).ff (P.add y).fls :: eachA (P.add y).fo (P.add y).xs :: H) w := by
  have h1 : St w0 (flA y.ff y.fls :: eachA y.fo y.xs :: flA P.ff P.fls :: eachA P.fo P.xs :: blk q (.cells (RDiskV.mk r ⟨y.M.a, y.M.ls.length, y.M.c⟩ ⟨none, 0, 0⟩ f d).cells 54 (0, 0)) :: H) w := Subs.st inferInstance w h
  have h2 : St w0 (blk q (.cells (RDiskV.mk r ⟨y.M.a, y.M.ls.length, y.M.c⟩ ⟨none, 0, 0⟩ f d).cells 54 (0, 0)) :: row (.slice none 0 0) 34 8 [] :: flA (P.add y).ff (P.add y).fls :: eachA (P.add y).fo (P.add y).xs :: H) w := Subs.st inferInstance w ((now_merge h1).addNil 34 8)
  exact h2

set_option maxHeartbeats 1000000 in
theorem rdo_c {w0 : World} {H : List SA} {q : Nat} {s : RS} {P : PL} {B N : Nat} {Src : BS → Prop} (hS : ∀ b : BS, Src b → RdB w0 H (.slice b.a b.l.length b.c) b.l) (hs : RI Src s P B N) (hN : N ≤ 40000) (hB : 1000 ≤ B) (hBm : B ≤ 900000000) (hpn : s.pend.length ≤ 900) (hfu : s.fuse ≤ 9223372036854775807) {ra : RActV} {kp : Nat} (hkp : ra.p.keep = (kp : Int)) (hkl : kp < 18446744073709551616) (hb : ra.b.l.length ≤ 1000) (hk7 : 0 ≤ ra.kind ∧ ra.kind ≤ 7) (hsr : ∀ m, Src ⟨ra.b.a, ra.b.c, ra.b.l.take m⟩) :
    CT Try.prog w0 (rblk q s :: rrow s :: flA P.ff P.fls :: eachA P.fo P.xs :: H) 22 [.pointer (some ⟨q, 0, none⟩), .agg ra.cells] (α := RS × PL × Int) (fun y => .int .i64 y.2.2) (fun y => pu (RDoX Src kp B N s ra y.1 y.2.1 y.2.2) :: rblk q y.1 :: rrow y.1 :: flA y.2.1.ff y.2.1.fls :: eachA y.2.1.fo y.2.1.xs :: H) := by
  refine CT_intro Try.func22 rfl Try.ntmps22 rfl ?_
  refine T_seq ?_
  refine T_region ?_
  refine TL_e rfl (Ef_boxN rfl (fun b3 => ?_))
  refine TL_q (Qt_assign (.int .i64 _) rfl) rfl ?_
  refine TL_nil ?_
  refine X_then ?_
  refine T_seq ?_
  refine T_region ?_
  refine TL_q (Qt_move (.pointer _) rfl) rfl ?_
  have hok0 : RSOk w0 (flA P.ff P.fls :: eachA P.fo P.xs :: blk b3 (.cells ra.cells 34 (0, 0)) :: H) s B N := (hs.ok hS).conv (fun w hw => Subs.st inferInstance w hw)
  refine TL_conv (fun w hw => (Subs.st inferInstance w hw : St w0 (rblk q s :: rrow s :: flA P.ff P.fls :: eachA P.fo P.xs :: blk b3 (.cells ra.cells 34 (0, 0)) :: H) w)) ?_
  refine TL_e rfl (Ef_call (rnow_c (s := s) (B := B) (N := N) hok0 (by omega) hB (by omega)) rfl (fun x11 => ?_))
  refine TL_pure (fun hy => ?_)
  have hM : ∀ f, Rep s.syn.ls f → Rep x11.M.ls (s.pend.foldl (fun f a => doF f (acV a)) f) := fun f hf => by have := hy.rep f hf; rwa [List.take_length] at this
  have hat0 := hy.at hok0
  have hle := hy.le hs.bl hs.pl hB
  refine TL_conv (fun w hw => (Subs.st inferInstance w hw : St w0 (blk b3 (.cells ra.cells 34 (0, 0)) :: flA x11.ff x11.fls :: eachA x11.fo x11.xs :: rblk q s :: rrow s :: flA P.ff P.fls :: eachA P.fo P.xs :: H) w)) ?_
  have hat : RdC w0 (blk b3 (.cells ra.cells 34 (0, 0)) :: flA x11.ff x11.fls :: eachA x11.fo x11.xs :: rblk q s :: rrow s :: flA P.ff P.fls :: eachA P.fo P.xs :: H) (.slice x11.M.a x11.M.ls.length x11.M.c) 2 (x11.M.ls.flatMap FileV.list) := ⟨fun w hw => (hy.at (hok0.conv (H' := eachA x11.fo x11.xs :: rblk q s :: rrow s :: flA P.ff P.fls :: eachA P.fo P.xs :: blk b3 (.cells ra.cells 34 (0, 0)) :: H) (fun w hw => Subs.st inferInstance w hw))).rd w (Subs.st inferInstance w hw)⟩
  refine TL_q (Qt_assign (.slice _ _ _) rfl) rfl ?_
  refine TL_nil ?_
  refine X_then ?_
  refine T_seq ?_
  refine T_seq ?_
  refine T_region ?_
  refine TL_q (Qt_fieldAddr 0 rfl rfl) rfl ?_
  refine TL_q (Qt_load1 rfl) rfl ?_
  refine TL_nil ?_
  refine X_then ?_
  refine T_block ?_
  refine T_seq ?_
  refine T_region ?_
  refine TL_q (Qt_eql rfl rfl) rfl ?_
  refine TL_q (Qt_assign (.bool _) rfl) rfl ?_
  refine TL_nil ?_
  refine X_then ?_
  refine T_cond rfl (fun h14 => ?_) (fun h14 => ?_)
  ·
    have p14 := h14
    try simp only [decide_eq_true_eq, decide_eq_false_iff_not, Bool.not_eq_true', Bool.not_eq_false', Option.isNone_iff_eq_none, ne_eq, Decidable.not_not, Int.not_lt, Int.not_le] at p14
    refine T_seq ?_
    refine T_seq ?_
    refine T_region ?_
    refine TL_q (Qt_move (.pointer _) rfl) rfl ?_
    refine TL_frontB q ?_
    refine TL_e rfl (Ef_call (rburn_c hfu) rfl (fun x17 => ?_))
    refine TL_nil ?_
    refine X_then ?_
    refine T_cond rfl (fun h17 => ?_) (fun h17 => ?_)
    ·
      have p17 := h17
      try simp only [decide_eq_true_eq, decide_eq_false_iff_not, Bool.not_eq_true', Bool.not_eq_false', Option.isNone_iff_eq_none, ne_eq, Decidable.not_not, Int.not_lt, Int.not_le] at p17
      have hbf : burnD s.fuse s.down = false := by simpa using h17
      rw [hbf]
      refine T_seq ?_
      refine T_region ?_
      refine TL_q (Qt_move (.pointer _) rfl) rfl ?_
      refine TL_q (Qt_move (.slice _ _ _) rfl) rfl ?_
      refine TL_q (Qt_nilCheck rfl) rfl ?_
      refine TL_q (Qt_fieldAddr 1 rfl rfl) rfl ?_
      refine TL_n (Ef_store1 (.slice _ _ _) rfl rfl (?_))
      refine TL_nil ?_
      refine X_then ?_
      refine T_region ?_
      refine TL_q (Qt_move (.pointer _) rfl) rfl ?_
      refine TL_q (Qt_nilCheck rfl) rfl ?_
      refine TL_q (Qt_fieldAddr 2 rfl rfl) rfl ?_
      refine TL_n (Ef_store1 (.slice _ _ _) rfl rfl (?_))
      refine TL_nil ?_
      refine X_then ?_
      refine T_seq ?_
      refine T_region ?_
      refine TL_q (Qt_assign (.int .i64 _) rfl) rfl ?_
      refine TL_nil ?_
      refine X_then ?_
      refine T_ret ?_
      refine X_block_ret ?_
      refine X_then_ret ?_
      first
        | exact X_ret ((⟨s.room, x11.M, none, 0, [], burnF s.fuse, false⟩ : RS), P.add x11, (0 : Int)) [_] Try.results22 ⟨rfl, trivial⟩ rfl (fun w hw => (do_end4 (Subs.st inferInstance w hw)).addPure ⟨⟨x11.M.ls, hM, .inl ⟨by omega, rfl, .inr ⟨hbf, x11.M, rfl, rfl⟩⟩⟩, (hs.now hy hB none 0 (burnF s.fuse) false).mono (by omega) (by omega)⟩)
        | exact X_ret ((⟨s.room, s.syn, s.pa, s.pc, s.pend, burnF s.fuse, true⟩ : RS), P, (0 : Int)) [_] Try.results22 ⟨rfl, trivial⟩ rfl (fun w hw => ((Subs.st inferInstance w hw : St w0 (rblk q ⟨s.room, s.syn, s.pa, s.pc, s.pend, burnF s.fuse, true⟩ :: rrow ⟨s.room, s.syn, s.pa, s.pc, s.pend, burnF s.fuse, true⟩ :: flA P.ff P.fls :: eachA P.fo P.xs :: H) w)).addPure ⟨⟨x11.M.ls, hM, .inl ⟨by omega, rfl, .inl ⟨hbt, rfl⟩⟩⟩, hs.fd (B + 1000 * (s.pend.length + 1)) (N + s.pend.length + 1) (by omega) (by omega) _ _⟩)
    ·
      have p17 := h17
      try simp only [decide_eq_true_eq, decide_eq_false_iff_not, Bool.not_eq_true', Bool.not_eq_false', Option.isNone_iff_eq_none, ne_eq, Decidable.not_not, Int.not_lt, Int.not_le] at p17
      have hbt : burnD s.fuse s.down = true := by simpa using h17
      rw [hbt]
      refine T_skip ?_
      refine X_then ?_
      refine T_seq ?_
      refine T_region ?_
      refine TL_q (Qt_assign (.int .i64 _) rfl) rfl ?_
      refine TL_nil ?_
      refine X_then ?_
      refine T_ret ?_
      refine X_block_ret ?_
      refine X_then_ret ?_
      first
        | exact X_ret ((⟨s.room, x11.M, none, 0, [], burnF s.fuse, false⟩ : RS), P.add x11, (0 : Int)) [_] Try.results22 ⟨rfl, trivial⟩ rfl (fun w hw => (do_end4 (Subs.st inferInstance w hw)).addPure ⟨⟨x11.M.ls, hM, .inl ⟨by omega, rfl, .inr ⟨hbf, x11.M, rfl, rfl⟩⟩⟩, (hs.now hy hB none 0 (burnF s.fuse) false).mono (by omega) (by omega)⟩)
        | exact X_ret ((⟨s.room, s.syn, s.pa, s.pc, s.pend, burnF s.fuse, true⟩ : RS), P, (0 : Int)) [_] Try.results22 ⟨rfl, trivial⟩ rfl (fun w hw => ((Subs.st inferInstance w hw : St w0 (rblk q ⟨s.room, s.syn, s.pa, s.pc, s.pend, burnF s.fuse, true⟩ :: rrow ⟨s.room, s.syn, s.pa, s.pc, s.pend, burnF s.fuse, true⟩ :: flA P.ff P.fls :: eachA P.fo P.xs :: H) w)).addPure ⟨⟨x11.M.ls, hM, .inl ⟨by omega, rfl, .inl ⟨hbt, rfl⟩⟩⟩, hs.fd (B + 1000 * (s.pend.length + 1)) (N + s.pend.length + 1) (by omega) (by omega) _ _⟩)
  ·
    have p14 := h14
    try simp only [decide_eq_true_eq, decide_eq_false_iff_not, Bool.not_eq_true', Bool.not_eq_false', Option.isNone_iff_eq_none, ne_eq, Decidable.not_not, Int.not_lt, Int.not_le] at p14
    refine T_seq ?_
    refine T_region ?_
    refine TL_q (Qt_eql rfl rfl) rfl ?_
    refine TL_q (Qt_assign (.bool _) rfl) rfl ?_
    refine TL_nil ?_
    refine X_then ?_
    refine T_cond rfl (fun h25 => ?_) (fun h25 => ?_)
    ·
      have p25 := h25
      try simp only [decide_eq_true_eq, decide_eq_false_iff_not, Bool.not_eq_true', Bool.not_eq_false', Option.isNone_iff_eq_none, ne_eq, Decidable.not_not, Int.not_lt, Int.not_le] at p25
      refine T_seq ?_
      refine T_region ?_
      refine TL_q (Qt_move (.pointer _) rfl) rfl ?_
      refine TL_q (Qt_fieldAddr 4 rfl rfl) rfl ?_
      refine TL_q (Qt_val (Qt_loadN rfl rfl) (show Value.agg ra.p.cells = Value.agg (PlanV.mk (kp : Int) ra.p.torn ra.p.cut).cells from by rw [← hkp])) rfl ?_
      refine TL_conv (fun w hw => (Subs.st inferInstance w hw : St w0 (rblk q s :: rrow s :: flA P.ff P.fls :: eachA P.fo P.xs :: H) w)) ?_
      refine TL_e rfl (Ef_call (rcrash_c (s := s) (P := P) (B := B) (N := N) hS hs (by omega) hB (by omega) (kp := kp) (torn := ra.p.torn) (cut := ra.p.cut) hkl) rfl (fun x30 => ?_))
      refine TL_pure (fun hc => ?_)
      refine TL_nil ?_
      refine X_then ?_
      refine T_seq ?_
      refine T_region ?_
      refine TL_q (Qt_assign (.int .i64 _) rfl) rfl ?_
      refine TL_nil ?_
      refine X_then ?_
      refine T_ret ?_
      refine X_block_ret ?_
      refine X_then_ret ?_
      exact X_ret ((⟨s.room, x30.1, none, 0, [], -1, false⟩ : RS), x30.2, (0 : Int)) [_] Try.results22 ⟨rfl, trivial⟩ rfl (fun w hw => (Subs.st inferInstance w hw : St w0 (rblk q ⟨s.room, x30.1, none, 0, [], -1, false⟩ :: rrow ⟨s.room, x30.1, none, 0, [], -1, false⟩ :: flA x30.2.ff x30.2.fls :: eachA x30.2.fo x30.2.xs :: H) w).addPure ⟨⟨x11.M.ls, hM, .inr (.inl ⟨by omega, rfl, x30.1, fun f hf => by have := hc.rep f hf; rwa [List.take_length] at this, rfl⟩)⟩, ⟨hc.ri.at_, hc.ri.src, (fun a ha => by cases ha), by have := hc.ri.sl; show x30.1.ls.length ≤ _; simp only at this; omega, fun x hx => by have := hc.ri.bl x hx; omega, (fun a ha => by cases ha), Nat.zero_le _⟩⟩)
    ·
      have p25 := h25
      try simp only [decide_eq_true_eq, decide_eq_false_iff_not, Bool.not_eq_true', Bool.not_eq_false', Option.isNone_iff_eq_none, ne_eq, Decidable.not_not, Int.not_lt, Int.not_le] at p25
      refine T_seq ?_
      refine T_region ?_
      refine TL_q (Qt_eql rfl rfl) rfl ?_
      refine TL_q (Qt_assign (.bool _) rfl) rfl ?_
      refine TL_nil ?_
      refine X_then ?_
      refine T_cond rfl (fun h31 => ?_) (fun h31 => ?_)
      ·
        have p31 := h31
        try simp only [decide_eq_true_eq, decide_eq_false_iff_not, Bool.not_eq_true', Bool.not_eq_false', Option.isNone_iff_eq_none, ne_eq, Decidable.not_not, Int.not_lt, Int.not_le] at p31
        refine T_seq ?_
        refine T_region ?_
        refine TL_q (Qt_assign (.int .i64 _) rfl) rfl ?_
        refine TL_nil ?_
        refine X_then ?_
        refine T_ret ?_
        refine X_block_ret ?_
        refine X_then_ret ?_
        exact X_ret ((s : RS), P, (0 : Int)) [_] Try.results22 ⟨rfl, trivial⟩ rfl (fun w hw => ((Subs.st inferInstance w hw : St w0 (rblk q s :: rrow s :: flA P.ff P.fls :: eachA P.fo P.xs :: H) w)).addPure ⟨⟨x11.M.ls, hM, .inr (.inr (.inl ⟨by omega, rfl, rfl⟩))⟩, hs.fd (B + 1000 * (s.pend.length + 1)) (N + s.pend.length + 1) (by omega) (by omega) s.fuse s.down⟩)
      ·
        have p31 := h31
        try simp only [decide_eq_true_eq, decide_eq_false_iff_not, Bool.not_eq_true', Bool.not_eq_false', Option.isNone_iff_eq_none, ne_eq, Decidable.not_not, Int.not_lt, Int.not_le] at p31
        refine T_seq ?_
        refine T_region ?_
        refine TL_q (Qt_eql rfl rfl) rfl ?_
        refine TL_q (Qt_assign (.bool _) rfl) rfl ?_
        refine TL_nil ?_
        refine X_then ?_
        refine T_cond rfl (fun h33 => ?_) (fun h33 => ?_)
        ·
          have p33 := h33
          try simp only [decide_eq_true_eq, decide_eq_false_iff_not, Bool.not_eq_true', Bool.not_eq_false', Option.isNone_iff_eq_none, ne_eq, Decidable.not_not, Int.not_lt, Int.not_le] at p33
          refine T_seq ?_
          refine T_seq ?_
          refine T_region ?_
          refine TL_q (Qt_move (.pointer _) rfl) rfl ?_
          refine TL_q (Qt_nilCheck rfl) rfl ?_
          refine TL_q (Qt_fieldAddr 4 rfl rfl) rfl ?_
          refine TL_q (Qt_load1 rfl) rfl ?_
          refine TL_q (Qt_not rfl) rfl ?_
          refine TL_nil ?_
          refine X_then ?_
          refine T_cond rfl (fun h39 => ?_) (fun h39 => ?_)
          ·
            have p39 := h39
            try simp only [decide_eq_true_eq, decide_eq_false_iff_not, Bool.not_eq_true', Bool.not_eq_false', Option.isNone_iff_eq_none, ne_eq, Decidable.not_not, Int.not_lt, Int.not_le] at p39
            refine T_region ?_
            refine TL_q (Qt_move (.pointer _) rfl) rfl ?_
            refine TL_q (Qt_fieldAddr 7 rfl rfl) rfl ?_
            refine TL_q (Qt_load1 rfl) rfl ?_
            refine TL_q (Qt_nilCheck rfl) rfl ?_
            refine TL_q (Qt_fieldAddr 3 rfl rfl) rfl ?_
            refine TL_n (Ef_store1 (.int .i64 _) rfl rfl (?_))
            refine TL_nil ?_
            refine X_then ?_
            refine T_seq ?_
            refine T_region ?_
            refine TL_q (Qt_assign (.int .i64 _) rfl) rfl ?_
            refine TL_nil ?_
            refine X_then ?_
            refine T_ret ?_
            refine X_block_ret ?_
            refine X_then_ret ?_
            have e : (if s.down = true then s.fuse else ra.n) = s.fuse ∨ (if s.down = true then s.fuse else ra.n) = ra.n := by split <;> simp
            first
              | (have e2 : (if s.down = true then s.fuse else ra.n) = s.fuse := by simp_all
                 exact X_ret ((⟨s.room, s.syn, s.pa, s.pc, s.pend, s.fuse, s.down⟩ : RS), P, (0 : Int)) [_] Try.results22 ⟨rfl, trivial⟩ rfl (fun w hw => ((Subs.st inferInstance w hw : St w0 (rblk q ⟨s.room, s.syn, s.pa, s.pc, s.pend, s.fuse, s.down⟩ :: rrow ⟨s.room, s.syn, s.pa, s.pc, s.pend, s.fuse, s.down⟩ :: flA P.ff P.fls :: eachA P.fo P.xs :: H) w)).addPure ⟨⟨x11.M.ls, hM, .inr (.inr (.inr (.inl ⟨by omega, rfl, by rw [e2]⟩)))⟩, hs.fd (B + 1000 * (s.pend.length + 1)) (N + s.pend.length + 1) (by omega) (by omega) _ _⟩))
              | (have e2 : (if s.down = true then s.fuse else ra.n) = ra.n := by simp_all
                 exact X_ret ((⟨s.room, s.syn, s.pa, s.pc, s.pend, ra.n, s.down⟩ : RS), P, (0 : Int)) [_] Try.results22 ⟨rfl, trivial⟩ rfl (fun w hw => ((Subs.st inferInstance w hw : St w0 (rblk q ⟨s.room, s.syn, s.pa, s.pc, s.pend, ra.n, s.down⟩ :: rrow ⟨s.room, s.syn, s.pa, s.pc, s.pend, ra.n, s.down⟩ :: flA P.ff P.fls :: eachA P.fo P.xs :: H) w)).addPure ⟨⟨x11.M.ls, hM, .inr (.inr (.inr (.inl ⟨by omega, rfl, by rw [e2]⟩)))⟩, hs.fd (B + 1000 * (s.pend.length + 1)) (N + s.pend.length + 1) (by omega) (by omega) _ _⟩))
          ·
            have p39 := h39
            try simp only [decide_eq_true_eq, decide_eq_false_iff_not, Bool.not_eq_true', Bool.not_eq_false', Option.isNone_iff_eq_none, ne_eq, Decidable.not_not, Int.not_lt, Int.not_le] at p39
            refine T_skip ?_
            refine X_then ?_
            refine T_seq ?_
            refine T_region ?_
            refine TL_q (Qt_assign (.int .i64 _) rfl) rfl ?_
            refine TL_nil ?_
            refine X_then ?_
            refine T_ret ?_
            refine X_block_ret ?_
            refine X_then_ret ?_
            have e : (if s.down = true then s.fuse else ra.n) = s.fuse ∨ (if s.down = true then s.fuse else ra.n) = ra.n := by split <;> simp
            first
              | (have e2 : (if s.down = true then s.fuse else ra.n) = s.fuse := by simp_all
                 exact X_ret ((⟨s.room, s.syn, s.pa, s.pc, s.pend, s.fuse, s.down⟩ : RS), P, (0 : Int)) [_] Try.results22 ⟨rfl, trivial⟩ rfl (fun w hw => ((Subs.st inferInstance w hw : St w0 (rblk q ⟨s.room, s.syn, s.pa, s.pc, s.pend, s.fuse, s.down⟩ :: rrow ⟨s.room, s.syn, s.pa, s.pc, s.pend, s.fuse, s.down⟩ :: flA P.ff P.fls :: eachA P.fo P.xs :: H) w)).addPure ⟨⟨x11.M.ls, hM, .inr (.inr (.inr (.inl ⟨by omega, rfl, by rw [e2]⟩)))⟩, hs.fd (B + 1000 * (s.pend.length + 1)) (N + s.pend.length + 1) (by omega) (by omega) _ _⟩))
              | (have e2 : (if s.down = true then s.fuse else ra.n) = ra.n := by simp_all
                 exact X_ret ((⟨s.room, s.syn, s.pa, s.pc, s.pend, ra.n, s.down⟩ : RS), P, (0 : Int)) [_] Try.results22 ⟨rfl, trivial⟩ rfl (fun w hw => ((Subs.st inferInstance w hw : St w0 (rblk q ⟨s.room, s.syn, s.pa, s.pc, s.pend, ra.n, s.down⟩ :: rrow ⟨s.room, s.syn, s.pa, s.pc, s.pend, ra.n, s.down⟩ :: flA P.ff P.fls :: eachA P.fo P.xs :: H) w)).addPure ⟨⟨x11.M.ls, hM, .inr (.inr (.inr (.inl ⟨by omega, rfl, by rw [e2]⟩)))⟩, hs.fd (B + 1000 * (s.pend.length + 1)) (N + s.pend.length + 1) (by omega) (by omega) _ _⟩))
        ·
          have p33 := h33
          try simp only [decide_eq_true_eq, decide_eq_false_iff_not, Bool.not_eq_true', Bool.not_eq_false', Option.isNone_iff_eq_none, ne_eq, Decidable.not_not, Int.not_lt, Int.not_le] at p33
          have hk4 : ra.kind < 4 := by omega
          refine T_skip ?_
          refine X_block ?_
          refine X_then ?_
          refine T_seq ?_
          refine T_seq ?_
          refine T_region ?_
          refine TL_q (Qt_move (.pointer _) rfl) rfl ?_
          refine TL_q (Qt_nilCheck rfl) rfl ?_
          refine TL_q (Qt_fieldAddr 4 rfl rfl) rfl ?_
          refine TL_q (Qt_load1 rfl) rfl ?_
          refine TL_nil ?_
          refine X_then ?_
          refine T_cond rfl (fun h48 => ?_) (fun h48 => ?_)
          ·
            have p48 := h48
            try simp only [decide_eq_true_eq, decide_eq_false_iff_not, Bool.not_eq_true', Bool.not_eq_false', Option.isNone_iff_eq_none, ne_eq, Decidable.not_not, Int.not_lt, Int.not_le] at p48
            refine T_seq ?_
            refine T_region ?_
            refine TL_q (Qt_assign (.int .i64 _) rfl) rfl ?_
            refine TL_nil ?_
            refine X_then ?_
            refine T_ret ?_
            refine X_then_ret ?_
            exact X_ret ((s : RS), P, (14 : Int)) [_] Try.results22 ⟨rfl, trivial⟩ rfl (fun w hw => ((Subs.st inferInstance w hw : St w0 (rblk q s :: rrow s :: flA P.ff P.fls :: eachA P.fo P.xs :: H) w)).addPure ⟨⟨x11.M.ls, hM, .inr (.inr (.inr (.inr (.inl ⟨by omega, h48, rfl, rfl⟩))))⟩, hs.fd (B + 1000 * (s.pend.length + 1)) (N + s.pend.length + 1) (by omega) (by omega) s.fuse s.down⟩)
          ·
            have p48 := h48
            try simp only [decide_eq_true_eq, decide_eq_false_iff_not, Bool.not_eq_true', Bool.not_eq_false', Option.isNone_iff_eq_none, ne_eq, Decidable.not_not, Int.not_lt, Int.not_le] at p48
            have hdn : s.down = false := by simpa using h48
            refine T_skip ?_
            refine X_then ?_
            refine T_seq ?_
            refine T_seq ?_
            refine T_region ?_
            refine TL_q (Qt_fieldAddr 1 rfl rfl) rfl ?_
            refine TL_q (Qt_load1 rfl) rfl ?_
            refine TL_e rfl (Ef_call (rnamed_c) rfl (fun x51 => ?_))
            refine TL_q (Qt_not rfl) rfl ?_
            refine TL_q (Qt_move (.bool _) rfl) rfl ?_
            refine TL_split 53 rfl (fun h53 => ?_) (fun h53 => ?_)
            ·
              have p53 := h53
              try simp only [decide_eq_true_eq, decide_eq_false_iff_not, Bool.not_eq_true', Bool.not_eq_false', Option.isNone_iff_eq_none, ne_eq, Decidable.not_not, Int.not_lt, Int.not_le] at p53
              refine TL_pass rfl rfl h53 rfl ?_
              refine TL_pass rfl rfl h53 rfl ?_
              refine TL_pass rfl rfl h53 rfl ?_
              refine TL_pass rfl rfl h53 rfl ?_
              refine TL_passU rfl rfl rfl ?_
              refine TL_passU rfl rfl rfl ?_
              refine TL_passU rfl rfl rfl ?_
              refine TL_passU rfl rfl rfl ?_
              refine TL_pass rfl rfl h53 rfl ?_
              refine TL_q (Qt_pick_t (.bool _) rfl h53 rfl) rfl ?_
              refine TL_nil ?_
              refine X_then ?_
              refine T_cond_true rfl rfl ?_
              have hnm : okNm ra = false := by unfold okNm; first | (simp_all; done) | (split <;> simp_all)
              refine T_seq ?_
              refine T_region ?_
              refine TL_q (Qt_assign (.int .i64 _) rfl) rfl ?_
              refine TL_nil ?_
              refine X_then ?_
              refine T_ret ?_
              refine X_then_ret ?_
              exact X_ret ((s : RS), P, (15 : Int)) [_] Try.results22 ⟨rfl, trivial⟩ rfl (fun w hw => ((Subs.st inferInstance w hw : St w0 (rblk q s :: rrow s :: flA P.ff P.fls :: eachA P.fo P.xs :: H) w)).addPure ⟨⟨x11.M.ls, hM, .inr (.inr (.inr (.inr (.inr (.inl ⟨hk4, hdn, hnm, rfl, rfl⟩)))))⟩, hs.fd (B + 1000 * (s.pend.length + 1)) (N + s.pend.length + 1) (by omega) (by omega) s.fuse s.down⟩)
            ·
              have p53 := h53
              try simp only [decide_eq_true_eq, decide_eq_false_iff_not, Bool.not_eq_true', Bool.not_eq_false', Option.isNone_iff_eq_none, ne_eq, Decidable.not_not, Int.not_lt, Int.not_le] at p53
              refine TL_take rfl rfl h53 ?_
              refine TL_q (Qt_fieldAddr 0 rfl rfl) rfl ?_
              refine TL_take rfl rfl h53 ?_
              refine TL_q (Qt_load1 rfl) rfl ?_
              refine TL_take rfl rfl h53 ?_
              refine TL_q (Qt_eql rfl rfl) rfl ?_
              refine TL_take rfl rfl h53 ?_
              refine TL_q (Qt_move (.bool _) rfl) rfl ?_
              refine TL_split 57 rfl (fun h57 => ?_) (fun h57 => ?_)
              ·
                have p57 := h57
                try simp only [decide_eq_true_eq, decide_eq_false_iff_not, Bool.not_eq_true', Bool.not_eq_false', Option.isNone_iff_eq_none, ne_eq, Decidable.not_not, Int.not_lt, Int.not_le] at p57
                refine TL_take rfl rfl h57 ?_
                refine TL_q (Qt_fieldAddr 2 rfl rfl) rfl ?_
                refine TL_take rfl rfl h57 ?_
                refine TL_q (Qt_load1 rfl) rfl ?_
                refine TL_take rfl rfl h57 ?_
                refine TL_e rfl (Ef_call (rnamed_c) rfl (fun x60 => ?_))
                refine TL_take rfl rfl h57 ?_
                refine TL_q (Qt_not rfl) rfl ?_
                refine TL_take rfl rfl h53 ?_
                refine TL_q (Qt_pick_t (.bool _) rfl h57 rfl) rfl ?_
                refine TL_q (Qt_pick_f (.bool _) rfl h53 rfl) rfl ?_
                refine TL_nil ?_
                refine X_then ?_
                refine T_cond rfl (fun h63 => ?_) (fun h63 => ?_)
                ·
                  have p63 := h63
                  try simp only [decide_eq_true_eq, decide_eq_false_iff_not, Bool.not_eq_true', Bool.not_eq_false', Option.isNone_iff_eq_none, ne_eq, Decidable.not_not, Int.not_lt, Int.not_le] at p63
                  have hnm : okNm ra = false := by unfold okNm; first | (simp_all; done) | (split <;> simp_all)
                  refine T_seq ?_
                  refine T_region ?_
                  refine TL_q (Qt_assign (.int .i64 _) rfl) rfl ?_
                  refine TL_nil ?_
                  refine X_then ?_
                  refine T_ret ?_
                  refine X_then_ret ?_
                  exact X_ret ((s : RS), P, (15 : Int)) [_] Try.results22 ⟨rfl, trivial⟩ rfl (fun w hw => ((Subs.st inferInstance w hw : St w0 (rblk q s :: rrow s :: flA P.ff P.fls :: eachA P.fo P.xs :: H) w)).addPure ⟨⟨x11.M.ls, hM, .inr (.inr (.inr (.inr (.inr (.inl ⟨hk4, hdn, hnm, rfl, rfl⟩)))))⟩, hs.fd (B + 1000 * (s.pend.length + 1)) (N + s.pend.length + 1) (by omega) (by omega) s.fuse s.down⟩)
                ·
                  have p63 := h63
                  try simp only [decide_eq_true_eq, decide_eq_false_iff_not, Bool.not_eq_true', Bool.not_eq_false', Option.isNone_iff_eq_none, ne_eq, Decidable.not_not, Int.not_lt, Int.not_le] at p63
                  have hnm : okNm ra = true := by unfold okNm; first | (simp_all; done) | (split <;> simp_all)
                  refine T_skip ?_
                  refine X_then ?_
                  refine T_seq ?_
                  refine T_seq ?_
                  refine T_region ?_
                  refine TL_q (Qt_fieldAddr 0 rfl rfl) rfl ?_
                  refine TL_q (Qt_load1 rfl) rfl ?_
                  refine TL_q (Qt_leq rfl rfl) rfl ?_
                  refine TL_nil ?_
                  refine X_then ?_
                  refine T_cond rfl (fun h66 => ?_) (fun h66 => ?_)
                  ·
                    have p66 := h66
                    try simp only [decide_eq_true_eq, decide_eq_false_iff_not, Bool.not_eq_true', Bool.not_eq_false', Option.isNone_iff_eq_none, ne_eq, Decidable.not_not, Int.not_lt, Int.not_le] at p66
                    refine T_seq ?_
                    refine T_region ?_
                    refine TL_q (Qt_fieldAddr 3 rfl rfl) rfl ?_
                    refine TL_q (Qt_load1 rfl) rfl ?_
                    refine TL_q (Qt_len_slice rfl Try.underlying32) rfl ?_
                    refine TL_q (Qt_assign (.int .i64 _) rfl) rfl ?_
                    refine TL_nil ?_
                    refine X_then ?_
                    refine T_seq ?_
                    refine T_seq ?_
                    refine T_region ?_
                    refine TL_q (Qt_assign (.int .i64 _) rfl) rfl ?_
                    refine TL_nil ?_
                    refine X_then ?_
                    refine T_block ?_
                    refine T_loop [6, 7, 70, 71, 72, 73, 74, 75, 76, 77, 78, 79, 80, 81, 82, 83, 84, 85, 86, 87, 88, 89, 90, 91, 92, 93, 94, 95, 96] [7, 6] (fun us H' => ∃ (k : Nat), us = [.int .i64 (k : Int), .int .i64 ((ra.b.l.length + sumL ra.kind ra.name (x11.M.ls.take k) : Nat) : Int)] ∧ blk b3 (.cells ra.cells 34 (0, 0)) :: flA x11.ff x11.fls :: eachA x11.fo x11.xs :: rblk q s :: rrow s :: flA P.ff P.fls :: eachA P.fo P.xs :: H = H' ∧ k ≤ x11.M.ls.length) (fun us => match us with | .int _ i :: _ => x11.M.ls.length - i.toNat | _ => 0) ⟨0, (by rw [show sumL ra.kind ra.name (x11.M.ls.take 0) = 0 from rfl]; rfl), rfl, by omega⟩ (Subs.st inferInstance) ?_
                    rintro τ0 _ _  ⟨k, rfl, rfl, hk0⟩ _
                    refine T_seq ?_
                    refine T_seq ?_
                    refine T_region ?_
                    refine TL_q (Qt_move (.int .i64 _) rfl) rfl ?_
                    refine TL_q (Qt_move (.slice _ _ _) rfl) rfl ?_
                    refine TL_q (Qt_len_slice rfl Try.underlying50) rfl ?_
                    refine TL_q (Qt_lss rfl rfl) rfl ?_
                    refine TL_nil ?_
                    refine X_then ?_
                    refine T_cond rfl (fun h73 => ?_) (fun h73 => ?_)
                    ·
                      have p73 := h73
                      try simp only [decide_eq_true_eq, decide_eq_false_iff_not, Bool.not_eq_true', Bool.not_eq_false', Option.isNone_iff_eq_none, ne_eq, Decidable.not_not, Int.not_lt, Int.not_le] at p73
                      have hk : k < x11.M.ls.length := by omega
                      have hst := sumL_take ra.kind ra.name x11.M.ls k hk
                      have hbk := hle _ (List.mem_map.2 ⟨_, List.getElem_mem hk, rfl⟩)
                      have hsl := hs.sl
                      have hln := hy.len
                      have hsm := sumL_le ra.kind ra.name (B + 1000 * s.pend.length) (x11.M.ls.take k) (fun f hf => hle _ (List.mem_map.2 ⟨f, List.mem_of_mem_take hf, rfl⟩))
                      have hsq : (x11.M.ls.take k).length * (B + 1000 * s.pend.length) ≤ 50000 * 1000000000 := Nat.mul_le_mul (by rw [List.length_take]; omega) (by omega)
                      refine T_skip ?_
                      refine X_then ?_
                      refine T_seq ?_
                      refine T_block ?_
                      refine T_seq ?_
                      refine T_draw (blk b3 (.cells ra.cells 34 (0, 0)) :: flA x11.ff x11.fls :: eachA x11.fo x11.xs :: rblk q s :: rrow s :: flA P.ff P.fls :: eachA P.fo P.xs :: H) [(0, true), (1, true), (2, true), (3, true), (4, true), (5, true), (6, true), (7, true), (8, true), (9, true), (10, true), (11, true), (12, true)] (by kernel_rfl) (by kernel_rfl) rfl (by kernel_rfl) (Subs.st inferInstance) (fun hns0 => ?_)
                      refine DL_q hns0 rfl (Qt_fieldAddr 0 rfl rfl) rfl ?_
                      refine DL_q hns0 rfl (Qt_load1 rfl) rfl ?_
                      refine DL_q hns0 rfl (Qt_eql rfl rfl) rfl ?_
                      refine DL_q hns0 rfl (Qt_move (.bool _) rfl) rfl ?_
                      refine DL_split 79 rfl (fun h79 => ?_) (fun h79 => ?_)
                      ·
                        have p79 := h79
                        try simp only [decide_eq_true_eq, decide_eq_false_iff_not, Bool.not_eq_true', Bool.not_eq_false', Option.isNone_iff_eq_none, ne_eq, Decidable.not_not, Int.not_lt, Int.not_le] at p79
                        refine DL_pass hns0 rfl rfl rfl h79 rfl ?_
                        refine DL_pass hns0 rfl rfl rfl h79 rfl ?_
                        refine DL_pass hns0 rfl rfl rfl h79 rfl ?_
                        refine DL_pass hns0 rfl rfl rfl h79 rfl ?_
                        refine DL_pass hns0 rfl rfl rfl h79 rfl ?_
                        refine DL_pass hns0 rfl rfl rfl h79 rfl ?_
                        refine DL_pass hns0 rfl rfl rfl h79 rfl ?_
                        refine DL_pass hns0 rfl rfl rfl h79 rfl ?_
                        refine DL_q hns0 rfl (Qt_pick_t (.bool _) rfl h79 rfl) rfl ?_
                        refine DL_nil ?_
                        refine X_then ?_
                        refine T_cond_true rfl rfl ?_
                        have hfz : fsz ra.kind ra.name x11.M.ls[k] = x11.M.ls[k].b.l.length := if_pos (by first | (simp_all; done) | (left; simp_all; done) | (right; simp_all; done))
                        rw [hfz] at hst
                        refine T_region ?_
                        refine TL_q (Qt_move (.int .i64 _) rfl) rfl ?_
                        refine TL_q (Qt_move (.slice _ _ _) rfl) rfl ?_
                        refine TL_q (Qt_move (.int .i64 _) rfl) rfl ?_
                        refine TL_q (Qt_indexN rfl rfl (by omega) (by omega)) rfl ?_
                        refine TL_q (Qt_fieldR rfl 2 (file_pos hk)) rfl ?_
                        refine TL_q (Qt_loadRs 2 (.slice _ _ _) rfl (file_get x11.M.ls k 1 hk (by decide) inferInstance)) rfl ?_
                        refine TL_q (Qt_len_slice rfl Try.underlying32) rfl ?_
                        refine TL_q (Qt_val (Qt_add rfl rfl (by omega) (by omega)) (congrArg (Value.int .i64) (show ((ra.b.l.length + sumL ra.kind ra.name (x11.M.ls.take k) : Nat) : Int) + (x11.M.ls[k].b.l.length : Int) = ((ra.b.l.length + sumL ra.kind ra.name (x11.M.ls.take (k + 1)) : Nat) : Int) from by rw [hst]; omega))) rfl ?_
                        refine TL_q (Qt_assign (.int .i64 _) rfl) rfl ?_
                        refine TL_nil ?_
                        refine X_block ?_
                        refine X_then ?_
                        refine T_region ?_
                        refine TL_q (Qt_move (.int .i64 _) rfl) rfl ?_
                        first
                          | refine TL_q (Qt_add rfl rfl (by omega) (by omega)) rfl ?_
                          | refine TL_q (Qt_addw rfl rfl) rfl ?_
                        refine TL_q (Qt_assign (.int .i64 _) rfl) rfl ?_
                        refine TL_nil ?_
                        apply X_loop
                        case ha => exact (by repeat (first | with_reducible exact agree_refl | refine agree_upd rfl ?_ | refine agree_mix rfl ?_ | refine agree_setAll rfl ?_))
                        case hI => exact ⟨k + 1, rfl, rfl, by omega⟩
                        case hm => exact by show x11.M.ls.length - (k + 1 : Int).toNat < x11.M.ls.length - (k : Int).toNat; omega
                        case hH => exact (Subs.st inferInstance)
                      ·
                        have p79 := h79
                        try simp only [decide_eq_true_eq, decide_eq_false_iff_not, Bool.not_eq_true', Bool.not_eq_false', Option.isNone_iff_eq_none, ne_eq, Decidable.not_not, Int.not_lt, Int.not_le] at p79
                        refine DL_qg hns0 rfl rfl rfl h79 (Qt_move (.slice _ _ _) rfl) rfl ?_
                        refine DL_qg hns0 rfl rfl rfl h79 (Qt_move (.int .i64 _) rfl) rfl ?_
                        refine DL_qg hns0 rfl rfl rfl h79 (Qt_indexN rfl rfl (by omega) (by omega)) rfl ?_
                        refine DL_qg hns0 rfl rfl rfl h79 (Qt_fieldR rfl 2 (file_pos hk)) rfl ?_
                        refine DL_qg hns0 rfl rfl rfl h79 (Qt_loadRs 2 (.string _) rfl (file_get x11.M.ls k 0 hk (by decide) inferInstance)) rfl ?_
                        refine DL_qg hns0 rfl rfl rfl h79 (Qt_fieldAddr 1 rfl rfl) rfl ?_
                        refine DL_qg hns0 rfl rfl rfl h79 (Qt_load1 rfl) rfl ?_
                        refine DL_qg hns0 rfl rfl rfl h79 (Qt_str_neq rfl rfl) rfl ?_
                        refine DL_q hns0 rfl (Qt_pick_f (.bool _) rfl h79 rfl) rfl ?_
                        refine DL_nil ?_
                        refine X_then ?_
                        refine T_cond rfl (fun h88 => ?_) (fun h88 => ?_)
                        ·
                          have p88 := h88
                          try simp only [decide_eq_true_eq, decide_eq_false_iff_not, Bool.not_eq_true', Bool.not_eq_false', Option.isNone_iff_eq_none, ne_eq, Decidable.not_not, Int.not_lt, Int.not_le] at p88
                          have hfz : fsz ra.kind ra.name x11.M.ls[k] = x11.M.ls[k].b.l.length := if_pos (by first | (simp_all; done) | (left; simp_all; done) | (right; simp_all; done))
                          rw [hfz] at hst
                          refine T_region ?_
                          refine TL_q (Qt_move (.int .i64 _) rfl) rfl ?_
                          refine TL_q (Qt_move (.slice _ _ _) rfl) rfl ?_
                          refine TL_q (Qt_move (.int .i64 _) rfl) rfl ?_
                          refine TL_q (Qt_indexN rfl rfl (by omega) (by omega)) rfl ?_
                          refine TL_q (Qt_fieldR rfl 2 (file_pos hk)) rfl ?_
                          refine TL_q (Qt_loadRs 2 (.slice _ _ _) rfl (file_get x11.M.ls k 1 hk (by decide) inferInstance)) rfl ?_
                          refine TL_q (Qt_len_slice rfl Try.underlying32) rfl ?_
                          refine TL_q (Qt_val (Qt_add rfl rfl (by omega) (by omega)) (congrArg (Value.int .i64) (show ((ra.b.l.length + sumL ra.kind ra.name (x11.M.ls.take k) : Nat) : Int) + (x11.M.ls[k].b.l.length : Int) = ((ra.b.l.length + sumL ra.kind ra.name (x11.M.ls.take (k + 1)) : Nat) : Int) from by rw [hst]; omega))) rfl ?_
                          refine TL_q (Qt_assign (.int .i64 _) rfl) rfl ?_
                          refine TL_nil ?_
                          refine X_block ?_
                          refine X_then ?_
                          refine T_region ?_
                          refine TL_q (Qt_move (.int .i64 _) rfl) rfl ?_
                          first
                            | refine TL_q (Qt_add rfl rfl (by omega) (by omega)) rfl ?_
                            | refine TL_q (Qt_addw rfl rfl) rfl ?_
                          refine TL_q (Qt_assign (.int .i64 _) rfl) rfl ?_
                          refine TL_nil ?_
                          apply X_loop
                          case ha => exact (by repeat (first | with_reducible exact agree_refl | refine agree_upd rfl ?_ | refine agree_mix rfl ?_ | refine agree_setAll rfl ?_))
                          case hI => exact ⟨k + 1, rfl, rfl, by omega⟩
                          case hm => exact by show x11.M.ls.length - (k + 1 : Int).toNat < x11.M.ls.length - (k : Int).toNat; omega
                          case hH => exact (Subs.st inferInstance)
                        ·
                          have p88 := h88
                          try simp only [decide_eq_true_eq, decide_eq_false_iff_not, Bool.not_eq_true', Bool.not_eq_false', Option.isNone_iff_eq_none, ne_eq, Decidable.not_not, Int.not_lt, Int.not_le] at p88
                          have hfz : fsz ra.kind ra.name x11.M.ls[k] = 0 := if_neg (by rintro (h | h) <;> simp_all)
                          have hst2 : sumL ra.kind ra.name (x11.M.ls.take (k + 1)) = sumL ra.kind ra.name (x11.M.ls.take k) := by rw [hst, hfz]; exact Nat.add_zero _
                          rw [← hst2]
                          refine T_skip ?_
                          refine X_block ?_
                          refine X_then ?_
                          refine T_region ?_
                          refine TL_q (Qt_move (.int .i64 _) rfl) rfl ?_
                          first
                            | refine TL_q (Qt_add rfl rfl (by omega) (by omega)) rfl ?_
                            | refine TL_q (Qt_addw rfl rfl) rfl ?_
                          refine TL_q (Qt_assign (.int .i64 _) rfl) rfl ?_
                          refine TL_nil ?_
                          apply X_loop
                          case ha => exact (by repeat (first | with_reducible exact agree_refl | refine agree_upd rfl ?_ | refine agree_mix rfl ?_ | refine agree_setAll rfl ?_))
                          case hI => exact ⟨k + 1, rfl, rfl, by omega⟩
                          case hm => exact by show x11.M.ls.length - (k + 1 : Int).toNat < x11.M.ls.length - (k : Int).toNat; omega
                          case hH => exact (Subs.st inferInstance)
                    ·
                      have p73 := h73
                      try simp only [decide_eq_true_eq, decide_eq_false_iff_not, Bool.not_eq_true', Bool.not_eq_false', Option.isNone_iff_eq_none, ne_eq, Decidable.not_not, Int.not_lt, Int.not_le] at p73
                      have hkl2 : x11.M.ls.take k = x11.M.ls := List.take_of_length_le (by omega)
                      rw [hkl2]
                      refine T_exit ?_
                      refine X_then_exit ?_
                      refine X_loop_exit ?_
                      refine X_block_exit ?_
                      refine X_then ?_
                      refine T_seq ?_
                      refine T_region ?_
                      refine TL_q (Qt_move (.int .i64 _) rfl) rfl ?_
                      refine TL_q (Qt_move (.pointer _) rfl) rfl ?_
                      refine TL_q (Qt_nilCheck rfl) rfl ?_
                      refine TL_q (Qt_fieldAddr 0 rfl rfl) rfl ?_
                      refine TL_q (Qt_load1 rfl) rfl ?_
                      refine TL_q (Qt_gtr rfl rfl) rfl ?_
                      refine TL_nil ?_
                      refine X_then ?_
                      refine T_cond rfl (fun h102 => ?_) (fun h102 => ?_)
                      ·
                        have p102 := h102
                        try simp only [decide_eq_true_eq, decide_eq_false_iff_not, Bool.not_eq_true', Bool.not_eq_false', Option.isNone_iff_eq_none, ne_eq, Decidable.not_not, Int.not_lt, Int.not_le] at p102
                        have hsz : okSz s.room ra x11.M.ls = false := by unfold okSz; rw [if_pos (show ra.kind ≤ 1 by omega), decide_eq_false_iff_not]; omega
                        refine T_seq ?_
                        refine T_region ?_
                        refine TL_q (Qt_assign (.int .i64 _) rfl) rfl ?_
                        refine TL_nil ?_
                        refine X_then ?_
                        refine T_ret ?_
                        refine X_then_ret ?_
                        exact X_ret ((s : RS), P, (4 : Int)) [_] Try.results22 ⟨rfl, trivial⟩ rfl (fun w hw => ((Subs.st inferInstance w hw : St w0 (rblk q s :: rrow s :: flA P.ff P.fls :: eachA P.fo P.xs :: H) w)).addPure ⟨⟨x11.M.ls, hM, .inr (.inr (.inr (.inr (.inr (.inr (.inl ⟨hk4, hdn, hnm, hsz, (if_pos (show ra.kind ≤ 1 by omega)).symm, rfl⟩))))))⟩, hs.fd (B + 1000 * (s.pend.length + 1)) (N + s.pend.length + 1) (by omega) (by omega) s.fuse s.down⟩)
                      ·
                        have p102 := h102
                        try simp only [decide_eq_true_eq, decide_eq_false_iff_not, Bool.not_eq_true', Bool.not_eq_false', Option.isNone_iff_eq_none, ne_eq, Decidable.not_not, Int.not_lt, Int.not_le] at p102
                        have hsz : okSz s.room ra x11.M.ls = true := by unfold okSz; rw [if_pos (show ra.kind ≤ 1 by omega), decide_eq_true_eq]; omega
                        refine T_skip ?_
                        refine X_then ?_
                        refine T_seq ?_
                        refine T_seq ?_
                        refine T_region ?_
                        refine TL_q (Qt_move (.pointer _) rfl) rfl ?_
                        refine TL_frontB q ?_
                        refine TL_e rfl (Ef_call (rburn_c hfu) rfl (fun x113 => ?_))
                        refine TL_q (Qt_not rfl) rfl ?_
                        refine TL_nil ?_
                        refine X_then ?_
                        refine T_cond rfl (fun h114 => ?_) (fun h114 => ?_)
                        ·
                          have p114 := h114
                          try simp only [decide_eq_true_eq, decide_eq_false_iff_not, Bool.not_eq_true', Bool.not_eq_false', Option.isNone_iff_eq_none, ne_eq, Decidable.not_not, Int.not_lt, Int.not_le] at p114
                          have hbt : burnD s.fuse s.down = true := by simpa using h114
                          rw [hbt]
                          refine T_seq ?_
                          refine T_region ?_
                          refine TL_q (Qt_assign (.int .i64 _) rfl) rfl ?_
                          refine TL_nil ?_
                          refine X_then ?_
                          refine T_ret ?_
                          refine X_then_ret ?_
                          exact X_ret ((⟨s.room, s.syn, s.pa, s.pc, s.pend, burnF s.fuse, true⟩ : RS), P, (14 : Int)) [_] Try.results22 ⟨rfl, trivial⟩ rfl (fun w hw => ((Subs.st inferInstance w hw : St w0 (rblk q ⟨s.room, s.syn, s.pa, s.pc, s.pend, burnF s.fuse, true⟩ :: rrow ⟨s.room, s.syn, s.pa, s.pc, s.pend, burnF s.fuse, true⟩ :: flA P.ff P.fls :: eachA P.fo P.xs :: H) w)).addPure ⟨⟨x11.M.ls, hM, .inr (.inr (.inr (.inr (.inr (.inr (.inr (.inl ⟨hk4, hdn, hnm, hsz, hbt, rfl, rfl⟩)))))))⟩, hs.fd (B + 1000 * (s.pend.length + 1)) (N + s.pend.length + 1) (by omega) (by omega) _ _⟩)
                        ·
                          have p114 := h114
                          try simp only [decide_eq_true_eq, decide_eq_false_iff_not, Bool.not_eq_true', Bool.not_eq_false', Option.isNone_iff_eq_none, ne_eq, Decidable.not_not, Int.not_lt, Int.not_le] at p114
                          have hbf : burnD s.fuse s.down = false := by simpa using h114
                          rw [hbf]
                          refine T_skip ?_
                          refine X_then ?_
                          refine T_seq ?_
                          refine T_drawF (blk b3 (.cells ra.cells 34 (0, 0)) :: H) (by kernel_rfl) (Subs.st inferInstance) ?_
                          refine DLF_q (i := 0) (by kernel_rfl) rfl (by kernel_rfl) (by kernel_rfl) (Qt_move (.pointer _) rfl) rfl ?_
                          refine DLF_q (i := 1) (by kernel_rfl) rfl (by kernel_rfl) (by kernel_rfl) (Qt_move (.pointer _) rfl) rfl ?_
                          refine DLF_q (i := 2) (by kernel_rfl) rfl (by kernel_rfl) (by kernel_rfl) (Qt_nilCheck rfl) rfl ?_
                          refine DLF_q (i := 3) (by kernel_rfl) rfl (by kernel_rfl) (by kernel_rfl) (Qt_fieldAddr 2 rfl rfl) rfl ?_
                          refine DLF_q (i := 5) (by kernel_rfl) rfl (by kernel_rfl) (by kernel_rfl) (Qt_loadN rfl rfl) rfl ?_
                          refine DLF_2 (i := 4) (j := 6) (by kernel_rfl) ?_ ?_
                          ·
                            refine DLS_e rfl rfl (Ef_of_Qt (Qt_load1 rfl) ⟨(Subs.st inferInstance), ?_⟩)
                            refine DLF_1 (i := 6) (by kernel_rfl) ?_
                            refine DLS_e rfl rfl (Ef_sliceN (m := ([ra] : List RActV).length) [.agg ra.cells] (([ra] : List RActV).flatMap RActV.list) rfl rfl rfl rfl (by simp [Value.cells, RActV.size]) rfl rfl (fun a121 c121 => ⟨(Subs.st inferInstance), ?_⟩))
                            refine DLF_1 (i := 7) (by kernel_rfl) ?_
                            refine DLS_e rfl rfl (Ef_appendS RActV.list (sv := .slice _ _ _) (xv := .slice _ _ _) (xs := s.pend) (ys := [ra]) RActV.list_len RActV.list_one rfl rfl (by simp; omega) rfl rfl (fun a122 c122 => ⟨(Subs.st inferInstance), ?_⟩))
                            refine DLF_q (i := 8) (by kernel_rfl) rfl (by kernel_rfl) (by kernel_rfl) (Qt_nilCheck rfl) rfl ?_
                            refine DLF_q (i := 9) (by kernel_rfl) rfl (by kernel_rfl) (by kernel_rfl) (Qt_fieldAddr 2 rfl rfl) rfl ?_
                            refine DLF_1 (i := 10) (by kernel_rfl) ?_
                            refine DLS_n rfl (Ef_store1 (.slice _ _ _) rfl rfl (⟨(Subs.st inferInstance), ?_⟩))
                            refine DLF_nil (by kernel_rfl) ?_
                            refine X_then ?_
                            refine T_seq ?_
                            refine T_region ?_
                            refine TL_q (Qt_assign (.int .i64 _) rfl) rfl ?_
                            refine TL_nil ?_
                            refine X_then ?_
                            refine T_ret ?_
                            exact X_ret ((⟨s.room, s.syn, a122, c122, s.pend ++ [ra], burnF s.fuse, false⟩ : RS), P, (0 : Int)) [_] Try.results22 ⟨rfl, trivial⟩ rfl (fun w hw => ((Subs.st inferInstance w hw : St w0 (rblk q ⟨s.room, s.syn, a122, c122, s.pend ++ [ra], burnF s.fuse, false⟩ :: rrow ⟨s.room, s.syn, a122, c122, s.pend ++ [ra], burnF s.fuse, false⟩ :: flA P.ff P.fls :: eachA P.fo P.xs :: H) w)).addPure ⟨⟨x11.M.ls, hM, .inr (.inr (.inr (.inr (.inr (.inr (.inr (.inr (⟨hk4, hdn, hnm, hsz, hbf, rfl, _, _, rfl⟩))))))))⟩, hs.snoc (B + 1000 * (s.pend.length + 1)) (N + s.pend.length + 1) (by omega) (by omega) hsr hb (by omega) _ _ _ _⟩)
                          ·
                            refine DLS_e rfl rfl (Ef_sliceN (m := ([ra] : List RActV).length) [.agg ra.cells] (([ra] : List RActV).flatMap RActV.list) rfl rfl rfl rfl (by simp [Value.cells, RActV.size]) rfl rfl (fun a121 c121 => ⟨(Subs.st inferInstance), ?_⟩))
                            refine DLF_1 (i := 4) (by kernel_rfl) ?_
                            refine DLS_e rfl rfl (Ef_of_Qt (Qt_load1 rfl) ⟨(Subs.st inferInstance), ?_⟩)
                            refine DLF_1 (i := 7) (by kernel_rfl) ?_
                            refine DLS_e rfl rfl (Ef_appendS RActV.list (sv := .slice _ _ _) (xv := .slice _ _ _) (xs := s.pend) (ys := [ra]) RActV.list_len RActV.list_one rfl rfl (by simp; omega) rfl rfl (fun a122 c122 => ⟨(Subs.st inferInstance), ?_⟩))
                            refine DLF_q (i := 8) (by kernel_rfl) rfl (by kernel_rfl) (by kernel_rfl) (Qt_nilCheck rfl) rfl ?_
                            refine DLF_q (i := 9) (by kernel_rfl) rfl (by kernel_rfl) (by kernel_rfl) (Qt_fieldAddr 2 rfl rfl) rfl ?_
                            refine DLF_1 (i := 10) (by kernel_rfl) ?_
                            refine DLS_n rfl (Ef_store1 (.slice _ _ _) rfl rfl (⟨(Subs.st inferInstance), ?_⟩))
                            refine DLF_nil (by kernel_rfl) ?_
                            refine X_then ?_
                            refine T_seq ?_
                            refine T_region ?_
                            refine TL_q (Qt_assign (.int .i64 _) rfl) rfl ?_
                            refine TL_nil ?_
                            refine X_then ?_
                            refine T_ret ?_
                            exact X_ret ((⟨s.room, s.syn, a122, c122, s.pend ++ [ra], burnF s.fuse, false⟩ : RS), P, (0 : Int)) [_] Try.results22 ⟨rfl, trivial⟩ rfl (fun w hw => ((Subs.st inferInstance w hw : St w0 (rblk q ⟨s.room, s.syn, a122, c122, s.pend ++ [ra], burnF s.fuse, false⟩ :: rrow ⟨s.room, s.syn, a122, c122, s.pend ++ [ra], burnF s.fuse, false⟩ :: flA P.ff P.fls :: eachA P.fo P.xs :: H) w)).addPure ⟨⟨x11.M.ls, hM, .inr (.inr (.inr (.inr (.inr (.inr (.inr (.inr (⟨hk4, hdn, hnm, hsz, hbf, rfl, _, _, rfl⟩))))))))⟩, hs.snoc (B + 1000 * (s.pend.length + 1)) (N + s.pend.length + 1) (by omega) (by omega) hsr hb (by omega) _ _ _ _⟩)
                  ·
                    have p66 := h66
                    try simp only [decide_eq_true_eq, decide_eq_false_iff_not, Bool.not_eq_true', Bool.not_eq_false', Option.isNone_iff_eq_none, ne_eq, Decidable.not_not, Int.not_lt, Int.not_le] at p66
                    refine T_seq ?_
                    refine T_region ?_
                    refine TL_q (Qt_move (.slice _ _ _) rfl) rfl ?_
                    refine TL_q (Qt_fieldAddr 1 rfl rfl) rfl ?_
                    refine TL_q (Qt_load1 rfl) rfl ?_
                    refine TL_e rfl (Ef_call (find_c (L := x11.M.ls) (by have := hy.len; have := hs.sl; omega) (nm := ra.name)) rfl (fun x107 => ?_))
                    refine TL_q (Qt_move (.tuple _) rfl) rfl ?_
                    refine TL_q (Qt_extract rfl) rfl ?_
                    refine TL_q (Qt_extract rfl) rfl ?_
                    refine TL_q (Qt_assign (.slice _ _ _) rfl) rfl ?_
                    refine TL_q (Qt_assign (.bool _) rfl) rfl ?_
                    refine TL_nil ?_
                    refine X_then ?_
                    refine T_seq ?_
                    refine T_region ?_
                    refine TL_q (Qt_move (.bool _) rfl) rfl ?_
                    refine TL_q (Qt_not rfl) rfl ?_
                    refine TL_nil ?_
                    refine X_then ?_
                    refine T_cond rfl (fun h111 => ?_) (fun h111 => ?_)
                    ·
                      have p111 := h111
                      try simp only [decide_eq_true_eq, decide_eq_false_iff_not, Bool.not_eq_true', Bool.not_eq_false', Option.isNone_iff_eq_none, ne_eq, Decidable.not_not, Int.not_lt, Int.not_le] at p111
                      have hsz : okSz s.room ra x11.M.ls = false := by unfold okSz; rw [if_neg (show ¬ ra.kind ≤ 1 by omega)]; simpa using h111
                      refine T_seq ?_
                      refine T_region ?_
                      refine TL_q (Qt_assign (.int .i64 _) rfl) rfl ?_
                      refine TL_nil ?_
                      refine X_then ?_
                      refine T_ret ?_
                      refine X_then_ret ?_
                      exact X_ret ((s : RS), P, (13 : Int)) [_] Try.results22 ⟨rfl, trivial⟩ rfl (fun w hw => ((Subs.st inferInstance w hw : St w0 (rblk q s :: rrow s :: flA P.ff P.fls :: eachA P.fo P.xs :: H) w)).addPure ⟨⟨x11.M.ls, hM, .inr (.inr (.inr (.inr (.inr (.inr (.inl ⟨hk4, hdn, hnm, hsz, (if_neg (show ¬ ra.kind ≤ 1 by omega)).symm, rfl⟩))))))⟩, hs.fd (B + 1000 * (s.pend.length + 1)) (N + s.pend.length + 1) (by omega) (by omega) s.fuse s.down⟩)
                    ·
                      have p111 := h111
                      try simp only [decide_eq_true_eq, decide_eq_false_iff_not, Bool.not_eq_true', Bool.not_eq_false', Option.isNone_iff_eq_none, ne_eq, Decidable.not_not, Int.not_lt, Int.not_le] at p111
                      have hsz : okSz s.room ra x11.M.ls = true := by unfold okSz; rw [if_neg (show ¬ ra.kind ≤ 1 by omega)]; simpa using h111
                      refine T_skip ?_
                      refine X_then ?_
                      refine T_seq ?_
                      refine T_seq ?_
                      refine T_region ?_
                      refine TL_q (Qt_move (.pointer _) rfl) rfl ?_
                      refine TL_frontB q ?_
                      refine TL_e rfl (Ef_call (rburn_c hfu) rfl (fun x113 => ?_))
                      refine TL_q (Qt_not rfl) rfl ?_
                      refine TL_nil ?_
                      refine X_then ?_
                      refine T_cond rfl (fun h114 => ?_) (fun h114 => ?_)
                      ·
                        have p114 := h114
                        try simp only [decide_eq_true_eq, decide_eq_false_iff_not, Bool.not_eq_true', Bool.not_eq_false', Option.isNone_iff_eq_none, ne_eq, Decidable.not_not, Int.not_lt, Int.not_le] at p114
                        have hbt : burnD s.fuse s.down = true := by simpa using h114
                        rw [hbt]
                        refine T_seq ?_
                        refine T_region ?_
                        refine TL_q (Qt_assign (.int .i64 _) rfl) rfl ?_
                        refine TL_nil ?_
                        refine X_then ?_
                        refine T_ret ?_
                        refine X_then_ret ?_
                        exact X_ret ((⟨s.room, s.syn, s.pa, s.pc, s.pend, burnF s.fuse, true⟩ : RS), P, (14 : Int)) [_] Try.results22 ⟨rfl, trivial⟩ rfl (fun w hw => ((Subs.st inferInstance w hw : St w0 (rblk q ⟨s.room, s.syn, s.pa, s.pc, s.pend, burnF s.fuse, true⟩ :: rrow ⟨s.room, s.syn, s.pa, s.pc, s.pend, burnF s.fuse, true⟩ :: flA P.ff P.fls :: eachA P.fo P.xs :: H) w)).addPure ⟨⟨x11.M.ls, hM, .inr (.inr (.inr (.inr (.inr (.inr (.inr (.inl ⟨hk4, hdn, hnm, hsz, hbt, rfl, rfl⟩)))))))⟩, hs.fd (B + 1000 * (s.pend.length + 1)) (N + s.pend.length + 1) (by omega) (by omega) _ _⟩)
                      ·
                        have p114 := h114
                        try simp only [decide_eq_true_eq, decide_eq_false_iff_not, Bool.not_eq_true', Bool.not_eq_false', Option.isNone_iff_eq_none, ne_eq, Decidable.not_not, Int.not_lt, Int.not_le] at p114
                        have hbf : burnD s.fuse s.down = false := by simpa using h114
                        rw [hbf]
                        refine T_skip ?_
                        refine X_then ?_
                        refine T_seq ?_
                        refine T_drawF (blk b3 (.cells ra.cells 34 (0, 0)) :: H) (by kernel_rfl) (Subs.st inferInstance) ?_
                        refine DLF_q (i := 0) (by kernel_rfl) rfl (by kernel_rfl) (by kernel_rfl) (Qt_move (.pointer _) rfl) rfl ?_
                        refine DLF_q (i := 1) (by kernel_rfl) rfl (by kernel_rfl) (by kernel_rfl) (Qt_move (.pointer _) rfl) rfl ?_
                        refine DLF_q (i := 2) (by kernel_rfl) rfl (by kernel_rfl) (by kernel_rfl) (Qt_nilCheck rfl) rfl ?_
                        refine DLF_q (i := 3) (by kernel_rfl) rfl (by kernel_rfl) (by kernel_rfl) (Qt_fieldAddr 2 rfl rfl) rfl ?_
                        refine DLF_q (i := 5) (by kernel_rfl) rfl (by kernel_rfl) (by kernel_rfl) (Qt_loadN rfl rfl) rfl ?_
                        refine DLF_2 (i := 4) (j := 6) (by kernel_rfl) ?_ ?_
                        ·
                          refine DLS_e rfl rfl (Ef_of_Qt (Qt_load1 rfl) ⟨(Subs.st inferInstance), ?_⟩)
                          refine DLF_1 (i := 6) (by kernel_rfl) ?_
                          refine DLS_e rfl rfl (Ef_sliceN (m := ([ra] : List RActV).length) [.agg ra.cells] (([ra] : List RActV).flatMap RActV.list) rfl rfl rfl rfl (by simp [Value.cells, RActV.size]) rfl rfl (fun a121 c121 => ⟨(Subs.st inferInstance), ?_⟩))
                          refine DLF_1 (i := 7) (by kernel_rfl) ?_
                          refine DLS_e rfl rfl (Ef_appendS RActV.list (sv := .slice _ _ _) (xv := .slice _ _ _) (xs := s.pend) (ys := [ra]) RActV.list_len RActV.list_one rfl rfl (by simp; omega) rfl rfl (fun a122 c122 => ⟨(Subs.st inferInstance), ?_⟩))
                          refine DLF_q (i := 8) (by kernel_rfl) rfl (by kernel_rfl) (by kernel_rfl) (Qt_nilCheck rfl) rfl ?_
                          refine DLF_q (i := 9) (by kernel_rfl) rfl (by kernel_rfl) (by kernel_rfl) (Qt_fieldAddr 2 rfl rfl) rfl ?_
                          refine DLF_1 (i := 10) (by kernel_rfl) ?_
                          refine DLS_n rfl (Ef_store1 (.slice _ _ _) rfl rfl (⟨(Subs.st inferInstance), ?_⟩))
                          refine DLF_nil (by kernel_rfl) ?_
                          refine X_then ?_
                          refine T_seq ?_
                          refine T_region ?_
                          refine TL_q (Qt_assign (.int .i64 _) rfl) rfl ?_
                          refine TL_nil ?_
                          refine X_then ?_
                          refine T_ret ?_
                          exact X_ret ((⟨s.room, s.syn, a122, c122, s.pend ++ [ra], burnF s.fuse, false⟩ : RS), P, (0 : Int)) [_] Try.results22 ⟨rfl, trivial⟩ rfl (fun w hw => ((Subs.st inferInstance w hw : St w0 (rblk q ⟨s.room, s.syn, a122, c122, s.pend ++ [ra], burnF s.fuse, false⟩ :: rrow ⟨s.room, s.syn, a122, c122, s.pend ++ [ra], burnF s.fuse, false⟩ :: flA P.ff P.fls :: eachA P.fo P.xs :: H) w)).addPure ⟨⟨x11.M.ls, hM, .inr (.inr (.inr (.inr (.inr (.inr (.inr (.inr (⟨hk4, hdn, hnm, hsz, hbf, rfl, _, _, rfl⟩))))))))⟩, hs.snoc (B + 1000 * (s.pend.length + 1)) (N + s.pend.length + 1) (by omega) (by omega) hsr hb (by omega) _ _ _ _⟩)
                        ·
                          refine DLS_e rfl rfl (Ef_sliceN (m := ([ra] : List RActV).length) [.agg ra.cells] (([ra] : List RActV).flatMap RActV.list) rfl rfl rfl rfl (by simp [Value.cells, RActV.size]) rfl rfl (fun a121 c121 => ⟨(Subs.st inferInstance), ?_⟩))
                          refine DLF_1 (i := 4) (by kernel_rfl) ?_
                          refine DLS_e rfl rfl (Ef_of_Qt (Qt_load1 rfl) ⟨(Subs.st inferInstance), ?_⟩)
                          refine DLF_1 (i := 7) (by kernel_rfl) ?_
                          refine DLS_e rfl rfl (Ef_appendS RActV.list (sv := .slice _ _ _) (xv := .slice _ _ _) (xs := s.pend) (ys := [ra]) RActV.list_len RActV.list_one rfl rfl (by simp; omega) rfl rfl (fun a122 c122 => ⟨(Subs.st inferInstance), ?_⟩))
                          refine DLF_q (i := 8) (by kernel_rfl) rfl (by kernel_rfl) (by kernel_rfl) (Qt_nilCheck rfl) rfl ?_
                          refine DLF_q (i := 9) (by kernel_rfl) rfl (by kernel_rfl) (by kernel_rfl) (Qt_fieldAddr 2 rfl rfl) rfl ?_
                          refine DLF_1 (i := 10) (by kernel_rfl) ?_
                          refine DLS_n rfl (Ef_store1 (.slice _ _ _) rfl rfl (⟨(Subs.st inferInstance), ?_⟩))
                          refine DLF_nil (by kernel_rfl) ?_
                          refine X_then ?_
                          refine T_seq ?_
                          refine T_region ?_
                          refine TL_q (Qt_assign (.int .i64 _) rfl) rfl ?_
                          refine TL_nil ?_
                          refine X_then ?_
                          refine T_ret ?_
                          exact X_ret ((⟨s.room, s.syn, a122, c122, s.pend ++ [ra], burnF s.fuse, false⟩ : RS), P, (0 : Int)) [_] Try.results22 ⟨rfl, trivial⟩ rfl (fun w hw => ((Subs.st inferInstance w hw : St w0 (rblk q ⟨s.room, s.syn, a122, c122, s.pend ++ [ra], burnF s.fuse, false⟩ :: rrow ⟨s.room, s.syn, a122, c122, s.pend ++ [ra], burnF s.fuse, false⟩ :: flA P.ff P.fls :: eachA P.fo P.xs :: H) w)).addPure ⟨⟨x11.M.ls, hM, .inr (.inr (.inr (.inr (.inr (.inr (.inr (.inr (⟨hk4, hdn, hnm, hsz, hbf, rfl, _, _, rfl⟩))))))))⟩, hs.snoc (B + 1000 * (s.pend.length + 1)) (N + s.pend.length + 1) (by omega) (by omega) hsr hb (by omega) _ _ _ _⟩)
              ·
                have p57 := h57
                try simp only [decide_eq_true_eq, decide_eq_false_iff_not, Bool.not_eq_true', Bool.not_eq_false', Option.isNone_iff_eq_none, ne_eq, Decidable.not_not, Int.not_lt, Int.not_le] at p57
                refine TL_pass rfl rfl h57 rfl ?_
                refine TL_pass rfl rfl h57 rfl ?_
                refine TL_pass rfl rfl h57 rfl ?_
                refine TL_pass rfl rfl h57 rfl ?_
                refine TL_take rfl rfl h53 ?_
                refine TL_q (Qt_pick_f (.bool _) rfl h57 rfl) rfl ?_
                refine TL_q (Qt_pick_f (.bool _) rfl h53 rfl) rfl ?_
                refine TL_nil ?_
                refine X_then ?_
                refine T_cond_false rfl rfl ?_
                have hnm : okNm ra = true := by unfold okNm; first | (simp_all; done) | (split <;> simp_all)
                refine T_skip ?_
                refine X_then ?_
                refine T_seq ?_
                refine T_seq ?_
                refine T_region ?_
                refine TL_q (Qt_fieldAddr 0 rfl rfl) rfl ?_
                refine TL_q (Qt_load1 rfl) rfl ?_
                refine TL_q (Qt_leq rfl rfl) rfl ?_
                refine TL_nil ?_
                refine X_then ?_
                refine T_cond rfl (fun h66 => ?_) (fun h66 => ?_)
                ·
                  have p66 := h66
                  try simp only [decide_eq_true_eq, decide_eq_false_iff_not, Bool.not_eq_true', Bool.not_eq_false', Option.isNone_iff_eq_none, ne_eq, Decidable.not_not, Int.not_lt, Int.not_le] at p66
                  refine T_seq ?_
                  refine T_region ?_
                  refine TL_q (Qt_fieldAddr 3 rfl rfl) rfl ?_
                  refine TL_q (Qt_load1 rfl) rfl ?_
                  refine TL_q (Qt_len_slice rfl Try.underlying32) rfl ?_
                  refine TL_q (Qt_assign (.int .i64 _) rfl) rfl ?_
                  refine TL_nil ?_
                  refine X_then ?_
                  refine T_seq ?_
                  refine T_seq ?_
                  refine T_region ?_
                  refine TL_q (Qt_assign (.int .i64 _) rfl) rfl ?_
                  refine TL_nil ?_
                  refine X_then ?_
                  refine T_block ?_
                  refine T_loop [6, 7, 70, 71, 72, 73, 74, 75, 76, 77, 78, 79, 80, 81, 82, 83, 84, 85, 86, 87, 88, 89, 90, 91, 92, 93, 94, 95, 96] [7, 6] (fun us H' => ∃ (k : Nat), us = [.int .i64 (k : Int), .int .i64 ((ra.b.l.length + sumL ra.kind ra.name (x11.M.ls.take k) : Nat) : Int)] ∧ blk b3 (.cells ra.cells 34 (0, 0)) :: flA x11.ff x11.fls :: eachA x11.fo x11.xs :: rblk q s :: rrow s :: flA P.ff P.fls :: eachA P.fo P.xs :: H = H' ∧ k ≤ x11.M.ls.length) (fun us => match us with | .int _ i :: _ => x11.M.ls.length - i.toNat | _ => 0) ⟨0, (by rw [show sumL ra.kind ra.name (x11.M.ls.take 0) = 0 from rfl]; rfl), rfl, by omega⟩ (Subs.st inferInstance) ?_
                  rintro τ0 _ _  ⟨k, rfl, rfl, hk0⟩ _
                  refine T_seq ?_
                  refine T_seq ?_
                  refine T_region ?_
                  refine TL_q (Qt_move (.int .i64 _) rfl) rfl ?_
                  refine TL_q (Qt_move (.slice _ _ _) rfl) rfl ?_
                  refine TL_q (Qt_len_slice rfl Try.underlying50) rfl ?_
                  refine TL_q (Qt_lss rfl rfl) rfl ?_
                  refine TL_nil ?_
                  refine X_then ?_
                  refine T_cond rfl (fun h73 => ?_) (fun h73 => ?_)
                  ·
                    have p73 := h73
                    try simp only [decide_eq_true_eq, decide_eq_false_iff_not, Bool.not_eq_true', Bool.not_eq_false', Option.isNone_iff_eq_none, ne_eq, Decidable.not_not, Int.not_lt, Int.not_le] at p73
                    have hk : k < x11.M.ls.length := by omega
                    have hst := sumL_take ra.kind ra.name x11.M.ls k hk
                    have hbk := hle _ (List.mem_map.2 ⟨_, List.getElem_mem hk, rfl⟩)
                    have hsl := hs.sl
                    have hln := hy.len
                    have hsm := sumL_le ra.kind ra.name (B + 1000 * s.pend.length) (x11.M.ls.take k) (fun f hf => hle _ (List.mem_map.2 ⟨f, List.mem_of_mem_take hf, rfl⟩))
                    have hsq : (x11.M.ls.take k).length * (B + 1000 * s.pend.length) ≤ 50000 * 1000000000 := Nat.mul_le_mul (by rw [List.length_take]; omega) (by omega)
                    refine T_skip ?_
                    refine X_then ?_
                    refine T_seq ?_
                    refine T_block ?_
                    refine T_seq ?_
                    refine T_draw (blk b3 (.cells ra.cells 34 (0, 0)) :: flA x11.ff x11.fls :: eachA x11.fo x11.xs :: rblk q s :: rrow s :: flA P.ff P.fls :: eachA P.fo P.xs :: H) [(0, true), (1, true), (2, true), (3, true), (4, true), (5, true), (6, true), (7, true), (8, true), (9, true), (10, true), (11, true), (12, true)] (by kernel_rfl) (by kernel_rfl) rfl (by kernel_rfl) (Subs.st inferInstance) (fun hns1 => ?_)
                    refine DL_q hns1 rfl (Qt_fieldAddr 0 rfl rfl) rfl ?_
                    refine DL_q hns1 rfl (Qt_load1 rfl) rfl ?_
                    refine DL_q hns1 rfl (Qt_eql rfl rfl) rfl ?_
                    refine DL_q hns1 rfl (Qt_move (.bool _) rfl) rfl ?_
                    refine DL_split 79 rfl (fun h79 => ?_) (fun h79 => ?_)
                    ·
                      have p79 := h79
                      try simp only [decide_eq_true_eq, decide_eq_false_iff_not, Bool.not_eq_true', Bool.not_eq_false', Option.isNone_iff_eq_none, ne_eq, Decidable.not_not, Int.not_lt, Int.not_le] at p79
                      refine DL_pass hns1 rfl rfl rfl h79 rfl ?_
                      refine DL_pass hns1 rfl rfl rfl h79 rfl ?_
                      refine DL_pass hns1 rfl rfl rfl h79 rfl ?_
                      refine DL_pass hns1 rfl rfl rfl h79 rfl ?_
                      refine DL_pass hns1 rfl rfl rfl h79 rfl ?_
                      refine DL_pass hns1 rfl rfl rfl h79 rfl ?_
                      refine DL_pass hns1 rfl rfl rfl h79 rfl ?_
                      refine DL_pass hns1 rfl rfl rfl h79 rfl ?_
                      refine DL_q hns1 rfl (Qt_pick_t (.bool _) rfl h79 rfl) rfl ?_
                      refine DL_nil ?_
                      refine X_then ?_
                      refine T_cond_true rfl rfl ?_
                      have hfz : fsz ra.kind ra.name x11.M.ls[k] = x11.M.ls[k].b.l.length := if_pos (by first | (simp_all; done) | (left; simp_all; done) | (right; simp_all; done))
                      rw [hfz] at hst
                      refine T_region ?_
                      refine TL_q (Qt_move (.int .i64 _) rfl) rfl ?_
                      refine TL_q (Qt_move (.slice _ _ _) rfl) rfl ?_
                      refine TL_q (Qt_move (.int .i64 _) rfl) rfl ?_
                      refine TL_q (Qt_indexN rfl rfl (by omega) (by omega)) rfl ?_
                      refine TL_q (Qt_fieldR rfl 2 (file_pos hk)) rfl ?_
                      refine TL_q (Qt_loadRs 2 (.slice _ _ _) rfl (file_get x11.M.ls k 1 hk (by decide) inferInstance)) rfl ?_
                      refine TL_q (Qt_len_slice rfl Try.underlying32) rfl ?_
                      refine TL_q (Qt_val (Qt_add rfl rfl (by omega) (by omega)) (congrArg (Value.int .i64) (show ((ra.b.l.length + sumL ra.kind ra.name (x11.M.ls.take k) : Nat) : Int) + (x11.M.ls[k].b.l.length : Int) = ((ra.b.l.length + sumL ra.kind ra.name (x11.M.ls.take (k + 1)) : Nat) : Int) from by rw [hst]; omega))) rfl ?_
                      refine TL_q (Qt_assign (.int .i64 _) rfl) rfl ?_
                      refine TL_nil ?_
                      refine X_block ?_
                      refine X_then ?_
                      refine T_region ?_
                      refine TL_q (Qt_move (.int .i64 _) rfl) rfl ?_
                      first
                        | refine TL_q (Qt_add rfl rfl (by omega) (by omega)) rfl ?_
                        | refine TL_q (Qt_addw rfl rfl) rfl ?_
                      refine TL_q (Qt_assign (.int .i64 _) rfl) rfl ?_
                      refine TL_nil ?_
                      apply X_loop
                      case ha => exact (by repeat (first | with_reducible exact agree_refl | refine agree_upd rfl ?_ | refine agree_mix rfl ?_ | refine agree_setAll rfl ?_))
                      case hI => exact ⟨k + 1, rfl, rfl, by omega⟩
                      case hm => exact by show x11.M.ls.length - (k + 1 : Int).toNat < x11.M.ls.length - (k : Int).toNat; omega
                      case hH => exact (Subs.st inferInstance)
                    ·
                      have p79 := h79
                      try simp only [decide_eq_true_eq, decide_eq_false_iff_not, Bool.not_eq_true', Bool.not_eq_false', Option.isNone_iff_eq_none, ne_eq, Decidable.not_not, Int.not_lt, Int.not_le] at p79
                      refine DL_qg hns1 rfl rfl rfl h79 (Qt_move (.slice _ _ _) rfl) rfl ?_
                      refine DL_qg hns1 rfl rfl rfl h79 (Qt_move (.int .i64 _) rfl) rfl ?_
                      refine DL_qg hns1 rfl rfl rfl h79 (Qt_indexN rfl rfl (by omega) (by omega)) rfl ?_
                      refine DL_qg hns1 rfl rfl rfl h79 (Qt_fieldR rfl 2 (file_pos hk)) rfl ?_
                      refine DL_qg hns1 rfl rfl rfl h79 (Qt_loadRs 2 (.string _) rfl (file_get x11.M.ls k 0 hk (by decide) inferInstance)) rfl ?_
                      refine DL_qg hns1 rfl rfl rfl h79 (Qt_fieldAddr 1 rfl rfl) rfl ?_
                      refine DL_qg hns1 rfl rfl rfl h79 (Qt_load1 rfl) rfl ?_
                      refine DL_qg hns1 rfl rfl rfl h79 (Qt_str_neq rfl rfl) rfl ?_
                      refine DL_q hns1 rfl (Qt_pick_f (.bool _) rfl h79 rfl) rfl ?_
                      refine DL_nil ?_
                      refine X_then ?_
                      refine T_cond rfl (fun h88 => ?_) (fun h88 => ?_)
                      ·
                        have p88 := h88
                        try simp only [decide_eq_true_eq, decide_eq_false_iff_not, Bool.not_eq_true', Bool.not_eq_false', Option.isNone_iff_eq_none, ne_eq, Decidable.not_not, Int.not_lt, Int.not_le] at p88
                        have hfz : fsz ra.kind ra.name x11.M.ls[k] = x11.M.ls[k].b.l.length := if_pos (by first | (simp_all; done) | (left; simp_all; done) | (right; simp_all; done))
                        rw [hfz] at hst
                        refine T_region ?_
                        refine TL_q (Qt_move (.int .i64 _) rfl) rfl ?_
                        refine TL_q (Qt_move (.slice _ _ _) rfl) rfl ?_
                        refine TL_q (Qt_move (.int .i64 _) rfl) rfl ?_
                        refine TL_q (Qt_indexN rfl rfl (by omega) (by omega)) rfl ?_
                        refine TL_q (Qt_fieldR rfl 2 (file_pos hk)) rfl ?_
                        refine TL_q (Qt_loadRs 2 (.slice _ _ _) rfl (file_get x11.M.ls k 1 hk (by decide) inferInstance)) rfl ?_
                        refine TL_q (Qt_len_slice rfl Try.underlying32) rfl ?_
                        refine TL_q (Qt_val (Qt_add rfl rfl (by omega) (by omega)) (congrArg (Value.int .i64) (show ((ra.b.l.length + sumL ra.kind ra.name (x11.M.ls.take k) : Nat) : Int) + (x11.M.ls[k].b.l.length : Int) = ((ra.b.l.length + sumL ra.kind ra.name (x11.M.ls.take (k + 1)) : Nat) : Int) from by rw [hst]; omega))) rfl ?_
                        refine TL_q (Qt_assign (.int .i64 _) rfl) rfl ?_
                        refine TL_nil ?_
                        refine X_block ?_
                        refine X_then ?_
                        refine T_region ?_
                        refine TL_q (Qt_move (.int .i64 _) rfl) rfl ?_
                        first
                          | refine TL_q (Qt_add rfl rfl (by omega) (by omega)) rfl ?_
                          | refine TL_q (Qt_addw rfl rfl) rfl ?_
                        refine TL_q (Qt_assign (.int .i64 _) rfl) rfl ?_
                        refine TL_nil ?_
                        apply X_loop
                        case ha => exact (by repeat (first | with_reducible exact agree_refl | refine agree_upd rfl ?_ | refine agree_mix rfl ?_ | refine agree_setAll rfl ?_))
                        case hI => exact ⟨k + 1, rfl, rfl, by omega⟩
                        case hm => exact by show x11.M.ls.length - (k + 1 : Int).toNat < x11.M.ls.length - (k : Int).toNat; omega
                        case hH => exact (Subs.st inferInstance)
                      ·
                        have p88 := h88
                        try simp only [decide_eq_true_eq, decide_eq_false_iff_not, Bool.not_eq_true', Bool.not_eq_false', Option.isNone_iff_eq_none, ne_eq, Decidable.not_not, Int.not_lt, Int.not_le] at p88
                        have hfz : fsz ra.kind ra.name x11.M.ls[k] = 0 := if_neg (by rintro (h | h) <;> simp_all)
                        have hst2 : sumL ra.kind ra.name (x11.M.ls.take (k + 1)) = sumL ra.kind ra.name (x11.M.ls.take k) := by rw [hst, hfz]; exact Nat.add_zero _
                        rw [← hst2]
                        refine T_skip ?_
                        refine X_block ?_
                        refine X_then ?_
                        refine T_region ?_
                        refine TL_q (Qt_move (.int .i64 _) rfl) rfl ?_
                        first
                          | refine TL_q (Qt_add rfl rfl (by omega) (by omega)) rfl ?_
                          | refine TL_q (Qt_addw rfl rfl) rfl ?_
                        refine TL_q (Qt_assign (.int .i64 _) rfl) rfl ?_
                        refine TL_nil ?_
                        apply X_loop
                        case ha => exact (by repeat (first | with_reducible exact agree_refl | refine agree_upd rfl ?_ | refine agree_mix rfl ?_ | refine agree_setAll rfl ?_))
                        case hI => exact ⟨k + 1, rfl, rfl, by omega⟩
                        case hm => exact by show x11.M.ls.length - (k + 1 : Int).toNat < x11.M.ls.length - (k : Int).toNat; omega
                        case hH => exact (Subs.st inferInstance)
                  ·
                    have p73 := h73
                    try simp only [decide_eq_true_eq, decide_eq_false_iff_not, Bool.not_eq_true', Bool.not_eq_false', Option.isNone_iff_eq_none, ne_eq, Decidable.not_not, Int.not_lt, Int.not_le] at p73
                    have hkl2 : x11.M.ls.take k = x11.M.ls := List.take_of_length_le (by omega)
                    rw [hkl2]
                    refine T_exit ?_
                    refine X_then_exit ?_
                    refine X_loop_exit ?_
                    refine X_block_exit ?_
                    refine X_then ?_
                    refine T_seq ?_
                    refine T_region ?_
                    refine TL_q (Qt_move (.int .i64 _) rfl) rfl ?_
                    refine TL_q (Qt_move (.pointer _) rfl) rfl ?_
                    refine TL_q (Qt_nilCheck rfl) rfl ?_
                    refine TL_q (Qt_fieldAddr 0 rfl rfl) rfl ?_
                    refine TL_q (Qt_load1 rfl) rfl ?_
                    refine TL_q (Qt_gtr rfl rfl) rfl ?_
                    refine TL_nil ?_
                    refine X_then ?_
                    refine T_cond rfl (fun h102 => ?_) (fun h102 => ?_)
                    ·
                      have p102 := h102
                      try simp only [decide_eq_true_eq, decide_eq_false_iff_not, Bool.not_eq_true', Bool.not_eq_false', Option.isNone_iff_eq_none, ne_eq, Decidable.not_not, Int.not_lt, Int.not_le] at p102
                      have hsz : okSz s.room ra x11.M.ls = false := by unfold okSz; rw [if_pos (show ra.kind ≤ 1 by omega), decide_eq_false_iff_not]; omega
                      refine T_seq ?_
                      refine T_region ?_
                      refine TL_q (Qt_assign (.int .i64 _) rfl) rfl ?_
                      refine TL_nil ?_
                      refine X_then ?_
                      refine T_ret ?_
                      refine X_then_ret ?_
                      exact X_ret ((s : RS), P, (4 : Int)) [_] Try.results22 ⟨rfl, trivial⟩ rfl (fun w hw => ((Subs.st inferInstance w hw : St w0 (rblk q s :: rrow s :: flA P.ff P.fls :: eachA P.fo P.xs :: H) w)).addPure ⟨⟨x11.M.ls, hM, .inr (.inr (.inr (.inr (.inr (.inr (.inl ⟨hk4, hdn, hnm, hsz, (if_pos (show ra.kind ≤ 1 by omega)).symm, rfl⟩))))))⟩, hs.fd (B + 1000 * (s.pend.length + 1)) (N + s.pend.length + 1) (by omega) (by omega) s.fuse s.down⟩)
                    ·
                      have p102 := h102
                      try simp only [decide_eq_true_eq, decide_eq_false_iff_not, Bool.not_eq_true', Bool.not_eq_false', Option.isNone_iff_eq_none, ne_eq, Decidable.not_not, Int.not_lt, Int.not_le] at p102
                      have hsz : okSz s.room ra x11.M.ls = true := by unfold okSz; rw [if_pos (show ra.kind ≤ 1 by omega), decide_eq_true_eq]; omega
                      refine T_skip ?_
                      refine X_then ?_
                      refine T_seq ?_
                      refine T_seq ?_
                      refine T_region ?_
                      refine TL_q (Qt_move (.pointer _) rfl) rfl ?_
                      refine TL_frontB q ?_
                      refine TL_e rfl (Ef_call (rburn_c hfu) rfl (fun x113 => ?_))
                      refine TL_q (Qt_not rfl) rfl ?_
                      refine TL_nil ?_
                      refine X_then ?_
                      refine T_cond rfl (fun h114 => ?_) (fun h114 => ?_)
                      ·
                        have p114 := h114
                        try simp only [decide_eq_true_eq, decide_eq_false_iff_not, Bool.not_eq_true', Bool.not_eq_false', Option.isNone_iff_eq_none, ne_eq, Decidable.not_not, Int.not_lt, Int.not_le] at p114
                        have hbt : burnD s.fuse s.down = true := by simpa using h114
                        rw [hbt]
                        refine T_seq ?_
                        refine T_region ?_
                        refine TL_q (Qt_assign (.int .i64 _) rfl) rfl ?_
                        refine TL_nil ?_
                        refine X_then ?_
                        refine T_ret ?_
                        refine X_then_ret ?_
                        exact X_ret ((⟨s.room, s.syn, s.pa, s.pc, s.pend, burnF s.fuse, true⟩ : RS), P, (14 : Int)) [_] Try.results22 ⟨rfl, trivial⟩ rfl (fun w hw => ((Subs.st inferInstance w hw : St w0 (rblk q ⟨s.room, s.syn, s.pa, s.pc, s.pend, burnF s.fuse, true⟩ :: rrow ⟨s.room, s.syn, s.pa, s.pc, s.pend, burnF s.fuse, true⟩ :: flA P.ff P.fls :: eachA P.fo P.xs :: H) w)).addPure ⟨⟨x11.M.ls, hM, .inr (.inr (.inr (.inr (.inr (.inr (.inr (.inl ⟨hk4, hdn, hnm, hsz, hbt, rfl, rfl⟩)))))))⟩, hs.fd (B + 1000 * (s.pend.length + 1)) (N + s.pend.length + 1) (by omega) (by omega) _ _⟩)
                      ·
                        have p114 := h114
                        try simp only [decide_eq_true_eq, decide_eq_false_iff_not, Bool.not_eq_true', Bool.not_eq_false', Option.isNone_iff_eq_none, ne_eq, Decidable.not_not, Int.not_lt, Int.not_le] at p114
                        have hbf : burnD s.fuse s.down = false := by simpa using h114
                        rw [hbf]
                        refine T_skip ?_
                        refine X_then ?_
                        refine T_seq ?_
                        refine T_drawF (blk b3 (.cells ra.cells 34 (0, 0)) :: H) (by kernel_rfl) (Subs.st inferInstance) ?_
                        refine DLF_q (i := 0) (by kernel_rfl) rfl (by kernel_rfl) (by kernel_rfl) (Qt_move (.pointer _) rfl) rfl ?_
                        refine DLF_q (i := 1) (by kernel_rfl) rfl (by kernel_rfl) (by kernel_rfl) (Qt_move (.pointer _) rfl) rfl ?_
                        refine DLF_q (i := 2) (by kernel_rfl) rfl (by kernel_rfl) (by kernel_rfl) (Qt_nilCheck rfl) rfl ?_
                        refine DLF_q (i := 3) (by kernel_rfl) rfl (by kernel_rfl) (by kernel_rfl) (Qt_fieldAddr 2 rfl rfl) rfl ?_
                        refine DLF_q (i := 5) (by kernel_rfl) rfl (by kernel_rfl) (by kernel_rfl) (Qt_loadN rfl rfl) rfl ?_
                        refine DLF_2 (i := 4) (j := 6) (by kernel_rfl) ?_ ?_
                        ·
                          refine DLS_e rfl rfl (Ef_of_Qt (Qt_load1 rfl) ⟨(Subs.st inferInstance), ?_⟩)
                          refine DLF_1 (i := 6) (by kernel_rfl) ?_
                          refine DLS_e rfl rfl (Ef_sliceN (m := ([ra] : List RActV).length) [.agg ra.cells] (([ra] : List RActV).flatMap RActV.list) rfl rfl rfl rfl (by simp [Value.cells, RActV.size]) rfl rfl (fun a121 c121 => ⟨(Subs.st inferInstance), ?_⟩))
                          refine DLF_1 (i := 7) (by kernel_rfl) ?_
                          refine DLS_e rfl rfl (Ef_appendS RActV.list (sv := .slice _ _ _) (xv := .slice _ _ _) (xs := s.pend) (ys := [ra]) RActV.list_len RActV.list_one rfl rfl (by simp; omega) rfl rfl (fun a122 c122 => ⟨(Subs.st inferInstance), ?_⟩))
                          refine DLF_q (i := 8) (by kernel_rfl) rfl (by kernel_rfl) (by kernel_rfl) (Qt_nilCheck rfl) rfl ?_
                          refine DLF_q (i := 9) (by kernel_rfl) rfl (by kernel_rfl) (by kernel_rfl) (Qt_fieldAddr 2 rfl rfl) rfl ?_
                          refine DLF_1 (i := 10) (by kernel_rfl) ?_
                          refine DLS_n rfl (Ef_store1 (.slice _ _ _) rfl rfl (⟨(Subs.st inferInstance), ?_⟩))
                          refine DLF_nil (by kernel_rfl) ?_
                          refine X_then ?_
                          refine T_seq ?_
                          refine T_region ?_
                          refine TL_q (Qt_assign (.int .i64 _) rfl) rfl ?_
                          refine TL_nil ?_
                          refine X_then ?_
                          refine T_ret ?_
                          exact X_ret ((⟨s.room, s.syn, a122, c122, s.pend ++ [ra], burnF s.fuse, false⟩ : RS), P, (0 : Int)) [_] Try.results22 ⟨rfl, trivial⟩ rfl (fun w hw => ((Subs.st inferInstance w hw : St w0 (rblk q ⟨s.room, s.syn, a122, c122, s.pend ++ [ra], burnF s.fuse, false⟩ :: rrow ⟨s.room, s.syn, a122, c122, s.pend ++ [ra], burnF s.fuse, false⟩ :: flA P.ff P.fls :: eachA P.fo P.xs :: H) w)).addPure ⟨⟨x11.M.ls, hM, .inr (.inr (.inr (.inr (.inr (.inr (.inr (.inr (⟨hk4, hdn, hnm, hsz, hbf, rfl, _, _, rfl⟩))))))))⟩, hs.snoc (B + 1000 * (s.pend.length + 1)) (N + s.pend.length + 1) (by omega) (by omega) hsr hb (by omega) _ _ _ _⟩)
                        ·
                          refine DLS_e rfl rfl (Ef_sliceN (m := ([ra] : List RActV).length) [.agg ra.cells] (([ra] : List RActV).flatMap RActV.list) rfl rfl rfl rfl (by simp [Value.cells, RActV.size]) rfl rfl (fun a121 c121 => ⟨(Subs.st inferInstance), ?_⟩))
                          refine DLF_1 (i := 4) (by kernel_rfl) ?_
                          refine DLS_e rfl rfl (Ef_of_Qt (Qt_load1 rfl) ⟨(Subs.st inferInstance), ?_⟩)
                          refine DLF_1 (i := 7) (by kernel_rfl) ?_
                          refine DLS_e rfl rfl (Ef_appendS RActV.list (sv := .slice _ _ _) (xv := .slice _ _ _) (xs := s.pend) (ys := [ra]) RActV.list_len RActV.list_one rfl rfl (by simp; omega) rfl rfl (fun a122 c122 => ⟨(Subs.st inferInstance), ?_⟩))
                          refine DLF_q (i := 8) (by kernel_rfl) rfl (by kernel_rfl) (by kernel_rfl) (Qt_nilCheck rfl) rfl ?_
                          refine DLF_q (i := 9) (by kernel_rfl) rfl (by kernel_rfl) (by kernel_rfl) (Qt_fieldAddr 2 rfl rfl) rfl ?_
                          refine DLF_1 (i := 10) (by kernel_rfl) ?_
                          refine DLS_n rfl (Ef_store1 (.slice _ _ _) rfl rfl (⟨(Subs.st inferInstance), ?_⟩))
                          refine DLF_nil (by kernel_rfl) ?_
                          refine X_then ?_
                          refine T_seq ?_
                          refine T_region ?_
                          refine TL_q (Qt_assign (.int .i64 _) rfl) rfl ?_
                          refine TL_nil ?_
                          refine X_then ?_
                          refine T_ret ?_
                          exact X_ret ((⟨s.room, s.syn, a122, c122, s.pend ++ [ra], burnF s.fuse, false⟩ : RS), P, (0 : Int)) [_] Try.results22 ⟨rfl, trivial⟩ rfl (fun w hw => ((Subs.st inferInstance w hw : St w0 (rblk q ⟨s.room, s.syn, a122, c122, s.pend ++ [ra], burnF s.fuse, false⟩ :: rrow ⟨s.room, s.syn, a122, c122, s.pend ++ [ra], burnF s.fuse, false⟩ :: flA P.ff P.fls :: eachA P.fo P.xs :: H) w)).addPure ⟨⟨x11.M.ls, hM, .inr (.inr (.inr (.inr (.inr (.inr (.inr (.inr (⟨hk4, hdn, hnm, hsz, hbf, rfl, _, _, rfl⟩))))))))⟩, hs.snoc (B + 1000 * (s.pend.length + 1)) (N + s.pend.length + 1) (by omega) (by omega) hsr hb (by omega) _ _ _ _⟩)
                ·
                  have p66 := h66
                  try simp only [decide_eq_true_eq, decide_eq_false_iff_not, Bool.not_eq_true', Bool.not_eq_false', Option.isNone_iff_eq_none, ne_eq, Decidable.not_not, Int.not_lt, Int.not_le] at p66
                  refine T_seq ?_
                  refine T_region ?_
                  refine TL_q (Qt_move (.slice _ _ _) rfl) rfl ?_
                  refine TL_q (Qt_fieldAddr 1 rfl rfl) rfl ?_
                  refine TL_q (Qt_load1 rfl) rfl ?_
                  refine TL_e rfl (Ef_call (find_c (L := x11.M.ls) (by have := hy.len; have := hs.sl; omega) (nm := ra.name)) rfl (fun x107 => ?_))
                  refine TL_q (Qt_move (.tuple _) rfl) rfl ?_
                  refine TL_q (Qt_extract rfl) rfl ?_
                  refine TL_q (Qt_extract rfl) rfl ?_
                  refine TL_q (Qt_assign (.slice _ _ _) rfl) rfl ?_
                  refine TL_q (Qt_assign (.bool _) rfl) rfl ?_
                  refine TL_nil ?_
                  refine X_then ?_
                  refine T_seq ?_
                  refine T_region ?_
                  refine TL_q (Qt_move (.bool _) rfl) rfl ?_
                  refine TL_q (Qt_not rfl) rfl ?_
                  refine TL_nil ?_
                  refine X_then ?_
                  refine T_cond rfl (fun h111 => ?_) (fun h111 => ?_)
                  ·
                    have p111 := h111
                    try simp only [decide_eq_true_eq, decide_eq_false_iff_not, Bool.not_eq_true', Bool.not_eq_false', Option.isNone_iff_eq_none, ne_eq, Decidable.not_not, Int.not_lt, Int.not_le] at p111
                    have hsz : okSz s.room ra x11.M.ls = false := by unfold okSz; rw [if_neg (show ¬ ra.kind ≤ 1 by omega)]; simpa using h111
                    refine T_seq ?_
                    refine T_region ?_
                    refine TL_q (Qt_assign (.int .i64 _) rfl) rfl ?_
                    refine TL_nil ?_
                    refine X_then ?_
                    refine T_ret ?_
                    refine X_then_ret ?_
                    exact X_ret ((s : RS), P, (13 : Int)) [_] Try.results22 ⟨rfl, trivial⟩ rfl (fun w hw => ((Subs.st inferInstance w hw : St w0 (rblk q s :: rrow s :: flA P.ff P.fls :: eachA P.fo P.xs :: H) w)).addPure ⟨⟨x11.M.ls, hM, .inr (.inr (.inr (.inr (.inr (.inr (.inl ⟨hk4, hdn, hnm, hsz, (if_neg (show ¬ ra.kind ≤ 1 by omega)).symm, rfl⟩))))))⟩, hs.fd (B + 1000 * (s.pend.length + 1)) (N + s.pend.length + 1) (by omega) (by omega) s.fuse s.down⟩)
                  ·
                    have p111 := h111
                    try simp only [decide_eq_true_eq, decide_eq_false_iff_not, Bool.not_eq_true', Bool.not_eq_false', Option.isNone_iff_eq_none, ne_eq, Decidable.not_not, Int.not_lt, Int.not_le] at p111
                    have hsz : okSz s.room ra x11.M.ls = true := by unfold okSz; rw [if_neg (show ¬ ra.kind ≤ 1 by omega)]; simpa using h111
                    refine T_skip ?_
                    refine X_then ?_
                    refine T_seq ?_
                    refine T_seq ?_
                    refine T_region ?_
                    refine TL_q (Qt_move (.pointer _) rfl) rfl ?_
                    refine TL_frontB q ?_
                    refine TL_e rfl (Ef_call (rburn_c hfu) rfl (fun x113 => ?_))
                    refine TL_q (Qt_not rfl) rfl ?_
                    refine TL_nil ?_
                    refine X_then ?_
                    refine T_cond rfl (fun h114 => ?_) (fun h114 => ?_)
                    ·
                      have p114 := h114
                      try simp only [decide_eq_true_eq, decide_eq_false_iff_not, Bool.not_eq_true', Bool.not_eq_false', Option.isNone_iff_eq_none, ne_eq, Decidable.not_not, Int.not_lt, Int.not_le] at p114
                      have hbt : burnD s.fuse s.down = true := by simpa using h114
                      rw [hbt]
                      refine T_seq ?_
                      refine T_region ?_
                      refine TL_q (Qt_assign (.int .i64 _) rfl) rfl ?_
                      refine TL_nil ?_
                      refine X_then ?_
                      refine T_ret ?_
                      refine X_then_ret ?_
                      exact X_ret ((⟨s.room, s.syn, s.pa, s.pc, s.pend, burnF s.fuse, true⟩ : RS), P, (14 : Int)) [_] Try.results22 ⟨rfl, trivial⟩ rfl (fun w hw => ((Subs.st inferInstance w hw : St w0 (rblk q ⟨s.room, s.syn, s.pa, s.pc, s.pend, burnF s.fuse, true⟩ :: rrow ⟨s.room, s.syn, s.pa, s.pc, s.pend, burnF s.fuse, true⟩ :: flA P.ff P.fls :: eachA P.fo P.xs :: H) w)).addPure ⟨⟨x11.M.ls, hM, .inr (.inr (.inr (.inr (.inr (.inr (.inr (.inl ⟨hk4, hdn, hnm, hsz, hbt, rfl, rfl⟩)))))))⟩, hs.fd (B + 1000 * (s.pend.length + 1)) (N + s.pend.length + 1) (by omega) (by omega) _ _⟩)
                    ·
                      have p114 := h114
                      try simp only [decide_eq_true_eq, decide_eq_false_iff_not, Bool.not_eq_true', Bool.not_eq_false', Option.isNone_iff_eq_none, ne_eq, Decidable.not_not, Int.not_lt, Int.not_le] at p114
                      have hbf : burnD s.fuse s.down = false := by simpa using h114
                      rw [hbf]
                      refine T_skip ?_
                      refine X_then ?_
                      refine T_seq ?_
                      refine T_drawF (blk b3 (.cells ra.cells 34 (0, 0)) :: H) (by kernel_rfl) (Subs.st inferInstance) ?_
                      refine DLF_q (i := 0) (by kernel_rfl) rfl (by kernel_rfl) (by kernel_rfl) (Qt_move (.pointer _) rfl) rfl ?_
                      refine DLF_q (i := 1) (by kernel_rfl) rfl (by kernel_rfl) (by kernel_rfl) (Qt_move (.pointer _) rfl) rfl ?_
                      refine DLF_q (i := 2) (by kernel_rfl) rfl (by kernel_rfl) (by kernel_rfl) (Qt_nilCheck rfl) rfl ?_
                      refine DLF_q (i := 3) (by kernel_rfl) rfl (by kernel_rfl) (by kernel_rfl) (Qt_fieldAddr 2 rfl rfl) rfl ?_
                      refine DLF_q (i := 5) (by kernel_rfl) rfl (by kernel_rfl) (by kernel_rfl) (Qt_loadN rfl rfl) rfl ?_
                      refine DLF_2 (i := 4) (j := 6) (by kernel_rfl) ?_ ?_
                      ·
                        refine DLS_e rfl rfl (Ef_of_Qt (Qt_load1 rfl) ⟨(Subs.st inferInstance), ?_⟩)
                        refine DLF_1 (i := 6) (by kernel_rfl) ?_
                        refine DLS_e rfl rfl (Ef_sliceN (m := ([ra] : List RActV).length) [.agg ra.cells] (([ra] : List RActV).flatMap RActV.list) rfl rfl rfl rfl (by simp [Value.cells, RActV.size]) rfl rfl (fun a121 c121 => ⟨(Subs.st inferInstance), ?_⟩))
                        refine DLF_1 (i := 7) (by kernel_rfl) ?_
                        refine DLS_e rfl rfl (Ef_appendS RActV.list (sv := .slice _ _ _) (xv := .slice _ _ _) (xs := s.pend) (ys := [ra]) RActV.list_len RActV.list_one rfl rfl (by simp; omega) rfl rfl (fun a122 c122 => ⟨(Subs.st inferInstance), ?_⟩))
                        refine DLF_q (i := 8) (by kernel_rfl) rfl (by kernel_rfl) (by kernel_rfl) (Qt_nilCheck rfl) rfl ?_
                        refine DLF_q (i := 9) (by kernel_rfl) rfl (by kernel_rfl) (by kernel_rfl) (Qt_fieldAddr 2 rfl rfl) rfl ?_
                        refine DLF_1 (i := 10) (by kernel_rfl) ?_
                        refine DLS_n rfl (Ef_store1 (.slice _ _ _) rfl rfl (⟨(Subs.st inferInstance), ?_⟩))
                        refine DLF_nil (by kernel_rfl) ?_
                        refine X_then ?_
                        refine T_seq ?_
                        refine T_region ?_
                        refine TL_q (Qt_assign (.int .i64 _) rfl) rfl ?_
                        refine TL_nil ?_
                        refine X_then ?_
                        refine T_ret ?_
                        exact X_ret ((⟨s.room, s.syn, a122, c122, s.pend ++ [ra], burnF s.fuse, false⟩ : RS), P, (0 : Int)) [_] Try.results22 ⟨rfl, trivial⟩ rfl (fun w hw => ((Subs.st inferInstance w hw : St w0 (rblk q ⟨s.room, s.syn, a122, c122, s.pend ++ [ra], burnF s.fuse, false⟩ :: rrow ⟨s.room, s.syn, a122, c122, s.pend ++ [ra], burnF s.fuse, false⟩ :: flA P.ff P.fls :: eachA P.fo P.xs :: H) w)).addPure ⟨⟨x11.M.ls, hM, .inr (.inr (.inr (.inr (.inr (.inr (.inr (.inr (⟨hk4, hdn, hnm, hsz, hbf, rfl, _, _, rfl⟩))))))))⟩, hs.snoc (B + 1000 * (s.pend.length + 1)) (N + s.pend.length + 1) (by omega) (by omega) hsr hb (by omega) _ _ _ _⟩)
                      ·
                        refine DLS_e rfl rfl (Ef_sliceN (m := ([ra] : List RActV).length) [.agg ra.cells] (([ra] : List RActV).flatMap RActV.list) rfl rfl rfl rfl (by simp [Value.cells, RActV.size]) rfl rfl (fun a121 c121 => ⟨(Subs.st inferInstance), ?_⟩))
                        refine DLF_1 (i := 4) (by kernel_rfl) ?_
                        refine DLS_e rfl rfl (Ef_of_Qt (Qt_load1 rfl) ⟨(Subs.st inferInstance), ?_⟩)
                        refine DLF_1 (i := 7) (by kernel_rfl) ?_
                        refine DLS_e rfl rfl (Ef_appendS RActV.list (sv := .slice _ _ _) (xv := .slice _ _ _) (xs := s.pend) (ys := [ra]) RActV.list_len RActV.list_one rfl rfl (by simp; omega) rfl rfl (fun a122 c122 => ⟨(Subs.st inferInstance), ?_⟩))
                        refine DLF_q (i := 8) (by kernel_rfl) rfl (by kernel_rfl) (by kernel_rfl) (Qt_nilCheck rfl) rfl ?_
                        refine DLF_q (i := 9) (by kernel_rfl) rfl (by kernel_rfl) (by kernel_rfl) (Qt_fieldAddr 2 rfl rfl) rfl ?_
                        refine DLF_1 (i := 10) (by kernel_rfl) ?_
                        refine DLS_n rfl (Ef_store1 (.slice _ _ _) rfl rfl (⟨(Subs.st inferInstance), ?_⟩))
                        refine DLF_nil (by kernel_rfl) ?_
                        refine X_then ?_
                        refine T_seq ?_
                        refine T_region ?_
                        refine TL_q (Qt_assign (.int .i64 _) rfl) rfl ?_
                        refine TL_nil ?_
                        refine X_then ?_
                        refine T_ret ?_
                        exact X_ret ((⟨s.room, s.syn, a122, c122, s.pend ++ [ra], burnF s.fuse, false⟩ : RS), P, (0 : Int)) [_] Try.results22 ⟨rfl, trivial⟩ rfl (fun w hw => ((Subs.st inferInstance w hw : St w0 (rblk q ⟨s.room, s.syn, a122, c122, s.pend ++ [ra], burnF s.fuse, false⟩ :: rrow ⟨s.room, s.syn, a122, c122, s.pend ++ [ra], burnF s.fuse, false⟩ :: flA P.ff P.fls :: eachA P.fo P.xs :: H) w)).addPure ⟨⟨x11.M.ls, hM, .inr (.inr (.inr (.inr (.inr (.inr (.inr (.inr (⟨hk4, hdn, hnm, hsz, hbf, rfl, _, _, rfl⟩))))))))⟩, hs.snoc (B + 1000 * (s.pend.length + 1)) (N + s.pend.length + 1) (by omega) (by omega) hsr hb (by omega) _ _ _ _⟩)
end Go.Proofs.Ytededghplnoajaa
