/- Walks: package disk: Copy, Fuse; acts of all kinds. -/
import Derived.Test.YtededghplnoajaaDg
namespace Go.Proofs.Ytededghplnoajaa
open Go.RowKit Go.Sx
set_option maxRecDepth 100000
set_option linter.unusedSimpArgs false
set_option linter.unusedVariables false
theorem CellsAt.none0 {w : World} {n c sz : Nat} {xs : List Value} (h : CellsAt w (.slice none n c) sz xs) : xs = [] := by
  obtain ⟨a', n', c', hv, -, -, -, hx⟩ := h
  obtain ⟨rfl, -, -⟩ : a' = none ∧ n' = n ∧ c' = c := by simp at hv; exact ⟨hv.1.symm, hv.2.1.symm, hv.2.2.symm⟩
  by_cases h0 : 0 < xs.length
  · obtain ⟨b, o, h1, -⟩ := hx h0; cases h1
  · exact List.eq_nil_of_length_eq_zero (by omega)
@[reducible] def cpyS (s : DS) (q1 q2 : Nat) (pa : Option Addr) (pc : Nat) : DS := { s with r1 := q1, r2 := q2, pa := pa, pc := pc }
set_option maxHeartbeats 1000000 in
theorem aclone_c {w0 : World} {H : List SA} {a : Option Addr} {l : List ActV} {c : Nat} [hr : RdC w0 H (.slice a l.length c) 4 (l.flatMap ActV.list)] (hl : l.length ≤ 1000000) :
    CT Try.prog w0 (H) 41 [.slice a l.length c] (α := AC) (fun x => .slice x.a l.length x.c) (fun x => row (.slice x.a l.length x.c) 70 4 (l.flatMap ActV.list) :: H) := by
  refine CT_intro Try.func41 rfl Try.ntmps41 rfl ?_
  refine T_seq ?_
  refine T_region ?_
  refine TL_q (Qt_assign (.slice _ _ _) rfl) rfl ?_
  refine TL_nil ?_
  refine X_then ?_
  refine T_seq ?_
  refine T_seq ?_
  refine T_region ?_
  refine TL_q (Qt_move (.slice _ _ _) rfl) rfl ?_
  refine TL_q (Qt_slice_nil rfl rfl Try.underlying62) rfl ?_
  refine TL_nil ?_
  refine X_then ?_
  refine T_cond rfl (fun h4 => ?_) (fun h4 => ?_)
  ·
    have p4 := h4
    try simp only [decide_eq_true_eq, decide_eq_false_iff_not, Bool.not_eq_true', Bool.not_eq_false', Option.isNone_iff_eq_none, ne_eq, Decidable.not_not, Int.not_lt, Int.not_le] at p4
    refine T_seq ?_
    refine T_region ?_
    refine TL_q (Qt_assign (.slice _ _ _) rfl) rfl ?_
    refine TL_nil ?_
    refine X_then ?_
    refine T_ret ?_
    refine X_then_ret ?_
    subst p4
    refine X_know (fun w hw => CellsAt.none0 (hr.rd w hw)) (fun hnil => ?_)
    have hl0 : l = [] := by
      cases l with
      | nil => rfl
      | cons x l => exact absurd hnil (by simp [List.flatMap_cons, ActV.list])
    subst hl0
    exact X_ret ⟨none, 0⟩ [.slice none 0 0] Try.results41 ⟨rfl, trivial⟩ rfl (fun w hw => hw.addNil 70 4)
  ·
    have p4 := h4
    try simp only [decide_eq_true_eq, decide_eq_false_iff_not, Bool.not_eq_true', Bool.not_eq_false', Option.isNone_iff_eq_none, ne_eq, Decidable.not_not, Int.not_lt, Int.not_le] at p4
    refine T_skip ?_
    refine X_then ?_
    refine T_seq ?_
    refine T_region ?_
    refine TL_e rfl (Ef_slice0 (fun a5 c5 => ?_))
    refine TL_q (Qt_move (.slice _ _ _) rfl) rfl ?_
    refine TL_e rfl (Ef_appendS ActV.list (sv := .slice _ _ _) (xv := .slice _ _ _) (xs := []) (ys := l) ActV.list_len ActV.list_one rfl rfl (by simp; omega) rfl rfl (fun a7 c7 => ?_))
    simp only [List.nil_append]
    refine TL_q (Qt_assign (.slice _ _ _) rfl) rfl ?_
    refine TL_nil ?_
    refine X_then ?_
    refine T_ret ?_
    exact X_ret ⟨a7, c7⟩ [_] Try.results41 ⟨rfl, trivial⟩ rfl (Subs.st inferInstance)
set_option maxHeartbeats 1000000 in
theorem dcopy_c {w0 : World} {H : List SA} {p : Nat} {s : DS} {N M : Nat} (hok : s.Ok N M) (hN : N ≤ 1000000) (hM : M ≤ 1000000000) :
    CT Try.prog w0 (DS.H p s H) 19 [.pointer (some ⟨p, 0, none⟩)] (α := Nat × Nat × Nat × AC) (fun y => .pointer (some ⟨y.1, 0, none⟩)) (fun y => dblk y.1 (cpyS s y.2.1 y.2.2.1 y.2.2.2.a y.2.2.2.c) :: blk y.2.1 (mapO encS BS.val s.e1 s.c1) :: blk y.2.2.1 (mapO encS BS.val s.e2 s.c2) :: prow (cpyS s y.2.1 y.2.2.1 y.2.2.2.a y.2.2.2.c) :: DS.H p s H) := by
  refine CT_intro Try.func19 rfl Try.ntmps19 rfl ?_
  refine T_seq ?_
  refine T_region ?_
  refine TL_q (Qt_assign (.pointer _) rfl) rfl ?_
  refine TL_nil ?_
  refine X_then ?_
  refine T_seq ?_
  refine T_seq ?_
  refine T_region ?_
  refine TL_q (Qt_move (.pointer _) rfl) rfl ?_
  refine TL_q (Qt_ptr_nil rfl rfl Try.underlying28) rfl ?_
  refine TL_nil ?_
  refine X_then ?_
  refine T_cond rfl (fun h4 => ?_) (fun h4 => ?_)
  ·
    have p4 := h4
    try simp only [decide_eq_true_eq, decide_eq_false_iff_not, Bool.not_eq_true', Bool.not_eq_false', Option.isNone_iff_eq_none, ne_eq, Decidable.not_not, Int.not_lt, Int.not_le] at p4
    cases h4
  ·
    have p4 := h4
    try simp only [decide_eq_true_eq, decide_eq_false_iff_not, Bool.not_eq_true', Bool.not_eq_false', Option.isNone_iff_eq_none, ne_eq, Decidable.not_not, Int.not_lt, Int.not_le] at p4
    refine T_skip ?_
    refine X_then ?_
    refine T_seq ?_
    refine T_draw (dblk p s :: H) [(0, true), (1, true), (2, true), (3, true), (4, true), (5, true), (6, true), (7, true), (9, true), (10, true), (11, true), (12, true), (14, true), (15, true), (16, true), (17, true), (19, true), (20, true), (21, true), (22, true), (23, true), (24, true), (25, true), (26, true), (8, false), (13, false), (18, false), (27, true), (28, false), (29, true)] (by kernel_rfl) (by kernel_rfl) rfl (by kernel_rfl) (Subs.st inferInstance) (fun hns0 => ?_)
    refine DL_q hns0 rfl (Qt_move (.pointer _) rfl) rfl ?_
    refine DL_q hns0 rfl (Qt_nilCheck rfl) rfl ?_
    refine DL_q hns0 rfl (Qt_fieldAddr 0 rfl rfl) rfl ?_
    refine DL_q hns0 rfl (Qt_load1 rfl) rfl ?_
    refine DL_q hns0 rfl (Qt_move (.pointer _) rfl) rfl ?_
    refine DL_q hns0 rfl (Qt_nilCheck rfl) rfl ?_
    refine DL_q hns0 rfl (Qt_fieldAddr 1 rfl rfl) rfl ?_
    refine DL_q hns0 rfl (Qt_load1 rfl) rfl ?_
    refine DL_q hns0 rfl (Qt_move (.pointer _) rfl) rfl ?_
    refine DL_q hns0 rfl (Qt_nilCheck rfl) rfl ?_
    refine DL_q hns0 rfl (Qt_fieldAddr 2 rfl rfl) rfl ?_
    refine DL_q hns0 rfl (Qt_load1 rfl) rfl ?_
    refine DL_q hns0 rfl (Qt_move (.pointer _) rfl) rfl ?_
    refine DL_q hns0 rfl (Qt_nilCheck rfl) rfl ?_
    refine DL_q hns0 rfl (Qt_fieldAddr 3 rfl rfl) rfl ?_
    refine DL_q hns0 rfl (Qt_load1 rfl) rfl ?_
    refine DL_q hns0 rfl (Qt_move (.pointer _) rfl) rfl ?_
    refine DL_q hns0 rfl (Qt_nilCheck rfl) rfl ?_
    refine DL_q hns0 rfl (Qt_fieldAddr 4 rfl rfl) rfl ?_
    refine DL_q hns0 rfl (Qt_load1 rfl) rfl ?_
    refine DL_q hns0 rfl (Qt_move (.pointer _) rfl) rfl ?_
    refine DL_q hns0 rfl (Qt_nilCheck rfl) rfl ?_
    refine DL_q hns0 rfl (Qt_fieldAddr 5 rfl rfl) rfl ?_
    refine DL_q hns0 rfl (Qt_load1 rfl) rfl ?_
    refine DL_frontB s.r1 ?_
    refine DL_e rfl rfl (Ef_call (mclone_c (r := s.r1) (es := s.e1) (c := s.c1)) rfl (fun x13 => ⟨(Subs.st inferInstance), ?_⟩))
    refine DL_frontB s.r2 ?_
    refine DL_e rfl rfl (Ef_call (mclone_c (r := s.r2) (es := s.e2) (c := s.c2)) rfl (fun x18 => ⟨(Subs.st inferInstance), ?_⟩))
    refine DL_e rfl rfl (Ef_call (aclone_c (l := s.pend) (by have := hok.np; omega)) rfl (fun x23 => ⟨(Subs.st inferInstance), ?_⟩))
    refine DL_q hns0 rfl (Qt_build [(0, (.int .i64 _)), (1, (.map _)), (2, (.map _)), (3, .slice _ _ _), (4, (.int .i64 _)), (5, (.bool _))] rfl (by kernel_rfl)) rfl ?_
    refine DL_e rfl rfl (Ef_boxN rfl (fun b33 => ⟨(Subs.st inferInstance), ?_⟩))
    refine DL_q hns0 rfl (Qt_assign (.pointer _) rfl) rfl ?_
    refine DL_nil ?_
    refine X_then ?_
    refine T_ret ?_
    exact X_ret (b33, x13, x18, ⟨x23.a, x23.c⟩) [_] Try.results19 ⟨rfl, trivial⟩ rfl (Subs.st inferInstance)
@[reducible] def fuseS (s : DS) (n : Int) : DS := { s with fuse := if s.down = true then s.fuse else n }
set_option maxHeartbeats 1000000 in
theorem dfuse_c {w0 : World} {H : List SA} {p : Nat} {s : DS} {n : Int} :
    CT Try.prog w0 (DS.H p s H) 35 [.pointer (some ⟨p, 0, none⟩), .int .i64 n] (α := Unit) (fun _ => .tuple #[]) (fun _ => DS.H p (fuseS s n) H) := by
  refine CT_intro Try.func35 rfl Try.ntmps35 rfl ?_
  refine T_seq ?_
  refine T_region ?_
  refine TL_q (Qt_move (.pointer _) rfl) rfl ?_
  refine TL_q (Qt_ptr_not_nil rfl rfl Try.underlying28) rfl ?_
  refine TL_q (Qt_move (.bool _) rfl) rfl ?_
  refine TL_split 6 rfl (fun h6 => ?_) (fun h6 => ?_)
  ·
    have p6 := h6
    try simp only [decide_eq_true_eq, decide_eq_false_iff_not, Bool.not_eq_true', Bool.not_eq_false', Option.isNone_iff_eq_none, ne_eq, Decidable.not_not, Int.not_lt, Int.not_le] at p6
    refine TL_take rfl rfl h6 ?_
    refine TL_q (Qt_move (.pointer _) rfl) rfl ?_
    refine TL_take rfl rfl h6 ?_
    refine TL_q (Qt_nilCheck rfl) rfl ?_
    refine TL_take rfl rfl h6 ?_
    refine TL_q (Qt_fieldAddr 5 rfl rfl) rfl ?_
    refine TL_take rfl rfl h6 ?_
    refine TL_q (Qt_load1 rfl) rfl ?_
    refine TL_take rfl rfl h6 ?_
    refine TL_q (Qt_not rfl) rfl ?_
    refine TL_q (Qt_pick_t (.bool _) rfl h6 rfl) rfl ?_
    refine TL_nil ?_
    refine X_then ?_
    refine T_cond rfl (fun h12 => ?_) (fun h12 => ?_)
    ·
      have p12 := h12
      try simp only [decide_eq_true_eq, decide_eq_false_iff_not, Bool.not_eq_true', Bool.not_eq_false', Option.isNone_iff_eq_none, ne_eq, Decidable.not_not, Int.not_lt, Int.not_le] at p12
      refine T_region ?_
      refine TL_q (Qt_move (.pointer _) rfl) rfl ?_
      refine TL_q (Qt_move (.int .i64 _) rfl) rfl ?_
      refine TL_q (Qt_nilCheck rfl) rfl ?_
      refine TL_q (Qt_fieldAddr 4 rfl rfl) rfl ?_
      refine TL_n (Ef_store1 (.int .i64 _) rfl rfl (?_))
      refine TL_nil ?_
      have e : (if s.down = true then s.fuse else n) = n := if_neg (by simp_all)
      exact X_ret () [] Try.results35 trivial rfl (fun w hw => by
          show St w0 (DS.H p { s with fuse := if s.down = true then s.fuse else n } H) w
          rw [e]
          exact Subs.st inferInstance w hw)
    ·
      have p12 := h12
      try simp only [decide_eq_true_eq, decide_eq_false_iff_not, Bool.not_eq_true', Bool.not_eq_false', Option.isNone_iff_eq_none, ne_eq, Decidable.not_not, Int.not_lt, Int.not_le] at p12
      refine T_skip ?_
      have e : (if s.down = true then s.fuse else n) = s.fuse := if_pos (by simp_all)
      exact X_ret () [] Try.results35 trivial rfl (fun w hw => by
          show St w0 (DS.H p { s with fuse := if s.down = true then s.fuse else n } H) w
          rw [e]
          exact Subs.st inferInstance w hw)
  ·
    have p6 := h6
    try simp only [decide_eq_true_eq, decide_eq_false_iff_not, Bool.not_eq_true', Bool.not_eq_false', Option.isNone_iff_eq_none, ne_eq, Decidable.not_not, Int.not_lt, Int.not_le] at p6
    cases h6
/-- What an act does. -/
def StepR (N M : Nat) (ra : RActV) (s s' : DS) (e : Int) : Prop :=
  (ra.kind = 0 ∧ AppR 1 0 s ra.name ra.b.l s' e) ∨ (ra.kind = 1 ∧ AppR 2 (oldE s.e2 ra.name).l.length s ra.name ra.b.l s' e) ∨
  (ra.kind = 2 ∧ MvR (⟨3, ra.name, ra.to, ⟨none, 0, []⟩⟩ : ActV) (namedB ra.name && namedB ra.to) s s' e) ∨ (ra.kind = 3 ∧ MvR (⟨4, ra.name, ⟨#[]⟩, ⟨none, 0, []⟩⟩ : ActV) (namedB ra.name) s s' e) ∨
  (ra.kind = 4 ∧ e = 0 ∧ SyncR s s') ∨ (ra.kind = 5 ∧ e = 0 ∧ ∃ kp : Nat, ra.p.keep = (kp : Int) ∧ CrashR s N M kp ra.p.torn s') ∨
  (ra.kind = 6 ∧ e = 0 ∧ ∃ (q1 q2 : Nat) (pa : Option Addr) (pc : Nat), s' = cpyS s q1 q2 pa pc) ∨ (ra.kind = 7 ∧ e = 0 ∧ s' = fuseS s ra.n)
theorem cpyS_ok {s : DS} {N M : Nat} (h : s.Ok N M) (q1 q2 : Nat) (pa : Option Addr) (pc : Nat) : (cpyS s q1 q2 pa pc).Ok N M := ⟨h.good1, h.good2, h.mem1, h.mem2, h.memp, h.zero, h.len, h.short, h.n1, h.n2, h.np, h.room0, h.room1, h.fuse1⟩
theorem fuseS_ok {s : DS} {N M : Nat} (h : s.Ok N M) {n : Int} (hn : n ≤ 9223372036854775807) : (fuseS s n).Ok N M := ⟨h.good1, h.good2, h.mem1, h.mem2, h.memp, h.zero, h.len, h.short, h.n1, h.n2, h.np, h.room0, h.room1, by show (if s.down = true then s.fuse else n) ≤ _; split; exact h.fuse1; exact hn⟩
theorem StepR.ok {N M : Nat} {ra : RActV} {s s' : DS} {e : Int} (h : StepR N M ra s s' e) (hok : s.Ok N M) (hM0 : 1000 ≤ M) (hb : ra.b.l.length ≤ 1000) (hn : ra.n ≤ 9223372036854775807) : s'.Ok (N + 1 + s.pend.length) (M + 1000 * (1 + s.pend.length)) := by
  have h1 := hok.mono (show N ≤ N + 1 + s.pend.length by omega) (show M ≤ M + 1000 * (1 + s.pend.length) by omega)
  rcases h with ⟨-, h⟩ | ⟨-, h⟩ | ⟨-, h⟩ | ⟨-, h⟩ | ⟨-, -, h⟩ | ⟨-, -, kp, -, h⟩ | ⟨-, -, q1, q2, pa, pc, rfl⟩ | ⟨-, -, rfl⟩
  · exact (h.ok hok hb (by omega)).mono (by omega) (by omega)
  · exact (h.ok hok hb (by omega)).mono (by omega) (by omega)
  · exact (h.ok hok rfl).mono (by omega) (by omega)
  · exact (h.ok hok rfl).mono (by omega) (by omega)
  · exact (h.ok hok).mono (by omega) (by omega)
  · exact (h.ok hok).mono (by omega) (by omega)
  · exact cpyS_ok h1 _ _ _ _
  · exact fuseS_ok h1 hn
theorem DoR.sub {s s' : DS} {a : ActV} {e : Int} (h : DoR s a s' e) : ∀ x ∈ s.bs, x ∈ s'.bs := by
  rcases h with ⟨-, -, rfl⟩ | ⟨-, -, x, pa, pc, fp, hx, rfl⟩
  · exact fun _ h => h
  · exact fun y hy => List.mem_cons_of_mem _ hy
theorem AppR.sub {k : Int} {less : Nat} {s s' : DS} {nm : ByteArray} {b : List UInt8} {e : Int} (h : AppR k less s nm b s' e) : ∀ x ∈ s.bs, x ∈ s'.bs := by
  rcases h with ⟨-, -, rfl⟩ | ⟨-, -, -, rfl⟩ | ⟨-, -, -, -, rfl⟩ | ⟨-, -, -, cl, fp, hcl, hd⟩
  · exact fun _ h => h
  · exact fun _ h => h
  · exact fun _ h => h
  · exact fun y hy => hd.sub y (List.mem_cons_of_mem _ hy)
theorem MvR.sub {s s' : DS} {a : ActV} {ok : Bool} {e : Int} (h : MvR a ok s s' e) : ∀ x ∈ s.bs, x ∈ s'.bs := by
  rcases h with ⟨-, -, rfl⟩ | ⟨-, -, -, rfl⟩ | ⟨-, -, -, -, rfl⟩ | ⟨-, -, -, hd⟩
  · exact fun _ h => h
  · exact fun _ h => h
  · exact fun _ h => h
  · exact hd.sub
theorem SyncR.sub {s s' : DS} (h : SyncR s s') : ∀ x ∈ s.bs, x ∈ s'.bs := by
  rcases h with ⟨-, rfl⟩ | ⟨-, q1, q2, rfl⟩ <;> exact fun _ h => h

set_option maxHeartbeats 1000000 in
theorem do11_c {w0 : World} {H : List SA} {p : Nat} {s : DS} {N M : Nat} (hok : s.Ok N M) (hN : N ≤ 1000000) (hM : M ≤ 1000000000) (hM0 : 1000 ≤ M) {ra : RActV} (hb : ra.b.l.length ≤ 1000) (hk0 : 0 ≤ ra.kind ∧ ra.kind ≤ 7) {kp : Nat} (hkp : ra.p.keep = (kp : Int)) (hkl : kp < 18446744073709551616) [rb : RdB w0 H (.slice ra.b.a ra.b.l.length ra.b.c) ra.b.l] :
    CT Try.prog w0 (DS.H p s H) 14 [.pointer (some ⟨p, 0, none⟩), .agg ra.cells] (α := Nat × DS × Int) (fun y => .tuple #[.pointer (some ⟨y.1, 0, none⟩), .int .i64 y.2.2]) (fun y => pu (StepR N M ra s y.2.1 y.2.2 ∧ (ra.kind ≠ 6 → y.1 = p)) :: DS.H y.1 y.2.1 H) := by
  refine CT_intro Try.func14 rfl Try.ntmps14 rfl ?_
  refine T_seq ?_
  refine T_region ?_
  refine TL_e rfl (Ef_boxN rfl (fun b3 => ?_))
  refine TL_q (Qt_assign (.pointer _) rfl) rfl ?_
  refine TL_q (Qt_assign (.int .i64 _) rfl) rfl ?_
  refine TL_nil ?_
  refine X_then ?_
  refine T_seq ?_
  refine T_seq ?_
  refine T_region ?_
  refine TL_q (Qt_fieldAddr 0 rfl rfl) rfl ?_
  refine TL_q (Qt_load1 rfl) rfl ?_
  refine TL_nil ?_
  refine X_then ?_
  refine T_block ?_
  refine T_seq ?_
  refine T_region ?_
  refine TL_q (Qt_eql rfl rfl) rfl ?_
  refine TL_q (Qt_assign (.bool _) rfl) rfl ?_
  refine TL_nil ?_
  refine X_then ?_
  refine T_cond rfl (fun h8 => ?_) (fun h8 => ?_)
  ·
    have p8 := h8
    try simp only [decide_eq_true_eq, decide_eq_false_iff_not, Bool.not_eq_true', Bool.not_eq_false', Option.isNone_iff_eq_none, ne_eq, Decidable.not_not, Int.not_lt, Int.not_le] at p8
    refine T_seq ?_
    refine T_region ?_
    refine TL_q (Qt_move (.pointer _) rfl) rfl ?_
    refine TL_q (Qt_move (.pointer _) rfl) rfl ?_
    refine TL_q (Qt_fieldAddr 1 rfl rfl) rfl ?_
    refine TL_q (Qt_load1 rfl) rfl ?_
    refine TL_q (Qt_fieldAddr 3 rfl rfl) rfl ?_
    refine TL_q (Qt_load1 rfl) rfl ?_
    refine TL_conv (fun w hw => (Subs.st inferInstance w hw : St w0 (DS.H p s (blk b3 (.cells ra.cells 34 (0, 0)) :: H)) w)) ?_
    refine TL_e rfl (Ef_call (append_c (p := p) (s := s) hok hN (by omega) (nm := ra.name) (b := ra.b) hb (by omega)) rfl (fun x16 => ?_))
    refine TL_pure (fun h16 => ?_)
    refine TL_q (Qt_assign (.pointer _) rfl) rfl ?_
    refine TL_q (Qt_assign (.int .i64 _) rfl) rfl ?_
    refine TL_nil ?_
    refine X_then ?_
    refine T_ret ?_
    refine X_block_ret ?_
    refine X_then_ret ?_
    exact X_ret (p, x16.1, x16.2) [_, _] Try.results14 ⟨rfl, rfl, trivial⟩ rfl (fun w hw => St.addPure (Subs.st inferInstance w hw) ⟨.inl ⟨by omega, h16⟩, fun _ => rfl⟩)
  ·
    have p8 := h8
    try simp only [decide_eq_true_eq, decide_eq_false_iff_not, Bool.not_eq_true', Bool.not_eq_false', Option.isNone_iff_eq_none, ne_eq, Decidable.not_not, Int.not_lt, Int.not_le] at p8
    refine T_seq ?_
    refine T_region ?_
    refine TL_q (Qt_eql rfl rfl) rfl ?_
    refine TL_q (Qt_assign (.bool _) rfl) rfl ?_
    refine TL_nil ?_
    refine X_then ?_
    refine T_cond rfl (fun h17 => ?_) (fun h17 => ?_)
    ·
      have p17 := h17
      try simp only [decide_eq_true_eq, decide_eq_false_iff_not, Bool.not_eq_true', Bool.not_eq_false', Option.isNone_iff_eq_none, ne_eq, Decidable.not_not, Int.not_lt, Int.not_le] at p17
      refine T_seq ?_
      refine T_region ?_
      refine TL_q (Qt_move (.pointer _) rfl) rfl ?_
      refine TL_q (Qt_move (.pointer _) rfl) rfl ?_
      refine TL_q (Qt_fieldAddr 1 rfl rfl) rfl ?_
      refine TL_q (Qt_load1 rfl) rfl ?_
      refine TL_q (Qt_fieldAddr 3 rfl rfl) rfl ?_
      refine TL_q (Qt_load1 rfl) rfl ?_
      refine TL_conv (fun w hw => (Subs.st inferInstance w hw : St w0 (DS.H p s (blk b3 (.cells ra.cells 34 (0, 0)) :: H)) w)) ?_
      refine TL_e rfl (Ef_call (write_c (p := p) (s := s) hok hN (by omega) (nm := ra.name) (b := ra.b) hb (by omega)) rfl (fun x25 => ?_))
      refine TL_pure (fun h25 => ?_)
      refine TL_q (Qt_assign (.pointer _) rfl) rfl ?_
      refine TL_q (Qt_assign (.int .i64 _) rfl) rfl ?_
      refine TL_nil ?_
      refine X_then ?_
      refine T_ret ?_
      refine X_block_ret ?_
      refine X_then_ret ?_
      exact X_ret (p, x25.1, x25.2) [_, _] Try.results14 ⟨rfl, rfl, trivial⟩ rfl (fun w hw => St.addPure (Subs.st inferInstance w hw) ⟨.inr (.inl ⟨by omega, h25⟩), fun _ => rfl⟩)
    ·
      have p17 := h17
      try simp only [decide_eq_true_eq, decide_eq_false_iff_not, Bool.not_eq_true', Bool.not_eq_false', Option.isNone_iff_eq_none, ne_eq, Decidable.not_not, Int.not_lt, Int.not_le] at p17
      refine T_seq ?_
      refine T_region ?_
      refine TL_q (Qt_eql rfl rfl) rfl ?_
      refine TL_q (Qt_assign (.bool _) rfl) rfl ?_
      refine TL_nil ?_
      refine X_then ?_
      refine T_cond rfl (fun h26 => ?_) (fun h26 => ?_)
      ·
        have p26 := h26
        try simp only [decide_eq_true_eq, decide_eq_false_iff_not, Bool.not_eq_true', Bool.not_eq_false', Option.isNone_iff_eq_none, ne_eq, Decidable.not_not, Int.not_lt, Int.not_le] at p26
        refine T_seq ?_
        refine T_region ?_
        refine TL_q (Qt_move (.pointer _) rfl) rfl ?_
        refine TL_q (Qt_move (.pointer _) rfl) rfl ?_
        refine TL_q (Qt_fieldAddr 1 rfl rfl) rfl ?_
        refine TL_q (Qt_load1 rfl) rfl ?_
        refine TL_q (Qt_fieldAddr 2 rfl rfl) rfl ?_
        refine TL_q (Qt_load1 rfl) rfl ?_
        refine TL_conv (fun w hw => (Subs.st inferInstance w hw : St w0 (DS.H p s (blk b3 (.cells ra.cells 34 (0, 0)) :: H)) w)) ?_
        refine TL_e rfl (Ef_call (rename_c (p := p) (s := s) hok hN hM (nm := ra.name) (to := ra.to)) rfl (fun x34 => ?_))
        refine TL_pure (fun h34 => ?_)
        refine TL_q (Qt_assign (.pointer _) rfl) rfl ?_
        refine TL_q (Qt_assign (.int .i64 _) rfl) rfl ?_
        refine TL_nil ?_
        refine X_then ?_
        refine T_ret ?_
        refine X_block_ret ?_
        refine X_then_ret ?_
        exact X_ret (p, x34.1, x34.2) [_, _] Try.results14 ⟨rfl, rfl, trivial⟩ rfl (fun w hw => St.addPure (Subs.st inferInstance w hw) ⟨.inr (.inr (.inl ⟨by omega, h34⟩)), fun _ => rfl⟩)
      ·
        have p26 := h26
        try simp only [decide_eq_true_eq, decide_eq_false_iff_not, Bool.not_eq_true', Bool.not_eq_false', Option.isNone_iff_eq_none, ne_eq, Decidable.not_not, Int.not_lt, Int.not_le] at p26
        refine T_seq ?_
        refine T_region ?_
        refine TL_q (Qt_eql rfl rfl) rfl ?_
        refine TL_q (Qt_assign (.bool _) rfl) rfl ?_
        refine TL_nil ?_
        refine X_then ?_
        refine T_cond rfl (fun h35 => ?_) (fun h35 => ?_)
        ·
          have p35 := h35
          try simp only [decide_eq_true_eq, decide_eq_false_iff_not, Bool.not_eq_true', Bool.not_eq_false', Option.isNone_iff_eq_none, ne_eq, Decidable.not_not, Int.not_lt, Int.not_le] at p35
          refine T_seq ?_
          refine T_region ?_
          refine TL_q (Qt_move (.pointer _) rfl) rfl ?_
          refine TL_q (Qt_move (.pointer _) rfl) rfl ?_
          refine TL_q (Qt_fieldAddr 1 rfl rfl) rfl ?_
          refine TL_q (Qt_load1 rfl) rfl ?_
          refine TL_conv (fun w hw => (Subs.st inferInstance w hw : St w0 (DS.H p s (blk b3 (.cells ra.cells 34 (0, 0)) :: H)) w)) ?_
          refine TL_e rfl (Ef_call (delete_c (p := p) (s := s) hok hN hM (nm := ra.name)) rfl (fun x41 => ?_))
          refine TL_pure (fun h41 => ?_)
          refine TL_q (Qt_assign (.pointer _) rfl) rfl ?_
          refine TL_q (Qt_assign (.int .i64 _) rfl) rfl ?_
          refine TL_nil ?_
          refine X_then ?_
          refine T_ret ?_
          refine X_block_ret ?_
          refine X_then_ret ?_
          exact X_ret (p, x41.1, x41.2) [_, _] Try.results14 ⟨rfl, rfl, trivial⟩ rfl (fun w hw => St.addPure (Subs.st inferInstance w hw) ⟨.inr (.inr (.inr (.inl ⟨by omega, h41⟩))), fun _ => rfl⟩)
        ·
          have p35 := h35
          try simp only [decide_eq_true_eq, decide_eq_false_iff_not, Bool.not_eq_true', Bool.not_eq_false', Option.isNone_iff_eq_none, ne_eq, Decidable.not_not, Int.not_lt, Int.not_le] at p35
          refine T_seq ?_
          refine T_region ?_
          refine TL_q (Qt_eql rfl rfl) rfl ?_
          refine TL_q (Qt_assign (.bool _) rfl) rfl ?_
          refine TL_nil ?_
          refine X_then ?_
          refine T_cond rfl (fun h42 => ?_) (fun h42 => ?_)
          ·
            have p42 := h42
            try simp only [decide_eq_true_eq, decide_eq_false_iff_not, Bool.not_eq_true', Bool.not_eq_false', Option.isNone_iff_eq_none, ne_eq, Decidable.not_not, Int.not_lt, Int.not_le] at p42
            refine T_region ?_
            refine TL_q (Qt_move (.pointer _) rfl) rfl ?_
            refine TL_conv (fun w hw => (Subs.st inferInstance w hw : St w0 (DS.H p s (blk b3 (.cells ra.cells 34 (0, 0)) :: H)) w)) ?_
            refine TL_e rfl (Ef_call (sync_c (p := p) (s := s) hok hN (by omega)) rfl (fun x45 => ?_))
            refine TL_pure (fun h45 => ?_)
            refine TL_nil ?_
            refine X_block ?_
            refine X_then ?_
            refine T_seq ?_
            refine T_region ?_
            refine TL_q (Qt_move (.pointer _) rfl) rfl ?_
            refine TL_q (Qt_assign (.pointer _) rfl) rfl ?_
            refine TL_q (Qt_assign (.int .i64 _) rfl) rfl ?_
            refine TL_nil ?_
            refine X_then ?_
            refine T_ret ?_
            first
              | exact X_ret (p, x45, 0) [_, _] Try.results14 ⟨rfl, rfl, trivial⟩ rfl (fun w hw => St.addPure (Subs.st inferInstance w hw) ⟨.inr (.inr (.inr (.inr (.inl ⟨by omega, rfl, h45⟩)))), fun _ => rfl⟩)
              | exact X_ret (p, x51, 0) [_, _] Try.results14 ⟨rfl, rfl, trivial⟩ rfl (fun w hw => St.addPure (Subs.st inferInstance w hw) ⟨.inr (.inr (.inr (.inr (.inr (.inl ⟨by omega, rfl, kp, hkp, h51⟩))))), fun _ => rfl⟩)
              | exact X_ret (p, fuseS s ra.n, 0) [_, _] Try.results14 ⟨rfl, rfl, trivial⟩ rfl (fun w hw => St.addPure (Subs.st inferInstance w hw) ⟨.inr (.inr (.inr (.inr (.inr (.inr (.inr (⟨by omega, rfl, rfl⟩))))))), fun _ => rfl⟩)
          ·
            have p42 := h42
            try simp only [decide_eq_true_eq, decide_eq_false_iff_not, Bool.not_eq_true', Bool.not_eq_false', Option.isNone_iff_eq_none, ne_eq, Decidable.not_not, Int.not_lt, Int.not_le] at p42
            refine T_seq ?_
            refine T_region ?_
            refine TL_q (Qt_eql rfl rfl) rfl ?_
            refine TL_q (Qt_assign (.bool _) rfl) rfl ?_
            refine TL_nil ?_
            refine X_then ?_
            refine T_cond rfl (fun h46 => ?_) (fun h46 => ?_)
            ·
              have p46 := h46
              try simp only [decide_eq_true_eq, decide_eq_false_iff_not, Bool.not_eq_true', Bool.not_eq_false', Option.isNone_iff_eq_none, ne_eq, Decidable.not_not, Int.not_lt, Int.not_le] at p46
              refine T_region ?_
              refine TL_q (Qt_move (.pointer _) rfl) rfl ?_
              refine TL_q (Qt_fieldAddr 4 rfl rfl) rfl ?_
              refine TL_q (Qt_val (Qt_loadN rfl rfl) (show Value.agg ra.p.cells = Value.agg (PlanV.mk (kp : Int) ra.p.torn ra.p.cut).cells from by rw [← hkp])) rfl ?_
              refine TL_conv (fun w hw => (Subs.st inferInstance w hw : St w0 (DS.H p s (blk b3 (.cells ra.cells 34 (0, 0)) :: H)) w)) ?_
              refine TL_e rfl (Ef_call (crash_c (p := p) (s := s) hok hN hM (kp := kp) (torn := ra.p.torn) (cut := ra.p.cut) hkl) rfl (fun x51 => ?_))
              refine TL_pure (fun h51 => ?_)
              refine TL_nil ?_
              refine X_block ?_
              refine X_then ?_
              refine T_seq ?_
              refine T_region ?_
              refine TL_q (Qt_move (.pointer _) rfl) rfl ?_
              refine TL_q (Qt_assign (.pointer _) rfl) rfl ?_
              refine TL_q (Qt_assign (.int .i64 _) rfl) rfl ?_
              refine TL_nil ?_
              refine X_then ?_
              refine T_ret ?_
              first
                | exact X_ret (p, x45, 0) [_, _] Try.results14 ⟨rfl, rfl, trivial⟩ rfl (fun w hw => St.addPure (Subs.st inferInstance w hw) ⟨.inr (.inr (.inr (.inr (.inl ⟨by omega, rfl, h45⟩)))), fun _ => rfl⟩)
                | exact X_ret (p, x51, 0) [_, _] Try.results14 ⟨rfl, rfl, trivial⟩ rfl (fun w hw => St.addPure (Subs.st inferInstance w hw) ⟨.inr (.inr (.inr (.inr (.inr (.inl ⟨by omega, rfl, kp, hkp, h51⟩))))), fun _ => rfl⟩)
                | exact X_ret (p, fuseS s ra.n, 0) [_, _] Try.results14 ⟨rfl, rfl, trivial⟩ rfl (fun w hw => St.addPure (Subs.st inferInstance w hw) ⟨.inr (.inr (.inr (.inr (.inr (.inr (.inr (⟨by omega, rfl, rfl⟩))))))), fun _ => rfl⟩)
            ·
              have p46 := h46
              try simp only [decide_eq_true_eq, decide_eq_false_iff_not, Bool.not_eq_true', Bool.not_eq_false', Option.isNone_iff_eq_none, ne_eq, Decidable.not_not, Int.not_lt, Int.not_le] at p46
              refine T_seq ?_
              refine T_region ?_
              refine TL_q (Qt_eql rfl rfl) rfl ?_
              refine TL_q (Qt_assign (.bool _) rfl) rfl ?_
              refine TL_nil ?_
              refine X_then ?_
              refine T_cond rfl (fun h52 => ?_) (fun h52 => ?_)
              ·
                have p52 := h52
                try simp only [decide_eq_true_eq, decide_eq_false_iff_not, Bool.not_eq_true', Bool.not_eq_false', Option.isNone_iff_eq_none, ne_eq, Decidable.not_not, Int.not_lt, Int.not_le] at p52
                refine T_seq ?_
                refine T_region ?_
                refine TL_q (Qt_move (.pointer _) rfl) rfl ?_
                refine TL_conv (fun w hw => (Subs.st inferInstance w hw : St w0 (DS.H p s (blk b3 (.cells ra.cells 34 (0, 0)) :: H)) w)) ?_
                refine TL_e rfl (Ef_call (dcopy_c (p := p) (s := s) hok hN hM) rfl (fun x55 => ?_))
                refine TL_q (Qt_assign (.pointer _) rfl) rfl ?_
                refine TL_q (Qt_assign (.int .i64 _) rfl) rfl ?_
                refine TL_nil ?_
                refine X_then ?_
                refine T_ret ?_
                refine X_block_ret ?_
                refine X_then_ret ?_
                exact X_ret (x55.1, cpyS s x55.2.1 x55.2.2.1 x55.2.2.2.a x55.2.2.2.c, 0) [_, _] Try.results14 ⟨rfl, rfl, trivial⟩ rfl (fun w hw => St.addPure (Subs.st inferInstance w hw) ⟨.inr (.inr (.inr (.inr (.inr (.inr (.inl ⟨by omega, rfl, _, _, _, _, rfl⟩)))))), fun h => by omega⟩)
              ·
                have p52 := h52
                try simp only [decide_eq_true_eq, decide_eq_false_iff_not, Bool.not_eq_true', Bool.not_eq_false', Option.isNone_iff_eq_none, ne_eq, Decidable.not_not, Int.not_lt, Int.not_le] at p52
                refine T_seq ?_
                refine T_region ?_
                refine TL_q (Qt_eql rfl rfl) rfl ?_
                refine TL_q (Qt_assign (.bool _) rfl) rfl ?_
                refine TL_nil ?_
                refine X_then ?_
                refine T_cond rfl (fun h56 => ?_) (fun h56 => ?_)
                ·
                  have p56 := h56
                  try simp only [decide_eq_true_eq, decide_eq_false_iff_not, Bool.not_eq_true', Bool.not_eq_false', Option.isNone_iff_eq_none, ne_eq, Decidable.not_not, Int.not_lt, Int.not_le] at p56
                  refine T_region ?_
                  refine TL_q (Qt_move (.pointer _) rfl) rfl ?_
                  refine TL_q (Qt_fieldAddr 7 rfl rfl) rfl ?_
                  refine TL_q (Qt_load1 rfl) rfl ?_
                  refine TL_conv (fun w hw => (Subs.st inferInstance w hw : St w0 (DS.H p s (blk b3 (.cells ra.cells 34 (0, 0)) :: H)) w)) ?_
                  refine TL_e rfl (Ef_call (dfuse_c (p := p) (s := s) (n := ra.n)) rfl (fun x61 => ?_))
                  refine TL_nil ?_
                  refine X_block ?_
                  refine X_then ?_
                  refine T_seq ?_
                  refine T_region ?_
                  refine TL_q (Qt_move (.pointer _) rfl) rfl ?_
                  refine TL_q (Qt_assign (.pointer _) rfl) rfl ?_
                  refine TL_q (Qt_assign (.int .i64 _) rfl) rfl ?_
                  refine TL_nil ?_
                  refine X_then ?_
                  refine T_ret ?_
                  first
                    | exact X_ret (p, x45, 0) [_, _] Try.results14 ⟨rfl, rfl, trivial⟩ rfl (fun w hw => St.addPure (Subs.st inferInstance w hw) ⟨.inr (.inr (.inr (.inr (.inl ⟨by omega, rfl, h45⟩)))), fun _ => rfl⟩)
                    | exact X_ret (p, x51, 0) [_, _] Try.results14 ⟨rfl, rfl, trivial⟩ rfl (fun w hw => St.addPure (Subs.st inferInstance w hw) ⟨.inr (.inr (.inr (.inr (.inr (.inl ⟨by omega, rfl, kp, hkp, h51⟩))))), fun _ => rfl⟩)
                    | exact X_ret (p, fuseS s ra.n, 0) [_, _] Try.results14 ⟨rfl, rfl, trivial⟩ rfl (fun w hw => St.addPure (Subs.st inferInstance w hw) ⟨.inr (.inr (.inr (.inr (.inr (.inr (.inr (⟨by omega, rfl, rfl⟩))))))), fun _ => rfl⟩)
                ·
                  have p56 := h56
                  try simp only [decide_eq_true_eq, decide_eq_false_iff_not, Bool.not_eq_true', Bool.not_eq_false', Option.isNone_iff_eq_none, ne_eq, Decidable.not_not, Int.not_lt, Int.not_le] at p56
                  exfalso; omega
end Go.Proofs.Ytededghplnoajaa
