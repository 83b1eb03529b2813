/- Walks of package xfer: Give, Mark, Snap, and of the reference. -/
import Derived.Test.YtpdpapcmfnhgpaaXa
namespace Go.Proofs.Ytpdpapcmfnhgpaa
open Go.RowKit Go.Sx
set_option maxRecDepth 100000
set_option linter.unusedSimpArgs false
set_option linter.unusedVariables false
theorem St.datMsg2 {w0 w : World} {H : List SA} {b : BS} {a : Option Addr} {c : Nat} {ls : List BS} {fp : List Nat} {e : TypeId} {k f v r s : Int} {h : Vector UInt8 32} (hw : St w0 (row (.slice b.a b.l.length b.c) e 1 (bytesV b.l) :: dat fp (Deep.leads (PS.mk a c ls)) :: H) w) :
    St w0 (dat (rowFp (.slice b.a b.l.length b.c) ++ fp) (Deep.leads (MsgV.mk k f v r s h b ⟨a, c, ls⟩)) :: H) w := St.datAdd (x := ⟨[b], [], []⟩) (y := ⟨[], [⟨a, c, ls⟩], []⟩) (St.datB hw)
def giveD (fr vi : Int) (x : SlotV) : MsgD := ⟨9, fr, vi, 0, x.n, x.hash, x.batch.l, x.parts.ls.map BS.l⟩
def snapD (fr : Int) (s f n1 : Int) (m1 : Nat) (n2 : Int) (m2 : Nat) (cs : Vector CellV 16) (rs : Vector ReplyV 6) (x : SlotV) : MsgD := ⟨11, fr, n1, 0, s, x.hash, textB (worldB s f n1 m1 n2 m2 cs rs) ++ textB x.batch.l, x.parts.ls.map BS.l⟩
attribute [local irreducible] sha worldB
set_option maxHeartbeats 1000000 in
theorem give_c {w0 : World} {H : List SA} {fr vi : Int} {x : SlotV} [rb : RdB w0 H (.slice x.batch.a x.batch.l.length x.batch.c) x.batch.l] [rc : RdC w0 H (.slice x.parts.a x.parts.ls.length x.parts.c) 1 (x.parts.ls.map BS.val)] [re : RdE w0 H x.parts.ls] (hxb : x.batch.l.length ≤ 3000) (hxp : x.parts.ls.length ≤ 20) (hxe : ∀ y ∈ x.parts.ls, y.l.length ≤ 140737488351232) :
    CT Try.prog w0 (H) 12 [.int .i64 fr, .int .i64 vi, .agg x.cells] (α := MsgV × List Nat) (fun y => .agg y.1.cells) (fun y => pu (y.1.abs = giveD fr vi x) :: dat y.2 (Deep.leads y.1) :: H) := by
  refine CT_intro Try.func12 rfl Try.ntmps12 rfl ?_
  refine T_seq ?_
  refine T_region ?_
  refine TL_e rfl (Ef_boxN rfl (fun b5 => ?_))
  refine TL_e rfl (Ef_allocN (fun b6 => ?_))
  refine TL_nil ?_
  refine X_then ?_
  refine T_seq ?_
  refine T_draw (blk b5 (.cells x.cells 40 (0, 0)) :: H) [(0, true), (1, true), (2, true), (3, true), (4, true), (5, true), (6, true), (7, true), (9, true), (10, true), (8, false), (11, false), (12, true), (13, false)] (by kernel_rfl) (by kernel_rfl) rfl (by kernel_rfl) (Subs.st inferInstance) (fun hns0 => ?_)
  refine DL_q hns0 rfl (Qt_move (.int .i64 _) rfl) rfl ?_
  refine DL_q hns0 rfl (Qt_move (.int .i64 _) rfl) rfl ?_
  refine DL_q hns0 rfl (Qt_fieldAddr 0 rfl rfl) rfl ?_
  refine DL_q hns0 rfl (Qt_load1 rfl) rfl ?_
  refine DL_q hns0 rfl (Qt_fieldAddr 1 rfl rfl) rfl ?_
  refine DL_q hns0 rfl (Qt_loadN rfl rfl) rfl ?_
  refine DL_q hns0 rfl (Qt_fieldAddr 33 rfl rfl) rfl ?_
  refine DL_q hns0 rfl (Qt_load1 rfl) rfl ?_
  refine DL_q hns0 rfl (Qt_fieldAddr 34 rfl rfl) rfl ?_
  refine DL_q hns0 rfl (Qt_load1 rfl) rfl ?_
  refine DL_e rfl rfl (Ef_call (cloneL_c (l := x.batch.l) (by omega)) rfl (fun x15 => ⟨(Subs.st inferInstance), ?_⟩))
  refine DL_e rfl rfl (Ef_call (cloned_c (ls := x.parts.ls) hxe (by omega)) rfl (fun x18 => ⟨(Subs.st inferInstance), ?_⟩))
  refine DL_pure (fun h18 => ?_)
  refine DL_q hns0 rfl (Qt_build [(0, (.int .i64 _)), (1, (.int .i64 _)), (2, (.int .i64 _)), (4, (.int .i64 _)), (5, (.agg _)), (6, .slice _ _ _), (7, .slice _ _ _)] rfl (by kernel_rfl)) rfl ?_
  refine DL_n rfl (Ef_storeN rfl rfl (⟨(Subs.st inferInstance), ?_⟩))
  refine DL_nil ?_
  refine X_then ?_
  refine T_ret ?_
  exact X_ret ((MsgV.mk 9 fr vi 0 x.n x.hash ⟨x15.a, x15.c, x.batch.l⟩ ⟨x18.1.a, x18.1.c, x18.1.ls⟩), rowFp (.slice (BS.mk x15.a x15.c x.batch.l).a (BS.mk x15.a x15.c x.batch.l).l.length (BS.mk x15.a x15.c x.batch.l).c) ++ x18.2) [_] Try.results12 ⟨⟨_, rfl, res_cellN rfl⟩, trivial⟩ rfl (fun w hw => (St.datMsg2 (b := (BS.mk x15.a x15.c x.batch.l)) (Subs.st inferInstance w hw : St w0 (row (.slice (BS.mk x15.a x15.c x.batch.l).a (BS.mk x15.a x15.c x.batch.l).l.length (BS.mk x15.a x15.c x.batch.l).c) 5 1 (bytesV (BS.mk x15.a x15.c x.batch.l).l) :: dat x18.2 (Deep.leads (PS.mk x18.1.a x18.1.c x18.1.ls)) :: H) w)).addPure (by simp only [MsgV.abs, giveD, h18]))
set_option maxHeartbeats 1000000 in
theorem rGive_c {w0 : World} {H : List SA} {fr vi : Int} {x : SlotV} [rb : RdB w0 H (.slice x.batch.a x.batch.l.length x.batch.c) x.batch.l] [rc : RdC w0 H (.slice x.parts.a x.parts.ls.length x.parts.c) 1 (x.parts.ls.map BS.val)] [re : RdE w0 H x.parts.ls] (hxb : x.batch.l.length ≤ 3000) (hxp : x.parts.ls.length ≤ 20) (hxe : ∀ y ∈ x.parts.ls, y.l.length ≤ 140737488351232) :
    CT Try.prog w0 (H) 13 [.int .i64 fr, .int .i64 vi, .agg x.cells] (α := MsgV × List Nat) (fun y => .agg y.1.cells) (fun y => pu (y.1.abs = giveD fr vi x) :: dat y.2 (Deep.leads y.1) :: H) := by
  refine CT_intro Try.func13 rfl Try.ntmps13 rfl ?_
  refine T_seq ?_
  refine T_region ?_
  refine TL_e rfl (Ef_boxN rfl (fun b5 => ?_))
  refine TL_e rfl (Ef_allocN (fun b6 => ?_))
  refine TL_nil ?_
  refine X_then ?_
  refine T_seq ?_
  refine T_region ?_
  refine TL_q (Qt_move (.int .i64 _) rfl) rfl ?_
  refine TL_q (Qt_move (.int .i64 _) rfl) rfl ?_
  refine TL_q (Qt_fieldAddr 0 rfl rfl) rfl ?_
  refine TL_q (Qt_load1 rfl) rfl ?_
  refine TL_q (Qt_fieldAddr 1 rfl rfl) rfl ?_
  refine TL_q (Qt_loadN rfl rfl) rfl ?_
  refine TL_q (Qt_fieldAddr 33 rfl rfl) rfl ?_
  refine TL_q (Qt_load1 rfl) rfl ?_
  refine TL_q (Qt_fieldAddr 34 rfl rfl) rfl ?_
  refine TL_q (Qt_load1 rfl) rfl ?_
  refine TL_q (Qt_build [(0, (.int .i64 _)), (1, (.int .i64 _)), (2, (.int .i64 _)), (4, (.int .i64 _)), (5, (.agg _)), (6, .slice _ _ _), (7, .slice _ _ _)] rfl (by kernel_rfl)) rfl ?_
  refine TL_e rfl (Ef_call (copiedML_c (m := (MsgV.mk 9 fr vi 0 x.n x.hash x.batch x.parts)) (rb := inferInstance) ⟨by show x.batch.l.length ≤ _; omega, hxp, hxe⟩) rfl (fun x18 => ?_))
  refine TL_pure (fun h18 => ?_)
  refine TL_n (Ef_storeN rfl rfl (?_))
  refine TL_nil ?_
  refine X_then ?_
  refine T_ret ?_
  exact X_ret x18 [_] Try.results13 ⟨⟨_, rfl, res_cellN rfl⟩, trivial⟩ rfl (fun w hw => (Subs.st inferInstance w hw : St w0 (dat x18.2 (Deep.leads x18.1) :: H) w).addPure h18)
set_option maxHeartbeats 1000000 in
theorem mark_c {w0 : World} {H : List SA} {fr : Int} {s f n1 n2 : Int} {m1 m2 : Nat} (hm1 : m1 < 65536) (hm2 : m2 < 65536) {cs : Vector CellV 16} (hcs : ∀ (i : Nat) (hi : i < 16), -9223372036854775808 ≤ cs[i].n ∧ cs[i].n ≤ 9223372036854775807) {rs : Vector ReplyV 6} (hrs : ∀ (i : Nat) (hi : i < 6), -9223372036854775808 ≤ rs[i].res.n ∧ rs[i].res.n ≤ 9223372036854775807) :
    CT Try.prog w0 (H) 14 [.int .i64 fr, .agg (WorldV.mk s f ⟨n1, (m1 : Int)⟩ ⟨n2, (m2 : Int)⟩ cs rs).cells] (α := Unit) (fun _ => .agg (MsgV.mk 10 fr n1 0 s (sha (worldB s f n1 m1 n2 m2 cs rs)) ⟨none, 0, []⟩ ⟨none, 0, []⟩).cells) (fun _ => H) := by
  refine CT_intro Try.func14 rfl Try.ntmps14 rfl ?_
  refine T_seq ?_
  refine T_region ?_
  refine TL_e rfl (Ef_boxN rfl (fun b3 => ?_))
  refine TL_e rfl (Ef_allocN (fun b4 => ?_))
  refine TL_nil ?_
  refine X_then ?_
  refine T_seq ?_
  refine T_draw (blk b3 (.cells (WorldV.mk s f ⟨n1, (m1 : Int)⟩ ⟨n2, (m2 : Int)⟩ cs rs).cells 34 (0, 0)) :: H) [(0, true), (1, true), (2, true), (3, true), (4, true), (5, true), (6, true), (7, false), (8, true), (9, false)] (by kernel_rfl) (by kernel_rfl) rfl (by kernel_rfl) (Subs.st inferInstance) (fun hns0 => ?_)
  refine DL_q hns0 rfl (Qt_move (.int .i64 _) rfl) rfl ?_
  refine DL_q hns0 rfl (Qt_fieldAddr 2 rfl rfl) rfl ?_
  refine DL_q hns0 rfl (Qt_fieldAddr 2 rfl rfl) rfl ?_
  refine DL_q hns0 rfl (Qt_load1 rfl) rfl ?_
  refine DL_q hns0 rfl (Qt_fieldAddr 0 rfl rfl) rfl ?_
  refine DL_q hns0 rfl (Qt_load1 rfl) rfl ?_
  refine DL_q hns0 rfl (Qt_loadN rfl rfl) rfl ?_
  refine DL_e rfl rfl (Ef_call (digest_c hm1 hm2 hcs hrs) rfl (fun x12 => ⟨(Subs.st inferInstance), ?_⟩))
  refine DL_q hns0 rfl (Qt_build [(0, (.int .i64 _)), (1, (.int .i64 _)), (2, (.int .i64 _)), (4, (.int .i64 _)), (5, (.agg _))] rfl (by kernel_rfl)) rfl ?_
  refine DL_n rfl (Ef_storeN rfl rfl (⟨(Subs.st inferInstance), ?_⟩))
  refine DL_nil ?_
  refine X_then ?_
  refine T_ret ?_
  exact X_ret () [_] Try.results14 ⟨⟨_, rfl, res_cellN rfl⟩, trivial⟩ rfl (Subs.st inferInstance)
set_option maxHeartbeats 1000000 in
theorem rMark_c {w0 : World} {H : List SA} {fr : Int} {s f n1 n2 : Int} {m1 m2 : Nat} (hm1 : m1 < 65536) (hm2 : m2 < 65536) {cs : Vector CellV 16} (hcs : ∀ (i : Nat) (hi : i < 16), -9223372036854775808 ≤ cs[i].n ∧ cs[i].n ≤ 9223372036854775807) {rs : Vector ReplyV 6} (hrs : ∀ (i : Nat) (hi : i < 6), -9223372036854775808 ≤ rs[i].res.n ∧ rs[i].res.n ≤ 9223372036854775807) :
    CT Try.prog w0 (H) 15 [.int .i64 fr, .agg (WorldV.mk s f ⟨n1, (m1 : Int)⟩ ⟨n2, (m2 : Int)⟩ cs rs).cells] (α := Unit) (fun _ => .agg (MsgV.mk 10 fr n1 0 s (sha (worldB s f n1 m1 n2 m2 cs rs)) ⟨none, 0, []⟩ ⟨none, 0, []⟩).cells) (fun _ => H) := by
  refine CT_intro Try.func15 rfl Try.ntmps15 rfl ?_
  refine T_seq ?_
  refine T_region ?_
  refine TL_e rfl (Ef_boxN rfl (fun b3 => ?_))
  refine TL_e rfl (Ef_allocN (fun b4 => ?_))
  refine TL_nil ?_
  refine X_then ?_
  refine T_seq ?_
  refine T_draw (blk b3 (.cells (WorldV.mk s f ⟨n1, (m1 : Int)⟩ ⟨n2, (m2 : Int)⟩ cs rs).cells 34 (0, 0)) :: H) [(0, true), (1, true), (2, true), (3, true), (4, true), (5, true), (6, true), (7, false), (8, true), (9, false)] (by kernel_rfl) (by kernel_rfl) rfl (by kernel_rfl) (Subs.st inferInstance) (fun hns0 => ?_)
  refine DL_q hns0 rfl (Qt_move (.int .i64 _) rfl) rfl ?_
  refine DL_q hns0 rfl (Qt_fieldAddr 2 rfl rfl) rfl ?_
  refine DL_q hns0 rfl (Qt_fieldAddr 2 rfl rfl) rfl ?_
  refine DL_q hns0 rfl (Qt_load1 rfl) rfl ?_
  refine DL_q hns0 rfl (Qt_fieldAddr 0 rfl rfl) rfl ?_
  refine DL_q hns0 rfl (Qt_load1 rfl) rfl ?_
  refine DL_q hns0 rfl (Qt_loadN rfl rfl) rfl ?_
  refine DL_e rfl rfl (Ef_call (rDigest_c hm1 hm2 hcs hrs) rfl (fun x12 => ⟨(Subs.st inferInstance), ?_⟩))
  refine DL_q hns0 rfl (Qt_build [(0, (.int .i64 _)), (1, (.int .i64 _)), (2, (.int .i64 _)), (4, (.int .i64 _)), (5, (.agg _))] rfl (by kernel_rfl)) rfl ?_
  refine DL_n rfl (Ef_storeN rfl rfl (⟨(Subs.st inferInstance), ?_⟩))
  refine DL_nil ?_
  refine X_then ?_
  refine T_ret ?_
  exact X_ret () [_] Try.results15 ⟨⟨_, rfl, res_cellN rfl⟩, trivial⟩ rfl (Subs.st inferInstance)
set_option maxHeartbeats 1000000 in
theorem snap_c {w0 : World} {H : List SA} {fr : Int} {s f n1 n2 : Int} {m1 m2 : Nat} (hm1 : m1 < 65536) (hm2 : m2 < 65536) {cs : Vector CellV 16} (hcs : ∀ (i : Nat) (hi : i < 16), -9223372036854775808 ≤ cs[i].n ∧ cs[i].n ≤ 9223372036854775807) {rs : Vector ReplyV 6} (hrs : ∀ (i : Nat) (hi : i < 6), -9223372036854775808 ≤ rs[i].res.n ∧ rs[i].res.n ≤ 9223372036854775807) {x : SlotV} [rb : RdB w0 H (.slice x.batch.a x.batch.l.length x.batch.c) x.batch.l] [rc : RdC w0 H (.slice x.parts.a x.parts.ls.length x.parts.c) 1 (x.parts.ls.map BS.val)] [re : RdE w0 H x.parts.ls] (hxb : x.batch.l.length ≤ 3000) (hxp : x.parts.ls.length ≤ 20) (hxe : ∀ y ∈ x.parts.ls, y.l.length ≤ 140737488351232) :
    CT Try.prog w0 (H) 16 [.int .i64 fr, .agg (WorldV.mk s f ⟨n1, (m1 : Int)⟩ ⟨n2, (m2 : Int)⟩ cs rs).cells, .agg x.cells] (α := MsgV × List Nat) (fun y => .agg y.1.cells) (fun y => pu (y.1.abs = snapD fr s f n1 m1 n2 m2 cs rs x) :: dat y.2 (Deep.leads y.1) :: H) := by
  refine CT_intro Try.func16 rfl Try.ntmps16 rfl ?_
  refine T_seq ?_
  refine T_region ?_
  refine TL_e rfl (Ef_boxN rfl (fun b4 => ?_))
  refine TL_e rfl (Ef_boxN rfl (fun b5 => ?_))
  refine TL_e rfl (Ef_allocN (fun b6 => ?_))
  refine TL_nil ?_
  refine X_then ?_
  refine T_seq ?_
  refine T_draw (blk b4 (.cells (WorldV.mk s f ⟨n1, (m1 : Int)⟩ ⟨n2, (m2 : Int)⟩ cs rs).cells 34 (0, 0)) :: blk b5 (.cells x.cells 40 (0, 0)) :: H) [(0, true), (3, true), (4, true), (1, false), (2, false), (5, false), (6, true)] (by kernel_rfl) (by kernel_rfl) rfl (by kernel_rfl) (Subs.st inferInstance) (fun hns0 => ?_)
  refine DL_q hns0 rfl (Qt_loadN rfl rfl) rfl ?_
  refine DL_q hns0 rfl (Qt_fieldAddr 33 rfl rfl) rfl ?_
  refine DL_q hns0 rfl (Qt_load1 rfl) rfl ?_
  refine DL_e rfl rfl (Ef_call (putWorld_c hm1 hm2 hcs hrs) rfl (fun x9 => ⟨(Subs.st inferInstance), ?_⟩))
  refine DL_e rfl rfl (Ef_call (putText_c (a := none) (l := []) (c := 0) (l2 := worldB s f n1 m1 n2 m2 cs rs) (hr := RdB.nil') (by simp) (by have hwl := worldB_len (s := s) (f := f) (n1 := n1) (n2 := n2) (m1 := m1) (m2 := m2) hcs hrs; have htl := textB_length (worldB s f n1 m1 n2 m2 cs rs) (by omega); omega)) rfl (fun x10 => ⟨(Subs.st inferInstance), ?_⟩))
  rw [List.nil_append, show packed (worldB s f n1 m1 n2 m2 cs rs).length ++ worldB s f n1 m1 n2 m2 cs rs = textB (worldB s f n1 m1 n2 m2 cs rs) from rfl]
  refine DL_e rfl rfl (Ef_call (putText_c (l := textB (worldB s f n1 m1 n2 m2 cs rs)) (l2 := x.batch.l) (by have hwl := worldB_len (s := s) (f := f) (n1 := n1) (n2 := n2) (m1 := m1) (m2 := m2) hcs hrs; have htl := textB_length (worldB s f n1 m1 n2 m2 cs rs) (by omega); omega) (by omega)) rfl (fun x13 => ⟨(Subs.st inferInstance), ?_⟩))
  rw [List.append_assoc (textB (worldB s f n1 m1 n2 m2 cs rs)) (packed x.batch.l.length) x.batch.l, show packed x.batch.l.length ++ x.batch.l = textB x.batch.l from rfl]
  refine DL_q hns0 rfl (Qt_assign (.slice _ _ _) rfl) rfl ?_
  refine DL_nil ?_
  refine X_then ?_
  refine T_seq ?_
  refine T_draw (blk b4 (.cells (WorldV.mk s f ⟨n1, (m1 : Int)⟩ ⟨n2, (m2 : Int)⟩ cs rs).cells 34 (0, 0)) :: blk b5 (.cells x.cells 40 (0, 0)) :: H) [(0, true), (1, true), (2, true), (3, true), (4, true), (5, true), (6, true), (7, true), (8, true), (9, true), (10, true), (11, false), (12, true), (13, false)] (by kernel_rfl) (by kernel_rfl) rfl (by kernel_rfl) (Subs.st inferInstance) (fun hns1 => ?_)
  refine DL_q hns1 rfl (Qt_move (.int .i64 _) rfl) rfl ?_
  refine DL_q hns1 rfl (Qt_fieldAddr 2 rfl rfl) rfl ?_
  refine DL_q hns1 rfl (Qt_fieldAddr 2 rfl rfl) rfl ?_
  refine DL_q hns1 rfl (Qt_load1 rfl) rfl ?_
  refine DL_q hns1 rfl (Qt_fieldAddr 0 rfl rfl) rfl ?_
  refine DL_q hns1 rfl (Qt_load1 rfl) rfl ?_
  refine DL_q hns1 rfl (Qt_fieldAddr 1 rfl rfl) rfl ?_
  refine DL_q hns1 rfl (Qt_loadN rfl rfl) rfl ?_
  refine DL_q hns1 rfl (Qt_move (.slice _ _ _) rfl) rfl ?_
  refine DL_q hns1 rfl (Qt_fieldAddr 34 rfl rfl) rfl ?_
  refine DL_q hns1 rfl (Qt_load1 rfl) rfl ?_
  refine DL_e rfl rfl (Ef_call (cloned_c (ls := x.parts.ls) hxe (by omega)) rfl (fun x25 => ⟨(Subs.st inferInstance), ?_⟩))
  refine DL_pure (fun h25 => ?_)
  refine DL_q hns1 rfl (Qt_build [(0, (.int .i64 _)), (1, (.int .i64 _)), (2, (.int .i64 _)), (4, (.int .i64 _)), (5, (.agg _)), (6, .slice _ _ _), (7, .slice _ _ _)] rfl (by kernel_rfl)) rfl ?_
  refine DL_n rfl (Ef_storeN rfl rfl (⟨(Subs.st inferInstance), ?_⟩))
  refine DL_nil ?_
  refine X_then ?_
  refine T_ret ?_
  exact X_ret ((MsgV.mk 11 fr n1 0 s x.hash ⟨x13.a, x13.c, textB (worldB s f n1 m1 n2 m2 cs rs) ++ textB x.batch.l⟩ ⟨x25.1.a, x25.1.c, x25.1.ls⟩), rowFp (.slice (BS.mk x13.a x13.c (textB (worldB s f n1 m1 n2 m2 cs rs) ++ textB x.batch.l)).a (BS.mk x13.a x13.c (textB (worldB s f n1 m1 n2 m2 cs rs) ++ textB x.batch.l)).l.length (BS.mk x13.a x13.c (textB (worldB s f n1 m1 n2 m2 cs rs) ++ textB x.batch.l)).c) ++ x25.2) [_] Try.results16 ⟨⟨_, rfl, res_cellN rfl⟩, trivial⟩ rfl (fun w hw => (St.datMsg2 (b := (BS.mk x13.a x13.c (textB (worldB s f n1 m1 n2 m2 cs rs) ++ textB x.batch.l))) (Subs.st inferInstance w hw : St w0 (row (.slice (BS.mk x13.a x13.c (textB (worldB s f n1 m1 n2 m2 cs rs) ++ textB x.batch.l)).a (BS.mk x13.a x13.c (textB (worldB s f n1 m1 n2 m2 cs rs) ++ textB x.batch.l)).l.length (BS.mk x13.a x13.c (textB (worldB s f n1 m1 n2 m2 cs rs) ++ textB x.batch.l)).c) 5 1 (bytesV (BS.mk x13.a x13.c (textB (worldB s f n1 m1 n2 m2 cs rs) ++ textB x.batch.l)).l) :: dat x25.2 (Deep.leads (PS.mk x25.1.a x25.1.c x25.1.ls)) :: H) w)).addPure (by simp only [MsgV.abs, snapD, h25]))
set_option maxHeartbeats 1000000 in
theorem rSnap_c {w0 : World} {H : List SA} {fr : Int} {s f n1 n2 : Int} {m1 m2 : Nat} (hm1 : m1 < 65536) (hm2 : m2 < 65536) {cs : Vector CellV 16} (hcs : ∀ (i : Nat) (hi : i < 16), -9223372036854775808 ≤ cs[i].n ∧ cs[i].n ≤ 9223372036854775807) {rs : Vector ReplyV 6} (hrs : ∀ (i : Nat) (hi : i < 6), -9223372036854775808 ≤ rs[i].res.n ∧ rs[i].res.n ≤ 9223372036854775807) {x : SlotV} [rb : RdB w0 H (.slice x.batch.a x.batch.l.length x.batch.c) x.batch.l] [rc : RdC w0 H (.slice x.parts.a x.parts.ls.length x.parts.c) 1 (x.parts.ls.map BS.val)] [re : RdE w0 H x.parts.ls] (hxb : x.batch.l.length ≤ 3000) (hxp : x.parts.ls.length ≤ 20) (hxe : ∀ y ∈ x.parts.ls, y.l.length ≤ 140737488351232) :
    CT Try.prog w0 (H) 17 [.int .i64 fr, .agg (WorldV.mk s f ⟨n1, (m1 : Int)⟩ ⟨n2, (m2 : Int)⟩ cs rs).cells, .agg x.cells] (α := MsgV × List Nat) (fun y => .agg y.1.cells) (fun y => pu (y.1.abs = snapD fr s f n1 m1 n2 m2 cs rs x) :: dat y.2 (Deep.leads y.1) :: H) := by
  refine CT_intro Try.func17 rfl Try.ntmps17 rfl ?_
  refine T_seq ?_
  refine T_region ?_
  refine TL_e rfl (Ef_boxN rfl (fun b4 => ?_))
  refine TL_e rfl (Ef_boxN rfl (fun b5 => ?_))
  refine TL_e rfl (Ef_allocN (fun b6 => ?_))
  refine TL_nil ?_
  refine X_then ?_
  refine T_seq ?_
  refine T_draw (blk b4 (.cells (WorldV.mk s f ⟨n1, (m1 : Int)⟩ ⟨n2, (m2 : Int)⟩ cs rs).cells 34 (0, 0)) :: blk b5 (.cells x.cells 40 (0, 0)) :: H) [(0, true), (3, true), (4, true), (1, false), (2, false), (5, false), (6, false), (7, true)] (by kernel_rfl) (by kernel_rfl) rfl (by kernel_rfl) (Subs.st inferInstance) (fun hns0 => ?_)
  refine DL_q hns0 rfl (Qt_loadN rfl rfl) rfl ?_
  refine DL_q hns0 rfl (Qt_fieldAddr 33 rfl rfl) rfl ?_
  refine DL_q hns0 rfl (Qt_load1 rfl) rfl ?_
  refine DL_e rfl rfl (Ef_call (rPutWorld_c hm1 hm2 hcs hrs) rfl (fun x9 => ⟨(Subs.st inferInstance), ?_⟩))
  refine DL_e rfl rfl (Ef_call (rText_c (l2 := worldB s f n1 m1 n2 m2 cs rs) (by have hwl := worldB_len (s := s) (f := f) (n1 := n1) (n2 := n2) (m1 := m1) (m2 := m2) hcs hrs; have htl := textB_length (worldB s f n1 m1 n2 m2 cs rs) (by omega); omega)) rfl (fun x10 => ⟨(Subs.st inferInstance), ?_⟩))
  refine DL_e rfl rfl (Ef_call (rText_c (l2 := x.batch.l) (by omega)) rfl (fun x13 => ⟨(Subs.st inferInstance), ?_⟩))
  refine DL_e rfl rfl (Ef_call (rJoin_c (l := textB (worldB s f n1 m1 n2 m2 cs rs)) (l2 := textB x.batch.l) (by have hwl := worldB_len (s := s) (f := f) (n1 := n1) (n2 := n2) (m1 := m1) (m2 := m2) hcs hrs; have htl := textB_length (worldB s f n1 m1 n2 m2 cs rs) (by omega); have hbl := textB_length x.batch.l (by omega); omega)) rfl (fun x14 => ⟨(Subs.st inferInstance), ?_⟩))
  refine DL_q hns0 rfl (Qt_assign (.slice _ _ _) rfl) rfl ?_
  refine DL_nil ?_
  refine X_then ?_
  refine T_seq ?_
  refine T_region ?_
  refine TL_q (Qt_move (.int .i64 _) rfl) rfl ?_
  refine TL_q (Qt_fieldAddr 2 rfl rfl) rfl ?_
  refine TL_q (Qt_fieldAddr 2 rfl rfl) rfl ?_
  refine TL_q (Qt_load1 rfl) rfl ?_
  refine TL_q (Qt_fieldAddr 0 rfl rfl) rfl ?_
  refine TL_q (Qt_load1 rfl) rfl ?_
  refine TL_q (Qt_fieldAddr 1 rfl rfl) rfl ?_
  refine TL_q (Qt_loadN rfl rfl) rfl ?_
  refine TL_q (Qt_move (.slice _ _ _) rfl) rfl ?_
  refine TL_q (Qt_fieldAddr 34 rfl rfl) rfl ?_
  refine TL_q (Qt_load1 rfl) rfl ?_
  refine TL_q (Qt_build [(0, (.int .i64 _)), (1, (.int .i64 _)), (2, (.int .i64 _)), (4, (.int .i64 _)), (5, (.agg _)), (6, .slice _ _ _), (7, .slice _ _ _)] rfl (by kernel_rfl)) rfl ?_
  refine TL_e rfl (Ef_call (copiedML_c (m := (MsgV.mk 11 fr n1 0 s x.hash ⟨x14.a, x14.c, textB (worldB s f n1 m1 n2 m2 cs rs) ++ textB x.batch.l⟩ x.parts)) (rb := inferInstance) ⟨by have hwl := worldB_len (s := s) (f := f) (n1 := n1) (n2 := n2) (m1 := m1) (m2 := m2) hcs hrs; have htl := textB_length (worldB s f n1 m1 n2 m2 cs rs) (by omega); have hbl := textB_length x.batch.l (by omega); show (textB (worldB s f n1 m1 n2 m2 cs rs) ++ textB x.batch.l).length ≤ _; rw [List.length_append]; omega, hxp, hxe⟩) rfl (fun x27 => ?_))
  refine TL_pure (fun h27 => ?_)
  refine TL_n (Ef_storeN rfl rfl (?_))
  refine TL_nil ?_
  refine X_then ?_
  refine T_ret ?_
  exact X_ret x27 [_] Try.results17 ⟨⟨_, rfl, res_cellN rfl⟩, trivial⟩ rfl (fun w hw => (Subs.st inferInstance w hw : St w0 (dat x27.2 (Deep.leads x27.1) :: H) w).addPure h27)
end Go.Proofs.Ytpdpapcmfnhgpaa
