/- Acts on stores as arguments: what they read as. -/
import Derived.Test.YtgfbdcjamalhhaaGreatDoorSo
import Derived.Test.YtgfbdcjamalhhaaGreatDoorTn
namespace Go.Proofs.YtgfbdcjamalhhaaGreatDoor
open Go.RowKit Go.Sx
set_option maxRecDepth 100000
set_option linter.unusedSimpArgs false
set_option linter.unusedVariables false
/-- A view as it reads in a world. -/
def ViewV.Here (w : World) (v : ViewV) : Prop := (Lit.int .i64 v.num).wf = true ∧ (Lit.int .u16 v.mask).wf = true
def CellV.Here (w : World) (v : CellV) : Prop := True ∧ (Lit.int .i64 v.n).wf = true
def ResV.Here (w : World) (v : ResV) : Prop := True ∧ (Lit.int .i64 v.n).wf = true
def ReplyV.Here (w : World) (v : ReplyV) : Prop := (Lit.int .i64 v.client).wf = true ∧ (Lit.int .i64 v.seq).wf = true ∧ (Lit.int .i64 v.slot).wf = true ∧ v.res.Here w
def WorldV.Here (w : World) (v : WorldV) : Prop := (Lit.int .i64 v.slot).wf = true ∧ (Lit.int .i64 v.first).wf = true ∧ v.view.Here w ∧ v.was.Here w ∧ (∀ y ∈ v.cs.toList, y.Here w) ∧ (∀ y ∈ v.last.toList, y.Here w)
def PartsHere (w : World) (x : PS) : Prop := CellsAt w (.slice x.a x.ls.length x.c) 1 (x.ls.map BS.val) ∧ ∀ y ∈ x.ls, BytesAt w y.val y.l
def SlotV.Here (w : World) (v : SlotV) : Prop := (Lit.int .i64 v.n).wf = true ∧ True ∧ BytesAt w v.batch.val v.batch.l ∧ PartsHere w v.parts
def VoteV.Here (w : World) (v : VoteV) : Prop := (Lit.int .i64 v.kind).wf = true ∧ (Lit.int .i64 v.view).wf = true ∧ (Lit.int .i64 v.reg).wf = true ∧ (Lit.int .i64 v.slot).wf = true ∧ True ∧ BytesAt w v.batch.val v.batch.l ∧ PartsHere w v.cert
def PlanV.Here (w : World) (v : PlanV) : Prop := (Lit.int .u64 v.keep).wf = true ∧ (Lit.int .i64 v.torn).wf = true ∧ (Lit.int .i64 v.cut).wf = true
def SActV.Here (w : World) (v : SActV) : Prop := (Lit.int .i64 v.kind).wf = true ∧ True ∧ v.v.Here w ∧ v.w.Here w ∧ v.x.Here w ∧ (Lit.int .i64 v.n).wf = true ∧ v.p.Here w
theorem opn_ViewV : Opn Tryz.prog 52 ViewV ViewV.list ViewV.Here := ⟨fun en w sp fuel cs x h => by
  obtain ⟨xs, m, _, _, hl, hlen, hf⟩ := DataW.trod_struct Tryz.underlying52 h
  have hl : cs.length = _ := hl
  have hlen : xs.length = 2 := hlen
  have h0 := hf 0 _ rfl
  rw [List.getElem?_eq_getElem (by omega)] at h0
  obtain ⟨y0, e0, r0⟩ := (opn_int Tryz.underlying3).ok en w sp m _ _ h0
  have h1 := hf 1 _ rfl
  rw [List.getElem?_eq_getElem (by omega)] at h1
  obtain ⟨y1, e1, r1⟩ := (opn_int Tryz.underlying50).ok en w sp m _ _ h1
  exact ⟨⟨y0, y1⟩, (drop_step e0 (drop_last e1 (by exact hl))), ⟨r0, r1⟩⟩⟩
theorem opn_CellV : Opn Tryz.prog 54 CellV CellV.list CellV.Here := ⟨fun en w sp fuel cs x h => by
  obtain ⟨xs, m, _, _, hl, hlen, hf⟩ := DataW.trod_struct Tryz.underlying54 h
  have hl : cs.length = _ := hl
  have hlen : xs.length = 2 := hlen
  have h0 := hf 0 _ rfl
  rw [List.getElem?_eq_getElem (by omega)] at h0
  obtain ⟨y0, e0, r0⟩ := (opn_bool Tryz.underlying4).ok en w sp m _ _ h0
  have h1 := hf 1 _ rfl
  rw [List.getElem?_eq_getElem (by omega)] at h1
  obtain ⟨y1, e1, r1⟩ := (opn_int Tryz.underlying2).ok en w sp m _ _ h1
  exact ⟨⟨y0, y1⟩, (drop_step e0 (drop_last e1 (by exact hl))), ⟨r0, r1⟩⟩⟩
theorem opn_ResV : Opn Tryz.prog 57 ResV ResV.list ResV.Here := ⟨fun en w sp fuel cs x h => by
  obtain ⟨xs, m, _, _, hl, hlen, hf⟩ := DataW.trod_struct Tryz.underlying57 h
  have hl : cs.length = _ := hl
  have hlen : xs.length = 2 := hlen
  have h0 := hf 0 _ rfl
  rw [List.getElem?_eq_getElem (by omega)] at h0
  obtain ⟨y0, e0, r0⟩ := (opn_bool Tryz.underlying4).ok en w sp m _ _ h0
  have h1 := hf 1 _ rfl
  rw [List.getElem?_eq_getElem (by omega)] at h1
  obtain ⟨y1, e1, r1⟩ := (opn_int Tryz.underlying2).ok en w sp m _ _ h1
  exact ⟨⟨y0, y1⟩, (drop_step e0 (drop_last e1 (by exact hl))), ⟨r0, r1⟩⟩⟩
theorem opn_ReplyV : Opn Tryz.prog 59 ReplyV ReplyV.list ReplyV.Here := ⟨fun en w sp fuel cs x h => by
  obtain ⟨xs, m, _, _, hl, hlen, hf⟩ := DataW.trod_struct Tryz.underlying59 h
  have hl : cs.length = _ := hl
  have hlen : xs.length = 4 := hlen
  have h0 := hf 0 _ rfl
  rw [List.getElem?_eq_getElem (by omega)] at h0
  obtain ⟨y0, e0, r0⟩ := (opn_int Tryz.underlying3).ok en w sp m _ _ h0
  have h1 := hf 1 _ rfl
  rw [List.getElem?_eq_getElem (by omega)] at h1
  obtain ⟨y1, e1, r1⟩ := (opn_int Tryz.underlying3).ok en w sp m _ _ h1
  have h2 := hf 2 _ rfl
  rw [List.getElem?_eq_getElem (by omega)] at h2
  obtain ⟨y2, e2, r2⟩ := (opn_int Tryz.underlying3).ok en w sp m _ _ h2
  have h3 := hf 3 _ rfl
  rw [List.getElem?_eq_getElem (by omega)] at h3
  obtain ⟨y3, e3, r3⟩ := (opn_ResV).ok en w sp m _ _ h3
  exact ⟨⟨y0, y1, y2, y3⟩, (drop_step e0 (drop_step e1 (drop_step e2 (drop_last e3 (by exact hl))))), ⟨r0, r1, r2, r3⟩⟩⟩
theorem opn_WorldV : Opn Tryz.prog 62 WorldV WorldV.list WorldV.Here := ⟨fun en w sp fuel cs x h => by
  obtain ⟨xs, m, _, _, hl, hlen, hf⟩ := DataW.trod_struct Tryz.underlying62 h
  have hl : cs.length = _ := hl
  have hlen : xs.length = 6 := hlen
  have h0 := hf 0 _ rfl
  rw [List.getElem?_eq_getElem (by omega)] at h0
  obtain ⟨y0, e0, r0⟩ := (opn_int Tryz.underlying3).ok en w sp m _ _ h0
  have h1 := hf 1 _ rfl
  rw [List.getElem?_eq_getElem (by omega)] at h1
  obtain ⟨y1, e1, r1⟩ := (opn_int Tryz.underlying3).ok en w sp m _ _ h1
  have h2 := hf 2 _ rfl
  rw [List.getElem?_eq_getElem (by omega)] at h2
  obtain ⟨y2, e2, r2⟩ := (opn_ViewV).ok en w sp m _ _ h2
  have h3 := hf 3 _ rfl
  rw [List.getElem?_eq_getElem (by omega)] at h3
  obtain ⟨y3, e3, r3⟩ := (opn_ViewV).ok en w sp m _ _ h3
  have h4 := hf 4 _ rfl
  rw [List.getElem?_eq_getElem (by omega)] at h4
  obtain ⟨y4, e4, r4⟩ := (opn_array opn_CellV Tryz.underlying55 rfl rfl).ok en w sp m _ _ h4
  have h5 := hf 5 _ rfl
  rw [List.getElem?_eq_getElem (by omega)] at h5
  obtain ⟨y5, e5, r5⟩ := (opn_array opn_ReplyV Tryz.underlying60 rfl rfl).ok en w sp m _ _ h5
  exact ⟨⟨y0, y1, y2, y3, y4, y5⟩, (drop_step e0 (drop_step e1 (drop_step e2 (drop_step e3 (drop_step e4 (drop_last e5 (by exact hl))))))), ⟨r0, r1, r2, r3, r4, r5⟩⟩⟩
theorem opn_SlotV : Opn Tryz.prog 64 SlotV SlotV.list SlotV.Here := ⟨fun en w sp fuel cs x h => by
  obtain ⟨xs, m, _, _, hl, hlen, hf⟩ := DataW.trod_struct Tryz.underlying64 h
  have hl : cs.length = _ := hl
  have hlen : xs.length = 4 := hlen
  have h0 := hf 0 _ rfl
  rw [List.getElem?_eq_getElem (by omega)] at h0
  obtain ⟨y0, e0, r0⟩ := (opn_int Tryz.underlying3).ok en w sp m _ _ h0
  have h1 := hf 1 _ rfl
  rw [List.getElem?_eq_getElem (by omega)] at h1
  obtain ⟨y1, e1, r1⟩ := (opn_hash Tryz.underlying47 Tryz.underlying5 rfl rfl).ok en w sp m _ _ h1
  have h2 := hf 2 _ rfl
  rw [List.getElem?_eq_getElem (by omega)] at h2
  obtain ⟨y2, e2, r2⟩ := (opn_bytes Tryz.underlying30 Tryz.underlying5 rfl).ok en w sp m _ _ h2
  have h3 := hf 3 _ rfl
  rw [List.getElem?_eq_getElem (by omega)] at h3
  obtain ⟨y3, e3, r3⟩ := (opn_parts Tryz.underlying22 Tryz.underlying30 Tryz.underlying5 rfl rfl).ok en w sp m _ _ h3
  exact ⟨⟨y0, y1, y2, y3⟩, (drop_step e0 (drop_step e1 (drop_step e2 (drop_last e3 (by exact hl))))), ⟨r0, r1, r2, r3⟩⟩⟩
theorem opn_VoteV : Opn Tryz.prog 49 VoteV VoteV.list VoteV.Here := ⟨fun en w sp fuel cs x h => by
  obtain ⟨xs, m, _, _, hl, hlen, hf⟩ := DataW.trod_struct Tryz.underlying49 h
  have hl : cs.length = _ := hl
  have hlen : xs.length = 7 := hlen
  have h0 := hf 0 _ rfl
  rw [List.getElem?_eq_getElem (by omega)] at h0
  obtain ⟨y0, e0, r0⟩ := (opn_int Tryz.underlying3).ok en w sp m _ _ h0
  have h1 := hf 1 _ rfl
  rw [List.getElem?_eq_getElem (by omega)] at h1
  obtain ⟨y1, e1, r1⟩ := (opn_int Tryz.underlying3).ok en w sp m _ _ h1
  have h2 := hf 2 _ rfl
  rw [List.getElem?_eq_getElem (by omega)] at h2
  obtain ⟨y2, e2, r2⟩ := (opn_int Tryz.underlying3).ok en w sp m _ _ h2
  have h3 := hf 3 _ rfl
  rw [List.getElem?_eq_getElem (by omega)] at h3
  obtain ⟨y3, e3, r3⟩ := (opn_int Tryz.underlying3).ok en w sp m _ _ h3
  have h4 := hf 4 _ rfl
  rw [List.getElem?_eq_getElem (by omega)] at h4
  obtain ⟨y4, e4, r4⟩ := (opn_hash Tryz.underlying47 Tryz.underlying5 rfl rfl).ok en w sp m _ _ h4
  have h5 := hf 5 _ rfl
  rw [List.getElem?_eq_getElem (by omega)] at h5
  obtain ⟨y5, e5, r5⟩ := (opn_bytes Tryz.underlying30 Tryz.underlying5 rfl).ok en w sp m _ _ h5
  have h6 := hf 6 _ rfl
  rw [List.getElem?_eq_getElem (by omega)] at h6
  obtain ⟨y6, e6, r6⟩ := (opn_parts Tryz.underlying22 Tryz.underlying30 Tryz.underlying5 rfl rfl).ok en w sp m _ _ h6
  exact ⟨⟨y0, y1, y2, y3, y4, y5, y6⟩, (drop_step e0 (drop_step e1 (drop_step e2 (drop_step e3 (drop_step e4 (drop_step e5 (drop_last e6 (by exact hl)))))))), ⟨r0, r1, r2, r3, r4, r5, r6⟩⟩⟩
theorem opn_PlanV : Opn Tryz.prog 38 PlanV PlanV.list PlanV.Here := ⟨fun en w sp fuel cs x h => by
  obtain ⟨xs, m, _, _, hl, hlen, hf⟩ := DataW.trod_struct Tryz.underlying38 h
  have hl : cs.length = _ := hl
  have hlen : xs.length = 3 := hlen
  have h0 := hf 0 _ rfl
  rw [List.getElem?_eq_getElem (by omega)] at h0
  obtain ⟨y0, e0, r0⟩ := (opn_int Tryz.underlying36).ok en w sp m _ _ h0
  have h1 := hf 1 _ rfl
  rw [List.getElem?_eq_getElem (by omega)] at h1
  obtain ⟨y1, e1, r1⟩ := (opn_int Tryz.underlying3).ok en w sp m _ _ h1
  have h2 := hf 2 _ rfl
  rw [List.getElem?_eq_getElem (by omega)] at h2
  obtain ⟨y2, e2, r2⟩ := (opn_int Tryz.underlying3).ok en w sp m _ _ h2
  exact ⟨⟨y0, y1, y2⟩, (drop_step e0 (drop_step e1 (drop_last e2 (by exact hl)))), ⟨r0, r1, r2⟩⟩⟩
theorem opn_slots : Opn Tryz.prog 45 Sl (fun x => [.slice x.a x.n x.c]) (fun w x => True) :=
  ⟨fun en w sp fuel cs x h => by
    obtain ⟨a, c, ls, h1, h2, h3⟩ := slice_open (n := 35) opn_SlotV Tryz.underlying45 rfl (by omega) SlotV.list_len h
    exact ⟨⟨a, ls.length, c⟩, h1, trivial⟩⟩
theorem opn_SActV : Opn Tryz.prog 66 SActV SActV.list SActV.Here := ⟨fun en w sp fuel cs x h => by
  obtain ⟨xs, m, _, _, hl, hlen, hf⟩ := DataW.trod_struct Tryz.underlying66 h
  have hl : cs.length = _ := hl
  have hlen : xs.length = 7 := hlen
  have h0 := hf 0 _ rfl
  rw [List.getElem?_eq_getElem (by omega)] at h0
  obtain ⟨y0, e0, r0⟩ := (opn_int Tryz.underlying3).ok en w sp m _ _ h0
  have h1 := hf 1 _ rfl
  rw [List.getElem?_eq_getElem (by omega)] at h1
  obtain ⟨y1, e1, r1⟩ := (opn_slots).ok en w sp m _ _ h1
  have h2 := hf 2 _ rfl
  rw [List.getElem?_eq_getElem (by omega)] at h2
  obtain ⟨y2, e2, r2⟩ := (opn_VoteV).ok en w sp m _ _ h2
  have h3 := hf 3 _ rfl
  rw [List.getElem?_eq_getElem (by omega)] at h3
  obtain ⟨y3, e3, r3⟩ := (opn_WorldV).ok en w sp m _ _ h3
  have h4 := hf 4 _ rfl
  rw [List.getElem?_eq_getElem (by omega)] at h4
  obtain ⟨y4, e4, r4⟩ := (opn_SlotV).ok en w sp m _ _ h4
  have h5 := hf 5 _ rfl
  rw [List.getElem?_eq_getElem (by omega)] at h5
  obtain ⟨y5, e5, r5⟩ := (opn_int Tryz.underlying3).ok en w sp m _ _ h5
  have h6 := hf 6 _ rfl
  rw [List.getElem?_eq_getElem (by omega)] at h6
  obtain ⟨y6, e6, r6⟩ := (opn_PlanV).ok en w sp m _ _ h6
  exact ⟨⟨y0, y1, y2, y3, y4, y5, y6⟩, (drop_step e0 (drop_step e1 (drop_step e2 (drop_step e3 (drop_step e4 (drop_step e5 (drop_last e6 (by exact hl)))))))), ⟨r0, r1, r2, r3, r4, r5, r6⟩⟩⟩
theorem wf_u16 {n : Int} (h : (Lit.int .u16 n).wf = true) : 0 ≤ n ∧ n < 65536 := by
  simp [Lit.wf, IntKind.min, IntKind.max, IntKind.signed, IntKind.bits] at h
  omega
end Go.Proofs.YtgfbdcjamalhhaaGreatDoor
