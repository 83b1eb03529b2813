/- Views, messages, asks as arguments: what they read as. -/
import Derived.Test.YtgjkgdjjolnhdaaSo
import Derived.Test.YtgjkgdjjolnhdaaTz
namespace Go.Proofs.Ytgjkgdjjolnhdaa
open Go.RowKit Go.Sx
set_option maxRecDepth 100000
set_option linter.unusedSimpArgs false
set_option linter.unusedVariables false
theorem Try.own : ownKnob Try.prog.godebug = none := by kernel_rfl
theorem Try.laidOut : laidOutB Try.prog = true := by kernel_rfl
def ViewV.Here (w : World) (v : ViewV) : Prop := (Lit.int .i64 v.num).wf = true ∧ (Lit.int .u16 v.mask).wf = true
theorem wf_u16 {n : Int} (h : (Lit.int .u16 n).wf = true) : 0 ≤ n ∧ n < 65536 := by
  simp [Lit.wf, IntKind.min, IntKind.max, IntKind.signed, IntKind.bits] at h
  exact ⟨by omega, by omega⟩
/-- A message as it reads in a world. -/
def MsgV.Here (w : World) (v : MsgV) : Prop :=
  (Lit.int .i64 v.kind).wf = true ∧ (Lit.int .i64 v.frm).wf = true ∧ (Lit.int .i64 v.view).wf = true ∧ (Lit.int .i64 v.reg).wf = true ∧ (Lit.int .i64 v.slot).wf = true ∧ True ∧ BytesAt w v.body.val v.body.l ∧ CellsAt w (.slice v.parts.a v.parts.ls.length v.parts.c) 1 (v.parts.ls.map BS.val) ∧ ∀ y ∈ v.parts.ls, BytesAt w y.val y.l
def AskV.Here (w : World) (v : AskV) : Prop := v.v.Here w ∧ v.m.Here w
theorem RdE.of {w : World} {H : List SA} {ls : List BS} (h : ∀ y ∈ ls, BytesAt w y.val y.l) : RdE w H ls := ⟨fun y hy v hv => CellsAt.keep (h y hy) hv.below.block⟩
theorem opn_ViewV : Opn Try.prog 50 ViewV ViewV.list ViewV.Here := ⟨fun en w sp fuel cs x h => by
  obtain ⟨xs, m, _, _, hl, hlen, hf⟩ := DataW.trod_struct Try.underlying50 h
  have hl : cs.length = _ := hl
  have hlen : xs.length = 2 := hlen
  have h0 := hf 0 _ rfl
  rw [List.getElem?_eq_getElem (by omega)] at h0
  obtain ⟨y0, e0, r0⟩ := (opn_int Try.underlying3).ok en w sp m _ _ h0
  have h1 := hf 1 _ rfl
  rw [List.getElem?_eq_getElem (by omega)] at h1
  obtain ⟨y1, e1, r1⟩ := (opn_int Try.underlying46).ok en w sp m _ _ h1
  exact ⟨⟨y0, y1⟩, (drop_step e0 (drop_last e1 (by exact hl))), ⟨r0, r1⟩⟩⟩
theorem opn_MsgV : Opn Try.prog 27 MsgV MsgV.list MsgV.Here := ⟨fun en w sp fuel cs x h => by
  obtain ⟨xs, m, _, _, hl, hlen, hf⟩ := DataW.trod_struct Try.underlying27 h
  have hl : cs.length = _ := hl
  have hlen : xs.length = 8 := hlen
  have h0 := hf 0 _ rfl
  rw [List.getElem?_eq_getElem (by omega)] at h0
  obtain ⟨y0, e0, r0⟩ := (opn_int Try.underlying3).ok en w sp m _ _ h0
  have h1 := hf 1 _ rfl
  rw [List.getElem?_eq_getElem (by omega)] at h1
  obtain ⟨y1, e1, r1⟩ := (opn_int Try.underlying3).ok en w sp m _ _ h1
  have h2 := hf 2 _ rfl
  rw [List.getElem?_eq_getElem (by omega)] at h2
  obtain ⟨y2, e2, r2⟩ := (opn_int Try.underlying3).ok en w sp m _ _ h2
  have h3 := hf 3 _ rfl
  rw [List.getElem?_eq_getElem (by omega)] at h3
  obtain ⟨y3, e3, r3⟩ := (opn_int Try.underlying3).ok en w sp m _ _ h3
  have h4 := hf 4 _ rfl
  rw [List.getElem?_eq_getElem (by omega)] at h4
  obtain ⟨y4, e4, r4⟩ := (opn_int Try.underlying3).ok en w sp m _ _ h4
  have h5 := hf 5 _ rfl
  rw [List.getElem?_eq_getElem (by omega)] at h5
  obtain ⟨y5, e5, r5⟩ := (opn_hash Try.underlying24 Try.underlying5 rfl rfl).ok en w sp m _ _ h5
  have h6 := hf 6 _ rfl
  rw [List.getElem?_eq_getElem (by omega)] at h6
  obtain ⟨y6, e6, r6⟩ := (opn_bytes Try.underlying25 Try.underlying5 rfl).ok en w sp m _ _ h6
  have h7 := hf 7 _ rfl
  rw [List.getElem?_eq_getElem (by omega)] at h7
  obtain ⟨y7, e7, r7⟩ := (opn_parts Try.underlying22 Try.underlying25 Try.underlying5 rfl rfl).ok en w sp m _ _ h7
  exact ⟨⟨y0, y1, y2, y3, y4, y5, y6, y7⟩, (drop_step e0 (drop_step e1 (drop_step e2 (drop_step e3 (drop_step e4 (drop_step e5 (drop_step e6 (drop_last e7 (by exact hl))))))))), ⟨r0, r1, r2, r3, r4, r5, r6, r7⟩⟩⟩
theorem opn_AskV : Opn Try.prog 52 AskV AskV.list AskV.Here := ⟨fun en w sp fuel cs x h => by
  obtain ⟨xs, m, _, _, hl, hlen, hf⟩ := DataW.trod_struct Try.underlying52 h
  have hl : cs.length = _ := hl
  have hlen : xs.length = 2 := hlen
  have h0 := hf 0 _ rfl
  rw [List.getElem?_eq_getElem (by omega)] at h0
  obtain ⟨y0, e0, r0⟩ := (opn_ViewV).ok en w sp m _ _ h0
  have h1 := hf 1 _ rfl
  rw [List.getElem?_eq_getElem (by omega)] at h1
  obtain ⟨y1, e1, r1⟩ := (opn_MsgV).ok en w sp m _ _ h1
  exact ⟨⟨y0, y1⟩, (drop_step e0 (drop_last e1 (by exact hl))), ⟨r0, r1⟩⟩⟩
end Go.Proofs.Ytgjkgdjjolnhdaa
