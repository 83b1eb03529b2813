/- Views, worlds, slots as arguments: what they read as. -/
import Derived.Test.YtpdpapcmfnhgpaaSl
import Derived.Test.YtpdpapcmfnhgpaaTw
import Derived.Test.YtpdpapcmfnhgpaaTk
namespace Go.Proofs.Ytpdpapcmfnhgpaa
open Go.RowKit Go.Sx
set_option maxRecDepth 100000
set_option linter.unusedSimpArgs false
set_option linter.unusedVariables false
/-- A view as it reads in a world. -/
def ViewV.Here (w : World) (v : ViewV) : Prop := (Lit.int .i64 v.num).wf = true ∧ (Lit.int .u16 v.mask).wf = true
def CellV.Here (w : World) (v : CellV) : Prop := True ∧ (Lit.int .i64 v.n).wf = true
def ResV.Here (w : World) (v : ResV) : Prop := True ∧ (Lit.int .i64 v.n).wf = true
def ReplyV.Here (w : World) (v : ReplyV) : Prop := (Lit.int .i64 v.client).wf = true ∧ (Lit.int .i64 v.seq).wf = true ∧ (Lit.int .i64 v.slot).wf = true ∧ v.res.Here w
def WorldV.Here (w : World) (v : WorldV) : Prop := (Lit.int .i64 v.slot).wf = true ∧ (Lit.int .i64 v.first).wf = true ∧ v.view.Here w ∧ v.was.Here w ∧ (∀ y ∈ v.cs.toList, y.Here w) ∧ (∀ y ∈ v.last.toList, y.Here w)
def SlotV.HereZ (w : World) (v : SlotV) : Prop := (Lit.int .i64 v.n).wf = true ∧ True ∧ (BytesAt w v.batch.val v.batch.l ∧ v.batch.l.length ≤ reachBytes) ∧ (CellsAt w (.slice v.parts.a v.parts.ls.length v.parts.c) 1 (v.parts.ls.map BS.val) ∧ ∀ y ∈ v.parts.ls, BytesAt w y.val y.l ∧ y.l.length ≤ reachBytes)
theorem opn_ViewV : Opn Try.prog 24 ViewV ViewV.list ViewV.Here := ⟨fun en w sp fuel cs x h => by
  obtain ⟨xs, m, _, _, hl, hlen, hf⟩ := DataW.trod_struct Try.underlying24 h
  have hl : cs.length = _ := hl
  have hlen : xs.length = 2 := hlen
  have h0 := hf 0 _ rfl
  rw [List.getElem?_eq_getElem (by omega)] at h0
  obtain ⟨y0, e0, r0⟩ := (opn_int Try.underlying3).ok en w sp m _ _ h0
  have h1 := hf 1 _ rfl
  rw [List.getElem?_eq_getElem (by omega)] at h1
  obtain ⟨y1, e1, r1⟩ := (opn_int Try.underlying22).ok en w sp m _ _ h1
  exact ⟨⟨y0, y1⟩, (drop_step e0 (drop_last e1 (by exact hl))), ⟨r0, r1⟩⟩⟩
theorem opn_CellV : Opn Try.prog 26 CellV CellV.list CellV.Here := ⟨fun en w sp fuel cs x h => by
  obtain ⟨xs, m, _, _, hl, hlen, hf⟩ := DataW.trod_struct Try.underlying26 h
  have hl : cs.length = _ := hl
  have hlen : xs.length = 2 := hlen
  have h0 := hf 0 _ rfl
  rw [List.getElem?_eq_getElem (by omega)] at h0
  obtain ⟨y0, e0, r0⟩ := (opn_bool Try.underlying4).ok en w sp m _ _ h0
  have h1 := hf 1 _ rfl
  rw [List.getElem?_eq_getElem (by omega)] at h1
  obtain ⟨y1, e1, r1⟩ := (opn_int Try.underlying2).ok en w sp m _ _ h1
  exact ⟨⟨y0, y1⟩, (drop_step e0 (drop_last e1 (by exact hl))), ⟨r0, r1⟩⟩⟩
theorem opn_ResV : Opn Try.prog 29 ResV ResV.list ResV.Here := ⟨fun en w sp fuel cs x h => by
  obtain ⟨xs, m, _, _, hl, hlen, hf⟩ := DataW.trod_struct Try.underlying29 h
  have hl : cs.length = _ := hl
  have hlen : xs.length = 2 := hlen
  have h0 := hf 0 _ rfl
  rw [List.getElem?_eq_getElem (by omega)] at h0
  obtain ⟨y0, e0, r0⟩ := (opn_bool Try.underlying4).ok en w sp m _ _ h0
  have h1 := hf 1 _ rfl
  rw [List.getElem?_eq_getElem (by omega)] at h1
  obtain ⟨y1, e1, r1⟩ := (opn_int Try.underlying2).ok en w sp m _ _ h1
  exact ⟨⟨y0, y1⟩, (drop_step e0 (drop_last e1 (by exact hl))), ⟨r0, r1⟩⟩⟩
theorem opn_ReplyV : Opn Try.prog 31 ReplyV ReplyV.list ReplyV.Here := ⟨fun en w sp fuel cs x h => by
  obtain ⟨xs, m, _, _, hl, hlen, hf⟩ := DataW.trod_struct Try.underlying31 h
  have hl : cs.length = _ := hl
  have hlen : xs.length = 4 := hlen
  have h0 := hf 0 _ rfl
  rw [List.getElem?_eq_getElem (by omega)] at h0
  obtain ⟨y0, e0, r0⟩ := (opn_int Try.underlying3).ok en w sp m _ _ h0
  have h1 := hf 1 _ rfl
  rw [List.getElem?_eq_getElem (by omega)] at h1
  obtain ⟨y1, e1, r1⟩ := (opn_int Try.underlying3).ok en w sp m _ _ h1
  have h2 := hf 2 _ rfl
  rw [List.getElem?_eq_getElem (by omega)] at h2
  obtain ⟨y2, e2, r2⟩ := (opn_int Try.underlying3).ok en w sp m _ _ h2
  have h3 := hf 3 _ rfl
  rw [List.getElem?_eq_getElem (by omega)] at h3
  obtain ⟨y3, e3, r3⟩ := (opn_ResV).ok en w sp m _ _ h3
  exact ⟨⟨y0, y1, y2, y3⟩, (drop_step e0 (drop_step e1 (drop_step e2 (drop_last e3 (by exact hl))))), ⟨r0, r1, r2, r3⟩⟩⟩
theorem opn_WorldV : Opn Try.prog 34 WorldV WorldV.list WorldV.Here := ⟨fun en w sp fuel cs x h => by
  obtain ⟨xs, m, _, _, hl, hlen, hf⟩ := DataW.trod_struct Try.underlying34 h
  have hl : cs.length = _ := hl
  have hlen : xs.length = 6 := hlen
  have h0 := hf 0 _ rfl
  rw [List.getElem?_eq_getElem (by omega)] at h0
  obtain ⟨y0, e0, r0⟩ := (opn_int Try.underlying3).ok en w sp m _ _ h0
  have h1 := hf 1 _ rfl
  rw [List.getElem?_eq_getElem (by omega)] at h1
  obtain ⟨y1, e1, r1⟩ := (opn_int Try.underlying3).ok en w sp m _ _ h1
  have h2 := hf 2 _ rfl
  rw [List.getElem?_eq_getElem (by omega)] at h2
  obtain ⟨y2, e2, r2⟩ := (opn_ViewV).ok en w sp m _ _ h2
  have h3 := hf 3 _ rfl
  rw [List.getElem?_eq_getElem (by omega)] at h3
  obtain ⟨y3, e3, r3⟩ := (opn_ViewV).ok en w sp m _ _ h3
  have h4 := hf 4 _ rfl
  rw [List.getElem?_eq_getElem (by omega)] at h4
  obtain ⟨y4, e4, r4⟩ := (opn_array opn_CellV Try.underlying27 rfl rfl).ok en w sp m _ _ h4
  have h5 := hf 5 _ rfl
  rw [List.getElem?_eq_getElem (by omega)] at h5
  obtain ⟨y5, e5, r5⟩ := (opn_array opn_ReplyV Try.underlying32 rfl rfl).ok en w sp m _ _ h5
  exact ⟨⟨y0, y1, y2, y3, y4, y5⟩, (drop_step e0 (drop_step e1 (drop_step e2 (drop_step e3 (drop_step e4 (drop_last e5 (by exact hl))))))), ⟨r0, r1, r2, r3, r4, r5⟩⟩⟩
theorem opz_SlotV : OpnZ Try.prog 40 SlotV SlotV.list SlotV.HereZ := ⟨fun en w sp fuel cs x h hz => by
  obtain ⟨xs, m, _, hx, hl, hlen, hf⟩ := DataW.trod_struct Try.underlying40 h
  have hl : cs.length = _ := hl
  have hlen : xs.length = 4 := hlen
  have h0 := hf 0 _ rfl
  rw [List.getElem?_eq_getElem (by omega)] at h0
  obtain ⟨y0, e0, r0⟩ := (OpnZ.of (opn_int Try.underlying3)).ok en w sp m _ _ h0 (fun n hn => hz n (sized_field hx Try.underlying40 0 rfl (List.getElem?_eq_getElem (by omega)) n hn))
  have h1 := hf 1 _ rfl
  rw [List.getElem?_eq_getElem (by omega)] at h1
  obtain ⟨y1, e1, r1⟩ := (OpnZ.of (opn_hash Try.underlying36 Try.underlying5 rfl rfl)).ok en w sp m _ _ h1 (fun n hn => hz n (sized_field hx Try.underlying40 1 rfl (List.getElem?_eq_getElem (by omega)) n hn))
  have h2 := hf 2 _ rfl
  rw [List.getElem?_eq_getElem (by omega)] at h2
  obtain ⟨y2, e2, r2⟩ := (opz_bytes Try.underlying37 Try.underlying5 rfl rfl).ok en w sp m _ _ h2 (fun n hn => hz n (sized_field hx Try.underlying40 2 rfl (List.getElem?_eq_getElem (by omega)) n hn))
  have h3 := hf 3 _ rfl
  rw [List.getElem?_eq_getElem (by omega)] at h3
  obtain ⟨y3, e3, r3⟩ := (opz_parts Try.underlying38 Try.underlying37 Try.underlying5 rfl rfl rfl).ok en w sp m _ _ h3 (fun n hn => hz n (sized_field hx Try.underlying40 3 rfl (List.getElem?_eq_getElem (by omega)) n hn))
  exact ⟨⟨y0, y1, y2, y3⟩, (drop_step e0 (drop_step e1 (drop_step e2 (drop_last e3 (by exact hl))))), ⟨r0, r1, r2, r3⟩⟩⟩
theorem Try.own : ownKnob Try.prog.godebug = none := by kernel_rfl
theorem Try.laidOut : laidOutB Try.prog = true := by kernel_rfl
theorem wf_u16 {n : Int} (h : (Lit.int .u16 n).wf = true) : 0 ≤ n ∧ n < 65536 := by
  simp [Lit.wf, IntKind.min, IntKind.max, IntKind.signed, IntKind.bits] at h
  omega
theorem vec_mem {α : Type} {n : Nat} {v : Vector α n} {p : α → Prop} (h : ∀ y ∈ v.toList, p y) (i : Nat) (hi : i < n) : p v[i] := h _ (by simp)
end Go.Proofs.Ytpdpapcmfnhgpaa
