/- Acts as arguments: what they read as. -/
import Derived.Test.YtededghplnoajaaSo
import Derived.Test.YtededghplnoajaaTy
namespace Go.Proofs.Ytededghplnoajaa
open Go.RowKit Go.Sx
set_option maxRecDepth 100000
set_option linter.unusedSimpArgs false
set_option linter.unusedVariables false
/-- A plan as it reads in a world. -/
def PlanV.Here (w : World) (v : PlanV) : Prop := (Lit.int .u64 v.keep).wf = true ∧ (Lit.int .i64 v.torn).wf = true ∧ (Lit.int .i64 v.cut).wf = true
/-- An act. -/
def RActV.Here (w : World) (v : RActV) : Prop := (Lit.int .i64 v.kind).wf = true ∧ v.name.size ≤ maxLen ∧ v.to.size ≤ maxLen ∧ BytesAt w v.b.val v.b.l ∧ v.p.Here w ∧ (Lit.int .i64 v.n).wf = true
theorem opn_PlanV : Opn Try.prog 25 PlanV PlanV.list PlanV.Here := ⟨fun en w sp fuel cs x h => by
  obtain ⟨xs, m, _, _, hl, hlen, hf⟩ := DataW.trod_struct Try.underlying25 h
  have hl : cs.length = _ := hl
  have hlen : xs.length = 3 := hlen
  have h0 := hf 0 _ rfl
  rw [List.getElem?_eq_getElem (by omega)] at h0
  obtain ⟨y0, e0, r0⟩ := (opn_int Try.underlying23).ok en w sp m _ _ h0
  have h1 := hf 1 _ rfl
  rw [List.getElem?_eq_getElem (by omega)] at h1
  obtain ⟨y1, e1, r1⟩ := (opn_int Try.underlying3).ok en w sp m _ _ h1
  have h2 := hf 2 _ rfl
  rw [List.getElem?_eq_getElem (by omega)] at h2
  obtain ⟨y2, e2, r2⟩ := (opn_int Try.underlying3).ok en w sp m _ _ h2
  exact ⟨⟨y0, y1, y2⟩, (drop_step e0 (drop_step e1 (drop_last e2 (by exact hl)))), ⟨r0, r1, r2⟩⟩⟩
theorem opn_RActV : Opn Try.prog 34 RActV RActV.list RActV.Here := ⟨fun en w sp fuel cs x h => by
  obtain ⟨xs, m, _, _, hl, hlen, hf⟩ := DataW.trod_struct Try.underlying34 h
  have hl : cs.length = _ := hl
  have hlen : xs.length = 6 := hlen
  have h0 := hf 0 _ rfl
  rw [List.getElem?_eq_getElem (by omega)] at h0
  obtain ⟨y0, e0, r0⟩ := (opn_int Try.underlying3).ok en w sp m _ _ h0
  have h1 := hf 1 _ rfl
  rw [List.getElem?_eq_getElem (by omega)] at h1
  obtain ⟨y1, e1, r1⟩ := (opn_string Try.underlying9).ok en w sp m _ _ h1
  have h2 := hf 2 _ rfl
  rw [List.getElem?_eq_getElem (by omega)] at h2
  obtain ⟨y2, e2, r2⟩ := (opn_string Try.underlying9).ok en w sp m _ _ h2
  have h3 := hf 3 _ rfl
  rw [List.getElem?_eq_getElem (by omega)] at h3
  obtain ⟨y3, e3, r3⟩ := (opn_bytes Try.underlying32 Try.underlying5 rfl).ok en w sp m _ _ h3
  have h4 := hf 4 _ rfl
  rw [List.getElem?_eq_getElem (by omega)] at h4
  obtain ⟨y4, e4, r4⟩ := (opn_PlanV).ok en w sp m _ _ h4
  have h5 := hf 5 _ rfl
  rw [List.getElem?_eq_getElem (by omega)] at h5
  obtain ⟨y5, e5, r5⟩ := (opn_int Try.underlying3).ok en w sp m _ _ h5
  exact ⟨⟨y0, y1, y2, y3, y4, y5⟩, (drop_step e0 (drop_step e1 (drop_step e2 (drop_step e3 (drop_step e4 (drop_last e5 (by exact hl))))))), ⟨r0, r1, r2, r3, r4, r5⟩⟩⟩
theorem Try.own : ownKnob Try.prog.godebug = none := by kernel_rfl
theorem Try.laidOut : laidOutB Try.prog = true := by kernel_rfl
theorem acts_open {H : Type} {en : TypeId × Value → H} {w : World} {v : Value} {b : Nat} {sp : Nat → Bool} {x : DataW H} {ps : List MemPlace} (h : Value.okWide Try.prog w .any b 22 v) (hx : DataW.Trod en Try.prog w 0 sp true 22 v x ps) :
    ∃ (a : Option Addr) (c : Nat) (vs : List RActV), v = .slice a vs.length c ∧ CellsAt w (.slice a vs.length c) 8 (vs.flatMap RActV.list) ∧ ∀ y ∈ vs, y.Here w := by
  obtain ⟨fuel, hf⟩ := hx
  rw [cell_of_okWide Try.underlying22 rfl h] at hf
  obtain ⟨a, c, ls, h1, h2, h3⟩ := slice_open (n := 8) opn_RActV Try.underlying22 rfl (by omega) RActV.list_len hf
  exact ⟨a, c, ls, by simpa using h1, h2, h3⟩
end Go.Proofs.Ytededghplnoajaa
