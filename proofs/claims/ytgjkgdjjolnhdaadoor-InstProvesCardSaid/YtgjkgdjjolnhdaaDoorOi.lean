/- Acts as arguments: what they read as. -/
import Derived.Test.YtgjkgdjjolnhdaaDoorOg
import Derived.Test.YtgjkgdjjolnhdaaDoorId
namespace Go.Proofs.YtgjkgdjjolnhdaaDoor
open Go.RowKit Go.Sx
set_option maxRecDepth 100000
set_option linter.unusedSimpArgs false
set_option linter.unusedVariables false
/-- An act as it reads in a world. -/
def ActV.Here (w : World) (v : ActV) : Prop := (Lit.int .i64 v.kind).wf = true ∧ BytesAt w v.b.val v.b.l
theorem opn_ActV : Opn Tryd.prog 58 ActV ActV.list ActV.Here := ⟨fun en w sp fuel cs x h => by
  obtain ⟨xs, m, _, _, hl, hlen, hf⟩ := DataW.trod_struct Tryd.underlying58 h
  have hl : cs.length = _ := hl
  have hlen : xs.length = 2 := hlen
  have h0 := hf 0 _ rfl
  rw [List.getElem?_eq_getElem (by omega)] at h0
  obtain ⟨y0, e0, r0⟩ := (opn_int Tryd.underlying3).ok en w sp m _ _ h0
  have h1 := hf 1 _ rfl
  rw [List.getElem?_eq_getElem (by omega)] at h1
  obtain ⟨y1, e1, r1⟩ := (opn_bytes Tryd.underlying27 Tryd.underlying5 rfl).ok en w sp m _ _ h1
  exact ⟨⟨y0, y1⟩, (drop_step e0 (drop_last e1 (by exact hl))), ⟨r0, r1⟩⟩⟩
theorem opn_acts : Opn Tryd.prog 52 AL (fun x => [.slice x.a x.ls.length x.c]) (fun w x => CellsAt w (.slice x.a x.ls.length x.c) 2 (x.ls.flatMap ActV.list) ∧ ∀ y ∈ x.ls, y.Here w) :=
  ⟨fun en w sp fuel cs x h => by
    obtain ⟨a, c, ls, h1, h2, h3⟩ := slice_open (n := 2) opn_ActV Tryd.underlying52 rfl (by omega) ActV.list_len h
    exact ⟨⟨a, c, ls⟩, h1, h2, h3⟩⟩
end Go.Proofs.YtgjkgdjjolnhdaaDoor
