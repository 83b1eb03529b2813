/- A question as an argument: what it reads as. -/
import Derived.Test.YtpdpapcmfnhgpaaOe
namespace Go.Proofs.Ytpdpapcmfnhgpaa
open Go.RowKit Go.Sx
set_option maxRecDepth 100000
set_option linter.unusedSimpArgs false
set_option linter.unusedVariables false
theorem opn_roots : Opn Try.prog 56 Sl (fun x => [.slice x.a x.n x.c]) (fun w x => ∃ hs : List (Vector UInt8 32), x.n = hs.length ∧ CellsAt w (.slice x.a hs.length x.c) 32 (hs.flatMap fun h : Vector UInt8 32 => hlist h)) :=
  ⟨fun en w sp fuel cs x h => by
    obtain ⟨a, c, ls, h1, h2, h3⟩ := slice_open (n := 32) (opn_hash Try.underlying36 Try.underlying5 rfl rfl) Try.underlying56 rfl (by omega) hlist_length h
    exact ⟨⟨a, ls.length, c⟩, h1, ls, rfl, h2⟩⟩
def AskX.Here (w : World) (v : AskX) : Prop := v.v.Here w ∧ (Lit.int .i64 v.had).wf = true ∧ ∃ hs : List (Vector UInt8 32), v.roots.n = hs.length ∧ CellsAt w (.slice v.roots.a hs.length v.roots.c) 32 (hs.flatMap fun h : Vector UInt8 32 => hlist h)
theorem opn_AskX : Opn Try.prog 58 AskX AskX.list AskX.Here := ⟨fun en w sp fuel cs x h => by
  obtain ⟨xs, m, _, _, hl, hlen, hf⟩ := DataW.trod_struct Try.underlying58 h
  have hl : cs.length = _ := hl
  have hlen : xs.length = 3 := hlen
  have h0 := hf 0 _ rfl
  rw [List.getElem?_eq_getElem (by omega)] at h0
  obtain ⟨y0, e0, r0⟩ := (opn_ViewV).ok en w sp m _ _ h0
  have h1 := hf 1 _ rfl
  rw [List.getElem?_eq_getElem (by omega)] at h1
  obtain ⟨y1, e1, r1⟩ := (opn_int Try.underlying3).ok en w sp m _ _ h1
  have h2 := hf 2 _ rfl
  rw [List.getElem?_eq_getElem (by omega)] at h2
  obtain ⟨y2, e2, r2⟩ := (opn_roots).ok en w sp m _ _ h2
  exact ⟨⟨y0, y1, y2⟩, (drop_step e0 (drop_step e1 (drop_last e2 (by exact hl)))), ⟨r0, r1, r2⟩⟩⟩
end Go.Proofs.Ytpdpapcmfnhgpaa
