/- Views, questions as arguments: what they read as. -/
import Derived.Test.YtnijomppbgdmnaaGreatSoP
import Derived.Test.YtnijomppbgdmnaaGreatTwP
import Derived.Test.YtnijomppbgdmnaaGreatSkP
set_option linter.unusedSimpArgs false
set_option linter.unusedVariables false
namespace Go.Proofs.YtnijomppbgdmnaaGreat
open Go.RowKit Go.Sx
set_option maxRecDepth 100000
/-- A view as it reads in a world. -/
def ViewV.Here (w : World) (v : ViewV) : Prop := (Lit.int .i64 v.num).wf = true ∧ (Lit.int .u16 v.mask).wf = true
theorem opn_ViewV : Opn Tryz.prog 24 ViewV ViewV.list ViewV.Here := ⟨fun en w sp fuel cs x h => by
  obtain ⟨xs, m, _, _, hl, hlen, hf⟩ := DataW.trod_struct Tryz.underlying24 h
  have hl : cs.length = _ := hl
  have hlen : xs.length = 2 := hlen
  have h0 := hf 0 _ rfl
  rw [List.getElem?_eq_getElem (by omega)] at h0
  obtain ⟨y0, e0, r0⟩ := (opn_int Tryz.underlying3).ok en w sp m _ _ h0
  have h1 := hf 1 _ rfl
  rw [List.getElem?_eq_getElem (by omega)] at h1
  obtain ⟨y1, e1, r1⟩ := (opn_int Tryz.underlying22).ok en w sp m _ _ h1
  exact ⟨⟨y0, y1⟩, (drop_step e0 (drop_last e1 (by exact hl))), ⟨r0, r1⟩⟩⟩
theorem Tryz.own : ownKnob Tryz.prog.godebug = none := by kernel_rfl
theorem Tryz.laidOut : laidOutB Tryz.prog = true := by kernel_rfl
theorem wf_u16 {n : Int} (h : (Lit.int .u16 n).wf = true) : 0 ≤ n ∧ n < 65536 := by
  simp [Lit.wf, IntKind.min, IntKind.max, IntKind.signed, IntKind.bits] at h
  omega
theorem opn_roots : Opn Tryz.prog 25 Sl (fun x => [.slice x.a x.n x.c]) (fun w x => ∃ hs : List (Vector UInt8 32), x.n = hs.length ∧ CellsAt w (.slice x.a hs.length x.c) 32 (hs.flatMap fun h : Vector UInt8 32 => hlist h)) :=
  ⟨fun en w sp fuel cs x h => by
    obtain ⟨a, c, ls, h1, h2, h3⟩ := slice_open (n := 32) (opn_hash Tryz.underlying32 Tryz.underlying5 rfl rfl) Tryz.underlying25 rfl (by omega) hlist_length h
    exact ⟨⟨a, ls.length, c⟩, h1, ls, rfl, h2⟩⟩
def AskX.Here (w : World) (v : AskX) : Prop := v.v.Here w ∧ (Lit.int .i64 v.had).wf = true ∧ ∃ hs : List (Vector UInt8 32), v.roots.n = hs.length ∧ CellsAt w (.slice v.roots.a hs.length v.roots.c) 32 (hs.flatMap fun h : Vector UInt8 32 => hlist h)
theorem opn_AskX : Opn Tryz.prog 47 AskX AskX.list AskX.Here := ⟨fun en w sp fuel cs x h => by
  obtain ⟨xs, m, _, _, hl, hlen, hf⟩ := DataW.trod_struct Tryz.underlying47 h
  have hl : cs.length = _ := hl
  have hlen : xs.length = 3 := hlen
  have h0 := hf 0 _ rfl
  rw [List.getElem?_eq_getElem (by omega)] at h0
  obtain ⟨y0, e0, r0⟩ := (opn_ViewV).ok en w sp m _ _ h0
  have h1 := hf 1 _ rfl
  rw [List.getElem?_eq_getElem (by omega)] at h1
  obtain ⟨y1, e1, r1⟩ := (opn_int Tryz.underlying3).ok en w sp m _ _ h1
  have h2 := hf 2 _ rfl
  rw [List.getElem?_eq_getElem (by omega)] at h2
  obtain ⟨y2, e2, r2⟩ := (opn_roots).ok en w sp m _ _ h2
  exact ⟨⟨y0, y1, y2⟩, (drop_step e0 (drop_step e1 (drop_last e2 (by exact hl)))), ⟨r0, r1, r2⟩⟩⟩
end Go.Proofs.YtnijomppbgdmnaaGreat
