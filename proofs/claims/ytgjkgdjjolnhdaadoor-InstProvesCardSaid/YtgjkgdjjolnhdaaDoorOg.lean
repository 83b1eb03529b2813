/- The table of trailing zeros as the rows lay it; arguments: what they read as. -/
import Derived.Test.YtgjkgdjjolnhdaaDoorRows
import Derived.LaidLaws
import Derived.LaidHandle
import Derived.Lib.LaidIn
import Derived.Lib.LaidU8
import Derived.Test.YtgjkgdjjolnhdaaDoorSo
import Derived.Test.YtgjkgdjjolnhdaaDoorTz
import Derived.Test.YtgjkgdjjolnhdaaDoorMb
namespace Go.Proofs.YtgjkgdjjolnhdaaDoor
open Go.RowKit Go.Sx
set_option maxRecDepth 100000
set_option linter.unusedSimpArgs false
set_option linter.unusedVariables false
theorem Tryd.own : ownKnob Tryd.prog.godebug = none := by kernel_rfl
theorem Tryd.laidOut : laidOutB Tryd.prog = true := by kernel_rfl
def laidL : List (String × DataW Unit) := [("math/bits.deBruijn32tab", Rows.laid_math_bits_deBruijn32tab)]
theorem glob_of {W : World} (h0 : laidMetH Tryd.prog laidL W) : Glob W := by
  have h : laidMet Tryd.prog laidL W := h0
  obtain ⟨g, t, cs, fuel, p, hg, hty, hvar, hd⟩ := Go.Lib.laidMet.reads h (.head _)
  obtain rfl := Option.some.inj ((show Tryd.prog.globalNamed "math/bits.deBruijn32tab" = some 0 by kernel_rfl).symm.trans hg)
  obtain rfl := Option.some.inj ((show (Tryd.prog.globals[0]?).map (·.type) = some 25 by kernel_rfl).symm.trans hty)
  have hcs := Go.Lib.cells_of_tab (k := .u8) (zs := [0, 1, 28, 2, 29, 14, 24, 3, 30, 22, 20, 15, 25, 17, 4, 8, 31, 27, 13, 23, 21, 19, 16, 7, 26, 12, 18, 6, 11, 5, 10, 9]) Tryd.underlying25 Tryd.underlying5 (by kernel_rfl) (by kernel_rfl) (show DataW.trod _ _ _ _ _ _ _ _ _ = some (Go.Lib.tabData .u8 [0, 1, 28, 2, 29, 14, 24, 3, 30, 22, 20, 15, 25, 17, 4, 8, 31, 27, 13, 23, 21, 19, 16, 7, 26, 12, 18, 6, 11, 5, 10, 9], p) from hd)
  refine ⟨some ⟨0, 0, none⟩, 32, 32, rfl, by simp [bytesV, bruijn], Nat.le_refl _, by decide, fun _ => ⟨0, 0, rfl, fun j u hj => ?_⟩⟩
  rw [Nat.zero_add, World.var?_cell hg hvar j, ← Array.getElem?_toList, hcs, ← hj]
  rfl
noncomputable def laidWorld (os : Os) : World :=
  let w0 := World.holding Tryd.prog os ⟨#[], #[], []⟩
  { w0 with heap := w0.heap.modify 0 fun
      | .cells _ t frozen => .cells (([0, 1, 28, 2, 29, 14, 24, 3, 30, 22, 20, 15, 25, 17, 4, 8, 31, 27, 13, 23, 21, 19, 16, 7, 26, 12, 18, 6, 11, 5, 10, 9] : List Int).map fun z => Value.int .u8 z).toArray t frozen
      | o => o }
theorem laidWorld_met (os : Os) (args : Array Value) : laidMetH Tryd.prog laidL ((laidWorld os).forCall (fun _ _ => 0) ⟨#[], args, []⟩).memory :=
  (LaidIn.of_run (l := laidL) [0] 8 (by kernel_rfl) (by kernel_rfl) (by kernel_rfl) (by kernel_rfl)).met
theorem opn_arr2 {P : Program} {t e : TypeId} {α : Type} {enc : α → List Value} {Rd : World → α → Prop} (O : Opn P e α enc Rd) (ht : P.underlying t = some (.array 2 e)) (hc : P.cellsOf e = 1) (hn : P.cellsOf t = 2) (hl : ∀ y, (enc y).length = 1) :
    Opn P t (α × α) (fun v => enc v.1 ++ enc v.2) (fun w v => Rd w v.1 ∧ Rd w v.2) :=
  ⟨fun en w sp fuel cs x h => by
    obtain ⟨xs, m, _, _, hl', hlen, hi⟩ := DataW.trod_array ht h
    rw [hn] at hl'
    have h0 := hi 0 (by decide)
    have h1 := hi 1 (by decide)
    rw [hc, List.getElem?_eq_getElem (by omega)] at h0 h1
    obtain ⟨y0, e0, r0⟩ := O.ok en w sp m _ _ h0
    obtain ⟨y1, e1, r1⟩ := O.ok en w sp m _ _ h1
    refine ⟨(y0, y1), ?_, r0, r1⟩
    match cs, hl' with
    | [a, b], _ => simp at e0 e1; simp [← e0, ← e1]⟩
def ViewV.Here (w : World) (v : ViewV) : Prop := (Lit.int .i64 v.num).wf = true ∧ (Lit.int .u16 v.mask).wf = true
theorem wf_u16 {n : Int} (h : (Lit.int .u16 n).wf = true) : 0 ≤ n ∧ n < 65536 := by
  simp [Lit.wf, IntKind.min, IntKind.max, IntKind.signed, IntKind.bits] at h
  exact ⟨by omega, by omega⟩
/-- A message as it reads in a world. -/
def MsgV.Here (w : World) (v : MsgV) : Prop :=
  (Lit.int .i64 v.kind).wf = true ∧ (Lit.int .i64 v.frm).wf = true ∧ (Lit.int .i64 v.view).wf = true ∧ (Lit.int .i64 v.reg).wf = true ∧ (Lit.int .i64 v.slot).wf = true ∧ True ∧ BytesAt w v.body.val v.body.l ∧ CellsAt w (.slice v.parts.a v.parts.ls.length v.parts.c) 1 (v.parts.ls.map BS.val) ∧ ∀ y ∈ v.parts.ls, BytesAt w y.val y.l
def AskV.Here (w : World) (v : AskV) : Prop := v.v.Here w ∧ v.m.Here w
theorem opn_ViewV : Opn Tryd.prog 24 ViewV ViewV.list ViewV.Here := ⟨fun en w sp fuel cs x h => by
  obtain ⟨xs, m, _, _, hl, hlen, hf⟩ := DataW.trod_struct Tryd.underlying24 h
  have hl : cs.length = _ := hl
  have hlen : xs.length = 2 := hlen
  have h0 := hf 0 _ rfl
  rw [List.getElem?_eq_getElem (by omega)] at h0
  obtain ⟨y0, e0, r0⟩ := (opn_int Tryd.underlying3).ok en w sp m _ _ h0
  have h1 := hf 1 _ rfl
  rw [List.getElem?_eq_getElem (by omega)] at h1
  obtain ⟨y1, e1, r1⟩ := (opn_int Tryd.underlying22).ok en w sp m _ _ h1
  exact ⟨⟨y0, y1⟩, (drop_step e0 (drop_last e1 (by exact hl))), ⟨r0, r1⟩⟩⟩
theorem opn_MsgV : Opn Tryd.prog 30 MsgV MsgV.list MsgV.Here := ⟨fun en w sp fuel cs x h => by
  obtain ⟨xs, m, _, _, hl, hlen, hf⟩ := DataW.trod_struct Tryd.underlying30 h
  have hl : cs.length = _ := hl
  have hlen : xs.length = 8 := hlen
  have h0 := hf 0 _ rfl
  rw [List.getElem?_eq_getElem (by omega)] at h0
  obtain ⟨y0, e0, r0⟩ := (opn_int Tryd.underlying3).ok en w sp m _ _ h0
  have h1 := hf 1 _ rfl
  rw [List.getElem?_eq_getElem (by omega)] at h1
  obtain ⟨y1, e1, r1⟩ := (opn_int Tryd.underlying3).ok en w sp m _ _ h1
  have h2 := hf 2 _ rfl
  rw [List.getElem?_eq_getElem (by omega)] at h2
  obtain ⟨y2, e2, r2⟩ := (opn_int Tryd.underlying3).ok en w sp m _ _ h2
  have h3 := hf 3 _ rfl
  rw [List.getElem?_eq_getElem (by omega)] at h3
  obtain ⟨y3, e3, r3⟩ := (opn_int Tryd.underlying3).ok en w sp m _ _ h3
  have h4 := hf 4 _ rfl
  rw [List.getElem?_eq_getElem (by omega)] at h4
  obtain ⟨y4, e4, r4⟩ := (opn_int Tryd.underlying3).ok en w sp m _ _ h4
  have h5 := hf 5 _ rfl
  rw [List.getElem?_eq_getElem (by omega)] at h5
  obtain ⟨y5, e5, r5⟩ := (opn_hash Tryd.underlying26 Tryd.underlying5 rfl rfl).ok en w sp m _ _ h5
  have h6 := hf 6 _ rfl
  rw [List.getElem?_eq_getElem (by omega)] at h6
  obtain ⟨y6, e6, r6⟩ := (opn_bytes Tryd.underlying27 Tryd.underlying5 rfl).ok en w sp m _ _ h6
  have h7 := hf 7 _ rfl
  rw [List.getElem?_eq_getElem (by omega)] at h7
  obtain ⟨y7, e7, r7⟩ := (opn_parts Tryd.underlying28 Tryd.underlying27 Tryd.underlying5 rfl rfl).ok en w sp m _ _ h7
  exact ⟨⟨y0, y1, y2, y3, y4, y5, y6, y7⟩, (drop_step e0 (drop_step e1 (drop_step e2 (drop_step e3 (drop_step e4 (drop_step e5 (drop_step e6 (drop_last e7 (by exact hl))))))))), ⟨r0, r1, r2, r3, r4, r5, r6, r7⟩⟩⟩
theorem opn_AskV : Opn Tryd.prog 32 AskV AskV.list AskV.Here := ⟨fun en w sp fuel cs x h => by
  obtain ⟨xs, m, _, _, hl, hlen, hf⟩ := DataW.trod_struct Tryd.underlying32 h
  have hl : cs.length = _ := hl
  have hlen : xs.length = 2 := hlen
  have h0 := hf 0 _ rfl
  rw [List.getElem?_eq_getElem (by omega)] at h0
  obtain ⟨y0, e0, r0⟩ := (opn_ViewV).ok en w sp m _ _ h0
  have h1 := hf 1 _ rfl
  rw [List.getElem?_eq_getElem (by omega)] at h1
  obtain ⟨y1, e1, r1⟩ := (opn_MsgV).ok en w sp m _ _ h1
  exact ⟨⟨y0, y1⟩, (drop_step e0 (drop_last e1 (by exact hl))), ⟨r0, r1⟩⟩⟩
theorem RdE.of {w : World} {H : List SA} {ls : List BS} (h : ∀ y ∈ ls, BytesAt w y.val y.l) : RdE w H ls := ⟨fun y hy v hv => CellsAt.keep (h y hy) hv.below.block⟩
end Go.Proofs.YtgjkgdjjolnhdaaDoor
