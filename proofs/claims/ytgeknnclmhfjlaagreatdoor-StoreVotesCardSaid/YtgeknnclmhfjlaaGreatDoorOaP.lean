/- Votes as arguments: what they read as. -/
import Derived.Test.YtgeknnclmhfjlaaGreatDoorSgP
import Derived.Test.YtgeknnclmhfjlaaGreatDoorSoP
import Derived.Test.YtgeknnclmhfjlaaGreatDoorBkP
namespace Go.Proofs.YtgeknnclmhfjlaaGreatDoor
open Go.RowKit Go.Sx
set_option maxRecDepth 100000
set_option linter.unusedSimpArgs false
set_option linter.unusedVariables false
/-- A vote as it reads in a world. -/
def VoteV.Here (w : World) (v : VoteV) : Prop :=
 (Lit.int .i64 v.kind).wf = true ∧ (Lit.int .i64 v.view).wf = true ∧ (Lit.int .i64 v.reg).wf = true ∧ (Lit.int .i64 v.slot).wf = true ∧ True ∧ BytesAt w v.batch.val v.batch.l ∧ CellsAt w (.slice v.cert.a v.cert.ls.length v.cert.c) 1 (v.cert.ls.map BS.val) ∧ ∀ y ∈ v.cert.ls, BytesAt w y.val y.l
theorem opn_VoteV : Opn Tryz.prog 44 VoteV VoteV.list VoteV.Here := ⟨fun en w sp fuel cs x h => by
 obtain ⟨xs, m, _, _, hl, hlen, hf⟩ := DataW.trod_struct Tryz.underlying44 h
 have hl : cs.length = _ := hl
 have hlen : xs.length = 7 := hlen
 have h0 := hf 0 _ rfl
 rw [List.getElem?_eq_getElem (by omega)] at h0
 obtain ⟨y0, e0, r0⟩ := (opn_int Tryz.underlying3).ok en w sp m _ _ h0
 have h1 := hf 1 _ rfl
 rw [List.getElem?_eq_getElem (by omega)] at h1
 obtain ⟨y1, e1, r1⟩ := (opn_int Tryz.underlying3).ok en w sp m _ _ h1
 have h2 := hf 2 _ rfl
 rw [List.getElem?_eq_getElem (by omega)] at h2
 obtain ⟨y2, e2, r2⟩ := (opn_int Tryz.underlying3).ok en w sp m _ _ h2
 have h3 := hf 3 _ rfl
 rw [List.getElem?_eq_getElem (by omega)] at h3
 obtain ⟨y3, e3, r3⟩ := (opn_int Tryz.underlying3).ok en w sp m _ _ h3
 have h4 := hf 4 _ rfl
 rw [List.getElem?_eq_getElem (by omega)] at h4
 obtain ⟨y4, e4, r4⟩ := (opn_hash Tryz.underlying40 Tryz.underlying5 rfl rfl).ok en w sp m _ _ h4
 have h5 := hf 5 _ rfl
 rw [List.getElem?_eq_getElem (by omega)] at h5
 obtain ⟨y5, e5, r5⟩ := (opn_bytes Tryz.underlying41 Tryz.underlying5 rfl).ok en w sp m _ _ h5
 have h6 := hf 6 _ rfl
 rw [List.getElem?_eq_getElem (by omega)] at h6
 obtain ⟨y6, e6, r6⟩ := (opn_parts Tryz.underlying42 Tryz.underlying41 Tryz.underlying5 rfl rfl).ok en w sp m _ _ h6
 exact ⟨⟨y0, y1, y2, y3, y4, y5, y6⟩, (drop_step e0 (drop_step e1 (drop_step e2 (drop_step e3 (drop_step e4 (drop_step e5 (drop_last e6 (by exact hl)))))))), ⟨r0, r1, r2, r3, r4, r5, r6⟩⟩⟩
theorem votes_open {H : Type} {en : TypeId × Value → H} {w : World} {v : Value} {b : Nat} {sp : Nat → Bool} {x : DataW H} {ps : List MemPlace} (h : Value.okWide Tryz.prog w .any b 22 v) (hx : DataW.Trod en Tryz.prog w 0 sp true 22 v x ps) :
 ∃ (a : Option Addr) (c : Nat) (vs : List VoteV), v = .slice a vs.length c ∧ CellsAt w (.slice a vs.length c) 38 (vs.flatMap VoteV.list) ∧ ∀ y ∈ vs, y.Here w := by
 obtain ⟨fuel, hf⟩ := hx
 rw [cell_of_okWide Tryz.underlying22 rfl h] at hf
 obtain ⟨a, c, ls, h1, h2, h3⟩ := slice_open (n := 38) opn_VoteV Tryz.underlying22 rfl (by omega) VoteV.list_len hf
 exact ⟨a, c, ls, by simpa using h1, h2, h3⟩
theorem VoteV.Here.rd {w0 : World} {vs : List VoteV} (h : ∀ v ∈ vs, v.Here w0) (H : List SA) : RdVs w0 H vs :=
 ⟨fun v hv => RdB.base (h v hv).2.2.2.2.2.1, fun v hv => RdC.base (h v hv).2.2.2.2.2.2.1, fun v hv => ⟨fun x hx w hw => CellsAt.keep ((h v hv).2.2.2.2.2.2.2 x hx) hw.below.block⟩⟩

end Go.Proofs.YtgeknnclmhfjlaaGreatDoor
