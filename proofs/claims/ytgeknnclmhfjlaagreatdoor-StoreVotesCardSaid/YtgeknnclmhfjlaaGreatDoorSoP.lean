/- Arguments opened: what a reading tells of the cells and of the memory. General. -/
import Derived.Test.YtgeknnclmhfjlaaGreatDoorSeP
import Derived.ProofKit
import Derived.OpenShut
import Derived.Below
import Derived.Carry
set_option linter.unusedSimpArgs false
set_option linter.unusedVariables false
namespace Go.Sx
open Go.RowKit Go.ChangeShapes Go.WideShapes

/-- Whatever reads, as type t, is the cells of some y; and the memory is as Rd says. -/
class Opn (P : Program) (t : TypeId) (α : outParam Type) (enc : outParam (α → List Value)) (Rd : outParam (World → α → Prop)) : Prop where
  ok : ∀ {H : Type} (en : TypeId × Value → H) (w : World) (sp : Nat → Bool) (fuel : Nat) (cs : List Value) (x : DataW H × List MemPlace), DataW.trod en P w 0 sp true fuel t cs = some x → ∃ y : α, cs = enc y ∧ Rd w y
theorem opn_int {P : Program} {t : TypeId} {k : IntKind} (ht : P.underlying t = some (.int k)) : Opn P t Int (fun n => [.int k n]) (fun _ n => (Lit.int k n).wf = true) :=
  ⟨fun _ _ _ _ _ _ h => let ⟨n, hc, _, hw⟩ := DataW.trod_int ht h; ⟨n, hc, hw⟩⟩
theorem wf_u8 {n : Int} (h : (Lit.int .u8 n).wf = true) : 0 ≤ n ∧ n < 256 := by
  simp [Lit.wf, IntKind.min, IntKind.max, IntKind.signed, IntKind.bits] at h
  exact ⟨by omega, by omega⟩
theorem opn_u8 {P : Program} {t : TypeId} (ht : P.underlying t = some (.int .u8)) : Opn P t UInt8 (fun b => [byteV b]) (fun _ _ => True) :=
  ⟨fun _ _ _ _ _ _ h => by
    obtain ⟨n, hc, _, hw⟩ := DataW.trod_int ht h
    have := wf_u8 hw
    refine ⟨UInt8.ofNat n.toNat, ?_, trivial⟩
    rw [hc]
    simp only [byteV, List.cons.injEq, Value.int.injEq, true_and, and_true]
    rw [UInt8.toNat_ofNat']
    omega⟩
theorem list_pick {α : Type} {p : Nat → α → Prop} : ∀ (n : Nat), (∀ i, i < n → ∃ y, p i y) → ∃ ls : List α, ls.length = n ∧ ∀ i (hi : i < ls.length), p i ls[i]
  | 0, _ => ⟨[], rfl, fun i hi => by simp at hi⟩
  | n + 1, h => by
    obtain ⟨ls, hl, hp⟩ := list_pick n (fun i hi => h i (by omega))
    obtain ⟨y, hy⟩ := h n (by omega)
    refine ⟨ls ++ [y], by simp [hl], fun i hi => ?_⟩
    by_cases hin : i < ls.length
    · rw [List.getElem_append_left hin]; exact hp i hin
    · have : i = n := by simp at hi; omega
      subst this
      rw [List.getElem_append_right (by omega)]
      simpa [hl] using hy
theorem add_off {b o n : Nat} : (⟨b, o, none⟩ : Addr).add n = ⟨b, o + n, none⟩ := by
  unfold Addr.add
  split
  · rename_i h; subst h; rfl
  · rfl
theorem cells?_get {w : World} {a : Addr} {n : Nat} {l : List Value} (h : w.cells? 0 a n = some l) (j : Nat) (hj : j < n) : w.cell? (a.add j) = l[j]? := by
  unfold World.cells? at h
  simp only [Nat.zero_le, if_true] at h
  exact mapM_some_get h j j (by simp [hj])
/-- A slice of elements that open. -/
theorem slice_open {P : Program} {t e : TypeId} {n : Nat} {α : Type} {enc : α → List Value} {Rd : World → α → Prop} (O : Opn P e α enc Rd) (ht : P.underlying t = some (.slice e)) (hn : P.cellsOf e = n) (hpos : 0 < n) (hlen : ∀ y, (enc y).length = n)
    {H : Type} {en : TypeId × Value → H} {w : World} {sp : Nat → Bool} {fuel : Nat} {cs : List Value} {x : DataW H × List MemPlace} (h : DataW.trod en P w 0 sp true fuel t cs = some x) :
    ∃ (a : Option Addr) (c : Nat) (ls : List α), cs = [.slice a ls.length c] ∧ CellsAt w (.slice a ls.length c) n (ls.flatMap enc) ∧ ∀ y ∈ ls, Rd w y := by
  rcases DataW.trod_slice ht h with ⟨hc, _⟩ | ⟨a, len, cap, elems, rest, m, _, hcs, _, _, hl, hm, hel, hi, _⟩
  · exact ⟨none, 0, [], by simpa using hc, ⟨none, 0, 0, rfl, by simp, Nat.le_refl _, by unfold maxLen; omega, by simp⟩, by simp⟩
  · rw [hn] at hi
    have hex : ∀ i, i < len → ∃ y, w.cells? 0 (a.add (i * n)) n = some (enc y) ∧ Rd w y := fun i hlt => by
      have h1 := hi i hlt
      rw [List.getElem?_eq_getElem (by omega)] at h1
      simp only [Option.bind_eq_some_iff] at h1
      obtain ⟨c1, h2, h3⟩ := h1
      obtain ⟨y, rfl, hy⟩ := O.ok en w sp m c1 _ h3
      exact ⟨y, h2, hy⟩
    obtain ⟨ls, hls, hp⟩ := list_pick len hex
    have hcell : ∀ i (hi : i < ls.length) j, j < n → w.cell? ((a.add (i * n)).add j) = (enc ls[i])[j]? := fun i hi j hj => cells?_get (hp i hi).1 j hj
    have hspot : 0 < len → a.spot = none := fun h0 => by
      have h1 := hcell 0 (by omega) 0 hpos
      rw [show (a.add (0 * n)).add 0 = a by simp [Addr.add], List.getElem?_eq_getElem (by rw [hlen]; exact hpos)] at h1
      unfold World.cell? at h1
      split at h1
      · split at h1
        · cases h1
        · rename_i hs; simpa using hs
      · cases h1
    refine ⟨some a, cap, ls, by rw [hls]; exact hcs, ⟨some a, ls.length, cap, rfl, flat_len enc n hlen ls, by omega, hm, fun h0 => ?_⟩, fun y hy => ?_⟩
    · have h0' : 0 < len := by
        rw [flat_len enc n hlen ls, hls] at h0
        rcases Nat.eq_zero_or_pos len with h | h
        · subst h; simp at h0
        · exact h
      refine ⟨a.block, a.off, ?_, fun j u hj => ?_⟩
      · have := hspot h0'
        cases a; simp_all
      · have hjl : j < ls.length * n := by
          have := (List.getElem?_eq_some_iff.1 hj).1
          rwa [flat_len enc n hlen ls] at this
        have hq : j / n < ls.length := Nat.div_lt_of_lt_mul (by rwa [Nat.mul_comm] at hjl)
        have hr : j % n < n := Nat.mod_lt _ hpos
        have hjd : j / n * n + j % n = j := by rw [Nat.mul_comm]; exact Nat.div_add_mod j n
        have h1 := hcell (j / n) hq (j % n) hr
        rw [← flat_get enc n hlen ls (j / n) (j % n) hq hr, hjd, hj] at h1
        have e : (a.add (j / n * n)).add (j % n) = ⟨a.block, a.off + j, none⟩ := by
          have hs := hspot h0'
          obtain ⟨ab, ao, as⟩ := a
          simp only at hs
          subst hs
          rw [add_off, add_off, Nat.add_assoc, hjd]
        rw [e] at h1
        exact h1
    · obtain ⟨i, hi, rfl⟩ := List.getElem_of_mem hy
      exact (hp i hi).2
theorem flatMap_bytes (l : List UInt8) : l.flatMap (fun b => [byteV b]) = bytesV l := by
  induction l with
  | nil => rfl
  | cons b l ih => simp [List.flatMap_cons, ih, bytesV]
theorem opn_bytes {P : Program} {t e : TypeId} (ht : P.underlying t = some (.slice e)) (he : P.underlying e = some (.int .u8)) (hc : P.cellsOf e = 1) :
    Opn P t BS (fun x => [x.val]) (fun w x => BytesAt w x.val x.l) :=
  ⟨fun en w sp fuel cs x h => by
    obtain ⟨a, c, ls, h1, h2, _⟩ := slice_open (opn_u8 he) ht hc (by omega) (fun _ => rfl) h
    rw [flatMap_bytes] at h2
    exact ⟨⟨a, c, ls⟩, h1, h2⟩⟩
theorem flatMap_vals (l : List BS) : l.flatMap (fun b => [b.val]) = l.map BS.val := by
  induction l with
  | nil => rfl
  | cons b l ih => simp [List.flatMap_cons, ih]
theorem opn_parts {P : Program} {t e u : TypeId} (ht : P.underlying t = some (.slice e)) (he : P.underlying e = some (.slice u)) (hu : P.underlying u = some (.int .u8)) (hc : P.cellsOf e = 1) (hc' : P.cellsOf u = 1) :
    Opn P t PS (fun x => [.slice x.a x.ls.length x.c]) (fun w x => CellsAt w (.slice x.a x.ls.length x.c) 1 (x.ls.map BS.val) ∧ ∀ y ∈ x.ls, BytesAt w y.val y.l) :=
  ⟨fun en w sp fuel cs x h => by
    obtain ⟨a, c, ls, h1, h2, h3⟩ := slice_open (opn_bytes he hu hc') ht hc (by omega) (fun _ => rfl) h
    rw [flatMap_vals] at h2
    exact ⟨⟨a, c, ls⟩, h1, h2, h3⟩⟩
theorem opn_hash {P : Program} {t e : TypeId} {n : Nat} (ht : P.underlying t = some (.array n e)) (he : P.underlying e = some (.int .u8)) (hc : P.cellsOf e = 1) (hn : P.cellsOf t = n) :
    Opn P t (Vector UInt8 n) (fun v => hlist v) (fun _ _ => True) :=
  ⟨fun en w sp fuel cs x h => by
    obtain ⟨xs, m, _, _, hl, hlen, hi⟩ := DataW.trod_array ht h
    rw [hn] at hl
    have hex : ∀ i, i < n → ∃ b : UInt8, cs[i]? = some (byteV b) := fun i hlt => by
      have h1 := hi i hlt
      rw [hc, Nat.mul_one, List.getElem?_eq_getElem (by omega)] at h1
      obtain ⟨b, hb, _⟩ := (opn_u8 he).ok en w sp m _ _ h1
      refine ⟨b, ?_⟩
      have h2 := congrArg (·[0]?) hb
      simpa [List.getElem?_take, List.getElem?_drop] using h2
    obtain ⟨ls, hls, hp⟩ := list_pick n hex
    refine ⟨⟨ls.toArray, by simp [hls]⟩, ?_, trivial⟩
    apply List.ext_getElem?
    intro i
    by_cases hi : i < n
    · rw [hp i (by omega)]
      simp [hlist, bytesV, List.getElem?_eq_getElem (show i < ls.length by omega)]
    · rw [List.getElem?_eq_none (by omega), List.getElem?_eq_none (by simp; omega)]⟩
/-- A struct's cells, field by field. -/
theorem take_drop_eq {cs : List Value} (n m : Nat) : (cs.drop n) = (cs.drop n).take m ++ cs.drop (n + m) := by
  rw [← List.drop_drop]
  exact (List.take_append_drop m _).symm
/-- A value of a struct's or an array's type is an aggregate. -/
theorem agg_of_okWide {P : Program} {w : World} {t : TypeId} {v : Value} {b : Nat} {d : TypeDesc} (hd : P.underlying t = some d) (hs : (match d with | .struct _ | .array _ _ => true | _ => false) = true) (h : Value.okWide P w .any b t v) : ∃ cs, v = .agg cs := by
  unfold Value.okWide at h
  rw [hd] at h
  cases d <;> simp at hs <;> exact ⟨h.choose, h.choose_spec.1⟩
/-- One of any other type is a cell. -/
theorem cell_of_okWide {P : Program} {w : World} {t : TypeId} {v : Value} {b : Nat} {d : TypeDesc} (hd : P.underlying t = some d) (hs : (match d with | .int _ | .bool | .string | .slice _ => true | _ => false) = true) (h : Value.okWide P w .any b t v) : v.cells = #[v] := by
  unfold Value.okWide at h
  rw [hd] at h
  cases d <;> simp at hs <;> simp only [Cell.okWide, hd] at h <;> cases v <;> simp [Cell.ok, hd, Value.cells] at h ⊢
theorem open_cell {P : Program} {w : World} {t : TypeId} {v : Value} {b : Nat} {d : TypeDesc} {α : Type} {enc : α → List Value} {Rd : World → α → Prop} (O : Opn P t α enc Rd) (hd : P.underlying t = some d) (hs : (match d with | .int _ | .bool | .string | .slice _ => true | _ => false) = true) (h : Value.okWide P w .any b t v)
    {H : Type} {en : TypeId × Value → H} {sp : Nat → Bool} {x : DataW H} {ps : List MemPlace} (hx : DataW.Trod en P w 0 sp true t v x ps) : ∃ y : α, [v] = enc y ∧ Rd w y := by
  obtain ⟨fuel, hf⟩ := hx
  rw [cell_of_okWide hd hs h] at hf
  exact O.ok en w sp fuel _ _ hf
theorem open_agg {P : Program} {w : World} {t : TypeId} {v : Value} {b : Nat} {d : TypeDesc} {α : Type} {enc : α → List Value} {Rd : World → α → Prop} (O : Opn P t α enc Rd) (hd : P.underlying t = some d) (hs : (match d with | .struct _ | .array _ _ => true | _ => false) = true) (h : Value.okWide P w .any b t v)
    {H : Type} {en : TypeId × Value → H} {sp : Nat → Bool} {x : DataW H} {ps : List MemPlace} (hx : DataW.Trod en P w 0 sp true t v x ps) : ∃ y : α, v = .agg (enc y).toArray ∧ Rd w y := by
  obtain ⟨cs, rfl⟩ := agg_of_okWide hd hs h
  obtain ⟨fuel, hf⟩ := hx
  obtain ⟨y, hy, hr⟩ := O.ok en w sp fuel _ _ hf
  refine ⟨y, ?_, hr⟩
  rw [← hy]
  rfl
section
variable {H : Type} {enc : TypeId × Value → H} {P : Program}
theorem post_of_below {f : Func} {s : ChangeSpec} {apart fresh handsOn again : Bool} {W W' : World} {args : Array Value} {v : Value} {ds gs : List (DataW H)} {before pa pv : List MemPlace}
    (hW : DataW.Whole enc P f.params.toList s.vars apart W args.toList ds gs before)
    (hres : ∀ (b : Nat) (sp : Nat → Bool) (hd : Bool), DataW.TrodAll enc P W' b sp hd f.resultTypes.toList (v.resultList f.resultTypes.size) (s.fn H (ds ++ gs)).results [])
    (hargs : ∀ sp : Nat → Bool, (∀ p ∈ before, sp p.block = true) → DataW.TrodAll enc P W' 0 sp true f.params.toList args.toList (s.fn H (ds ++ gs)).args pa)
    (hvars : ∀ sp : Nat → Bool, (∀ p ∈ before, sp p.block = true) → DataW.TrodVars enc P W' sp s.vars (s.fn H (ds ++ gs)).vars pv)
    (hps : before = pa ++ pv) (hb : Below W.heap.size W W')
    (hok : ∀ (j : Nat) (t : TypeId) (r : Value), f.resultTypes[j]? = some t → (v.resultList f.resultTypes.size)[j]? = some r → Value.okWide P W' .any 0 t r) :
    s.post enc P f apart fresh handsOn again W args v W' := by
  have hlt : ∀ p ∈ before, p.block < W.heap.size := fun p hp => hW.lt p hp
  have hold : ∀ p ∈ before, (fun b => decide (b < W.heap.size)) p.block = true := fun p hp => by simpa using hlt p hp
  refine ⟨ds, gs, before, [], pa, pv, hW, hres _ _ _, hargs _ hold, hvars _ hold, World.keptBut_mono (fun p hp => ⟨hp, ?_⟩) (hb.frame (· ∈ before)), fun _ => ?_⟩
  · rw [hps, List.mem_append] at hp
    exact Or.inr hp
  · obtain ⟨_, _, _, _, _, hz, hn⟩ := hW
    refine ⟨hok, _, _, ([] ++ pa) ++ pv, ⟨[] ++ pa, pv, trodAll_append (hargs _ (fun _ _ => rfl)) (hres _ _ _), hvars _ (fun _ _ => rfl), rfl, ?_, ?_⟩, ?_⟩
    · intro b off hp
      have hin : MemPlace.cell b off ∈ before := by rw [hps]; simpa using hp
      rw [hb.frozen (hlt _ hin)]
      exact hz b off hin
    · intro ha
      have := hn ha
      rw [hps] at this
      simpa using this
    · intro p hp _
      rw [hps]
      simpa using hp
/-- The arguments read behind the call as they read before. -/
theorem TrodAll_stays (hl : laidOutB P = true) {W W' : World} (hb : Below W.heap.size W W') {sp : Nat → Bool} : ∀ {ts : List TypeId} {vs : List Value} {ds : List (DataW H)} {ps : List MemPlace}, (ts.all fun t => P.readableRec t && decide (t < P.types.size)) = true →
    (∀ p ∈ ps, p.block < W.heap.size) → (∀ p ∈ ps, sp p.block = true) → DataW.TrodAll enc P W 0 (fun _ => true) true ts vs ds ps → DataW.TrodAll enc P W' 0 sp true ts vs ds ps
  | [], [], [], _, _, _, _, h => h
  | t :: ts, v :: vs, d :: ds, ps, ht, hlt, hsp, h => by
    obtain ⟨p, q, h1, h2, rfl⟩ := h
    simp only [List.all_cons, Bool.and_eq_true, decide_eq_true_eq] at ht
    exact ⟨p, q, WideElems.Trod_stays hl ht.1.1 ht.1.2 h1 (fun x hx => hb.same (hlt x (by simp [hx]))) (fun x hx => hsp x (by simp [hx])), TrodAll_stays hl hb ht.2 (fun x hx => hlt x (by simp [hx])) (fun x hx => hsp x (by simp [hx])) h2, rfl⟩
  | [], _ :: _, _, _, _, _, _, h => by cases h
  | [], [], _ :: _, _, _, _, _, h => by cases h
  | _ :: _, [], _, _, _, _, _, h => by cases h
  | _ :: _, _ :: _, [], _, _, _, _, h => by cases h
end
end Go.Sx
namespace Go.Sx
theorem drop_step {cs l r : List Value} {n m : Nat} (h : (cs.drop n).take m = l) (hr : cs.drop (n + m) = r) : cs.drop n = l ++ r := by
  rw [← h, ← hr]; exact take_drop_eq n m
theorem drop_last {cs l : List Value} {n m : Nat} (h : (cs.drop n).take m = l) (hl : cs.length = n + m) : cs.drop n = l := by
  rw [← h, List.take_of_length_le]; rw [List.length_drop]; omega
end Go.Sx
