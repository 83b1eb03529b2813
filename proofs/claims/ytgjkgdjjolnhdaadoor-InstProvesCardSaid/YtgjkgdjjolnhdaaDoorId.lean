/- Votes of one slot: what holds of those that are kept; the laws InstNil, InstStays. -/
import Derived.Test.YtgjkgdjjolnhdaaDoorIc
namespace Go.Proofs.YtgjkgdjjolnhdaaDoor
open Go.RowKit Go.Sx
set_option maxRecDepth 100000
set_option linter.unusedSimpArgs false
set_option linter.unusedVariables false
structure AL where
 a : Option Addr
 c : Nat
 ls : List ActV
structure TwoA where
 p : AL
 q : AL
def TwoA.list (v : TwoA) : List Value := [.slice v.p.a v.p.ls.length v.p.c, .slice v.q.a v.q.ls.length v.q.c]
def TwoA.cells (v : TwoA) : Array Value := v.list.toArray
instance twoA0 {v : TwoA} : Cells v.cells 2 := Cells.list rfl rfl
instance twoA1 {v : TwoA} : CellAt v.cells 0 (.slice v.p.a v.p.ls.length v.p.c) := ⟨rfl⟩
instance twoA2 {v : TwoA} : CellAt v.cells 1 (.slice v.q.a v.q.ls.length v.q.c) := ⟨rfl⟩
structure SOk (K : List (List UInt8)) (num : Int) (mk : Nat) (slot : Int) (V : List VD) : Prop where
 nd : (V.map fun v => balD v.1).Nodup
 ok : ∀ v ∈ V, (v.1.kind = 2 ∨ v.1.kind = 3) ∧ v.1.view = num ∧ v.1.slot = slot ∧ 0 ≤ v.1.frm ∧ v.1.frm < 16 ∧ v.1.frm.toNat ∈ memK mk ∧ openOfK K mk v.2 = (0, v.1)
theorem SOk.nil {K : List (List UInt8)} {num : Int} {mk : Nat} {slot : Int} : SOk K num mk slot [] := ⟨by simp, fun _ h => by cases h⟩
theorem getP_none {V : List VD} {k : BalV} (h : (getP V k).isSome = false) : k ∉ V.map fun v => balD v.1 := fun hm => by
 obtain ⟨v, hv, he⟩ := List.mem_map.1 hm
 have : (V.find? fun v => decide (k = balD v.1)).isSome = true := List.find?_isSome.2 ⟨v, hv, by simp [he]⟩
 rw [getP, Option.isSome_map, this] at h
 cases h
theorem takeI_cases (K : List (List UInt8)) (num : Int) (mk : Nat) (slot : Int) (V : List VD) (l : List UInt8) :
 ((takeI K num mk slot V l).2 = V ∧ (takeI K num mk slot V l).1 ≠ 0) ∨ ((takeI K num mk slot V l) = (0, V ++ [((openOfK K mk l).2, l)]) ∧ (openOfK K mk l).1 = 0 ∧ ((openOfK K mk l).2.kind = 2 ∨ (openOfK K mk l).2.kind = 3) ∧ (openOfK K mk l).2.view = num ∧ (openOfK K mk l).2.slot = slot ∧ (getP V (balD (openOfK K mk l).2)).isSome = false) := by
 unfold takeI
 split
 · rename_i h; exact .inl ⟨rfl, h⟩
 · rename_i h0
   split
   · exact .inl ⟨rfl, by simp⟩
   · split
     · exact .inl ⟨rfl, by simp⟩
     · split
       · exact .inl ⟨rfl, by simp⟩
       · split
         · exact .inl ⟨rfl, by simp⟩
         · rename_i h1 h2 h3 h4
           exact .inr ⟨rfl, by simpa using h0, by omega, by simpa using h2, by simpa using h3, by simpa using h4⟩
theorem takeI_ok {K : List (List UInt8)} {num : Int} {mk : Nat} {slot : Int} {V : List VD} (h : SOk K num mk slot V) (l : List UInt8) : SOk K num mk slot (takeI K num mk slot V l).2 ∧ ∀ v ∈ V, v ∈ (takeI K num mk slot V l).2 := by
 rcases takeI_cases K num mk slot V l with ⟨h1, -⟩ | ⟨h1, h2, h3, h4, h5, h6⟩
 · rw [h1]; exact ⟨h, fun _ h => h⟩
 · rw [h1]
   refine ⟨⟨?_, fun v hv => ?_⟩, fun v hv => List.mem_append_left _ hv⟩
   · show ((V ++ [((openOfK K mk l).2, l)]).map fun v => balD v.1).Nodup
     rw [List.map_append, List.nodup_append]
     refine ⟨h.nd, by simp, fun a ha b hb => ?_⟩
     obtain rfl : b = balD (openOfK K mk l).2 := by simpa using hb
     rintro rfl
     exact getP_none h6 ha
   · rcases List.mem_append.1 hv with hv | hv
     · exact h.ok v hv
     · obtain rfl : v = ((openOfK K mk l).2, l) := by simpa using hv
       have hf := opn_frm K mk l
       exact ⟨h3, h4, h5, hf.1, hf.2, opn_has (K := K) (mk := mk) (l := l) (by show (openOfK K mk l).2.kind ≠ 0; omega), by rw [← h2]⟩
theorem SOk.frm {K : List (List UInt8)} {num : Int} {mk : Nat} {slot : Int} {V : List VD} (h : SOk K num mk slot V) : ∀ v ∈ V.map (·.1), 0 ≤ v.frm ∧ v.frm < 16 := fun v hv => by
 obtain ⟨u, hu, rfl⟩ := List.mem_map.1 hv
 have := h.ok u hu
 exact ⟨this.2.2.2.1, this.2.2.2.2.1⟩
theorem msk_mem {K : List (List UInt8)} {num : Int} {mk : Nat} {slot : Int} {V : List VD} (h : SOk K num mk slot V) {t : TalV} {i : Nat} : i ∈ memK (mskI num slot V t) ↔ ∃ v ∈ V, v.1.kind = t.kind ∧ v.1.reg = t.reg ∧ v.1.hash = t.hash ∧ v.1.frm = (i : Int) := by
 unfold mskI
 rw [setD_mem h.frm]
 constructor
 · rintro ⟨m, hm, hc, hf⟩
   obtain ⟨v, hv, rfl⟩ := List.mem_map.1 hm
   simp only [cntD, wMsg, decide_eq_true_eq] at hc
   exact ⟨v, hv, hc.1, hc.2.2.2.2.1, hc.2.2.2.2.2.2, hf⟩
 · rintro ⟨v, hv, h1, h2, h3, hf⟩
   have := h.ok v hv
   exact ⟨v.1, List.mem_map.2 ⟨v, hv, rfl⟩, by simp only [cntD, wMsg, decide_eq_true_eq]; exact ⟨h1, by omega, this.2.1, trivial, h2, this.2.2.1, h3⟩, hf⟩
theorem msk_sub {K : List (List UInt8)} {num : Int} {mk : Nat} {slot : Int} {V : List VD} (h : SOk K num mk slot V) {t : TalV} {i : Nat} (hi : i ∈ memK (mskI num slot V t)) : i ∈ memK mk := by
 obtain ⟨v, hv, -, -, -, hf⟩ := (msk_mem h).1 hi
 have := (h.ok v hv).2.2.2.2.2.1
 rwa [hf, Int.toNat_natCast] at this
theorem msk_lt {K : List (List UInt8)} {num : Int} {mk : Nat} {slot : Int} {V : List VD} (h : SOk K num mk slot V) (t : TalV) : mskI num slot V t < 65536 := setD_lt _ h.frm
theorem nodupI {α : Type} [DecidableEq α] : ∀ {l m : List α}, l.Nodup → (∀ x ∈ l, x ∈ m) → l.length ≤ m.length
 | [], _, _, _ => Nat.zero_le _
 | a :: l, m, hl, hs => by
  have ha : a ∈ m := hs a (List.mem_cons_self ..)
  have h1 := nodupI (l := l) (m := m.erase a) (List.nodup_cons.1 hl).2 fun x hx => (List.mem_erase_of_ne (fun e : x = a => (List.nodup_cons.1 hl).1 (e ▸ hx))).2 (hs x (List.mem_cons_of_mem _ hx))
  have h2 : 0 < m.length := List.length_pos_of_mem ha
  rw [List.length_erase_of_mem ha] at h1
  simp; omega
theorem nodup_inj {α β : Type} {f : α → β} : ∀ {l : List α}, (l.map f).Nodup → ∀ {x y : α}, x ∈ l → y ∈ l → f x = f y → x = y
 | a :: l, h, x, y, hx, hy, he => by
  rw [List.map_cons, List.nodup_cons] at h
  rcases List.mem_cons.1 hx with hxa | hx
  · rcases List.mem_cons.1 hy with hya | hy
    · rw [hxa, hya]
    · exact absurd (List.mem_map.2 ⟨y, hy, by rw [← he, hxa]⟩) h.1
  · rcases List.mem_cons.1 hy with hya | hy
    · exact absurd (List.mem_map.2 ⟨x, hx, by rw [he, hya]⟩) h.1
    · exact nodup_inj h.2 hx hy he
theorem qual_len {K : List (List UInt8)} {num : Int} {mk : Nat} {slot : Int} {V : List VD} (h : SOk K num mk slot V) {t : TalV} : qualI num mk slot V t = true ↔ quorumV num mk ≠ 0 ∧ quorumV num mk ≤ (memK (mskI num slot V t)).length := by
 rw [qualI, decide_eq_true_eq, ones16_mem (msk_lt h t)]
/-- A quorum votes for one digest at most. -/
theorem qual_one {K : List (List UInt8)} {num : Int} {mk : Nat} {slot : Int} {V : List VD} (hmk : mk < 65536) (h : SOk K num mk slot V) {kind reg : Int} {h1 h2 : Vector UInt8 32} (q1 : qualI num mk slot V ⟨kind, reg, h1⟩ = true) (q2 : qualI num mk slot V ⟨kind, reg, h2⟩ = true) : h1 = h2 := by
 rw [qual_len h] at q1 q2
 by_cases he : h1 = h2
 · exact he
 · exfalso
   have hsz : sizeV num mk ≠ 0 := fun e => q1.1 (if_pos e)
   have hr : rightV num mk = true := by
    by_cases hr : rightV num mk = true
    · exact hr
    · exact absurd (if_neg hr) hsz
   have hs : sizeV num mk = (memK mk).length := by rw [sizeV, if_pos hr, ones16_mem hmk]
   have hq : quorumV num mk = (sizeV num mk + faultsV num mk) / 2 + 1 := if_neg hsz
   have hu : (memK (mskI num slot V ⟨kind, reg, h1⟩) ++ memK (mskI num slot V ⟨kind, reg, h2⟩)).length ≤ (memK mk).length := by
    refine nodupI (List.nodup_append.2 ⟨memK_nodup _, memK_nodup _, fun a ha b hb e => ?_⟩) fun i hi => ?_
    · subst e
      obtain ⟨v, hv, k1, r1, hh1, f1⟩ := (msk_mem h).1 ha
      obtain ⟨u, hu, k2, r2, hh2, f2⟩ := (msk_mem h).1 hb
      have : v = u := nodup_inj h.nd hv hu (by simp only [balD]; rw [k1, k2, r1, r2, f1, f2])
      subst this
      exact he (hh1.symm.trans hh2)
    · rcases List.mem_append.1 hi with hi | hi
      · exact msk_sub h hi
      · exact msk_sub h hi
   rw [List.length_append] at hu
   omega
theorem listI_len {K : List (List UInt8)} {num : Int} {mk : Nat} {slot : Int} {V : List VD} (h : SOk K num mk slot V) (t : TalV) : (listI num slot V t).length = (memK (mskI num slot V t)).length := by rw [listI, List.length_map]
theorem msk_mono {K : List (List UInt8)} {num : Int} {mk : Nat} {slot : Int} {V U : List VD} (h : SOk K num mk slot V) (h' : SOk K num mk slot U) (hs : ∀ v ∈ V, v ∈ U) (t : TalV) : (memK (mskI num slot V t)).length ≤ (memK (mskI num slot U t)).length :=
 nodupI (memK_nodup _) fun i hi => by
  obtain ⟨v, hv, h1⟩ := (msk_mem h).1 hi
  exact (msk_mem h').2 ⟨v, hs v hv, h1⟩
/-- What a quorum votes for it votes for behind more votes. -/
theorem stays_law {K : List (List UInt8)} {num : Int} {mk : Nat} {slot : Int} {V U : List VD} (hmk : mk < 65536) (h : SOk K num mk slot V) (h' : SOk K num mk slot U) (hs : ∀ v ∈ V, v ∈ U) {kind reg : Int} {y z : Option (Vector UInt8 32)} {L M : List (List UInt8)}
 (hy : QrI num mk slot V kind reg y L) (hz : QrI num mk slot U kind reg z M) : ∀ hh, y = some hh → z = some hh ∧ L.length ≤ M.length := by
 rintro hh rfl
 obtain ⟨q, rfl⟩ := hy
 have hm := msk_mono h h' hs ⟨kind, reg, hh⟩
 have q' : qualI num mk slot U ⟨kind, reg, hh⟩ = true := by
  rw [qual_len h] at q; rw [qual_len h']; omega
 cases z with
 | none => have := hz.1 hh; rw [q'] at this; cases this
 | some g =>
  obtain ⟨qg, rfl⟩ := hz
  obtain rfl := qual_one hmk h' qg q'
  exact ⟨rfl, by rw [listI_len h, listI_len h']; exact hm⟩
attribute [local irreducible] openOfK openK getM tagOf popB bruijn sealK keyT takeI listI mskI qualI memK ones16 quorumV

end Go.Proofs.YtgjkgdjjolnhdaaDoor
