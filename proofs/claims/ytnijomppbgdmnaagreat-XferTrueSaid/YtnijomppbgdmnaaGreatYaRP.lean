/- Worlds of bytes, as data; walks that read them. -/
import Derived.Test.YtnijomppbgdmnaaGreatSgP
import Derived.Test.YtnijomppbgdmnaaGreatKaRP
set_option linter.unusedSimpArgs false
set_option linter.unusedVariables false
namespace Go.Proofs.YtnijomppbgdmnaaGreat
section
open Go.RowKit Go.Sx
set_option maxRecDepth 100000
set_option maxHeartbeats 1000000
instance wdv0 {v : Vector CellV 16} : Cells (flatV CellV.list v).toArray 32 := Cells.list (flatV_length _ 2 CellV.list_len v) (flatV_one _ CellV.list_one v)
instance wdv1 {v : Vector CellV 16} : SubAt (flatV CellV.list v).toArray 0 32 (flatV CellV.list v).toArray := ⟨by have h := flatV_length _ 2 CellV.list_len v; apply Array.ext <;> simp [h]⟩
instance wdv2 {v u : Vector CellV 16} : Put (flatV CellV.list v).toArray 0 (.agg (flatV CellV.list u).toArray) (flatV CellV.list u).toArray := ⟨by have := put_mid [] (flatV CellV.list v) [] (v := .agg (flatV CellV.list u).toArray) (o := 0) (n := 32) rfl (flatV_length _ 2 CellV.list_len v) (by simp [Value.cells, flatV_length _ 2 CellV.list_len]); simpa [Value.cells] using this, by simp [Value.cells, flatV_length _ 2 CellV.list_len]⟩
instance wdv3 : TyZ Tryz.prog 60 (.agg (flatV CellV.list (Vector.replicate 16 CellV.zero)).toArray) := ⟨by kernel_rfl⟩
instance wdp1 {v : WorldV} {u : Int} : Put v.cells 1 (.int .i64 u) { v with first := u }.cells := by
 have := Put.mid v.p0 v.p1 (v.view.list ++ (v.was.list ++ (v.p4 ++ v.p5))) (cs := v.cells) (o := 1) (n := 1) (v := .int .i64 u) (by simp only [WorldV.cells, WorldV.list, List.append_assoc]) rfl rfl rfl
 simpa [WorldV.cells, WorldV.list, Value.cells] using this
instance wdp2 {v : WorldV} {u : ViewV} : Put v.cells 2 (.agg u.cells) { v with view := u }.cells := by
 have := Put.mid (v.p0 ++ v.p1) v.view.list (v.was.list ++ (v.p4 ++ v.p5)) (cs := v.cells) (o := 2) (n := 2) (v := .agg u.cells) (by simp only [WorldV.cells, WorldV.list, List.append_assoc]) rfl v.view.list_len u.size
 simpa [WorldV.cells, WorldV.list, Value.cells, ViewV.cells] using this
instance wdp4 {v : WorldV} {u : ViewV} : Put v.cells 4 (.agg u.cells) { v with was := u }.cells := by
 have := Put.mid (v.p0 ++ (v.p1 ++ v.view.list)) v.was.list (v.p4 ++ v.p5) (cs := v.cells) (o := 4) (n := 2) (v := .agg u.cells) (by simp only [WorldV.cells, WorldV.list, List.append_assoc]) (by simp [ViewV.list_len]) v.was.list_len u.size
 simpa [WorldV.cells, WorldV.list, Value.cells, ViewV.cells] using this
instance wdp6 {v : WorldV} {u : Vector CellV 16} : Put v.cells 6 (.agg (flatV CellV.list u).toArray) { v with cs := u }.cells := by
 have := Put.mid (v.p0 ++ (v.p1 ++ (v.view.list ++ v.was.list))) v.p4 v.p5 (cs := v.cells) (o := 6) (n := 32) (v := .agg (flatV CellV.list u).toArray) (by simp only [WorldV.cells, WorldV.list, List.append_assoc]) (by simp [ViewV.list_len]) v.l4 (by simp [Value.cells, flatV_length _ 2 CellV.list_len])
 simpa [WorldV.cells, WorldV.list, Value.cells] using this
theorem put_last (v : WorldV) (k : Nat) (hk : k < 6) (u : ReplyV) : Put v.cells (38 + k * 5) (.agg u.cells) { v with last := v.last.set k u }.cells := by
 have := Put.mid (v.p0 ++ (v.p1 ++ (v.view.list ++ (v.was.list ++ (v.p4 ++ v.p5.take (k * 5)))))) v.last[k].list (v.p5.drop ((k + 1) * 5)) (cs := v.cells) (o := 38 + k * 5) (n := 5) (v := .agg u.cells)
  (by rw [WorldV.cells, WorldV.list]; (conv => lhs; rw [show v.p5 = _ from flat_split ReplyV.list 5 ReplyV.list_len v.last k hk]); simp only [List.append_assoc])
  (by simp only [List.length_append, ViewV.list_len, v.l4, flat_pre ReplyV.list 5 ReplyV.list_len v.last k hk, List.length_singleton]; omega) (ReplyV.list_len _) u.size
 simpa [WorldV.cells, WorldV.list, Value.cells, ReplyV.cells, flat_set ReplyV.list 5 ReplyV.list_len v.last k hk u] using this

def replyG (l : List UInt8) : Int × ReplyV :=
 if l.length < 4 then (1, .zero) else if (rdPacked (l.drop 4)).1 ≠ 0 then ((rdPacked (l.drop 4)).1, .zero)
 else if 1 < (l.getD 3 0).toNat ∨ 4 + (rdPacked (l.drop 4)).2.2 < l.length then (2, .zero)
 else (0, ReplyV.mk (l.getD 0 0).toNat (l.getD 1 0).toNat (l.getD 2 0).toNat (ResV.mk (decide (((l.getD 3 0).toNat : Int) = 1)) (unfoldN (rdPacked (l.drop 4)).2.1)))
theorem rdFixed_two (l : List UInt8) : (rdFixed l 2).2.1 < 65536 ∧ (rdFixed l 2).2.2 ≤ l.length := by
 unfold rdFixed
 rw [if_neg (by decide)]
 split
 · exact ⟨by decide, Nat.zero_le _⟩
 · rename_i h
   have := beN_lt (l.take (2 : Int).toNat)
   have h2 : (256 : Nat) ^ (l.take (2 : Int).toNat).length ≤ 256 ^ 2 := Nat.pow_le_pow_right (by decide) (by simp; omega)
   have h3 : (256 : Nat) ^ 2 = 65536 := by decide
   exact ⟨by show beN _ < _; omega, by show (2 : Int).toNat ≤ _; omega⟩
theorem fx2 {l : List UInt8} (h : ¬ (rdFixed l 2).1 ≠ 0) : 2 ≤ l.length ∧ (rdFixed l 2).2.2 = 2 := by
 rcases Nat.lt_or_ge l.length 2 with hs | hs
 · rw [rdFixed_short rfl (by omega)] at h; exact absurd (show ((1 : Int), 0, 0).1 ≠ 0 by decide) h
 · exact ⟨hs, by have := rdFixed_ok (l := l) (n := 2) rfl hs; rw [show rdFixed l 2 = _ from this]⟩
theorem fx2e {l : List UInt8} (h : (rdFixed l 2).1 ≠ 0) : l.length < 2 ∧ (rdFixed l 2).1 = 1 := by
 rcases Nat.lt_or_ge l.length 2 with hs | hs
 · exact ⟨hs, by rw [rdFixed_short rfl (by omega)]⟩
 · have := rdFixed_ok (l := l) (n := 2) rfl hs
   rw [show rdFixed l 2 = _ from this] at h; exact absurd rfl h
theorem two_err {l : List UInt8} (h : (rdFixed (l.drop (rdFixed l 2).2.2) 2).1 ≠ 0) : l.length < 4 := by
 have h1 := (fx2e h).1
 rw [List.length_drop] at h1
 by_cases h2 : (rdFixed l 2).1 ≠ 0
 · have := fx2e h2; omega
 · rw [(fx2 h2).2] at h1; omega
theorem two_fine {l : List UInt8} (h : ¬ (rdFixed (l.drop (rdFixed l 2).2.2) 2).1 ≠ 0) : 4 ≤ l.length ∧ (rdFixed l 2).2.2 = 2 ∧ (rdFixed (l.drop 2) 2).2.2 = 2 := by
 have h1 := fx2 h
 by_cases h2 : (rdFixed l 2).1 ≠ 0
 · have h3 := fx2e h2
   rw [List.length_drop] at h1
   omega
 · have h3 := (fx2 h2).2
   rw [h3] at h1
   refine ⟨?_, h3, h1.2⟩
   have := h1.1
   rw [List.length_drop] at this
   omega
/-- The view of bytes. -/
def viewG (l : List UInt8) : Int × ViewV := if l.length < 4 then (1, .zero) else if 4 < l.length ∨ rightV ((rdFixed l 2).2.1 : Int) (rdFixed (l.drop 2) 2).2.1 = false then (2, .zero) else (0, ⟨((rdFixed l 2).2.1 : Int), ((rdFixed (l.drop 2) 2).2.1 : Int)⟩)
def evG (l : List UInt8) : Int × ViewV := if (rdText l 1000).1 ≠ 0 then ((rdText l 1000).1, .zero) else viewG (rdText l 1000).2.1
def setC {α : Type} {n : Nat} (v : Vector α n) (k : Nat) (c : α) : Vector α n := if h : k < n then v.set k c else v
theorem setC_lt {α : Type} {n : Nat} (v : Vector α n) {k : Nat} (c : α) (h : k < n) : setC v k c = v.set k c := dif_pos h
abbrev Z16 : Vector CellV 16 := Vector.replicate 16 CellV.zero
/-- Cells of bytes: how many are left, from where, the last key, those that are had. -/
def kvGo (l : List UInt8) : Nat → Nat → Int → Vector CellV 16 → Int × Nat × Vector CellV 16
 | 0, q, _, cs => (0, q, cs)
 | n + 1, q, la, cs => if l.length ≤ q then (1, q, cs) else if (rdPacked (l.drop (q + 1))).1 ≠ 0 then ((rdPacked (l.drop (q + 1))).1, q, cs)
  else if 15 < (l.getD q 0).toNat ∨ ((l.getD q 0).toNat : Int) ≤ la then (2, q, cs)
  else kvGo l n (q + 1 + (rdPacked (l.drop (q + 1))).2.2) ((l.getD q 0).toNat : Int) (setC cs (l.getD q 0).toNat ⟨true, unfoldN (rdPacked (l.drop (q + 1))).2.1⟩)
theorem kvGo_0 {l : List UInt8} {q : Nat} {la : Int} {cs : Vector CellV 16} : kvGo l 0 q la cs = (0, q, cs) := rfl
theorem kvGo_1 {l : List UInt8} {n q : Nat} {la : Int} {cs : Vector CellV 16} (h : l.length ≤ q) : kvGo l (n + 1) q la cs = (1, q, cs) := if_pos h
theorem kvGo_2 {l : List UInt8} {n q : Nat} {la : Int} {cs : Vector CellV 16} (h : q < l.length) (h2 : (rdPacked (l.drop (q + 1))).1 ≠ 0) : kvGo l (n + 1) q la cs = ((rdPacked (l.drop (q + 1))).1, q, cs) := by rw [kvGo, if_neg (by omega), if_pos h2]
theorem kvGo_3 {l : List UInt8} {n q : Nat} {la : Int} {cs : Vector CellV 16} (h : q < l.length) (h2 : (rdPacked (l.drop (q + 1))).1 = 0) (h3 : 15 < (l.getD q 0).toNat ∨ ((l.getD q 0).toNat : Int) ≤ la) : kvGo l (n + 1) q la cs = (2, q, cs) := by rw [kvGo, if_neg (by omega), if_neg (by omega), if_pos h3]
theorem kvGo_4 {l : List UInt8} {n q : Nat} {la : Int} {cs : Vector CellV 16} (h : q < l.length) (h2 : (rdPacked (l.drop (q + 1))).1 = 0) (h3 : ¬ 15 < (l.getD q 0).toNat ∧ ¬ ((l.getD q 0).toNat : Int) ≤ la) :
 kvGo l (n + 1) q la cs = kvGo l n (q + 1 + (rdPacked (l.drop (q + 1))).2.2) ((l.getD q 0).toNat : Int) (cs.set (l.getD q 0).toNat ⟨true, unfoldN (rdPacked (l.drop (q + 1))).2.1⟩ (by omega)) := by rw [kvGo, if_neg (by omega), if_neg (by omega), if_neg (by omega), setC_lt _ _ (by omega)]
def kvG (l : List UInt8) : Int × Vector CellV 16 :=
 if (rdCount l 16).1 ≠ 0 then ((rdCount l 16).1, Z16) else if (kvGo l (rdCount l 16).2.1 (rdCount l 16).2.2 (-1) Z16).1 ≠ 0 then ((kvGo l (rdCount l 16).2.1 (rdCount l 16).2.2 (-1) Z16).1, Z16)
 else if (kvGo l (rdCount l 16).2.1 (rdCount l 16).2.2 (-1) Z16).2.1 < l.length then (2, Z16) else (0, (kvGo l (rdCount l 16).2.1 (rdCount l 16).2.2 (-1) Z16).2.2)
/-- A world of bytes, part by part: the error, from where, what is had. -/
structure WSt where
 e : Int
 q : Nat
 w : WorldV
def wNext (l : List UInt8) (i : Nat) (s : WSt) : WSt :=
 if s.e ≠ 0 then s else if (rdText (l.drop s.q) 1000).1 ≠ 0 then ⟨(rdText (l.drop s.q) 1000).1, s.q, s.w⟩
 else if i = 0 then ⟨(viewG (rdText (l.drop s.q) 1000).2.1).1, s.q + (rdText (l.drop s.q) 1000).2.2, { s.w with view := (viewG (rdText (l.drop s.q) 1000).2.1).2 }⟩
 else if i = 1 then ⟨(viewG (rdText (l.drop s.q) 1000).2.1).1, s.q + (rdText (l.drop s.q) 1000).2.2, { s.w with was := (viewG (rdText (l.drop s.q) 1000).2.1).2 }⟩
 else if i = 2 then ⟨(kvG (rdText (l.drop s.q) 1000).2.1).1, s.q + (rdText (l.drop s.q) 1000).2.2, { s.w with cs := (kvG (rdText (l.drop s.q) 1000).2.1).2 }⟩
 else ⟨(replyG (rdText (l.drop s.q) 1000).2.1).1, s.q + (rdText (l.drop s.q) 1000).2.2, { s.w with last := setC s.w.last (i - 3) (replyG (rdText (l.drop s.q) 1000).2.1).2 }⟩
def wSt (l : List UInt8) : Nat → WSt
 | 0 => ⟨0, 4, { WorldV.zero with slot := ((rdFixed l 2).2.1 : Int), first := ((rdFixed (l.drop 2) 2).2.1 : Int) }⟩
 | i + 1 => wNext l i (wSt l i)
def worldG (l : List UInt8) : Int × WorldV := if l.length < 4 then (1, .zero) else if (wSt l 9).e ≠ 0 then ((wSt l 9).e, .zero) else if (wSt l 9).q < l.length then (2, .zero) else (0, (wSt l 9).w)
theorem wNext_err {l : List UInt8} {i : Nat} {s : WSt} (h0 : s.e = 0) (h : (rdText (l.drop s.q) 1000).1 ≠ 0) : wNext l i s = ⟨(rdText (l.drop s.q) 1000).1, s.q, s.w⟩ := by unfold wNext; rw [if_neg (by omega), if_pos h]
theorem wNext_0 {l : List UInt8} {s : WSt} (h0 : s.e = 0) (h : (rdText (l.drop s.q) 1000).1 = 0) : wNext l 0 s = ⟨(viewG (rdText (l.drop s.q) 1000).2.1).1, s.q + (rdText (l.drop s.q) 1000).2.2, { s.w with view := (viewG (rdText (l.drop s.q) 1000).2.1).2 }⟩ := by unfold wNext; rw [if_neg (by omega), if_neg (by omega), if_pos rfl]
theorem wNext_1 {l : List UInt8} {s : WSt} (h0 : s.e = 0) (h : (rdText (l.drop s.q) 1000).1 = 0) : wNext l 1 s = ⟨(viewG (rdText (l.drop s.q) 1000).2.1).1, s.q + (rdText (l.drop s.q) 1000).2.2, { s.w with was := (viewG (rdText (l.drop s.q) 1000).2.1).2 }⟩ := by unfold wNext; rw [if_neg (by omega), if_neg (by omega), if_neg (by decide), if_pos rfl]
theorem wNext_2 {l : List UInt8} {s : WSt} (h0 : s.e = 0) (h : (rdText (l.drop s.q) 1000).1 = 0) : wNext l 2 s = ⟨(kvG (rdText (l.drop s.q) 1000).2.1).1, s.q + (rdText (l.drop s.q) 1000).2.2, { s.w with cs := (kvG (rdText (l.drop s.q) 1000).2.1).2 }⟩ := by unfold wNext; rw [if_neg (by omega), if_neg (by omega), if_neg (by decide), if_neg (by decide), if_pos rfl]
theorem wNext_3 {l : List UInt8} {k : Nat} (hk : k < 6) {s : WSt} (h0 : s.e = 0) (h : (rdText (l.drop s.q) 1000).1 = 0) : wNext l (3 + k) s = ⟨(replyG (rdText (l.drop s.q) 1000).2.1).1, s.q + (rdText (l.drop s.q) 1000).2.2, { s.w with last := s.w.last.set k (replyG (rdText (l.drop s.q) 1000).2.1).2 }⟩ := by
 unfold wNext
 rw [if_neg (by omega), if_neg (by omega), if_neg (by omega), if_neg (by omega), if_neg (by omega)]
 rw [show 3 + k - 3 = k by omega, setC_lt _ _ hk]
theorem wSt_stuck {l : List UInt8} {i : Nat} (h : (wSt l i).e ≠ 0) : ∀ j, (wSt l (i + j)) = wSt l i
 | 0 => rfl
 | j + 1 => by
  rw [show i + (j + 1) = (i + j) + 1 by omega, wSt, wSt_stuck h j]
  unfold wNext
  rw [if_pos h]
theorem wSt_fin {l : List UInt8} {i : Nat} (hi : i ≤ 9) (h4 : 4 ≤ l.length) (h : (wSt l i).e ≠ 0) : worldG l = ((wSt l i).e, .zero) := by
 have := wSt_stuck h (9 - i)
 rw [show i + (9 - i) = 9 by omega] at this
 unfold worldG
 rw [if_neg (by omega), this, if_pos h]
theorem wSt_q {l : List UInt8} (h4 : 4 ≤ l.length) : ∀ i, (wSt l i).q ≤ l.length
 | 0 => h4
 | i + 1 => by
  have ih := wSt_q h4 i
  have hb := (rdText_bound (l.drop (wSt l i).q) 1000).1
  rw [List.length_drop] at hb
  rw [wSt]
  unfold wNext
  repeat' split
  all_goals first | exact ih | (show (wSt l i).q + _ ≤ _; omega)
/-- What a world is that can be put. -/
structure GoodW (w : WorldV) : Prop where
 view : ∃ m : Nat, m < 65536 ∧ w.view.mask = (m : Int)
 was : ∃ m : Nat, m < 65536 ∧ w.was.mask = (m : Int)
 cs : ∀ (i : Nat) (hi : i < 16), -9223372036854775808 ≤ w.cs[i].n ∧ w.cs[i].n ≤ 9223372036854775807
 last : ∀ (i : Nat) (hi : i < 6), -9223372036854775808 ≤ w.last[i].res.n ∧ w.last[i].res.n ≤ 9223372036854775807
theorem viewG_mask (l : List UInt8) : ∃ m : Nat, m < 65536 ∧ (viewG l).2.mask = (m : Int) := by
 unfold viewG
 repeat' split
 · exact ⟨0, by decide, rfl⟩
 · exact ⟨0, by decide, rfl⟩
 · exact ⟨_, (rdFixed_two _).1, rfl⟩
theorem kvGo_good {l : List UInt8} : ∀ {n q : Nat} {la : Int} {cs : Vector CellV 16}, (∀ (i : Nat) (hi : i < 16), -9223372036854775808 ≤ cs[i].n ∧ cs[i].n ≤ 9223372036854775807) → ∀ (i : Nat) (hi : i < 16), -9223372036854775808 ≤ (kvGo l n q la cs).2.2[i].n ∧ (kvGo l n q la cs).2.2[i].n ≤ 9223372036854775807
 | 0, _, _, _, h => h
 | n + 1, q, la, cs, h => by
  rw [kvGo]
  repeat' split
  all_goals try exact h
  refine kvGo_good (fun i hi => ?_)
  unfold setC
  split
  · rw [Vector.getElem_set]
    split
    · exact unfoldN_range (rdPacked_bound _).2.2
    · exact h i hi
  · exact h i hi
theorem z16_good : ∀ (i : Nat) (hi : i < 16), -9223372036854775808 ≤ Z16[i].n ∧ Z16[i].n ≤ 9223372036854775807 := fun i hi => by simp [CellV.zero]
theorem kvG_good (l : List UInt8) : ∀ (i : Nat) (hi : i < 16), -9223372036854775808 ≤ (kvG l).2[i].n ∧ (kvG l).2[i].n ≤ 9223372036854775807 := by
 unfold kvG
 repeat' split
 all_goals first | exact z16_good | exact kvGo_good z16_good
theorem replyG_good (l : List UInt8) : -9223372036854775808 ≤ (replyG l).2.res.n ∧ (replyG l).2.res.n ≤ 9223372036854775807 := by
 unfold replyG
 repeat' split
 all_goals first | exact unfoldN_range (rdPacked_bound _).2.2 | exact (show -9223372036854775808 ≤ (0 : Int) ∧ (0 : Int) ≤ 9223372036854775807 by decide)
theorem wSt_good (l : List UInt8) : ∀ i, GoodW (wSt l i).w
 | 0 => ⟨⟨0, by decide, rfl⟩, ⟨0, by decide, rfl⟩, fun i hi => z16_good i hi, fun i hi => by simp [wSt, ReplyV.zero, ResV.zero]⟩
 | i + 1 => by
  obtain ⟨h1, h2, h3, h4⟩ := wSt_good l i
  rw [wSt]
  unfold wNext
  repeat' split
  · exact ⟨h1, h2, h3, h4⟩
  · exact ⟨h1, h2, h3, h4⟩
  · exact ⟨viewG_mask _, h2, h3, h4⟩
  · exact ⟨h1, viewG_mask _, h3, h4⟩
  · exact ⟨h1, h2, kvG_good _, h4⟩
  · refine ⟨h1, h2, h3, fun j hj => ?_⟩
    show -9223372036854775808 ≤ (setC (wSt l i).w.last (i - 3) _)[j].res.n ∧ (setC (wSt l i).w.last (i - 3) _)[j].res.n ≤ 9223372036854775807
    unfold setC
    split
    · rw [Vector.getElem_set]
      split
      · exact replyG_good _
      · exact h4 j hj
    · exact h4 j hj
theorem worldG_good (l : List UInt8) : GoodW (worldG l).2 := by
 have h0 : GoodW WorldV.zero := ⟨⟨0, by decide, rfl⟩, ⟨0, by decide, rfl⟩, fun i hi => z16_good i hi, fun i hi => by simp [ReplyV.zero, ResV.zero]⟩
 unfold worldG
 repeat' split
 all_goals first | exact h0 | exact wSt_good l 9
/-- What a message's body tells: the error, a world, a batch. -/
def bodyG (l : List UInt8) : Int × WorldV × List UInt8 :=
 if (rdText l 65536).1 ≠ 0 ∨ (rdText (l.drop (rdText l 65536).2.2) 65536).1 ≠ 0 ∨ (rdText l 65536).2.2 + (rdText (l.drop (rdText l 65536).2.2) 65536).2.2 < l.length then (2, .zero, [])
 else ((worldG (rdText l 65536).2.1).1, (worldG (rdText l 65536).2.1).2, (rdText (l.drop (rdText l 65536).2.2) 65536).2.1)

theorem getReply_c {w0 : World} {H : List SA} {a : Option Addr} {l : List UInt8} {c : Nat} [hr : RdB w0 H (.slice a l.length c) l] (hl : l.length ≤ 4294967296) :
 CT Tryz.prog w0 (H) 128 [.slice a l.length c] (α := Unit) (fun _ => .tuple #[.agg (replyG l).2.cells, .int .i64 (replyG l).1]) (fun _ => H) := by
 refine CT_intro Tryz.func128 rfl Tryz.ntmps128 rfl (T2 (ze rfl (Ef_allocN (fun b2 => ?_))))
 refine Qai rfl rfl (T4 (Qms rfl rfl (ze rfl (zc (rnew_c hl) rfl (fun x14 => ?_)))))
 refine TL_pure (fun h14 => ?_)
 refine zy (za (.pointer _) rfl) (T4 (ze rfl (Ef_allocN (fun b5 => ?_))))
 refine T4 (ze rfl (Ef_alloc1 (fun b6 => ?_)))
 refine zN (Ef_store1 (.int .i64 _) rfl rfl (TX (zS (T2 (zy (zf 0 rfl rfl) (zy (zf 1 rfl rfl) (zy (zf 2 rfl rfl) (zy (Qt_build_arr #[(.pointer _), (.pointer _), (.pointer _), (.pointer _)] Tryz.underlying270 rfl rfl rfl) (Qmi rfl rfl (TX (zB (T_unroll (TU_round (T2 (zy (Qt_lss rfl rfl) (TX (zS ?_)))))))))))))))))
 refine T_cond_true rfl (by first | rfl | decide) (zk (zx (zS (zB (T2 (zy (Qt_index (.pointer _) rfl rfl Tryz.underlying270 (by omega) (by omega) (rfl)) (zy (za (.pointer _) rfl) (T4 (zy (zm (.pointer _) rfl) (TL_frontB x14.1 (ze rfl (zc (fixed1_c (b := x14.2) (k := 0) (by omega) (by rw [h14]; omega)) rfl (fun x24 => ?_)))))))))))))
 refine TL_pure (fun h24 => ?_)
 have hb0 := x24.1.toNat_lt
 refine zy (zm (.tuple _) rfl) (zy (Qt_extract rfl) (zy (Qt_extract rfl) (zy (za (.int .u64 _) rfl) (Qai rfl rfl (TX (zS (T2 (Qmi rfl rfl (zy (Qt_neq rfl rfl) (TX (zC rfl (fun h28 => ?_) (fun h28 => ?_))))))))))))
 ·
  have p28 := cL h28
  have hs0 : x14.2.l.length ≤ 0 ∧ x24.2.2 = 1 := by
   rcases h24 with ⟨-, -, -, h4⟩ | ⟨h1, -, -, h4⟩
   · omega
   · exact ⟨h1, h4⟩
  refine T2 (zy (zw [] rfl) (Qmi rfl rfl (zN (zs rfl rfl (Qai rfl rfl (TX (zQ (zr (zb (zr (X_again_ret (zb (zr ?_)))))))))))))
  have e : replyG l = (1, .zero) := if_pos (by rw [← h14]; omega)
  rw [e]
  exact zX () [_, _] Tryz.results128 ⟨⟨_, rfl, res_cellN rfl⟩, rfl, trivial⟩ (by rw [hs0.2]; rfl) SB
 have p28 := cL h28
 obtain ⟨hk0, hv0, ha0⟩ : 0 < x14.2.l.length ∧ x24.1 = x14.2.l.getD 0 0 ∧ x24.2.1 = 0 + 1 := by
  rcases h24 with ⟨h1, h2, h3, -⟩ | ⟨-, -, -, h4⟩
  · exact ⟨h1, h2, h3⟩
  · omega
 rw [ha0]
 refine zk (zx (zR (zy (zm (.pointer _) rfl) (zy (zm (.int .u64 _) rfl) (zy (Qt_conv_i64 rfl rfl Tryz.underlying3 (by omega) (by omega)) (zy (Qt_nilCheck rfl) (zN (Ef_store1 (.int .i64 _) rfl rfl (zz (X_block (zx (zR (zy (zj rfl rfl) (Qmi rfl rfl (zz (X_again (TU_round ?_)))))))))))))))))
 refine T2 (zy (Qt_lss rfl rfl) (TX (zS (T_cond_true rfl (by first | rfl | decide) (zk (zx (zS (zB (T2 (zy (Qt_index (.pointer _) rfl rfl Tryz.underlying270 (by omega) (by omega) (rfl)) (zy (za (.pointer _) rfl) (T4 (zy (zm (.pointer _) rfl) (TL_frontB x14.1 ?_))))))))))))))
 refine ze rfl (zc (fixed1_c (b := x14.2) (k := 0 + 1) (by omega) (by rw [h14]; omega)) rfl (fun x24 => ?_))
 refine TL_pure (fun h24 => ?_)
 have hb1 := x24.1.toNat_lt
 refine zy (zm (.tuple _) rfl) (zy (Qt_extract rfl) (zy (Qt_extract rfl) (zy (za (.int .u64 _) rfl) (Qai rfl rfl (TX (zS (T2 (Qmi rfl rfl (zy (Qt_neq rfl rfl) (TX (zC rfl (fun h28 => ?_) (fun h28 => ?_))))))))))))
 ·
  have p28 := cL h28
  have hs1 : x14.2.l.length ≤ 1 ∧ x24.2.2 = 1 := by
   rcases h24 with ⟨-, -, -, h4⟩ | ⟨h1, -, -, h4⟩
   · omega
   · exact ⟨h1, h4⟩
  refine T2 (zy (zw [] rfl) (Qmi rfl rfl (zN (zs rfl rfl (Qai rfl rfl (TX (zQ (zr (zb (zr (X_again_ret (zb (zr ?_)))))))))))))
  have e : replyG l = (1, .zero) := if_pos (by rw [← h14]; omega)
  rw [e]
  exact zX () [_, _] Tryz.results128 ⟨⟨_, rfl, res_cellN rfl⟩, rfl, trivial⟩ (by rw [hs1.2]; rfl) SB
 have p28 := cL h28
 obtain ⟨hk1, hv1, ha1⟩ : 1 < x14.2.l.length ∧ x24.1 = x14.2.l.getD 1 0 ∧ x24.2.1 = 1 + 1 := by
  rcases h24 with ⟨h1, h2, h3, -⟩ | ⟨-, -, -, h4⟩
  · exact ⟨h1, h2, h3⟩
  · omega
 rw [ha1]
 refine zk (zx (zR (zy (zm (.pointer _) rfl) (zy (zm (.int .u64 _) rfl) (zy (Qt_conv_i64 rfl rfl Tryz.underlying3 (by omega) (by omega)) (zy (Qt_nilCheck rfl) (zN (Ef_store1 (.int .i64 _) rfl rfl (zz (X_block (zx (zR (zy (zj rfl rfl) (Qmi rfl rfl (zz (X_again (TU_round ?_)))))))))))))))))
 refine T2 (zy (Qt_lss rfl rfl) (TX (zS (T_cond_true rfl (by first | rfl | decide) (zk (zx (zS (zB (T2 (zy (Qt_index (.pointer _) rfl rfl Tryz.underlying270 (by omega) (by omega) (rfl)) (zy (za (.pointer _) rfl) (T4 (zy (zm (.pointer _) rfl) (TL_frontB x14.1 ?_))))))))))))))
 refine ze rfl (zc (fixed1_c (b := x14.2) (k := 1 + 1) (by omega) (by rw [h14]; omega)) rfl (fun x24 => ?_))
 refine TL_pure (fun h24 => ?_)
 have hb2 := x24.1.toNat_lt
 refine zy (zm (.tuple _) rfl) (zy (Qt_extract rfl) (zy (Qt_extract rfl) (zy (za (.int .u64 _) rfl) (Qai rfl rfl (TX (zS (T2 (Qmi rfl rfl (zy (Qt_neq rfl rfl) (TX (zC rfl (fun h28 => ?_) (fun h28 => ?_))))))))))))
 ·
  have p28 := cL h28
  have hs2 : x14.2.l.length ≤ 2 ∧ x24.2.2 = 1 := by
   rcases h24 with ⟨-, -, -, h4⟩ | ⟨h1, -, -, h4⟩
   · omega
   · exact ⟨h1, h4⟩
  refine T2 (zy (zw [] rfl) (Qmi rfl rfl (zN (zs rfl rfl (Qai rfl rfl (TX (zQ (zr (zb (zr (X_again_ret (zb (zr ?_)))))))))))))
  have e : replyG l = (1, .zero) := if_pos (by rw [← h14]; omega)
  rw [e]
  exact zX () [_, _] Tryz.results128 ⟨⟨_, rfl, res_cellN rfl⟩, rfl, trivial⟩ (by rw [hs2.2]; rfl) SB
 have p28 := cL h28
 obtain ⟨hk2, hv2, ha2⟩ : 2 < x14.2.l.length ∧ x24.1 = x14.2.l.getD 2 0 ∧ x24.2.1 = 2 + 1 := by
  rcases h24 with ⟨h1, h2, h3, -⟩ | ⟨-, -, -, h4⟩
  · exact ⟨h1, h2, h3⟩
  · omega
 rw [ha2]
 refine zk (zx (zR (zy (zm (.pointer _) rfl) (zy (zm (.int .u64 _) rfl) (zy (Qt_conv_i64 rfl rfl Tryz.underlying3 (by omega) (by omega)) (zy (Qt_nilCheck rfl) (zN (Ef_store1 (.int .i64 _) rfl rfl (zz (X_block (zx (zR (zy (zj rfl rfl) (Qmi rfl rfl (zz (X_again (TU_round ?_)))))))))))))))))
 refine T2 (zy (Qt_lss rfl rfl) (TX (zS (T_cond_true rfl (by first | rfl | decide) (zk (zx (zS (zB (T2 (zy (Qt_index (.pointer _) rfl rfl Tryz.underlying270 (by omega) (by omega) (rfl)) (zy (za (.pointer _) rfl) (T4 (zy (zm (.pointer _) rfl) (TL_frontB x14.1 ?_))))))))))))))
 refine ze rfl (zc (fixed1_c (b := x14.2) (k := 2 + 1) (by omega) (by rw [h14]; omega)) rfl (fun x24 => ?_))
 refine TL_pure (fun h24 => ?_)
 have hb3 := x24.1.toNat_lt
 refine zy (zm (.tuple _) rfl) (zy (Qt_extract rfl) (zy (Qt_extract rfl) (zy (za (.int .u64 _) rfl) (Qai rfl rfl (TX (zS (T2 (Qmi rfl rfl (zy (Qt_neq rfl rfl) (TX (zC rfl (fun h28 => ?_) (fun h28 => ?_))))))))))))
 ·
  have p28 := cL h28
  have hs3 : x14.2.l.length ≤ 3 ∧ x24.2.2 = 1 := by
   rcases h24 with ⟨-, -, -, h4⟩ | ⟨h1, -, -, h4⟩
   · omega
   · exact ⟨h1, h4⟩
  refine T2 (zy (zw [] rfl) (Qmi rfl rfl (zN (zs rfl rfl (Qai rfl rfl (TX (zQ (zr (zb (zr (X_again_ret (zb (zr ?_)))))))))))))
  have e : replyG l = (1, .zero) := if_pos (by rw [← h14]; omega)
  rw [e]
  exact zX () [_, _] Tryz.results128 ⟨⟨_, rfl, res_cellN rfl⟩, rfl, trivial⟩ (by rw [hs3.2]; rfl) SB
 have p28 := cL h28
 obtain ⟨hk3, hv3, ha3⟩ : 3 < x14.2.l.length ∧ x24.1 = x14.2.l.getD 3 0 ∧ x24.2.1 = 3 + 1 := by
  rcases h24 with ⟨h1, h2, h3, -⟩ | ⟨-, -, -, h4⟩
  · exact ⟨h1, h2, h3⟩
  · omega
 rw [ha3]
 refine zk (zx (zR (zy (zm (.pointer _) rfl) (zy (zm (.int .u64 _) rfl) (zy (Qt_conv_i64 rfl rfl Tryz.underlying3 (by omega) (by omega)) (zy (Qt_nilCheck rfl) (zN (Ef_store1 (.int .i64 _) rfl rfl (zz (X_block (zx (zR (zy (zj rfl rfl) (Qmi rfl rfl (zz (X_again (TU_round ?_)))))))))))))))))
 refine T2 (zy (Qt_lss rfl rfl) (TX (zS (T_cond_false rfl (by first | rfl | decide) (zY (zG (X_again_exit (zE (zx (T2 (zy (zm (.pointer _) rfl) (TL_frontB x14.1 (ze rfl (zc (folded_c (b := x14.2) (k := 3 + 1) (by omega) (by rw [h14]; omega)) rfl (fun x38 => ?_)))))))))))))))
 refine zy (zm (.tuple _) rfl) (zy (Qt_extract rfl) (zy (Qt_extract rfl) (Qai rfl rfl (Qai rfl rfl (TX (zS (T2 (Qmi rfl rfl (zy (Qt_neq rfl rfl) (TX (zC rfl (fun h42 => ?_) (fun h42 => ?_))))))))))))
 ·
  have p42 := cL h42
  refine T2 (zy (zw [] rfl) (Qmi rfl rfl (zN (zs rfl rfl (Qai rfl rfl (TX (zQ (zr ?_))))))))
  have e : replyG l = ((rdPacked (x14.2.l.drop (3 + 1))).1, .zero) := by rw [← h14]; unfold replyG; rw [if_neg (by omega), if_pos p42]
  rw [e]
  exact zX () [_, _] Tryz.results128 ⟨⟨_, rfl, res_cellN rfl⟩, rfl, trivial⟩ rfl SB
 have p42 := cL h42
 refine zk (zx (zS (T2 (zy (zl rfl) (zy (Qt_gtr rfl rfl) (Qmb rfl rfl (TL_split 47 rfl (fun h47 => ?_) (fun h47 => ?_))))))))
 ·
  have p47 := cL h47
  refine zp rfl rfl h47 rfl (TL_frontB x14.1 (zp rfl rfl h47 rfl (zp rfl rfl h47 rfl (zy (zT (.bool _) rfl h47 rfl) (TX (T_cond_true rfl rfl (T2 (zy (zw [] rfl) (zN (zs rfl rfl (Qai rfl rfl (TX (zQ (zr ?_))))))))))))))
  have e : replyG l = (2, .zero) := by
   rw [← h14]; unfold replyG; rw [if_neg (by omega), if_neg (by simpa using p42), if_pos (by rw [← hv3]; first | omega | (simp only [show (3 : Nat) + 1 = 4 from rfl] at p51; split at p51 <;> omega))]
  rw [e]
  exact zX () [_, _] Tryz.results128 ⟨⟨_, rfl, res_cellN rfl⟩, rfl, trivial⟩ rfl SB
 have p47 := cL h47
 refine zt rfl rfl h47 (zy (zm (.pointer _) rfl) (TL_frontB x14.1 (zt rfl rfl h47 (ze rfl (zc (done_c (b := x14.2) (k := 3 + 1 + (rdPacked (x14.2.l.drop (3 + 1))).2.2) (by have := (rdPacked_bound (x14.2.l.drop (3 + 1))).2.1; rw [List.length_drop] at this; omega) (by rw [h14]; omega)) rfl (fun x49 => ?_))))))
 refine zt rfl rfl h47 (zy (Qt_neq rfl rfl) (zy (zF (.bool _) rfl h47 rfl) (TX (zC rfl (fun h51 => ?_) (fun h51 => ?_)))))
 ·
  have p51 := cL h51
  refine T2 (zy (zw [] rfl) (zN (zs rfl rfl (Qai rfl rfl (TX (zQ (zr ?_)))))))
  have e : replyG l = (2, .zero) := by
   rw [← h14]; unfold replyG; rw [if_neg (by omega), if_neg (by simpa using p42), if_pos (by rw [← hv3]; first | omega | (simp only [show (3 : Nat) + 1 = 4 from rfl] at p51; split at p51 <;> omega))]
  rw [e]
  exact zX () [_, _] Tryz.results128 ⟨⟨_, rfl, res_cellN rfl⟩, rfl, trivial⟩ rfl SB
 have p51 := cL h51
 refine S4 (zy (zl rfl) (zy (Qt_eql rfl rfl) (Qmi rfl rfl (zy (zw [(0, (.bool _)), (1, (.int .i64 _))] rfl) (zy (zf 3 rfl rfl) (zN (zs rfl rfl (T4 (zy (zn rfl rfl) (zN (zs rfl rfl (?_))))))))))))
 refine Qai rfl rfl (TX (zQ ?_))
 have e : replyG l = (0, ReplyV.mk (x14.2.l.getD 0 0).toNat (x14.2.l.getD 1 0).toNat (x14.2.l.getD 2 0).toNat (ResV.mk (decide (((x14.2.l.getD 3 0).toNat : Int) = 1)) (unfoldN (rdPacked (x14.2.l.drop 4)).2.1))) := by
  rw [← h14]; unfold replyG; rw [if_neg (by omega), if_neg (by simpa using p42), if_neg (by rw [← hv3]; simp only [show (3 : Nat) + 1 = 4 from rfl] at p51; split at p51 <;> omega)]
 rw [e, ← hv0, ← hv1, ← hv2, ← hv3, if_pos p42]
 exact zX () [_, _] Tryz.results128 ⟨⟨_, rfl, res_cellN rfl⟩, rfl, trivial⟩ rfl SB
end
section
open Go.RowKit Go.Sx
set_option maxRecDepth 100000
attribute [local irreducible] rdFixed rdText rdPacked rdCount kvGo replyG wSt sha worldB
set_option maxHeartbeats 1000000 in
theorem viewsGetE_c {w0 : World} {H : List SA} {a : Option Addr} {l : List UInt8} {c : Nat} [hr : RdB w0 H (.slice a l.length c) l] (hl : l.length ≤ 4294967296) :
 CT Tryz.prog w0 (H) 165 [.slice a l.length c] (α := Unit) (fun _ => .tuple #[.agg (viewG l).2.cells, .int .i64 (viewG l).1]) (fun _ => H) := by
 refine CT_intro Tryz.func165 rfl Tryz.ntmps165 rfl ?_
 refine T2 ?_
 refine ze rfl (Ef_allocN (fun b2 => ?_))
 refine Qai rfl rfl (T4 (Qms rfl rfl ?_))
 refine ze rfl (zc (rnew_c hl) rfl (fun x11 => ?_))
 refine TL_pure (fun h11 => ?_)
 refine zq (za (.pointer _) rfl) rfl (T4 (zq (zm (.pointer _) rfl) rfl (TL_frontB x11.1 ?_)))
 refine ze rfl (zc (fixed_c (b := x11.2) (k := 0) (Nat.zero_le _) (by rw [h11]; omega) (n := 2)) rfl (fun x14 => ?_))
 rw [List.drop_zero, Nat.zero_add]
 have hf1 := rdFixed_two x11.2.l
 refine zq (zm (.tuple _) rfl) rfl (zq (Qt_extract rfl) rfl (zq (Qt_extract rfl) rfl (zq (za (.int .u64 _) rfl) rfl (Qai rfl rfl (T4 ?_)))))
 refine zq (zm (.pointer _) rfl) rfl (TL_frontB x11.1 ?_)
 refine ze rfl (zc (fixed_c (b := x11.2) (k := (rdFixed x11.2.l 2).2.2) hf1.2 (by rw [h11]; omega) (n := 2)) rfl (fun x19 => ?_))
 have hf2 := rdFixed_two (x11.2.l.drop 2)
 refine zq (zm (.tuple _) rfl) rfl (zq (Qt_extract rfl) rfl (zq (Qt_extract rfl) rfl (zq (za (.int .u64 _) rfl) rfl (Qai rfl rfl (TX (zS (T2 ?_)))))))
 refine Qmi rfl rfl (zq (Qt_neq rfl rfl) rfl (TX (zC rfl (fun h23 => ?_) (fun h23 => ?_))))
 ·
  have p23 := h23
  try simp only [dp] at p23
  refine T2 (zq (Qt_build [] rfl (by kernel_rfl)) rfl ?_)
  refine zN (zs rfl rfl (?_))
  refine Qai rfl rfl (TX (zQ (zr ?_)))
  have e : viewG l = (1, .zero) := by
   rw [← h11]; unfold viewG; exact if_pos (two_err (by simpa using h23))
  rw [e]
  exact zX () [_, _] Tryz.results165 ⟨⟨_, rfl, res_cellN rfl⟩, rfl, trivial⟩ rfl SB
 have p23 := h23
 try simp only [dp] at p23
 obtain ⟨hL4, hf3, hf4⟩ := two_fine (l := x11.2.l) (by simpa using h23)
 rw [hf3, hf4]
 refine S4 (zq (zm (.int .u64 _) rfl) rfl (zq (Qt_conv_i64 rfl rfl Tryz.underlying3 (by omega) (by omega)) rfl (zq (zm (.int .u64 _) rfl) rfl (zq (Qt_conv rfl rfl Tryz.underlying22) rfl ?_))))
 rw [wrap_nat .u16 rfl (by show _ < 2 ^ 16; omega)]
 refine zq (Qt_build [(0, (.int .i64 _)), (1, (.int .u16 _))] rfl (by kernel_rfl)) rfl ?_
 refine ze rfl (Ef_allocN (fun b9 => ?_))
 refine zN (zs rfl rfl (?_))
 refine TX (zS (T2 ?_))
 refine zq (zm (.pointer _) rfl) rfl (TL_frontB x11.1 ?_)
 refine ze rfl (zc (done_c (b := x11.2) (k := 2 + 2) (by omega) (by rw [h11]; omega)) rfl (fun x31 => ?_))
 refine zq (Qt_neq rfl rfl) rfl (Qmb rfl rfl ?_)
 refine TL_split 33 rfl (fun h33 => ?_) (fun h33 => ?_)
 ·
  have p33 := h33
  try simp only [dp] at p33
  have hdn : 4 < x11.2.l.length := by by_cases hh : 2 + 2 < x11.2.l.length; exact hh; simp [hh] at h33
  refine zp rfl rfl h33 rfl (zp rfl rfl h33 rfl (zp rfl rfl h33 rfl (zq (zT (.bool _) rfl h33 rfl) rfl (TX (T_cond_true rfl rfl ?_)))))
  refine T2 (zq (Qt_build [] rfl (by kernel_rfl)) rfl ?_)
  refine zN (zs rfl rfl (?_))
  refine Qai rfl rfl (TX (zQ (zr ?_)))
  have e : viewG l = (2, .zero) := by
   rw [← h11]; unfold viewG; rw [if_neg (by omega), if_pos (by first | exact .inl hdn | exact .inr (by simpa using h37))]
  rw [e]
  exact zX () [_, _] Tryz.results165 ⟨⟨_, rfl, res_cellN rfl⟩, rfl, trivial⟩ rfl SB
 have p33 := h33
 try simp only [dp] at p33
 have hdn : ¬ 4 < x11.2.l.length := by intro hh; simp [show 2 + 2 < x11.2.l.length from hh] at h33
 refine zt rfl rfl h33 (zq (zn rfl rfl) rfl (zt rfl rfl h33 ?_))
 refine ze rfl (zc (right_v (num := ((rdFixed x11.2.l 2).2.1 : Int)) (mk := (rdFixed (x11.2.l.drop 2) 2).2.1) (by omega)) rfl (fun x35 => ?_))
 refine zt rfl rfl h33 (zq (Qt_not rfl) rfl (zq (zF (.bool _) rfl h33 rfl) rfl (TX (zC rfl (fun h37 => ?_) (fun h37 => ?_)))))
 ·
  have p37 := h37
  try simp only [dp] at p37
  refine T2 (zq (Qt_build [] rfl (by kernel_rfl)) rfl ?_)
  refine zN (zs rfl rfl (?_))
  refine Qai rfl rfl (TX (zQ (zr ?_)))
  have e : viewG l = (2, .zero) := by
   rw [← h11]; unfold viewG; rw [if_neg (by omega), if_pos (by first | exact .inl hdn | exact .inr (by simpa using h37))]
  rw [e]
  exact zX () [_, _] Tryz.results165 ⟨⟨_, rfl, res_cellN rfl⟩, rfl, trivial⟩ rfl SB
 have p37 := h37
 try simp only [dp] at p37
 refine S4 (zq (zn rfl rfl) rfl ?_)
 refine zN (zs rfl rfl (?_))
 refine Qai rfl rfl (TX (zQ ?_))
 have e : viewG l = (0, ⟨((rdFixed x11.2.l 2).2.1 : Int), ((rdFixed (x11.2.l.drop 2) 2).2.1 : Int)⟩) := by
  rw [← h11]; unfold viewG; rw [if_neg (by omega), if_neg (by rintro (h | h); exact hdn h; rw [h] at h37; cases h37)]
 rw [e]
 exact zX () [_, _] Tryz.results165 ⟨⟨_, rfl, res_cellN rfl⟩, rfl, trivial⟩ rfl SB
set_option maxHeartbeats 1000000 in
theorem eviewE_c {w0 : World} {H : List SA} {p k : Nat} {b : BS} [rb : RdB w0 H (.slice b.a b.l.length b.c) b.l] (hk : k ≤ b.l.length) (hl : b.l.length ≤ 4294967296) :
 CT Tryz.prog w0 (blk p (.cells (ReaderV.mk b (k : Int)).cells 222 (0, 0)) :: H) 126 [.pointer (some ⟨p, 0, none⟩)] (α := Unit) (fun _ => .tuple #[.agg (evG (b.l.drop k)).2.cells, .int .i64 (evG (b.l.drop k)).1]) (fun _ => blk p (.cells (ReaderV.mk b ((k + (rdText (b.l.drop k) 1000).2.2 : Nat) : Int)).cells 222 (0, 0)) :: H) := by
 refine CT_intro Tryz.func126 rfl Tryz.ntmps126 rfl ?_
 refine T2 ?_
 refine ze rfl (Ef_allocN (fun b2 => ?_))
 refine Qai rfl rfl (T4 (zq (zm (.pointer _) rfl) rfl (TL_frontB p ?_)))
 refine ze rfl (zc (text_c (m := 1000) hk hl (by decide)) rfl (fun x8 => ?_))
 have htb := (rdText_bound (b.l.drop k) 1000).2
 rw [List.length_drop] at htb
 refine zq (zm (.tuple _) rfl) rfl (zq (Qt_extract rfl) rfl (zq (Qt_extract rfl) rfl (Qas rfl rfl (Qai rfl rfl (TX (zS (T2 ?_)))))))
 refine Qmi rfl rfl (zq (Qt_neq rfl rfl) rfl (TX (zC rfl (fun h12 => ?_) (fun h12 => ?_))))
 ·
  have p12 := h12
  try simp only [dp] at p12
  refine T2 (zq (Qt_build [] rfl (by kernel_rfl)) rfl (Qmi rfl rfl ?_))
  refine zN (zs rfl rfl (?_))
  refine Qai rfl rfl (TX (zQ (zr ?_)))
  have e : evG (b.l.drop k) = ((rdText (b.l.drop k) 1000).1, .zero) := if_pos (by simpa using h12)
  rw [e]
  exact zX () [_, _] Tryz.results126 ⟨⟨_, rfl, res_cellN rfl⟩, rfl, trivial⟩ rfl SB
 have p12 := h12
 try simp only [dp] at p12
 refine S4 (Qms rfl rfl ?_)
 refine ze rfl (zc (viewsGetE_c (a := x8.a) (l := (rdText (b.l.drop k) 1000).2.1) (c := x8.c) (by omega)) rfl (fun x16 => ?_))
 refine zq (Qt_extract rfl) rfl (zq (Qt_extract rfl) rfl ?_)
 refine zN (zs rfl rfl (?_))
 refine Qai rfl rfl (TX (zQ ?_))
 have e : evG (b.l.drop k) = viewG (rdText (b.l.drop k) 1000).2.1 := if_neg (by simpa using h12)
 rw [e]
 exact zX () [_, _] Tryz.results126 ⟨⟨_, rfl, res_cellN rfl⟩, rfl, trivial⟩ rfl SB
set_option maxHeartbeats 1000000 in
theorem kvSome_c {w0 : World} {H : List SA} {x : Int} :
 CT Tryz.prog w0 (H) 167 [.int .i64 x] (α := Unit) (fun _ => .agg (CellV.mk true x).cells) (fun _ => H) := by
 refine CT_intro Tryz.func167 rfl Tryz.ntmps167 rfl ?_
 refine T2 ?_
 refine ze rfl (Ef_allocN (fun b2 => ?_))
 refine T4 (Qmi rfl rfl (zq (Qt_build [(0, (.bool _)), (1, (.int .i64 _))] rfl (by kernel_rfl)) rfl ?_))
 refine zN (zs rfl rfl (?_))
 refine TX (zQ ?_)
 exact zX () [_] Tryz.results167 ⟨⟨_, rfl, res_cellN rfl⟩, trivial⟩ rfl SB
set_option maxHeartbeats 1000000 in
theorem kvGetE_c {w0 : World} {H : List SA} {a : Option Addr} {l : List UInt8} {c : Nat} [hr : RdB w0 H (.slice a l.length c) l] (hl : l.length ≤ 4294967296) :
 CT Tryz.prog w0 (H) 127 [.slice a l.length c] (α := Unit) (fun _ => .tuple #[.agg (flatV CellV.list (kvG l).2).toArray, .int .i64 (kvG l).1]) (fun _ => H) := by
 refine CT_intro Tryz.func127 rfl Tryz.ntmps127 rfl ?_
 refine T2 ?_
 refine ze rfl (Ef_allocN (fun b2 => ?_))
 refine Qai rfl rfl (T4 (Qms rfl rfl ?_))
 refine ze rfl (zc (rnew_c hl) rfl (fun x13 => ?_))
 refine TL_pure (fun h13 => ?_)
 refine zq (za (.pointer _) rfl) rfl (T4 (zq (zm (.pointer _) rfl) rfl (TL_frontB x13.1 ?_)))
 refine ze rfl (zc (count_c (m := 16) (b := x13.2) (k := 0) (Nat.zero_le _) (by rw [h13]; omega) (by decide)) rfl (fun x16 => ?_))
 rw [List.drop_zero, Nat.zero_add]
 obtain ⟨hb1, hb2, hb3⟩ := rdCount_bound x13.2.l 16
 refine zq (zm (.tuple _) rfl) rfl (zq (Qt_extract rfl) rfl (zq (Qt_extract rfl) rfl (Qai rfl rfl (Qai rfl rfl (TX (zS (T2 ?_)))))))
 refine Qmi rfl rfl (zq (Qt_neq rfl rfl) rfl (TX (zC rfl (fun h20 => ?_) (fun h20 => ?_))))
 ·
  have p20 := h20
  try simp only [dp] at p20
  refine T2 (zq (Qt_build_arr (flatV CellV.list Z16).toArray (sz := 2) Tryz.underlying60 rfl rfl rfl) rfl (Qmi rfl rfl ?_))
  refine zN (zs rfl rfl (?_))
  refine Qai rfl rfl (TX (zQ (zr ?_)))
  have e : kvG l = ((rdCount x13.2.l 16).1, Z16) := by
   rw [← h13]; unfold kvG; exact if_pos (by simpa using h20)
  rw [e]
  exact zX () [_, _] Tryz.results127 ⟨⟨_, rfl, res_cellN rfl⟩, rfl, trivial⟩ rfl SB
 have p20 := h20
 try simp only [dp] at p20
 have hc0 : (rdCount x13.2.l 16).1 = 0 := by simpa using h20
 have hc4 := (rdCount_ok hc0).2.1
 rw [← show rdCount x13.2.l 16 = rdPacked x13.2.l from (rdCount_ok hc0).1] at hc4
 refine S4 ?_
 refine ze rfl (Ef_allocN (fun b7 => ?_))
 refine T4 (Qai rfl rfl (TX (zS (T2 ?_))))
 refine Qmi rfl rfl (Qmi rfl rfl (TX (zB ?_)))
 refine T_loop [3, 8, 9, 10, 11, 24, 25, 26, 27, 28, 29, 30, 31, 32, 33, 34, 35, 36, 37, 38, 39, 40, 41, 42, 43, 44, 45, 46, 47, 48, 49, 50, 51, 52, 53, 54, 55, 56, 57, 58, 59, 60] [24, 8] (fun us H' => ∃ (k : Nat) (q : Nat) (la : Int) (cs : Vector CellV 16), us = [.int .i64 (k : Int), .int .i64 la] ∧ blk x13.1 (.cells (ReaderV.mk x13.2 (q : Int)).cells 222 (0, 0)) :: blk b7 (.cells (flatV CellV.list cs).toArray 60 (0, 0)) :: blk b2 (.cells (flatV CellV.list Z16).toArray 60 (0, 0)) :: row (.slice x13.2.a x13.2.l.length x13.2.c) 5 1 (bytesV x13.2.l) :: H = H' ∧ k ≤ (rdCount x13.2.l 16).2.1 ∧ (q ≤ x13.2.l.length) ∧ ((kvGo x13.2.l (rdCount x13.2.l 16).2.1 (rdCount x13.2.l 16).2.2 (-1) Z16) = kvGo x13.2.l ((rdCount x13.2.l 16).2.1 - k) q la cs)) (fun us => match us with | .int _ i :: _ => (rdCount x13.2.l 16).2.1 - i.toNat | _ => 0) ⟨0, (rdCount x13.2.l 16).2.2, -1, Z16, rfl, rfl, by omega, hb2, rfl⟩ SB ?_
 rintro τ0 _ _  ⟨k, q, la, cs, rfl, rfl, hk0, hat, hi⟩ _
 refine T2 (zq (Qt_lss rfl rfl) rfl (TX (zS ?_)))
 refine zC rfl (fun h25 => ?_) (fun h25 => ?_)
 ·
  have p25 := h25
  try simp only [dp] at p25
  have hk : k < (rdCount x13.2.l 16).2.1 := by omega
  rw [show (rdCount x13.2.l 16).2.1 - k = ((rdCount x13.2.l 16).2.1 - (k + 1)) + 1 from by omega] at hi
  refine zk (zx (zS (zB (T2 ?_))))
  refine zq (zm (.pointer _) rfl) rfl (TL_frontB x13.1 ?_)
  refine ze rfl (zc (fixed1_c (b := x13.2) (k := q) hat (by rw [h13]; omega)) rfl (fun x28 => ?_))
  refine TL_pure (fun h28 => ?_)
  obtain ⟨u, qq, ee⟩ := x28
  simp only [Rd1] at h28
  have h28u := u.toNat_lt
  refine zq (zm (.tuple _) rfl) rfl (zq (Qt_extract rfl) rfl (zq (Qt_extract rfl) rfl (zq (za (.int .u64 _) rfl) rfl (Qai rfl rfl (TX (zS (T2 ?_)))))))
  refine Qmi rfl rfl (zq (Qt_neq rfl rfl) rfl (TX (zC rfl (fun h32 => ?_) (fun h32 => ?_))))
  ·
   have p32 := h32
   try simp only [dp] at p32
   have hs : x13.2.l.length ≤ q ∧ ee = 1 := by
    rcases h28 with ⟨-, -, -, h4⟩ | ⟨h1, -, -, h4⟩
    · (try simp only at p32); omega
    · exact ⟨h1, h4⟩
   obtain ⟨hs, rfl⟩ := hs
   rw [kvGo_1 hs] at hi
   refine T2 (zq (Qt_build_arr (flatV CellV.list Z16).toArray (sz := 2) Tryz.underlying60 rfl rfl rfl) rfl (Qmi rfl rfl ?_))
   refine zN (zs rfl rfl (?_))
   refine Qai rfl rfl (TX (zQ (zr (zb (zr (X_loop_ret (zb (zr ?_))))))))
   have e : kvG l = (1, Z16) := by
    rw [← h13]; unfold kvG; rw [if_neg (by simpa using h20), hi, if_pos (show ¬ (1 : Int) = 0 by decide)]
   rw [e]
   exact zX () [_, _] Tryz.results127 ⟨⟨_, rfl, res_cellN rfl⟩, rfl, trivial⟩ rfl SB
  have p32 := h32
  try simp only [dp] at p32
  obtain ⟨hqk, hqu, hqa⟩ : q < x13.2.l.length ∧ u = (x13.2.l.getD q 0) ∧ qq = q + 1 := by
   rcases h28 with ⟨h1, h2, h3, -⟩ | ⟨-, -, -, h4⟩
   · exact ⟨h1, h2, h3⟩
   · (try simp only at p32); omega
  subst hqa
  refine S4 (zq (zm (.pointer _) rfl) rfl (TL_frontB x13.1 ?_))
  refine ze rfl (zc (folded_c (b := x13.2) (k := q + 1) (by omega) (by rw [h13]; omega)) rfl (fun x37 => ?_))
  have hpb := (rdPacked_bound (x13.2.l.drop (q + 1))).2.1
  rw [List.length_drop] at hpb
  refine zq (zm (.tuple _) rfl) rfl (zq (Qt_extract rfl) rfl (zq (Qt_extract rfl) rfl (Qai rfl rfl (Qai rfl rfl (TX (zS (T2 ?_)))))))
  refine Qmi rfl rfl (zq (Qt_neq rfl rfl) rfl (TX (zC rfl (fun h41 => ?_) (fun h41 => ?_))))
  ·
   have p41 := h41
   try simp only [dp] at p41
   rw [kvGo_2 hqk (by simpa using h41)] at hi
   refine T2 (zq (Qt_build_arr (flatV CellV.list Z16).toArray (sz := 2) Tryz.underlying60 rfl rfl rfl) rfl (Qmi rfl rfl ?_))
   refine zN (zs rfl rfl (?_))
   refine Qai rfl rfl (TX (zQ (zr (zb (zr (X_loop_ret (zb (zr ?_))))))))
   have e : kvG l = ((rdPacked (x13.2.l.drop (q + 1))).1, Z16) := by
    rw [← h13]; unfold kvG; rw [if_neg (by simpa using h20), hi, if_pos (by simpa using h41)]
   rw [e]
   exact zX () [_, _] Tryz.results127 ⟨⟨_, rfl, res_cellN rfl⟩, rfl, trivial⟩ rfl SB
  have p41 := h41
  try simp only [dp] at p41
  have hp0 : (rdPacked (x13.2.l.drop (q + 1))).1 = 0 := by simpa using h41
  rw [if_pos hp0]
  refine zk (zx (zS (T2 ?_)))
  refine zq (zm (.int .u64 _) rfl) rfl (zq (Qt_conv_i64 rfl rfl Tryz.underlying3 (by dsimp only; omega) (by dsimp only; omega)) rfl (zq (Qt_geq rfl rfl) rfl (Qmb rfl rfl ?_)))
  refine TL_split 47 rfl (fun h47 => ?_) (fun h47 => ?_)
  ·
   have p47 := h47
   try simp only [dp] at p47
   refine zp rfl rfl h47 rfl (zp rfl rfl h47 rfl (zp rfl rfl h47 rfl (zp rfl rfl h47 rfl (zq (zT (.bool _) rfl h47 rfl) rfl (TX ?_)))))
   refine T_cond_true rfl rfl ?_
   rw [kvGo_3 hqk hp0 (by rw [← hqu]; first | (left; omega) | (right; omega))] at hi
   refine T2 (zq (Qt_build_arr (flatV CellV.list Z16).toArray (sz := 2) Tryz.underlying60 rfl rfl rfl) rfl ?_)
   refine zN (zs rfl rfl (?_))
   refine Qai rfl rfl (TX (zQ (zr (zb (zr (X_loop_ret (zb (zr ?_))))))))
   have e : kvG l = (2, Z16) := by
    rw [← h13]; unfold kvG; rw [if_neg (by simpa using h20), hi, if_pos (show ¬ (2 : Int) = 0 by decide)]
   rw [e]
   exact zX () [_, _] Tryz.results127 ⟨⟨_, rfl, res_cellN rfl⟩, rfl, trivial⟩ rfl SB
  have p47 := h47
  try simp only [dp] at p47
  refine zt rfl rfl h47 (zq (zm (.int .u64 _) rfl) rfl (zt rfl rfl h47 (zq (Qt_conv_i64 rfl rfl Tryz.underlying3 (by dsimp only; omega) (by dsimp only; omega)) rfl (zt rfl rfl h47 (Qmi rfl rfl ?_)))))
  refine zt rfl rfl h47 (zq (Qt_leq rfl rfl) rfl (zq (zF (.bool _) rfl h47 rfl) rfl (TX (zC rfl (fun h52 => ?_) (fun h52 => ?_)))))
  ·
   have p52 := h52
   try simp only [dp] at p52
   rw [kvGo_3 hqk hp0 (by rw [← hqu]; first | (left; omega) | (right; omega))] at hi
   refine T2 (zq (Qt_build_arr (flatV CellV.list Z16).toArray (sz := 2) Tryz.underlying60 rfl rfl rfl) rfl ?_)
   refine zN (zs rfl rfl (?_))
   refine Qai rfl rfl (TX (zQ (zr (zb (zr (X_loop_ret (zb (zr ?_))))))))
   have e : kvG l = (2, Z16) := by
    rw [← h13]; unfold kvG; rw [if_neg (by simpa using h20), hi, if_pos (show ¬ (2 : Int) = 0 by decide)]
   rw [e]
   exact zX () [_, _] Tryz.results127 ⟨⟨_, rfl, res_cellN rfl⟩, rfl, trivial⟩ rfl SB
  have p52 := h52
  try simp only [dp] at p52
  have hk16 : u.toNat < 16 := by omega
  have hput : Put (flatV CellV.list cs).toArray (u.toNat * 2) (.agg (CellV.mk true (unfoldN (rdPacked (x13.2.l.drop (q + 1))).2.1)).cells) _ := put_elem CellV.list 2 CellV.list_len cs u.toNat hk16 (CellV.mk true (unfoldN (rdPacked (x13.2.l.drop (q + 1))).2.1))
  have hgo := kvGo_4 (n := (rdCount x13.2.l 16).2.1 - (k + 1)) (la := la) (cs := cs) hqk hp0 (by rw [← hqu]; constructor <;> omega)
  rw [hgo] at hi
  refine S4 (zq (zm (.int .u64 _) rfl) rfl (zq (Qt_conv_i64 rfl rfl Tryz.underlying3 (by dsimp only; omega) (by dsimp only; omega)) rfl (Qai rfl rfl (TX (zR ?_)))))
  refine zq (zm (.int .u64 _) rfl) rfl (Qmi rfl rfl ?_)
  refine ze rfl (zc (kvSome_c) rfl (fun x58 => ?_))
  refine zq (Qt_indexAddr_arrC (sz := 2) (u.toNat * 2) u.toNat rfl rfl Tryz.underlying60 rfl rfl (by rw [Nat.blt_eq]; exact hk16) (by omega)) rfl ?_
  refine zN (zs rfl rfl (?_))
  refine zz (X_block (zx (zR ?_)))
  refine zq (Qt_add rfl rfl (by omega) (by omega)) rfl (Qmi rfl rfl (zz ?_))
  apply X_loop
  case ha => exact (by repeat (first | with_reducible exact agree_refl | refine agree_upd rfl ?_ | refine agree_mix rfl ?_ | refine agree_setAll rfl ?_))
  case hI => exact ⟨k + 1, (q + 1 + (rdPacked (x13.2.l.drop (q + 1))).2.2), (u.toNat : Int), cs.set u.toNat (CellV.mk true (unfoldN (rdPacked (x13.2.l.drop (q + 1))).2.1)), rfl, rfl, by omega, by omega, by rw [hi]; simp only [← hqu]⟩
  case hm => exact by show (rdCount x13.2.l 16).2.1 - (k + 1 : Int).toNat < (rdCount x13.2.l 16).2.1 - (k : Int).toNat; omega
  case hH => exact SB
 have p25 := h25
 try simp only [dp] at p25
 have hkn : k = (rdCount x13.2.l 16).2.1 := by omega
 rw [hkn, Nat.sub_self] at hi
 have hie : (kvGo x13.2.l (rdCount x13.2.l 16).2.1 (rdCount x13.2.l 16).2.2 (-1) Z16) = (0, q, cs) := hi.trans kvGo_0
 refine zY (zG (zW (zE (zx (zS (T2 ?_))))))
 refine zq (zm (.pointer _) rfl) rfl (TL_frontB x13.1 ?_)
 refine ze rfl (zc (done_c (b := x13.2) (k := q) hat (by rw [h13]; omega)) rfl (fun x62 => ?_))
 refine zq (Qt_neq rfl rfl) rfl (TX (zC rfl (fun h63 => ?_) (fun h63 => ?_)))
 ·
  have p63 := h63
  try simp only [dp] at p63
  have hdn : q < x13.2.l.length := by by_cases hh : q < x13.2.l.length; exact hh; simp [hh] at h63
  refine T2 (zq (Qt_build_arr (flatV CellV.list Z16).toArray (sz := 2) Tryz.underlying60 rfl rfl rfl) rfl ?_)
  refine zN (zs rfl rfl (?_))
  refine Qai rfl rfl (TX (zQ (zr ?_)))
  have e : kvG l = (2, Z16) := by
   rw [← h13]; unfold kvG; rw [if_neg (by simpa using h20), hie, if_neg (show ¬ (0 : Int) ≠ 0 by decide), if_pos hdn]
  rw [e]
  exact zX () [_, _] Tryz.results127 ⟨⟨_, rfl, res_cellN rfl⟩, rfl, trivial⟩ rfl SB
 have p63 := h63
 try simp only [dp] at p63
 have hdn : ¬ q < x13.2.l.length := by intro hh; simp [hh] at h63
 refine S4 (zq (zn rfl rfl) rfl ?_)
 refine zN (zs rfl rfl (?_))
 refine Qai rfl rfl (TX (zQ ?_))
 have e : kvG l = (0, cs) := by
  rw [← h13]; unfold kvG; rw [if_neg (by simpa using h20), hie, if_neg (show ¬ (0 : Int) ≠ 0 by decide), if_neg hdn]
 rw [e]
 exact zX () [_, _] Tryz.results127 ⟨⟨_, rfl, res_cellN rfl⟩, rfl, trivial⟩ rfl SB
end
section
open Go.RowKit Go.Sx
set_option maxRecDepth 100000
set_option maxHeartbeats 1000000
theorem wSt_succ (l : List UInt8) (i : Nat) : wSt l (i + 1) = wNext l i (wSt l i) := rfl
theorem wSt_0 (l : List UInt8) : wSt l 0 = ⟨0, 4, { WorldV.zero with slot := ((rdFixed l 2).2.1 : Int), first := ((rdFixed (l.drop 2) 2).2.1 : Int) }⟩ := rfl
theorem wSt_0e (l : List UInt8) : (wSt l 0).e = 0 := rfl
theorem wSt_0q (l : List UInt8) : (wSt l 0).q = 4 := rfl
theorem evG_err {l : List UInt8} (h : (rdText l 1000).1 ≠ 0) : evG l = ((rdText l 1000).1, .zero) := if_pos h
theorem evG_ok {l : List UInt8} (h : (rdText l 1000).1 = 0) : evG l = viewG (rdText l 1000).2.1 := if_neg (by omega)
theorem wNext_0e {l : List UInt8} {s : WSt} (h0 : s.e = 0) : (wNext l 0 s).e = (evG (l.drop s.q)).1 := by
 by_cases h : (rdText (l.drop s.q) 1000).1 = 0
 · rw [wNext_0 h0 h, evG_ok h]
 · rw [wNext_err h0 h, evG_err h]
theorem wNext_1e {l : List UInt8} {s : WSt} (h0 : s.e = 0) : (wNext l 1 s).e = (evG (l.drop s.q)).1 := by
 by_cases h : (rdText (l.drop s.q) 1000).1 = 0
 · rw [wNext_1 h0 h, evG_ok h]
 · rw [wNext_err h0 h, evG_err h]
theorem evG_fine {l : List UInt8} (h : ¬ (evG l).1 ≠ 0) : (rdText l 1000).1 = 0 := by
 by_cases h1 : (rdText l 1000).1 = 0
 · exact h1
 · rw [evG_err h1] at h; exact absurd h1 h
theorem wNext_0ok {l : List UInt8} {s : WSt} (h0 : s.e = 0) (h : ¬ (evG (l.drop s.q)).1 ≠ 0) : wNext l 0 s = ⟨0, s.q + (rdText (l.drop s.q) 1000).2.2, { s.w with view := (evG (l.drop s.q)).2 }⟩ := by
 have h1 := evG_fine h
 have h2 : (evG (l.drop s.q)).1 = 0 := by omega
 rw [wNext_0 h0 h1, ← evG_ok h1, h2]
theorem wNext_1ok {l : List UInt8} {s : WSt} (h0 : s.e = 0) (h : ¬ (evG (l.drop s.q)).1 ≠ 0) : wNext l 1 s = ⟨0, s.q + (rdText (l.drop s.q) 1000).2.2, { s.w with was := (evG (l.drop s.q)).2 }⟩ := by
 have h1 := evG_fine h
 have h2 : (evG (l.drop s.q)).1 = 0 := by omega
 rw [wNext_1 h0 h1, ← evG_ok h1, h2]
attribute [local irreducible] rdFixed rdText rdPacked rdCount kvGo replyG wSt wNext kvG evG viewG
theorem worldGetE_c {w0 : World} {H : List SA} {a : Option Addr} {l : List UInt8} {c : Nat} [hr : RdB w0 H (.slice a l.length c) l] (hl : l.length ≤ 4294967296) :
 CT Tryz.prog w0 (H) 80 [.slice a l.length c] (α := Unit) (fun _ => .tuple #[.agg (worldG l).2.cells, .int .i64 (worldG l).1]) (fun _ => H) := by
 refine CT_intro Tryz.func80 rfl Tryz.ntmps80 rfl (T2 (ze rfl (Ef_allocN (fun b2 => ?_))))
 refine Qai rfl rfl (T4 (Qms rfl rfl (ze rfl (zc (rnew_c hl) rfl (fun x20 => ?_)))))
 refine TL_pure (fun h20 => ?_)
 refine zy (za (.pointer _) rfl) (T4 (ze rfl (Ef_allocN (fun b5 => ?_))))
 refine TX (zS (T2 (zy (zf 0 rfl rfl) (zy (zf 1 rfl rfl) (zy (Qt_build_arr #[(.pointer _), (.pointer _)] Tryz.underlying225 rfl rfl rfl) (Qmi rfl rfl (TX (zB (T_unroll (TU_round (T2 (zy (Qt_lss rfl rfl) (TX (zS ?_))))))))))))))
 refine T_cond_true rfl (by first | rfl | decide) (zk (zx (zS (zB (T2 (zy (Qt_index (.pointer _) rfl rfl Tryz.underlying225 (by omega) (by omega) (rfl)) (zy (za (.pointer _) rfl) (T4 (zy (zm (.pointer _) rfl) (TL_frontB x20.1 (ze rfl (zc (fixed_c (b := x20.2) (k := 0) (Nat.zero_le _) (by rw [h20]; omega) (n := 2)) rfl (fun x29 => ?_)))))))))))))
 rw [List.drop_zero, Nat.zero_add]
 have hf1 := rdFixed_two x20.2.l
 refine zy (zm (.tuple _) rfl) (zy (Qt_extract rfl) (zy (Qt_extract rfl) (zy (za (.int .u64 _) rfl) (Qai rfl rfl (TX (zS (T2 (Qmi rfl rfl (zy (Qt_neq rfl rfl) (TX (zC rfl (fun h33 => ?_) (fun h33 => ?_))))))))))))
 ·
  have p33 := cL h33
  obtain ⟨hs, h1⟩ := fx2e (l := x20.2.l) (by simpa using h33)
  rw [h1]
  refine T2 (zy (zw [] rfl) (Qmi rfl rfl (zN (zs rfl rfl (Qai rfl rfl (TX (zQ (zr (zb (zr (X_again_ret (zb (zr ?_)))))))))))))
  have e : worldG l = (1, .zero) := by
   rw [← h20]; exact if_pos (by omega)
  rw [e]
  exact zX () [_, _] Tryz.results80 ⟨⟨_, rfl, res_cellN rfl⟩, rfl, trivial⟩ rfl SB
 have p33 := cL h33
 obtain ⟨hL2, hf3⟩ := fx2 (l := x20.2.l) (by simpa using h33)
 rw [hf3]
 refine zk (zx (zR (zy (zm (.pointer _) rfl) (zy (zm (.int .u64 _) rfl) (zy (Qt_conv_i64 rfl rfl Tryz.underlying3 (by omega) (by omega)) (zy (Qt_nilCheck rfl) (zN (Ef_store1 (.int .i64 _) rfl rfl (zz (X_block (zx (zR (zy (zj rfl rfl) (Qmi rfl rfl (zz (X_again (TU_round ?_)))))))))))))))))
 refine T2 (zy (Qt_lss rfl rfl) (TX (zS (T_cond_true rfl (by first | rfl | decide) (zk (zx (zS (zB (T2 (zy (Qt_index (.pointer _) rfl rfl Tryz.underlying225 (by omega) (by omega) (rfl)) (zy (za (.pointer _) rfl) (T4 (zy (zm (.pointer _) rfl) (TL_frontB x20.1 ?_))))))))))))))
 refine ze rfl (zc (fixed_c (b := x20.2) (k := 2) (by omega) (by rw [h20]; omega) (n := 2)) rfl (fun x29 => ?_))
 have hf2 := rdFixed_two (x20.2.l.drop 2)
 refine zy (zm (.tuple _) rfl) (zy (Qt_extract rfl) (zy (Qt_extract rfl) (zy (za (.int .u64 _) rfl) (Qai rfl rfl (TX (zS (T2 (Qmi rfl rfl (zy (Qt_neq rfl rfl) (TX (zC rfl (fun h33 => ?_) (fun h33 => ?_))))))))))))
 ·
  have p33 := cL h33
  obtain ⟨hs, h1⟩ := fx2e (l := x20.2.l.drop 2) (by simpa using h33)
  rw [List.length_drop] at hs
  rw [h1]
  refine T2 (zy (zw [] rfl) (Qmi rfl rfl (zN (zs rfl rfl (Qai rfl rfl (TX (zQ (zr (zb (zr (X_again_ret (zb (zr ?_)))))))))))))
  have e : worldG l = (1, .zero) := by
   rw [← h20]; exact if_pos (by omega)
  rw [e]
  exact zX () [_, _] Tryz.results80 ⟨⟨_, rfl, res_cellN rfl⟩, rfl, trivial⟩ rfl SB
 have p33 := cL h33
 obtain ⟨hL4, hf4⟩ := fx2 (l := x20.2.l.drop 2) (by simpa using h33)
 rw [List.length_drop] at hL4
 rw [hf4, show (2 + 2 : Nat) = 4 from rfl]
 have h4 : 4 ≤ x20.2.l.length := by omega
 refine zk (zx (zR (zy (zm (.pointer _) rfl) (zy (zm (.int .u64 _) rfl) (zy (Qt_conv_i64 rfl rfl Tryz.underlying3 (by omega) (by omega)) (zy (Qt_nilCheck rfl) (zN (Ef_store1 (.int .i64 _) rfl rfl (zz (X_block (zx (zR (zy (zj rfl rfl) (Qmi rfl rfl (zz (X_again (TU_round ?_)))))))))))))))))
 refine T2 (zy (Qt_lss rfl rfl) (TX (zS (T_cond_false rfl (by first | rfl | decide) (zY (zG (X_again_exit (zE (zx (zS (T2 (zy (zf 2 rfl rfl) (zy (zf 4 rfl rfl) (zy (Qt_build_arr #[(.pointer _), (.pointer _)] Tryz.underlying229 rfl rfl rfl) (Qmi rfl rfl (TX (zB ?_)))))))))))))))))
 refine T_unroll (TU_round (T2 (zy (Qt_lss rfl rfl) (TX (zS (T_cond_true rfl (by first | rfl | decide) (zk (zx (zS (zB (T2 (zy (Qt_index (.pointer _) rfl rfl Tryz.underlying229 (by omega) (by omega) (rfl)) (zy (za (.pointer _) rfl) (T4 (zy (zm (.pointer _) rfl) (TL_frontB x20.1 ?_))))))))))))))))
 refine ze rfl (zc (eviewE_c (b := x20.2) (k := 4) h4 (by rw [h20]; omega)) rfl (fun x49 => ?_))
 refine zy (zm (.tuple _) rfl) (zy (Qt_extract rfl) (zy (Qt_extract rfl) (ze rfl (Ef_allocN (fun b12 => ?_)))))
 refine zN (zs rfl rfl (Qai rfl rfl (TX (zS (T2 (Qmi rfl rfl (zy (Qt_neq rfl rfl) (TX (zC rfl (fun h53 => ?_) (fun h53 => ?_))))))))))
 ·
  have p53 := cL h53
  have he1 : (wSt x20.2.l 1).e = (evG (x20.2.l.drop 4)).1 := by rw [wSt_succ x20.2.l 0, wNext_0e (wSt_0e _), wSt_0q]
  have hfin := wSt_fin (l := x20.2.l) (i := 1) (by decide) h4 (by rw [he1]; simpa using h53)
  rw [he1] at hfin
  refine T2 (zy (zw [] rfl) (Qmi rfl rfl (zN (zs rfl rfl (Qai rfl rfl (TX (zQ (zr (zb (zr (X_again_ret (zb (zr ?_)))))))))))))
  have e : worldG l = worldG x20.2.l := by rw [h20]
  rw [e, hfin]
  exact zX () [_, _] Tryz.results80 ⟨⟨_, rfl, res_cellN rfl⟩, rfl, trivial⟩ rfl SB
 have p53 := cL h53
 have ok1 : wSt x20.2.l 1 = ⟨0, 4 + (rdText (x20.2.l.drop 4) 1000).2.2, { (wSt x20.2.l 0).w with view := (evG (x20.2.l.drop 4)).2 }⟩ := by rw [wSt_succ x20.2.l 0, wNext_0ok (wSt_0e _) (by rw [wSt_0q]; simpa using h53), wSt_0q]
 have hq1 := wSt_q h4 1
 have he1 : (wSt x20.2.l 1).e = 0 := by rw [ok1]
 have hp1 : (wSt x20.2.l 1).q = 4 + (rdText (x20.2.l.drop 4) 1000).2.2 := by rw [ok1]
 rw [← hp1]
 refine zk (zx (zR (zy (zm (.pointer _) rfl) (zy (zn rfl rfl) (zy (Qt_nilCheck rfl) (zN (zs rfl rfl (zz (X_block (zx (zR (zy (zj rfl rfl) (Qmi rfl rfl (zz (X_again (TU_round ?_))))))))))))))))
 refine T2 (zy (Qt_lss rfl rfl) (TX (zS (T_cond_true rfl (by first | rfl | decide) (zk (zx (zS (zB (T2 (zy (Qt_index (.pointer _) rfl rfl Tryz.underlying229 (by omega) (by omega) (rfl)) (zy (za (.pointer _) rfl) (T4 (zy (zm (.pointer _) rfl) (TL_frontB x20.1 ?_))))))))))))))
 refine ze rfl (zc (eviewE_c (b := x20.2) (k := (wSt x20.2.l 1).q) hq1 (by rw [h20]; omega)) rfl (fun x49 => ?_))
 refine zy (zm (.tuple _) rfl) (zy (Qt_extract rfl) (zy (Qt_extract rfl) (ze rfl (Ef_allocN (fun b12 => ?_)))))
 refine zN (zs rfl rfl (Qai rfl rfl (TX (zS (T2 (Qmi rfl rfl (zy (Qt_neq rfl rfl) (TX (zC rfl (fun h53 => ?_) (fun h53 => ?_))))))))))
 ·
  have p53 := cL h53
  have he2 : (wSt x20.2.l 2).e = (evG (x20.2.l.drop (wSt x20.2.l 1).q)).1 := by rw [wSt_succ x20.2.l 1, wNext_1e he1]
  have hfin := wSt_fin (l := x20.2.l) (i := 2) (by decide) h4 (by rw [he2]; simpa using h53)
  rw [he2] at hfin
  refine T2 (zy (zw [] rfl) (Qmi rfl rfl (zN (zs rfl rfl (Qai rfl rfl (TX (zQ (zr (zb (zr (X_again_ret (zb (zr ?_)))))))))))))
  have e : worldG l = worldG x20.2.l := by rw [h20]
  rw [e, hfin]
  exact zX () [_, _] Tryz.results80 ⟨⟨_, rfl, res_cellN rfl⟩, rfl, trivial⟩ rfl SB
 have p53 := cL h53
 have ok2 : wSt x20.2.l 2 = ⟨0, (wSt x20.2.l 1).q + (rdText (x20.2.l.drop (wSt x20.2.l 1).q) 1000).2.2, { (wSt x20.2.l 1).w with was := (evG (x20.2.l.drop (wSt x20.2.l 1).q)).2 }⟩ := by rw [wSt_succ x20.2.l 1, wNext_1ok he1 (by simpa using h53)]
 have hq2 := wSt_q h4 2
 have he2 : (wSt x20.2.l 2).e = 0 := by rw [ok2]
 have hp2 : (wSt x20.2.l 2).q = (wSt x20.2.l 1).q + (rdText (x20.2.l.drop (wSt x20.2.l 1).q) 1000).2.2 := by rw [ok2]
 rw [← hp2]
 refine zk (zx (zR (zy (zm (.pointer _) rfl) (zy (zn rfl rfl) (zy (Qt_nilCheck rfl) (zN (zs rfl rfl (zz (X_block (zx (zR (zy (zj rfl rfl) (Qmi rfl rfl (zz (X_again (TU_round ?_))))))))))))))))
 refine T2 (zy (Qt_lss rfl rfl) (TX (zS (T_cond_false rfl (by first | rfl | decide) (zY (zG (X_again_exit (zE (zx (T2 (zy (zm (.pointer _) rfl) (TL_frontB x20.1 (ze rfl (zc (text_c (m := 1000) (b := x20.2) (k := (wSt x20.2.l 2).q) hq2 (by rw [h20]; omega) (by decide)) rfl (fun x62 => ?_)))))))))))))))
 have htb := (rdText_bound (x20.2.l.drop (wSt x20.2.l 2).q) 1000).2
 rw [List.length_drop] at htb
 refine zy (zm (.tuple _) rfl) (zy (Qt_extract rfl) (zy (Qt_extract rfl) (Qas rfl rfl (Qai rfl rfl (TX (zS (T2 (Qmi rfl rfl (zy (Qt_neq rfl rfl) (TX (zC rfl (fun h66 => ?_) (fun h66 => ?_))))))))))))
 ·
  have p66 := cL h66
  have he3 : (wSt x20.2.l 3).e = (rdText (x20.2.l.drop (wSt x20.2.l 2).q) 1000).1 := by rw [wSt_succ x20.2.l 2, wNext_err he2 (by simpa using h66)]
  have hfin := wSt_fin (l := x20.2.l) (i := 3) (by decide) h4 (by rw [he3]; simpa using h66)
  rw [he3] at hfin
  refine T2 (zy (zw [] rfl) (Qmi rfl rfl (zN (zs rfl rfl (Qai rfl rfl (TX (zQ (zr ?_))))))))
  have e : worldG l = worldG x20.2.l := by rw [h20]
  rw [e, hfin]
  exact zX () [_, _] Tryz.results80 ⟨⟨_, rfl, res_cellN rfl⟩, rfl, trivial⟩ rfl SB
 have p66 := cL h66
 have hx2 : (rdText (x20.2.l.drop (wSt x20.2.l 2).q) 1000).1 = 0 := by simpa using h66
 have ok3 : wSt x20.2.l 3 = ⟨(kvG (rdText (x20.2.l.drop (wSt x20.2.l 2).q) 1000).2.1).1, (wSt x20.2.l 2).q + (rdText (x20.2.l.drop (wSt x20.2.l 2).q) 1000).2.2, { (wSt x20.2.l 2).w with cs := (kvG (rdText (x20.2.l.drop (wSt x20.2.l 2).q) 1000).2.1).2 }⟩ := by rw [wSt_succ x20.2.l 2, wNext_2 he2 hx2]
 refine zk (zx (zS (T2 (Qms rfl rfl (ze rfl (zc (kvGetE_c (a := x62.a) (l := (rdText (x20.2.l.drop (wSt x20.2.l 2).q) 1000).2.1) (c := x62.c) (by have := congrArg List.length h20; omega)) rfl (fun x71 => ?_)))))))
 refine zy (zm (.tuple _) rfl) (zy (Qt_extract rfl) (zy (Qt_extract rfl) (zy (zf 6 rfl rfl) (zN (zs rfl rfl (Qai rfl rfl (T4 (Qmi rfl rfl (zy (Qt_neq rfl rfl) (TX (zC rfl (fun h76 => ?_) (fun h76 => ?_))))))))))))
 ·
  have p76 := cL h76
  have he3 : (wSt x20.2.l 3).e = (kvG (rdText (x20.2.l.drop (wSt x20.2.l 2).q) 1000).2.1).1 := by rw [ok3]
  have hfin := wSt_fin (l := x20.2.l) (i := 3) (by decide) h4 (by rw [he3]; simpa using h76)
  rw [he3] at hfin
  refine T2 (zy (zw [] rfl) (Qmi rfl rfl (zN (zs rfl rfl (Qai rfl rfl (TX (zQ (zr ?_))))))))
  have e : worldG l = worldG x20.2.l := by rw [h20]
  rw [e, hfin]
  exact zX () [_, _] Tryz.results80 ⟨⟨_, rfl, res_cellN rfl⟩, rfl, trivial⟩ rfl SB
 have p76 := cL h76
 have he3 : (wSt x20.2.l 3).e = 0 := by rw [ok3]; simpa using h76
 have hp3 : (wSt x20.2.l 3).q = (wSt x20.2.l 2).q + (rdText (x20.2.l.drop (wSt x20.2.l 2).q) 1000).2.2 := by rw [ok3]
 rw [← hp3]
 have hwv : (wSt x20.2.l 3).w = ({ slot := ((rdFixed x20.2.l 2).2.1 : Int), first := ((rdFixed (x20.2.l.drop 2) 2).2.1 : Int), view := (evG (x20.2.l.drop 4)).2, was := (evG (x20.2.l.drop (wSt x20.2.l 1).q)).2, cs := (kvG (rdText (x20.2.l.drop (wSt x20.2.l 2).q) 1000).2.1).2, last := WorldV.zero.last } : WorldV) := by rw [ok3, ok2, ok1, wSt_0]
 refine zk (zx (zS (T2 (Qmi rfl rfl (TX (zB ?_))))))
 refine T_loop [3, 16, 17, 18, 79, 80, 81, 82, 83, 84, 85, 86, 87, 88, 89, 90, 91, 92, 93, 94, 95, 96, 97, 98, 99, 100, 101, 102, 103] [79] (fun us H' => ∃ (k : Nat), us = [.int .i64 (k : Int)] ∧ blk b5 (.cells (wSt x20.2.l (3 + k)).w.cells 67 (0, 0)) :: blk b2 (.cells WorldV.zero.cells 67 (0, 0)) :: blk x20.1 (.cells (ReaderV.mk x20.2 (((wSt x20.2.l (3 + k)).q : Nat) : Int)).cells 222 (0, 0)) :: row (.slice x20.2.a x20.2.l.length x20.2.c) 5 1 (bytesV x20.2.l) :: H = H' ∧ k ≤ 6 ∧ ((wSt x20.2.l (3 + k)).e = 0)) (fun us => match us with | .int _ i :: _ => 6 - i.toNat | _ => 0) ⟨0, rfl, rfl, by omega, he3⟩ (fun w hw => by
  rw [show (wSt x20.2.l (3 + 0)).w = ({ slot := ((rdFixed x20.2.l 2).2.1 : Int), first := ((rdFixed (x20.2.l.drop 2) 2).2.1 : Int), view := (evG (x20.2.l.drop 4)).2, was := (evG (x20.2.l.drop (wSt x20.2.l 1).q)).2, cs := (kvG (rdText (x20.2.l.drop (wSt x20.2.l 2).q) 1000).2.1).2, last := WorldV.zero.last } : WorldV) from hwv]
  exact SB w hw) ?_
 rintro τ2 _ _  ⟨k, rfl, rfl, hk0, hek⟩ _
 refine T2 (zy (Qt_lss rfl rfl) (TX (zS (zC rfl (fun h80 => ?_) (fun h80 => ?_)))))
 ·
  have p80 := cL h80
  have hk6 : k < 6 := by omega
  have hqk := wSt_q h4 (3 + k)
  refine zk (zx (zS (zB (T2 (Qmi rfl rfl (Qai rfl rfl (T4 (zy (zm (.pointer _) rfl) (TL_frontB x20.1 (ze rfl (zc (text_c (m := 1000) (b := x20.2) (k := (wSt x20.2.l (3 + k)).q) hqk (by rw [h20]; omega) (by decide)) rfl (fun x84 => ?_))))))))))))
  have htb := (rdText_bound (x20.2.l.drop (wSt x20.2.l (3 + k)).q) 1000).2
  rw [List.length_drop] at htb
  refine zy (zm (.tuple _) rfl) (zy (Qt_extract rfl) (zy (Qt_extract rfl) (Qas rfl rfl (Qai rfl rfl (TX (zS (T2 (Qmi rfl rfl (zy (Qt_neq rfl rfl) (TX (zC rfl (fun h88 => ?_) (fun h88 => ?_))))))))))))
  ·
   have p88 := cL h88
   have hek1 : (wSt x20.2.l (3 + k + 1)).e = (rdText (x20.2.l.drop (wSt x20.2.l (3 + k)).q) 1000).1 := by rw [wSt_succ, wNext_err hek (by simpa using h88)]
   have hfin := wSt_fin (l := x20.2.l) (i := 3 + k + 1) (by omega) h4 (by rw [hek1]; simpa using h88)
   rw [hek1] at hfin
   refine T2 (zy (zw [] rfl) (Qmi rfl rfl (zN (zs rfl rfl (Qai rfl rfl (TX (zQ (zr (zb (zr (X_loop_ret (zb (zr ?_)))))))))))))
   have e : worldG l = worldG x20.2.l := by rw [h20]
   rw [e, hfin]
   exact zX () [_, _] Tryz.results80 ⟨⟨_, rfl, res_cellN rfl⟩, rfl, trivial⟩ rfl SB
  have p88 := cL h88
  have hxk : (rdText (x20.2.l.drop (wSt x20.2.l (3 + k)).q) 1000).1 = 0 := by simpa using h88
  have okk : wSt x20.2.l (3 + k + 1) = ⟨(replyG (rdText (x20.2.l.drop (wSt x20.2.l (3 + k)).q) 1000).2.1).1, (wSt x20.2.l (3 + k)).q + (rdText (x20.2.l.drop (wSt x20.2.l (3 + k)).q) 1000).2.2, { (wSt x20.2.l (3 + k)).w with last := (wSt x20.2.l (3 + k)).w.last.set k (replyG (rdText (x20.2.l.drop (wSt x20.2.l (3 + k)).q) 1000).2.1).2 }⟩ := by rw [wSt_succ, wNext_3 hk6 hek hxk]
  refine S4 (Qmi rfl rfl (Qms rfl rfl (ze rfl (zc (getReply_c (a := x84.a) (l := (rdText (x20.2.l.drop (wSt x20.2.l (3 + k)).q) 1000).2.1) (c := x84.c) (by have := congrArg List.length h20; omega)) rfl (fun x94 => ?_)))))
  have hput := put_last (wSt x20.2.l (3 + k)).w k hk6 (replyG (rdText (x20.2.l.drop (wSt x20.2.l (3 + k)).q) 1000).2.1).2
  refine zy (zm (.tuple _) rfl) (zy (Qt_extract rfl) (zy (Qt_extract rfl) (zy (zf 38 rfl rfl) (zy (Qt_indexAddr_arrC (sz := 5) (38 + k * 5) k rfl rfl Tryz.underlying65 rfl rfl (by rw [Nat.blt_eq]; exact hk6) rfl) (zN (zs rfl rfl (Qai rfl rfl (T4 (Qmi rfl rfl (zy (Qt_neq rfl rfl) (TX (zC rfl (fun h100 => ?_) (fun h100 => ?_)))))))))))))
  ·
   have p100 := cL h100
   have hek1 : (wSt x20.2.l (3 + k + 1)).e = (replyG (rdText (x20.2.l.drop (wSt x20.2.l (3 + k)).q) 1000).2.1).1 := by rw [okk]
   have hfin := wSt_fin (l := x20.2.l) (i := 3 + k + 1) (by omega) h4 (by rw [hek1]; simpa using h100)
   rw [hek1] at hfin
   refine T2 (zy (zw [] rfl) (Qmi rfl rfl (zN (zs rfl rfl (Qai rfl rfl (TX (zQ (zb (zr (X_loop_ret (zb (zr ?_))))))))))))
   have e : worldG l = worldG x20.2.l := by rw [h20]
   rw [e, hfin]
   exact zX () [_, _] Tryz.results80 ⟨⟨_, rfl, res_cellN rfl⟩, rfl, trivial⟩ rfl SB
  have p100 := cL h100
  have hek1 : (wSt x20.2.l (3 + k + 1)).e = 0 := by rw [okk]; simpa using h100
  have hpk : (wSt x20.2.l (3 + k + 1)).q = (wSt x20.2.l (3 + k)).q + (rdText (x20.2.l.drop (wSt x20.2.l (3 + k)).q) 1000).2.2 := by rw [okk]
  rw [← hpk]
  have hwk : (wSt x20.2.l (3 + k + 1)).w = { (wSt x20.2.l (3 + k)).w with last := (wSt x20.2.l (3 + k)).w.last.set k (replyG (rdText (x20.2.l.drop (wSt x20.2.l (3 + k)).q) 1000).2.1).2 } := by rw [okk]
  refine zk (X_block (zx (zR (zy (zj rfl rfl) (Qmi rfl rfl (zz ?_))))))
  apply X_loop
  case ha => exact zA
  case hI => exact ⟨k + 1, rfl, rfl, by omega, hek1⟩
  case hm => exact by show 6 - (k + 1 : Int).toNat < 6 - (k : Int).toNat; omega
  case hH => exact (fun w hw => by
   rw [show (wSt x20.2.l (3 + (k + 1))).w = { (wSt x20.2.l (3 + k)).w with last := (wSt x20.2.l (3 + k)).w.last.set k (replyG (rdText (x20.2.l.drop (wSt x20.2.l (3 + k)).q) 1000).2.1).2 } from hwk]
   exact SB w hw)
 have p80 := cL h80
 obtain rfl : k = 6 := by omega
 have hq9 := wSt_q h4 (3 + 6)
 refine zY (zG (zW (zE (zx (zS (T2 (zy (zm (.pointer _) rfl) (TL_frontB x20.1 (ze rfl (zc (done_c (b := x20.2) (k := (wSt x20.2.l (3 + 6)).q) hq9 (by rw [h20]; omega)) rfl (fun x105 => ?_)))))))))))
 refine zy (Qt_neq rfl rfl) (TX (zC rfl (fun h106 => ?_) (fun h106 => ?_)))
 ·
  have p106 := cL h106
  have hdn : (wSt x20.2.l (3 + 6)).q < x20.2.l.length := by by_cases hh : (wSt x20.2.l (3 + 6)).q < x20.2.l.length; exact hh; simp [hh] at h106
  refine T2 (zy (zw [] rfl) (zN (zs rfl rfl (Qai rfl rfl (TX (zQ (zr ?_)))))))
  have e : worldG l = (2, .zero) := by
   rw [← h20]; unfold worldG; rw [if_neg (by omega), if_neg (by rw [show (wSt x20.2.l 9).e = 0 from hek]; decide), if_pos hdn]
  rw [e]
  exact zX () [_, _] Tryz.results80 ⟨⟨_, rfl, res_cellN rfl⟩, rfl, trivial⟩ rfl SB
 have p106 := cL h106
 have hdn : ¬ (wSt x20.2.l (3 + 6)).q < x20.2.l.length := by intro hh; simp [hh] at h106
 refine S4 (zy (zn rfl rfl) (zN (zs rfl rfl (Qai rfl rfl (TX (zQ ?_))))))
 have e : worldG l = (0, (wSt x20.2.l (3 + 6)).w) := by
  rw [← h20]; unfold worldG; rw [if_neg (by omega), if_neg (by rw [show (wSt x20.2.l 9).e = 0 from hek]; decide), if_neg hdn]
 rw [e]
 exact zX () [_, _] Tryz.results80 ⟨⟨_, rfl, res_cellN rfl⟩, rfl, trivial⟩ rfl SB
attribute [local irreducible] worldG
theorem bodyE_c {w0 : World} {H : List SA} {a : Option Addr} {l : List UInt8} {c : Nat} [hr : RdB w0 H (.slice a l.length c) l] (hl : l.length ≤ 4294967296) :
 CT Tryz.prog w0 (H) 39 [.slice a l.length c] (α := AC) (fun y => .tuple #[.agg (bodyG l).2.1.cells, .slice y.a (bodyG l).2.2.length y.c, .int .i64 (bodyG l).1]) (fun y => row (.slice y.a ((bodyG l).2.2).length y.c) 5 1 (bytesV ((bodyG l).2.2)) :: H) := by
 refine CT_intro Tryz.func39 rfl Tryz.ntmps39 rfl (T2 (ze rfl (Ef_allocN (fun b2 => ?_))))
 refine Qas rfl rfl (Qai rfl rfl (T4 (Qms rfl rfl (ze rfl (zc (rnew_c hl) rfl (fun x12 => ?_))))))
 refine TL_pure (fun h12 => ?_)
 refine zy (za (.pointer _) rfl) (T4 (zy (zm (.pointer _) rfl) (TL_frontB x12.1 (ze rfl (zc (text_c (m := 65536) (b := x12.2) (k := 0) (Nat.zero_le _) (by rw [h12]; omega) (by decide)) rfl (fun x15 => ?_))))))
 rw [List.drop_zero, Nat.zero_add]
 have htb := rdText_bound x12.2.l 65536
 refine zy (zm (.tuple _) rfl) (zy (Qt_extract rfl) (zy (Qt_extract rfl) (Qas rfl rfl (Qai rfl rfl (T4 (zy (zm (.pointer _) rfl) (TL_frontB x12.1 (ze rfl (zc (text_c (m := 65536) (b := x12.2) (k := (rdText x12.2.l 65536).2.2) htb.1 (by rw [h12]; omega) (by decide)) rfl (fun x20 => ?_))))))))))
 have htc := rdText_bound (x12.2.l.drop (rdText x12.2.l 65536).2.2) 65536
 rw [List.length_drop] at htc
 refine zy (zm (.tuple _) rfl) (zy (Qt_extract rfl) (zy (Qt_extract rfl) (Qas rfl rfl (Qai rfl rfl (TX (zS (T2 (Qmi rfl rfl (zy (Qt_neq rfl rfl) (Qmb rfl rfl (TL_split 25 rfl (fun h25 => ?_) (fun h25 => ?_))))))))))))
 ·
  have p25 := cL h25
  refine zp rfl rfl h25 rfl (zp rfl rfl h25 rfl (zy (zT (.bool _) rfl h25 rfl) (Qmb rfl rfl (zo (TL_frontB x12.1 (zo (zo (zy (zT (.bool _) rfl rfl rfl) (TX (T_cond_true rfl rfl (T2 (zy (zw [] rfl) ?_))))))))))))
  refine zN (zs rfl rfl (Qas rfl rfl (Qai rfl rfl (TX (zQ (zr ?_))))))
  have e : bodyG l = (2, .zero, []) := by
   rw [← h12]; unfold bodyG; rw [if_pos (by first | exact .inl (by simpa using h25) | exact .inr (.inl (by simpa using h29)) | exact .inr (.inr hdn))]
  rw [e]
  exact zX (⟨none, 0⟩ : AC) [_, _, _] Tryz.results39 ⟨⟨_, rfl, res_cellN rfl⟩, rfl, rfl, trivial⟩ rfl (fun w hw => (SB w hw : St w0 H w).addNilB 5)
 have p25 := cL h25
 refine zt rfl rfl h25 (Qmi rfl rfl (zt rfl rfl h25 (zy (Qt_neq rfl rfl) (zy (zF (.bool _) rfl h25 rfl) (Qmb rfl rfl (TL_split 29 rfl (fun h29 => ?_) (fun h29 => ?_)))))))
 ·
  have p29 := cL h29
  refine zp rfl rfl h29 rfl (TL_frontB x12.1 (zp rfl rfl h29 rfl (zp rfl rfl h29 rfl (zy (zT (.bool _) rfl h29 rfl) (TX (T_cond_true rfl rfl (T2 (zy (zw [] rfl) (zN (zs rfl rfl (Qas rfl rfl (Qai rfl rfl (TX (zQ (zr ?_)))))))))))))))
  have e : bodyG l = (2, .zero, []) := by
   rw [← h12]; unfold bodyG; rw [if_pos (by first | exact .inl (by simpa using h25) | exact .inr (.inl (by simpa using h29)) | exact .inr (.inr hdn))]
  rw [e]
  exact zX (⟨none, 0⟩ : AC) [_, _, _] Tryz.results39 ⟨⟨_, rfl, res_cellN rfl⟩, rfl, rfl, trivial⟩ rfl (fun w hw => (SB w hw : St w0 H w).addNilB 5)
 have p29 := cL h29
 refine zt rfl rfl h29 (zy (zm (.pointer _) rfl) (TL_frontB x12.1 (zt rfl rfl h29 (ze rfl (zc (done_c (b := x12.2) (k := (rdText x12.2.l 65536).2.2 + (rdText (x12.2.l.drop (rdText x12.2.l 65536).2.2) 65536).2.2) (by omega) (by rw [h12]; omega)) rfl (fun x31 => ?_))))))
 refine zt rfl rfl h29 (zy (Qt_neq rfl rfl) (zy (zF (.bool _) rfl h29 rfl) (TX (zC rfl (fun h33 => ?_) (fun h33 => ?_)))))
 ·
  have p33 := cL h33
  have hdn : (rdText x12.2.l 65536).2.2 + (rdText (x12.2.l.drop (rdText x12.2.l 65536).2.2) 65536).2.2 < x12.2.l.length := by by_cases hh : (rdText x12.2.l 65536).2.2 + (rdText (x12.2.l.drop (rdText x12.2.l 65536).2.2) 65536).2.2 < x12.2.l.length; exact hh; simp [hh] at h33
  refine T2 (zy (zw [] rfl) (zN (zs rfl rfl (Qas rfl rfl (Qai rfl rfl (TX (zQ (zr ?_))))))))
  have e : bodyG l = (2, .zero, []) := by
   rw [← h12]; unfold bodyG; rw [if_pos (by first | exact .inl (by simpa using h25) | exact .inr (.inl (by simpa using h29)) | exact .inr (.inr hdn))]
  rw [e]
  exact zX (⟨none, 0⟩ : AC) [_, _, _] Tryz.results39 ⟨⟨_, rfl, res_cellN rfl⟩, rfl, rfl, trivial⟩ rfl (fun w hw => (SB w hw : St w0 H w).addNilB 5)
 have p33 := cL h33
 have hdn : ¬ (rdText x12.2.l 65536).2.2 + (rdText (x12.2.l.drop (rdText x12.2.l 65536).2.2) 65536).2.2 < x12.2.l.length := by intro hh; simp [hh] at h33
 refine S4 (Qms rfl rfl (ze rfl (zc (worldGetE_c (a := x15.a) (l := (rdText x12.2.l 65536).2.1) (c := x15.c) (by have := congrArg List.length h12; omega)) rfl (fun x37 => ?_))))
 refine zy (zm (.tuple _) rfl) (zy (Qt_extract rfl) (zy (Qt_extract rfl) (ze rfl (Ef_allocN (fun b10 => ?_)))))
 refine zN (zs rfl rfl (Qai rfl rfl (T4 (zy (zn rfl rfl) (Qms rfl rfl (Qmi rfl rfl (zN (zs rfl rfl (Qas rfl rfl (Qai rfl rfl (TX (zQ ?_))))))))))))
 have e : bodyG l = ((worldG (rdText x12.2.l 65536).2.1).1, (worldG (rdText x12.2.l 65536).2.1).2, (rdText (x12.2.l.drop (rdText x12.2.l 65536).2.2) 65536).2.1) := by
  rw [← h12]; unfold bodyG; rw [if_neg (by rintro (h | h | h); exact h (by simpa using h25); exact h (by simpa using h29); exact hdn h)]
 rw [e]
 exact zX (⟨x20.a, x20.c⟩ : AC) [_, _, _] Tryz.results39 ⟨⟨_, rfl, res_cellN rfl⟩, rfl, rfl, trivial⟩ rfl SB
end
end Go.Proofs.YtnijomppbgdmnaaGreat
