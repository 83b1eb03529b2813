/- Walks: the references on lists of votes: Slot, Reg, Wrote, Accepted, Take. -/
import Derived.Test.YtgeknnclmhfjlaaGreatDoorSgP
import Derived.Test.YtgeknnclmhfjlaaGreatDoorBkP
import Derived.Test.YtgeknnclmhfjlaaGreatDoorSdP
import Derived.Sort.MapsRangeIn
import Derived.WalkKit
import Derived.OwnWalkIn
import Derived.TacticsInMore
import Derived.RegionIn
import Derived.LoopNIn
import Derived.LoopIn
import Derived.RangeFuncNested
import Derived.Shelf.Abstract
namespace Go.Proofs.YtgeknnclmhfjlaaGreatDoor
section
open Go.RowKit Go.Sx
set_option maxRecDepth 100000
set_option linter.unusedSimpArgs false
set_option linter.unusedVariables false
def slotS (n : Int) (v : VoteV) : Int := if 1 < v.kind ∧ n < v.slot then v.slot else n
def slotL (vs : List VoteV) : Int := vs.foldl slotS 0
def regS (p : Int × Int) (v : VoteV) : Int × Int := if v.kind = 1 ∧ (p.1 < v.view ∨ (v.view = p.1 ∧ p.2 < v.reg)) then (v.view, v.reg) else p
def regL (vs : List VoteV) : Int × Int := vs.foldl regS (-1, -1)
def isW (s : Int) (a : EraV) (v : VoteV) : Bool := decide (v.kind = 2) && decide (v.slot = s) && decide (v.view = a.view) && decide (v.reg = a.reg)
def wroteL (vs : List VoteV) (a : EraV) : Option VoteV := vs.find? (isW (slotL vs) a)
def accS (s : Int) (o : Option VoteV) (v : VoteV) : Option VoteV :=
 if v.kind ≠ 3 ∨ v.slot ≠ s then o else match o with
  | none => some v
  | some u => if u.view < v.view ∨ (v.view = u.view ∧ u.reg < v.reg) then some v else o
def accL (vs : List VoteV) : Option VoteV := vs.foldl (accS (slotL vs)) none
theorem foldl_snoc {α β : Type} (f : β → α → β) (b : β) (l : List α) (k : Nat) (hk : k < l.length) : (l.take (k + 1)).foldl f b = f ((l.take k).foldl f b) l[k] := by
 rw [List.take_succ_eq_append_getElem hk, List.foldl_append]; rfl
theorem find_found {α : Type} (p : α → Bool) (l : List α) (k : Nat) (hk : k < l.length) (h : (l.take k).any p = false) (hp : p l[k] = true) : l.find? p = some l[k] := by
 induction l generalizing k with
 | nil => simp at hk
 | cons x l ih =>
  cases k with
  | zero => simp at hp ⊢; exact .inl hp
  | succ k =>
   simp only [List.take_succ_cons, List.any_cons, Bool.or_eq_false_iff] at h
   rw [List.find?_cons, h.1]
   simpa using ih k (by simpa using hk) h.2 (by simpa using hp)
theorem find_lost {α : Type} (p : α → Bool) (l : List α) (h : l.any p = false) : l.find? p = none := by
 rw [List.find?_eq_none]
 rw [List.any_eq_false] at h
 exact h

set_option maxHeartbeats 1000000 in
theorem rSlot_c {w0 : World} {H : List SA} {a : Option Addr} {vs : List VoteV} {c : Nat} [hr : RdC w0 H (.slice a vs.length c) 38 (vs.flatMap VoteV.list)] (hn : vs.length ≤ 1000000) :
 CT Tryz.prog w0 (H) 15 [.slice a vs.length c] (α := Unit) (fun _ => .int .i64 (slotL vs)) (fun _ => H) := by
 refine CT_intro Tryz.func15 rfl Tryz.ntmps15 rfl ?_
 refine T2 (Qai rfl rfl (T4 (Qai rfl rfl (TX (zS (T2 ?_))))))
 refine Qai rfl rfl (TX (zB ?_))
 refine T_loop [3, 4, 5, 6, 7, 8, 9, 10, 11, 12, 13, 14, 15, 16, 17, 18, 19, 20, 21, 22, 23, 24, 25, 26, 27, 28, 29, 30] [4, 3] (fun us H' => ∃ i : Nat, us = [.int .i64 (i : Int), .int .i64 ((vs.take i).foldl slotS 0)] ∧ H = H' ∧ i ≤ vs.length) (fun us => match us with | .int _ i :: _ => vs.length - i.toNat | _ => 0) ⟨0, rfl, rfl, by omega⟩ SB ?_
 rintro τ0 _ _  ⟨i, rfl, rfl, hi0⟩ _
 refine zS (T2 ?_)
 refine Qmi rfl rfl (Qms rfl rfl (zq (zL rfl Tryz.underlying22) rfl (zq (Qt_lss rfl rfl) rfl (TX (zC rfl (fun h8 => ?_) (fun h8 => ?_))))))
 ·
  have p8 := h8
  try simp only [dp] at p8
  have hi : i < vs.length := by omega
  refine zk (zx (zS (zB (T2 ?_))))
  refine Qms rfl rfl (Qmi rfl rfl (zq (Qt_indexN rfl rfl (by omega) (by omega)) rfl (zq (Qt_fieldR rfl 38 (vote_pos hi)) rfl (zq (Qt_loadRs 38 (.int .i64 _) rfl (vote_get vs i 0 hi (by decide) inferInstance)) rfl (zq (Qt_gtr rfl rfl) rfl ?_)))))
  refine Qmb rfl rfl ?_
  refine TL_split 17 rfl (fun h17 => ?_) (fun h17 => ?_)
  ·
   have p17 := h17
   try simp only [dp] at p17
   refine zt rfl rfl h17 (Qms rfl rfl (zt rfl rfl h17 (Qmi rfl rfl (zt rfl rfl h17 (zq (Qt_indexN rfl rfl (by omega) (by omega)) rfl ?_)))))
   refine zt rfl rfl h17 (zq (Qt_fieldR rfl 38 (vote_pos hi)) rfl (zt rfl rfl h17 (zq (Qt_loadRs 38 (.int .i64 _) rfl (vote_get vs i 3 hi (by decide) inferInstance)) rfl (zt rfl rfl h17 (Qmi rfl rfl ?_)))))
   refine zt rfl rfl h17 (zq (Qt_gtr rfl rfl) rfl (zq (zT (.bool _) rfl h17 rfl) rfl (TX (zC rfl (fun h25 => ?_) (fun h25 => ?_)))))
   ·
    have p25 := h25
    try simp only [dp] at p25
    have hstep : slotS ((vs.take i).foldl slotS 0) vs[i] = vs[i].slot := if_pos (by first | exact ⟨by omega, by omega⟩ | simp_all)
    refine zR (Qms rfl rfl (Qmi rfl rfl (zq (Qt_indexN rfl rfl (by omega) (by omega)) rfl (zq (Qt_fieldR rfl 38 (vote_pos hi)) rfl (zq (Qt_loadRs 38 (.int .i64 _) rfl (vote_get vs i 3 hi (by decide) inferInstance)) rfl ?_)))))
    refine Qai rfl rfl (zz (X_block (zx (zR ?_))))
    refine Qmi rfl rfl (zq (Qt_add rfl rfl (by omega) (by omega)) rfl (Qai rfl rfl (zz (X_loop _ (by repeat (first | with_reducible exact agree_refl | refine agree_upd rfl ?_ | refine agree_mix rfl ?_ | refine agree_setAll rfl ?_)) (⟨i + 1, by rw [foldl_snoc slotS 0 vs i hi, hstep]; rfl, rfl, by omega⟩) (by show vs.length - (i + 1 : Int).toNat < vs.length - (i : Int).toNat; omega) (SB)))))
   have p25 := h25
   try simp only [dp] at p25
   have hstep : slotS ((vs.take i).foldl slotS 0) vs[i] = (vs.take i).foldl slotS 0 := if_neg (by first | omega | simp_all)
   refine zk (X_block (zx (zR ?_)))
   refine Qmi rfl rfl (zq (Qt_add rfl rfl (by omega) (by omega)) rfl (Qai rfl rfl (zz (X_loop _ (by repeat (first | with_reducible exact agree_refl | refine agree_upd rfl ?_ | refine agree_mix rfl ?_ | refine agree_setAll rfl ?_)) (⟨i + 1, by rw [foldl_snoc slotS 0 vs i hi, hstep]; rfl, rfl, by omega⟩) (by show vs.length - (i + 1 : Int).toNat < vs.length - (i : Int).toNat; omega) (SB)))))
  have p17 := h17
  try simp only [dp] at p17
  refine zp rfl rfl h17 rfl (zp rfl rfl h17 rfl (zp rfl rfl h17 rfl (zp rfl rfl h17 rfl (zp rfl rfl h17 rfl (zp rfl rfl h17 rfl ?_)))))
  refine zp rfl rfl h17 rfl (zq (zF (.bool _) rfl h17 rfl) rfl (TX (T_cond_false rfl rfl ?_)))
  have hstep : slotS ((vs.take i).foldl slotS 0) vs[i] = (vs.take i).foldl slotS 0 := if_neg (by first | omega | simp_all)
  refine zk (X_block (zx (zR ?_)))
  refine Qmi rfl rfl (zq (Qt_add rfl rfl (by omega) (by omega)) rfl (Qai rfl rfl (zz (X_loop _ (by repeat (first | with_reducible exact agree_refl | refine agree_upd rfl ?_ | refine agree_mix rfl ?_ | refine agree_setAll rfl ?_)) (⟨i + 1, by rw [foldl_snoc slotS 0 vs i hi, hstep]; rfl, rfl, by omega⟩) (by show vs.length - (i + 1 : Int).toNat < vs.length - (i : Int).toNat; omega) (SB)))))
 have p8 := h8
 try simp only [dp] at p8
 have et : vs.take i = vs := List.take_of_length_le (by omega)
 refine zY (zG (zW (zE (zx (T2 ?_)))))
 refine Qmi rfl rfl (Qai rfl rfl (TX (zQ ?_)))
 exact zX () [_] Tryz.results15 ⟨rfl, trivial⟩ (by show Value.int .i64 ((vs.take i).foldl slotS 0) = _; rw [et]; rfl) SB
set_option maxHeartbeats 1000000 in
theorem rReg_c {w0 : World} {H : List SA} {a : Option Addr} {vs : List VoteV} {c : Nat} [hr : RdC w0 H (.slice a vs.length c) 38 (vs.flatMap VoteV.list)] (hn : vs.length ≤ 1000000) :
 CT Tryz.prog w0 (H) 13 [.slice a vs.length c] (α := Unit) (fun _ => .tuple #[.int .i64 (regL vs).1, .int .i64 (regL vs).2]) (fun _ => H) := by
 refine CT_intro Tryz.func13 rfl Tryz.ntmps13 rfl ?_
 refine T2 (Qai rfl rfl (Qai rfl rfl (T4 (Qai rfl rfl (T4 ?_)))))
 refine Qai rfl rfl (TX (zS (T2 ?_)))
 refine Qai rfl rfl (TX (zB ?_))
 refine T_loop [4, 5, 6, 7, 8, 9, 10, 11, 12, 13, 14, 15, 16, 17, 18, 19, 20, 21, 22, 23, 24, 25, 26, 27, 28, 29, 30, 31, 32, 33, 34, 35, 36, 37, 38, 39, 40, 41, 42] [6, 4, 5] (fun us H' => ∃ i : Nat, us = [.int .i64 (i : Int), .int .i64 ((vs.take i).foldl regS (-1, -1)).1, .int .i64 ((vs.take i).foldl regS (-1, -1)).2] ∧ H = H' ∧ i ≤ vs.length) (fun us => match us with | .int _ i :: _ => vs.length - i.toNat | _ => 0) ⟨0, rfl, rfl, by omega⟩ SB ?_
 rintro τ0 _ _  ⟨i, rfl, rfl, hi0⟩ _
 refine zS (T2 ?_)
 refine Qmi rfl rfl (Qms rfl rfl (zq (zL rfl Tryz.underlying22) rfl (zq (Qt_lss rfl rfl) rfl (TX (zC rfl (fun h11 => ?_) (fun h11 => ?_))))))
 ·
  have p11 := h11
  try simp only [dp] at p11
  have hi : i < vs.length := by omega
  refine zk (zx (zS (zB (T2 ?_))))
  refine Qms rfl rfl (Qmi rfl rfl (zq (Qt_indexN rfl rfl (by omega) (by omega)) rfl (zq (Qt_loadVote (k := i) rfl hi) rfl ?_)))
  refine ze rfl (Ef_allocN (fun b7 => ?_))
  refine zN (zs rfl rfl (?_))
  refine T4 (zq (zf 0 rfl rfl) rfl (zq (zl rfl) rfl (zq (Qt_eql rfl rfl) rfl (Qmb rfl rfl ?_))))
  refine TL_split 21 rfl (fun h21 => ?_) (fun h21 => ?_)
  ·
   have p21 := h21
   try simp only [dp] at p21
   refine zt rfl rfl h21 (zq (zf 1 rfl rfl) rfl (zt rfl rfl h21 (zq (zl rfl) rfl (zt rfl rfl h21 (Qmi rfl rfl ?_)))))
   refine zt rfl rfl h21 (zq (Qt_gtr rfl rfl) rfl (zt rfl rfl h21 (Qmb rfl rfl ?_)))
   refine TL_split 26 rfl (fun h26 => ?_) (fun h26 => ?_)
   ·
    have p26 := h26
    try simp only [dp] at p26
    refine zp rfl rfl h26 rfl (zp rfl rfl h26 rfl (zp rfl rfl h26 rfl (zp rfl rfl h26 rfl (zp rfl rfl h26 rfl (TL_passU rfl rfl rfl ?_)))))
    refine TL_passU rfl rfl rfl (TL_passU rfl rfl rfl (TL_passU rfl rfl rfl (zp rfl rfl h26 rfl (zt rfl rfl h21 (zq (zT (.bool _) rfl h26 rfl) rfl ?_)))))
    refine zq (zT (.bool _) rfl h21 rfl) rfl (TX (T_cond_true rfl rfl ?_))
    have hstep : regS ((vs.take i).foldl regS (-1, -1)) vs[i] = (vs[i].view, vs[i].reg) := if_pos (by first | omega | simp_all)
    refine T2 (zq (zf 1 rfl rfl) rfl (zq (zl rfl) rfl (Qai rfl rfl (TX (zR ?_)))))
    refine zq (zf 2 rfl rfl) rfl (zq (zl rfl) rfl (Qai rfl rfl (zz (X_block (zx (zR ?_))))))
    refine Qmi rfl rfl (zq (Qt_add rfl rfl (by omega) (by omega)) rfl (Qai rfl rfl (zz (X_loop _ (by repeat (first | with_reducible exact agree_refl | refine agree_upd rfl ?_ | refine agree_mix rfl ?_ | refine agree_setAll rfl ?_)) (⟨i + 1, by rw [foldl_snoc regS (-1, -1) vs i hi, hstep]; rfl, rfl, by omega⟩) (by show vs.length - (i + 1 : Int).toNat < vs.length - (i : Int).toNat; omega) (SB)))))
   have p26 := h26
   try simp only [dp] at p26
   refine zt rfl rfl h26 (zq (zf 1 rfl rfl) rfl (zt rfl rfl h26 (zq (zl rfl) rfl (zt rfl rfl h26 (Qmi rfl rfl ?_)))))
   refine zt rfl rfl h26 (zq (Qt_eql rfl rfl) rfl (zt rfl rfl h26 (Qmb rfl rfl ?_)))
   refine TL_split 31 rfl (fun h31 => ?_) (fun h31 => ?_)
   ·
    have p31 := h31
    try simp only [dp] at p31
    refine zt rfl rfl h31 (zq (zf 2 rfl rfl) rfl (zt rfl rfl h31 (zq (zl rfl) rfl (zt rfl rfl h31 (Qmi rfl rfl ?_)))))
    refine zt rfl rfl h31 (zq (Qt_gtr rfl rfl) rfl (zt rfl rfl h26 (zq (zT (.bool _) rfl h31 rfl) rfl (zt rfl rfl h21 (zq (zF (.bool _) rfl h26 rfl) rfl ?_)))))
    refine zq (zT (.bool _) rfl h21 rfl) rfl (TX (zC rfl (fun h38 => ?_) (fun h38 => ?_)))
    ·
     have p38 := h38
     try simp only [dp] at p38
     have hstep : regS ((vs.take i).foldl regS (-1, -1)) vs[i] = (vs[i].view, vs[i].reg) := if_pos (by first | omega | simp_all)
     refine T2 (zq (zf 1 rfl rfl) rfl (zq (zl rfl) rfl (Qai rfl rfl (TX (zR ?_)))))
     refine zq (zf 2 rfl rfl) rfl (zq (zl rfl) rfl (Qai rfl rfl (zz (X_block (zx (zR ?_))))))
     refine Qmi rfl rfl (zq (Qt_add rfl rfl (by omega) (by omega)) rfl (Qai rfl rfl (zz (X_loop _ (by repeat (first | with_reducible exact agree_refl | refine agree_upd rfl ?_ | refine agree_mix rfl ?_ | refine agree_setAll rfl ?_)) (⟨i + 1, by rw [foldl_snoc regS (-1, -1) vs i hi, hstep]; rfl, rfl, by omega⟩) (by show vs.length - (i + 1 : Int).toNat < vs.length - (i : Int).toNat; omega) (SB)))))
    have p38 := h38
    try simp only [dp] at p38
    have hstep : regS ((vs.take i).foldl regS (-1, -1)) vs[i] = ((vs.take i).foldl regS (-1, -1)) := if_neg (by first | omega | simp_all)
    refine zk (X_block (zx (zR ?_)))
    refine Qmi rfl rfl (zq (Qt_add rfl rfl (by omega) (by omega)) rfl (Qai rfl rfl (zz (X_loop _ (by repeat (first | with_reducible exact agree_refl | refine agree_upd rfl ?_ | refine agree_mix rfl ?_ | refine agree_setAll rfl ?_)) (⟨i + 1, by rw [foldl_snoc regS (-1, -1) vs i hi, hstep]; rfl, rfl, by omega⟩) (by show vs.length - (i + 1 : Int).toNat < vs.length - (i : Int).toNat; omega) (SB)))))
   have p31 := h31
   try simp only [dp] at p31
   refine zp rfl rfl h31 rfl (zp rfl rfl h31 rfl (zp rfl rfl h31 rfl (zp rfl rfl h31 rfl (zt rfl rfl h26 (zq (zF (.bool _) rfl h31 rfl) rfl ?_)))))
   refine zt rfl rfl h21 (zq (zF (.bool _) rfl h26 rfl) rfl (zq (zT (.bool _) rfl h21 rfl) rfl (TX (T_cond_false rfl rfl ?_))))
   have hstep : regS ((vs.take i).foldl regS (-1, -1)) vs[i] = ((vs.take i).foldl regS (-1, -1)) := if_neg (by first | omega | simp_all)
   refine zk (X_block (zx (zR ?_)))
   refine Qmi rfl rfl (zq (Qt_add rfl rfl (by omega) (by omega)) rfl (Qai rfl rfl (zz (X_loop _ (by repeat (first | with_reducible exact agree_refl | refine agree_upd rfl ?_ | refine agree_mix rfl ?_ | refine agree_setAll rfl ?_)) (⟨i + 1, by rw [foldl_snoc regS (-1, -1) vs i hi, hstep]; rfl, rfl, by omega⟩) (by show vs.length - (i + 1 : Int).toNat < vs.length - (i : Int).toNat; omega) (SB)))))
  have p21 := h21
  try simp only [dp] at p21
  refine zp rfl rfl h21 rfl (zp rfl rfl h21 rfl (zp rfl rfl h21 rfl (zp rfl rfl h21 rfl (zp rfl rfl h21 rfl (TL_passU rfl rfl rfl ?_)))))
  refine TL_passU rfl rfl rfl (TL_passU rfl rfl rfl (TL_passU rfl rfl rfl (TL_passU rfl rfl rfl (TL_passU rfl rfl rfl (TL_passU rfl rfl rfl ?_)))))
  refine TL_passU rfl rfl rfl (TL_passU rfl rfl rfl (TL_passU rfl rfl rfl (zp rfl rfl h21 rfl (zq (zF (.bool _) rfl h21 rfl) rfl (TX ?_)))))
  refine T_cond_false rfl rfl ?_
  have hstep : regS ((vs.take i).foldl regS (-1, -1)) vs[i] = ((vs.take i).foldl regS (-1, -1)) := if_neg (by first | omega | simp_all)
  refine zk (X_block (zx (zR ?_)))
  refine Qmi rfl rfl (zq (Qt_add rfl rfl (by omega) (by omega)) rfl (Qai rfl rfl (zz (X_loop _ (by repeat (first | with_reducible exact agree_refl | refine agree_upd rfl ?_ | refine agree_mix rfl ?_ | refine agree_setAll rfl ?_)) (⟨i + 1, by rw [foldl_snoc regS (-1, -1) vs i hi, hstep]; rfl, rfl, by omega⟩) (by show vs.length - (i + 1 : Int).toNat < vs.length - (i : Int).toNat; omega) (SB)))))
 have p11 := h11
 try simp only [dp] at p11
 have et : vs.take i = vs := List.take_of_length_le (by omega)
 refine zY (zG (zW (zE (zx (T2 ?_)))))
 refine Qmi rfl rfl (Qmi rfl rfl (Qai rfl rfl (Qai rfl rfl (TX (zQ ?_)))))
 exact zX () [_, _] Tryz.results13 ⟨rfl, rfl, trivial⟩ (by show Value.tuple #[.int .i64 ((vs.take i).foldl regS (-1, -1)).1, .int .i64 ((vs.take i).foldl regS (-1, -1)).2] = _; rw [et]; rfl) SB
set_option maxHeartbeats 1000000 in
theorem rWrote_c {w0 : World} {H : List SA} {a : Option Addr} {vs : List VoteV} {c : Nat} [hr : RdC w0 H (.slice a vs.length c) 38 (vs.flatMap VoteV.list)] (hn : vs.length ≤ 1000000) {view reg : Int} :
 CT Tryz.prog w0 (H) 17 [.slice a vs.length c, .int .i64 view, .int .i64 reg] (α := Unit) (fun _ => .tuple #[.agg ((wroteL vs ⟨view, reg⟩).getD VoteV.zero).cells, .bool (wroteL vs ⟨view, reg⟩).isSome]) (fun _ => H) := by
 refine CT_intro Tryz.func17 rfl Tryz.ntmps17 rfl ?_
 refine T2 ?_
 refine ze rfl (Ef_allocN (fun b6 => ?_))
 refine Qab rfl rfl (T4 (Qms rfl rfl ?_))
 refine ze rfl (zc (rSlot_c hn) rfl (fun x11 => ?_))
 refine Qai rfl rfl (TX (zS (T2 ?_)))
 refine Qai rfl rfl (TX (zB ?_))
 refine T_loop [7, 9, 12, 13, 14, 15, 16, 17, 18, 19, 20, 21, 22, 23, 24, 25, 26, 27, 28, 29, 30, 31, 32, 33, 34, 35, 36, 37, 38, 39, 40, 41, 42, 43, 44, 45, 46, 47, 48, 49, 50, 51, 52, 53, 54] [9] (fun us H' => ∃ i : Nat, us = [.int .i64 (i : Int)] ∧ blk b6 (.cells VoteV.zero.cells 44 (0, 0)) :: H = H' ∧ i ≤ vs.length ∧ (vs.take i).any (isW (slotL vs) ⟨view, reg⟩) = false) (fun us => match us with | .int _ i :: _ => vs.length - i.toNat | _ => 0) ⟨0, rfl, rfl, by omega, rfl⟩ SB ?_
 rintro τ0 _ _  ⟨i, rfl, rfl, hi0, hpre⟩ _
 refine zS (T2 ?_)
 refine Qmi rfl rfl (Qms rfl rfl (zq (zL rfl Tryz.underlying22) rfl (zq (Qt_lss rfl rfl) rfl (TX (zC rfl (fun h15 => ?_) (fun h15 => ?_))))))
 ·
  have p15 := h15
  try simp only [dp] at p15
  have hi : i < vs.length := by omega
  refine zk (zx (zS (zB (T2 ?_))))
  refine Qms rfl rfl (Qmi rfl rfl (zq (Qt_indexN rfl rfl (by omega) (by omega)) rfl (zq (Qt_fieldR rfl 38 (vote_pos hi)) rfl (zq (Qt_loadRs 38 (.int .i64 _) rfl (vote_get vs i 0 hi (by decide) inferInstance)) rfl (zq (Qt_eql rfl rfl) rfl ?_)))))
  refine Qmb rfl rfl ?_
  refine TL_split 24 rfl (fun h24 => ?_) (fun h24 => ?_)
  ·
   have p24 := h24
   try simp only [dp] at p24
   refine zt rfl rfl h24 (Qms rfl rfl (zt rfl rfl h24 (Qmi rfl rfl (zt rfl rfl h24 (zq (Qt_indexN rfl rfl (by omega) (by omega)) rfl ?_)))))
   refine zt rfl rfl h24 (zq (Qt_fieldR rfl 38 (vote_pos hi)) rfl (zt rfl rfl h24 (zq (Qt_loadRs 38 (.int .i64 _) rfl (vote_get vs i 3 hi (by decide) inferInstance)) rfl (zt rfl rfl h24 (Qmi rfl rfl ?_)))))
   refine zt rfl rfl h24 (zq (Qt_eql rfl rfl) rfl (zq (zT (.bool _) rfl h24 rfl) rfl (Qmb rfl rfl ?_)))
   refine TL_split 33 rfl (fun h33 => ?_) (fun h33 => ?_)
   ·
    have p33 := h33
    try simp only [dp] at p33
    refine zt rfl rfl h33 (Qms rfl rfl (zt rfl rfl h33 (Qmi rfl rfl (zt rfl rfl h33 (zq (Qt_indexN rfl rfl (by omega) (by omega)) rfl ?_)))))
    refine zt rfl rfl h33 (zq (Qt_fieldR rfl 38 (vote_pos hi)) rfl (zt rfl rfl h33 (zq (Qt_loadRs 38 (.int .i64 _) rfl (vote_get vs i 1 hi (by decide) inferInstance)) rfl (zt rfl rfl h33 (Qmi rfl rfl ?_)))))
    refine zt rfl rfl h33 (zq (Qt_eql rfl rfl) rfl (zq (zT (.bool _) rfl h33 rfl) rfl (Qmb rfl rfl ?_)))
    refine TL_split 42 rfl (fun h42 => ?_) (fun h42 => ?_)
    ·
     have p42 := h42
     try simp only [dp] at p42
     refine zt rfl rfl h42 (Qms rfl rfl (zt rfl rfl h42 (Qmi rfl rfl (zt rfl rfl h42 (zq (Qt_indexN rfl rfl (by omega) (by omega)) rfl ?_)))))
     refine zt rfl rfl h42 (zq (Qt_fieldR rfl 38 (vote_pos hi)) rfl (zt rfl rfl h42 (zq (Qt_loadRs 38 (.int .i64 _) rfl (vote_get vs i 2 hi (by decide) inferInstance)) rfl (zt rfl rfl h42 (Qmi rfl rfl ?_)))))
     refine zt rfl rfl h42 (zq (Qt_eql rfl rfl) rfl (zq (zT (.bool _) rfl h42 rfl) rfl (TX (zC rfl (fun h50 => ?_) (fun h50 => ?_)))))
     ·
      have p50 := h50
      try simp only [dp] at p50
      have hfound : wroteL vs ⟨view, reg⟩ = some vs[i] := find_found _ vs i hi hpre (by simp only [isW]; simp_all)
      refine T2 (Qms rfl rfl (Qmi rfl rfl (zq (Qt_indexN rfl rfl (by omega) (by omega)) rfl (zq (Qt_loadVote (k := i) rfl hi) rfl ?_))))
      refine zN (zs rfl rfl (?_))
      refine Qab rfl rfl (TX (zQ (zb (zr (X_loop_ret (zb (zr ?_)))))))
      exact zX () [_, _] Tryz.results17 ⟨⟨_, rfl, res_cellN rfl⟩, rfl, trivial⟩ (by rw [hfound]; rfl) SB
     have p50 := h50
     try simp only [dp] at p50
     have hstep : isW (slotL vs) ⟨view, reg⟩ vs[i] = false := by simp only [isW]; simp_all
     refine zk (X_block (zx (zR ?_)))
     refine Qmi rfl rfl (zq (Qt_add rfl rfl (by omega) (by omega)) rfl (Qai rfl rfl (zz (X_loop _ (by repeat (first | with_reducible exact agree_refl | refine agree_upd rfl ?_ | refine agree_mix rfl ?_ | refine agree_setAll rfl ?_)) (⟨i + 1, rfl, rfl, by omega, any_take_snoc _ vs i hi hpre hstep⟩) (by show vs.length - (i + 1 : Int).toNat < vs.length - (i : Int).toNat; omega) (SB)))))
    have p42 := h42
    try simp only [dp] at p42
    refine zp rfl rfl h42 rfl (zp rfl rfl h42 rfl (zp rfl rfl h42 rfl (zp rfl rfl h42 rfl (zp rfl rfl h42 rfl (zp rfl rfl h42 rfl ?_)))))
    refine zp rfl rfl h42 rfl (zq (zF (.bool _) rfl h42 rfl) rfl (TX (T_cond_false rfl rfl ?_)))
    have hstep : isW (slotL vs) ⟨view, reg⟩ vs[i] = false := by simp only [isW]; simp_all
    refine zk (X_block (zx (zR ?_)))
    refine Qmi rfl rfl (zq (Qt_add rfl rfl (by omega) (by omega)) rfl (Qai rfl rfl (zz (X_loop _ (by repeat (first | with_reducible exact agree_refl | refine agree_upd rfl ?_ | refine agree_mix rfl ?_ | refine agree_setAll rfl ?_)) (⟨i + 1, rfl, rfl, by omega, any_take_snoc _ vs i hi hpre hstep⟩) (by show vs.length - (i + 1 : Int).toNat < vs.length - (i : Int).toNat; omega) (SB)))))
   have p33 := h33
   try simp only [dp] at p33
   refine zp rfl rfl h33 rfl (zp rfl rfl h33 rfl (zp rfl rfl h33 rfl (zp rfl rfl h33 rfl (zp rfl rfl h33 rfl (zp rfl rfl h33 rfl ?_)))))
   refine zp rfl rfl h33 rfl (zq (zF (.bool _) rfl h33 rfl) rfl (Qmb rfl rfl (zp rfl rfl rfl rfl (zp rfl rfl rfl rfl (zp rfl rfl rfl rfl ?_)))))
   refine zp rfl rfl rfl rfl (zp rfl rfl rfl rfl (zp rfl rfl rfl rfl (zp rfl rfl rfl rfl (zq (zF (.bool _) rfl rfl rfl) rfl (TX ?_)))))
   refine T_cond_false rfl rfl ?_
   have hstep : isW (slotL vs) ⟨view, reg⟩ vs[i] = false := by simp only [isW]; simp_all
   refine zk (X_block (zx (zR ?_)))
   refine Qmi rfl rfl (zq (Qt_add rfl rfl (by omega) (by omega)) rfl (Qai rfl rfl (zz (X_loop _ (by repeat (first | with_reducible exact agree_refl | refine agree_upd rfl ?_ | refine agree_mix rfl ?_ | refine agree_setAll rfl ?_)) (⟨i + 1, rfl, rfl, by omega, any_take_snoc _ vs i hi hpre hstep⟩) (by show vs.length - (i + 1 : Int).toNat < vs.length - (i : Int).toNat; omega) (SB)))))
  have p24 := h24
  try simp only [dp] at p24
  refine zp rfl rfl h24 rfl (zp rfl rfl h24 rfl (zp rfl rfl h24 rfl (zp rfl rfl h24 rfl (zp rfl rfl h24 rfl (zp rfl rfl h24 rfl ?_)))))
  refine zp rfl rfl h24 rfl (zq (zF (.bool _) rfl h24 rfl) rfl (Qmb rfl rfl (zp rfl rfl rfl rfl (zp rfl rfl rfl rfl (zp rfl rfl rfl rfl ?_)))))
  refine zp rfl rfl rfl rfl (zp rfl rfl rfl rfl (zp rfl rfl rfl rfl (zp rfl rfl rfl rfl (zq (zF (.bool _) rfl rfl rfl) rfl (Qmb rfl rfl ?_)))))
  refine zp rfl rfl rfl rfl (zp rfl rfl rfl rfl (zp rfl rfl rfl rfl (zp rfl rfl rfl rfl (zp rfl rfl rfl rfl (zp rfl rfl rfl rfl ?_)))))
  refine zp rfl rfl rfl rfl (zq (zF (.bool _) rfl rfl rfl) rfl (TX (T_cond_false rfl rfl ?_)))
  have hstep : isW (slotL vs) ⟨view, reg⟩ vs[i] = false := by simp only [isW]; simp_all
  refine zk (X_block (zx (zR ?_)))
  refine Qmi rfl rfl (zq (Qt_add rfl rfl (by omega) (by omega)) rfl (Qai rfl rfl (zz (X_loop _ (by repeat (first | with_reducible exact agree_refl | refine agree_upd rfl ?_ | refine agree_mix rfl ?_ | refine agree_setAll rfl ?_)) (⟨i + 1, rfl, rfl, by omega, any_take_snoc _ vs i hi hpre hstep⟩) (by show vs.length - (i + 1 : Int).toNat < vs.length - (i : Int).toNat; omega) (SB)))))
 have p15 := h15
 try simp only [dp] at p15
 have et : vs.take i = vs := List.take_of_length_le (by omega)
 rw [et] at hpre
 have hlost : wroteL vs ⟨view, reg⟩ = none := find_lost _ vs hpre
 refine zY (zG (zW (zE (zx (T2 ?_)))))
 refine zq (Qt_build [] rfl (by kernel_rfl)) rfl ?_
 refine zN (zs rfl rfl (?_))
 refine Qab rfl rfl (TX (zQ ?_))
 exact zX () [_, _] Tryz.results17 ⟨⟨_, rfl, res_cellN rfl⟩, rfl, trivial⟩ (by rw [hlost]; rfl) SB
def takeL (vs : List VoteV) (v : VoteV) : Int := if (putV v.abs).2 ≠ 0 then 15 else if 1 < v.kind ∧ v.slot < slotL vs then 7 else 0
end
section
open Go.RowKit Go.Sx
set_option maxRecDepth 100000
set_option linter.unusedSimpArgs false
set_option linter.unusedVariables false
/-- The book is what the votes make. -/
structure SameL (y : BkS) (ls : List VoteV) : Prop where
 reg : 0 ≤ (regL ls).1 → y.k.now.view = (regL ls).1 ∧ y.k.now.reg = (regL ls).2
 noreg : (regL ls).1 < 0 → y.k.now.view = 0 ∧ y.k.now.reg = 0
 slot : y.k.slot = slotL ls
 acc : (y.acc.map fun q => q.2.abs) = (accL ls).map VoteV.abs
 wrote : ∀ a, (getE y.es a).map VoteV.abs = (wroteL ls a).map VoteV.abs
theorem map_some {α β : Type} {f : α → β} {x y : Option α} (h : x.map f = y.map f) : x.isSome = y.isSome := by
 have := congrArg Option.isSome h; simpa using this
theorem map_getD {x y : Option VoteV} (h : x.map VoteV.abs = y.map VoteV.abs) : (x.getD VoteV.zero).abs = (y.getD VoteV.zero).abs := by
 cases x <;> cases y <;> simp_all
end
section
open Go.RowKit Go.Sx
set_option maxRecDepth 100000
set_option linter.unusedSimpArgs false
set_option linter.unusedVariables false
theorem slot_grow : ∀ (l : List VoteV) (n : Int), n ≤ l.foldl slotS n ∧ ∀ v ∈ l, 1 < v.kind → v.slot ≤ l.foldl slotS n
 | [], n => ⟨Int.le_refl _, fun _ h => by cases h⟩
 | u :: l, n => by
  obtain ⟨h1, h2⟩ := slot_grow l (slotS n u)
  have h0 : n ≤ slotS n u ∧ (1 < u.kind → u.slot ≤ slotS n u) := by unfold slotS; split <;> exact ⟨by omega, fun _ => by omega⟩
  refine ⟨Int.le_trans h0.1 h1, fun v hv hk => ?_⟩
  rcases List.mem_cons.1 hv with rfl | hv
  · exact Int.le_trans (h0.2 hk) h1
  · exact h2 v hv hk
theorem slotL_snoc (l : List VoteV) (v : VoteV) : slotL (l ++ [v]) = slotS (slotL l) v := by simp [slotL]
theorem regL_snoc (l : List VoteV) (v : VoteV) : regL (l ++ [v]) = regS (regL l) v := by simp [regL]
theorem find_snoc {α : Type} (p : α → Bool) (l : List α) (v : α) : (l ++ [v]).find? p = (l.find? p).or (if p v then some v else none) := by
 rw [List.find?_append]; cases h : p v <;> simp [List.find?, h]
theorem acc_none (s : Int) : ∀ (l : List VoteV) (o : Option VoteV), (∀ v ∈ l, v.kind = 3 → v.slot < s) → l.foldl (accS s) o = o
 | [], _, _ => rfl
 | v :: l, o, h => by
  rw [List.foldl_cons, show accS s o v = o from if_pos (by have := h v (by simp); omega)]
  exact acc_none s l o fun u hu => h u (by simp [hu])
/-- A book, as data, is what votes that came make. -/
structure SameD (b : BookD) (l : List VoteV) : Prop where
 ent : b.entered = decide (0 ≤ (regL l).1)
 now : b.entered = true → b.now = ⟨(regL l).1, (regL l).2⟩
 nown : b.entered = false → b.now = ⟨0, 0⟩
 slot : b.slot = slotL l
 acc : b.acc = (accL l).map VoteV.abs
 wrote : ∀ a, b.get a = (wroteL l a).map VoteV.abs
theorem SameD.same {y : BkS} {l : List VoteV} (h : SameD y.abs l) : SameL y l where
 reg := fun h0 => by
  have := h.now (h.ent.trans (decide_eq_true h0))
  exact ⟨congrArg EraV.view this, congrArg EraV.reg this⟩
 noreg := fun h0 => by
  have := h.nown (h.ent.trans (decide_eq_false (by omega)))
  exact ⟨congrArg EraV.view this, congrArg EraV.reg this⟩
 slot := h.slot
 acc := h.acc
 wrote := fun a => by rw [← BkS.get]; exact h.wrote a
theorem SameD.start : SameD BookD.zero [] := ⟨rfl, fun h => (by cases h), fun _ => rfl, rfl, rfl, fun _ => rfl⟩
theorem get_begin (b : BookD) (s : Int) (h : ¬ s < b.slot) (a : EraV) : (beginD b s).get a = if b.slot < s then none else b.get a := by
 unfold beginD
 split <;> rfl
theorem get_write (b : BookD) (a x : EraV) (v : VoteD) : (writeD b a v).get x = (b.get x).or (if x = a then some v else none) := by
 unfold writeD
 split
 · rename_i h
   by_cases e : x = a
   · subst e
     obtain ⟨u, hu⟩ := Option.isSome_iff_exists.1 h
     simp [hu]
   · simp [e]
 · rename_i h
   simp only [BookD.get, List.find?_append, List.find?_cons, List.find?_nil]
   by_cases e : x = a
   · subst e
     cases hf : List.find? (fun e => decide (x = e.1)) b.wrote <;> simp
   · simp [e]
theorem get_accept (b : BookD) (a x : EraV) (v : VoteD) : (acceptD b a v).get x = b.get x := by
 unfold acceptD
 split
 · rfl
 · split <;> rfl
theorem slotS_ge {n : Int} {v : VoteV} (hk : 1 < v.kind) (h : ¬ v.slot < n) : slotS n v = v.slot := by
 unfold slotS; split
 · rfl
 · omega
/-- What a further vote of a slot that is reached turns. -/
theorem wrote_snoc {l : List VoteV} {v : VoteV} (hk : 1 < v.kind) (h : ¬ v.slot < slotL l) (a : EraV) : wroteL (l ++ [v]) a = (if slotL l < v.slot then none else wroteL l a).or (if isW v.slot a v then some v else none) := by
 have e := slotL_snoc l v
 rw [slotS_ge hk h] at e
 unfold wroteL
 rw [e, find_snoc]
 by_cases hlt : slotL l < v.slot
 · rw [if_pos hlt]
   congr 1
   rw [List.find?_eq_none]
   intro u hu
   have := (slot_grow l 0).2 u hu
   simp only [isW, Bool.and_eq_true, decide_eq_true_eq]
   rintro ⟨⟨⟨h1, h2⟩, -⟩, -⟩
   have h3 := this (by omega)
   have h4 : slotL l = l.foldl slotS 0 := rfl
   omega
 · rw [if_neg hlt, show v.slot = slotL l from by omega]
theorem acc_snoc {l : List VoteV} {v : VoteV} (hk : 1 < v.kind) (h : ¬ v.slot < slotL l) : accL (l ++ [v]) = accS v.slot (if slotL l < v.slot then none else accL l) v := by
 have e := slotL_snoc l v
 rw [slotS_ge hk h] at e
 unfold accL
 rw [e, List.foldl_append]
 show accS v.slot _ v = _
 split
 · rename_i hlt
   rw [acc_none]
   intro u hu h3
   have h5 := (slot_grow l 0).2 u hu (by omega)
   have h4 : slotL l = l.foldl slotS 0 := rfl
   omega
 · rw [show v.slot = slotL l from by omega]
theorem reg_skip {p : Int × Int} {v : VoteV} (h : v.kind ≠ 1) : regS p v = p := if_neg (by omega)
theorem begin_facts {b : BookD} {l : List VoteV} (hs : SameD b l) (s : Int) : (beginD b s).entered = b.entered ∧ (beginD b s).now = b.now ∧ (beginD b s).acc = if slotL l < s then none else b.acc := by
 unfold beginD
 rw [← hs.slot]
 split <;> exact ⟨rfl, rfl, rfl⟩
theorem take_same {b : BookD} {l : List VoteV} {v : VoteV} (hs : SameD b l) : (takeD b v.abs).2 = takeL l v ∧ ((takeD b v.abs).2 = 0 → SameD (takeD b v.abs).1 (l ++ [v])) ∧ ((takeD b v.abs).2 ≠ 0 → SameD (takeD b v.abs).1 l) := by
 rcases takeD_cases b v.abs with ⟨e, hp⟩ | ⟨e, hp, hk⟩ | ⟨e, hp, hk, hl⟩ | ⟨e, hp, hk, hl⟩ | ⟨e, hp, hk1, hk2, hl⟩ <;> rw [e]
 · exact ⟨(if_pos hp).symm, fun h => by simp at h, fun _ => hs⟩
 · have hk : v.kind = 1 := hk
   obtain ⟨-, -, ⟨hv0, hv1⟩, ⟨hr0, hr1⟩, -⟩ := (formed_spec v.abs).1 (formed_of_put hp)
   have hv0 : 0 ≤ v.view := hv0
   refine ⟨by unfold takeL; rw [if_neg (by simpa using hp), if_neg (by omega)], fun _ => ?_, fun h => absurd rfl h⟩
   have es : slotL (l ++ [v]) = slotL l := by rw [slotL_snoc]; unfold slotS; rw [if_neg (by omega)]
   have ea : accL (l ++ [v]) = accL l := by
    unfold accL; rw [es, List.foldl_append]; exact if_pos (by omega)
   have ew : ∀ a, wroteL (l ++ [v]) a = wroteL l a := fun a => by
    unfold wroteL; rw [es, find_snoc, if_neg (by simp [isW, hk])]; simp
   have er : regL (l ++ [v]) = if (regL l).1 < v.view ∨ (v.view = (regL l).1 ∧ (regL l).2 < v.reg) then (v.view, v.reg) else regL l := by
    rw [regL_snoc]; unfold regS; simp only [hk, true_and]
   have hcond : (!b.entered || afterB ⟨v.view, v.reg⟩ b.now) = decide ((regL l).1 < v.view ∨ (v.view = (regL l).1 ∧ (regL l).2 < v.reg)) := by
    cases he : b.entered
    · have h1 : ¬ 0 ≤ (regL l).1 := of_decide_eq_false (hs.ent.symm.trans he)
      simp; omega
    · rw [hs.now he]
      rw [Bool.eq_iff_iff]
      simp [afterB]
   have h1 := begin_facts hs v.slot
   show SameD (bif !b.entered || afterB ⟨v.view, v.reg⟩ b.now then _ else b) _
   rw [hcond]
   by_cases hc : (regL l).1 < v.view ∨ (v.view = (regL l).1 ∧ (regL l).2 < v.reg)
   · rw [if_pos hc] at er
     rw [decide_eq_true hc, cond_true]
     exact ⟨by rw [er]; simp [hv0], fun _ => by rw [er]; rfl, fun h => (by cases h), by rw [es]; exact hs.slot, by rw [ea]; exact hs.acc, fun a => by rw [ew]; exact hs.wrote a⟩
   · rw [if_neg hc] at er
     rw [decide_eq_false hc, cond_false]
     exact ⟨by rw [er]; exact hs.ent, fun h => by rw [er]; exact hs.now h, hs.nown, by rw [es]; exact hs.slot, by rw [ea]; exact hs.acc, fun a => by rw [ew]; exact hs.wrote a⟩
 · have hk' : 1 < v.kind := by have := ((formed_spec v.abs).1 (formed_of_put hp)).1; have h2 : v.kind ≠ 1 := hk; have h3 : 1 ≤ v.kind := this; omega
   refine ⟨?_, fun h => by simp at h, fun _ => hs⟩
   unfold takeL
   rw [if_neg (by simpa using hp), if_pos ⟨hk', by rw [← hs.slot]; exact hl⟩]
 · have hk : v.kind = 2 := hk
   have hl : ¬ v.slot < slotL l := by rw [← hs.slot]; exact hl
   refine ⟨?_, fun _ => ?_, fun h => absurd rfl h⟩
   · unfold takeL
     rw [if_neg (by simpa using hp), if_neg (by omega)]
   · obtain ⟨w1, w2, w3, w4⟩ := write_now (beginD b v.abs.slot) ⟨v.view, v.reg⟩ v.abs
     obtain ⟨g1, g2, g3⟩ := begin_facts hs v.abs.slot
     have er : regL (l ++ [v]) = regL l := by rw [regL_snoc, reg_skip (by omega)]
     show SameD (writeD (beginD b v.abs.slot) ⟨v.view, v.reg⟩ v.abs) _
     refine ⟨by rw [w2, g1, er]; exact hs.ent, fun h => by rw [w1, g2, er]; exact hs.now (by rw [← g1, ← w2]; exact h), fun h => by rw [w1, g2]; exact hs.nown (by rw [← g1, ← w2]; exact h), ?_, ?_, fun a => ?_⟩
     · rw [w3, begin_slot b v.abs.slot (by rw [hs.slot]; exact hl), slotL_snoc, slotS_ge (by omega) hl]; rfl
     · rw [w4, g3, acc_snoc (by omega) hl, hs.acc]
       rw [show accS v.slot (if slotL l < v.slot then none else accL l) v = if slotL l < v.slot then none else accL l from if_pos (by omega)]
       show (if slotL l < v.slot then none else _) = _
       split <;> rfl
     · rw [get_write, get_begin b _ (by rw [hs.slot]; exact hl), wrote_snoc (by omega) hl, hs.wrote, hs.slot]
       show (if slotL l < v.slot then none else _).or _ = _
       have e1 : isW v.slot a v = decide (a = ⟨v.view, v.reg⟩) := by
        rw [Bool.eq_iff_iff]; simp [isW, hk, EraV.ext_iff']; omega
       rw [e1]
       by_cases ha : a = ⟨v.view, v.reg⟩ <;> by_cases hlt : slotL l < v.slot <;> simp [ha, hlt]
 · have hk1 : v.kind ≠ 1 := hk1
   have hk2 : v.kind ≠ 2 := hk2
   obtain ⟨hka, hkb, -⟩ := (formed_spec v.abs).1 (formed_of_put hp)
   have hk : v.kind = 3 := by have h1 : 1 ≤ v.kind := hka; have h2 : v.kind ≤ 3 := hkb; omega
   have hl : ¬ v.slot < slotL l := by rw [← hs.slot]; exact hl
   refine ⟨?_, fun _ => ?_, fun h => absurd rfl h⟩
   · unfold takeL
     rw [if_neg (by simpa using hp), if_neg (by omega)]
   · obtain ⟨w1, w2, w3⟩ := accept_now (beginD b v.abs.slot) ⟨v.view, v.reg⟩ v.abs
     obtain ⟨g1, g2, g3⟩ := begin_facts hs v.abs.slot
     have er : regL (l ++ [v]) = regL l := by rw [regL_snoc, reg_skip (by omega)]
     show SameD (acceptD (beginD b v.abs.slot) ⟨v.view, v.reg⟩ v.abs) _
     refine ⟨by rw [w2, g1, er]; exact hs.ent, fun h => by rw [w1, g2, er]; exact hs.now (by rw [← g1, ← w2]; exact h), fun h => by rw [w1, g2]; exact hs.nown (by rw [← g1, ← w2]; exact h), ?_, ?_, fun a => ?_⟩
     · rw [w3, begin_slot b v.abs.slot (by rw [hs.slot]; exact hl), slotL_snoc, slotS_ge (by omega) hl]; rfl
     · rw [acc_snoc (by omega) hl]
       have e0 : (beginD b v.abs.slot).acc = (if slotL l < v.slot then none else accL l).map VoteV.abs := by
        rw [g3, hs.acc]
        show (if slotL l < v.slot then none else _) = _
        split <;> rfl
       have hn : ¬ (v.kind ≠ 3 ∨ v.slot ≠ v.slot) := by omega
       generalize (if slotL l < v.slot then none else accL l) = o at e0 ⊢
       unfold acceptD accS
       rw [e0, if_neg hn]
       cases o with
       | none => rfl
       | some u =>
        simp only [Option.map_some]
        have e2 : afterB ⟨v.view, v.reg⟩ ⟨u.abs.view, u.abs.reg⟩ = decide (u.view < v.view ∨ (v.view = u.view ∧ u.reg < v.reg)) := by
         show (decide (u.view < v.view) || (decide (v.view = u.view) && decide (u.reg < v.reg))) = _
         rw [Bool.eq_iff_iff]; simp only [Bool.or_eq_true, Bool.and_eq_true, decide_eq_true_eq]
        rw [e2]
        by_cases hc : u.view < v.view ∨ (v.view = u.view ∧ u.reg < v.reg)
        · simp only [hc, decide_true, if_true]; rfl
        · simp only [hc, decide_false, Bool.false_eq_true, if_false]; exact e0
     · rw [get_accept, get_begin b _ (by rw [hs.slot]; exact hl), wrote_snoc (by omega) hl, hs.wrote, hs.slot]
       rw [show isW v.slot a v = false from by simp [isW, hk]]
       show (if slotL l < v.slot then none else _) = _
       by_cases hlt : slotL l < v.slot <;> simp [hlt]
theorem rds_sub {w0 : World} {H : List SA} {vs us : List VoteV} (h : RdVs w0 H vs) (hs : ∀ v ∈ us, v ∈ vs) : RdVs w0 H us := ⟨fun v hv => h.b v (hs v hv), fun v hv => h.c v (hs v hv), fun v hv => h.e v (hs v hv)⟩
end
section
open Go.RowKit Go.Sx
set_option maxRecDepth 100000
set_option linter.unusedSimpArgs false
set_option linter.unusedVariables false
def keyLt (a b : EraV) : Prop := a.view < b.view ∨ (a.view = b.view ∧ a.reg < b.reg)
theorem keyLt_irrefl (a : EraV) : ¬ keyLt a a := by unfold keyLt; omega
theorem keyLt_asymm {a b : EraV} (h : keyLt a b) : ¬ keyLt b a := by unfold keyLt at *; omega
theorem sorted_ext {α : Type} {lt : α → α → Prop} (hi : ∀ a, ¬ lt a a) (ha : ∀ a b, lt a b → ¬ lt b a) : ∀ (l m : List α), l.Pairwise lt → m.Pairwise lt → (∀ a, a ∈ l ↔ a ∈ m) → l = m
 | [], [], _, _, _ => rfl
 | [], b :: m, _, _, h => absurd ((h b).2 (by simp)) (by simp)
 | a :: l, [], _, _, h => absurd ((h a).1 (by simp)) (by simp)
 | a :: l, b :: m, h1, h2, h => by
  have h1' := List.pairwise_cons.1 h1
  have h2' := List.pairwise_cons.1 h2
  have e : a = b := by
   rcases List.mem_cons.1 ((h a).1 (by simp)) with e | e
   · exact e
   · rcases List.mem_cons.1 ((h b).2 (by simp)) with e2 | e2
     · exact e2.symm
     · exact absurd (h2'.1 a e) (ha _ _ (h1'.1 b e2))
  subst e
  congr 1
  refine sorted_ext hi ha l m h1'.2 h2'.2 (fun x => ⟨fun hx => ?_, fun hx => ?_⟩)
  · rcases List.mem_cons.1 ((h x).1 (List.mem_cons_of_mem _ hx)) with e | e
    · subst e; exact absurd (h1'.1 _ hx) (hi _)
    · exact e
  · rcases List.mem_cons.1 ((h x).2 (List.mem_cons_of_mem _ hx)) with e | e
    · subst e; exact absurd (h2'.1 _ hx) (hi _)
    · exact e
/-- All eras that may be, in order. -/
def rowG (v n : Nat) : List EraV := (List.range n).map fun r : Nat => ⟨(v : Int), (r : Int)⟩
def gridN (n : Nat) : List EraV := (List.range n).flatMap fun v : Nat => rowG v 41
def grid : List EraV := gridN 61
theorem rowG_succ (v n : Nat) : rowG v (n + 1) = rowG v n ++ [⟨(v : Int), (n : Int)⟩] := by simp [rowG, List.range_succ]
theorem gridN_succ (n : Nat) : gridN (n + 1) = gridN n ++ rowG n 41 := by simp [gridN, List.range_succ]
theorem rowG_len (v n : Nat) : (rowG v n).length = n := by simp [rowG]
theorem gridN_len : ∀ n : Nat, (gridN n).length = n * 41
 | 0 => rfl
 | n + 1 => by rw [gridN_succ, List.length_append, gridN_len n, rowG_len]; omega
theorem mem_grid (a : EraV) : a ∈ grid ↔ (0 ≤ a.view ∧ a.view ≤ 60) ∧ (0 ≤ a.reg ∧ a.reg ≤ 40) := by
 simp only [grid, gridN, rowG, List.mem_flatMap, List.mem_range, List.mem_map]
 constructor
 · rintro ⟨v, hv, r, hr, rfl⟩
   exact ⟨⟨by show (0 : Int) ≤ (v : Int); omega, by show (v : Int) ≤ 60; omega⟩, ⟨by show (0 : Int) ≤ (r : Int); omega, by show (r : Int) ≤ 40; omega⟩⟩
 · rintro ⟨⟨h1, h2⟩, h3, h4⟩
   refine ⟨a.view.toNat, by omega, a.reg.toNat, by omega, ?_⟩
   cases a
   simp only [EraV.mk.injEq] at *
   omega
theorem row_sorted (v n : Nat) : (rowG v n).Pairwise keyLt := by
 induction n with
 | zero => simp [rowG]
 | succ n ih =>
  rw [rowG_succ, List.pairwise_append]
  refine ⟨ih, by simp, fun a ha b hb => ?_⟩
  obtain rfl : b = _ := by simpa using hb
  simp only [rowG, List.mem_map, List.mem_range] at ha
  obtain ⟨r, hr, rfl⟩ := ha
  exact .inr ⟨rfl, by show (r : Int) < (n : Int); omega⟩
theorem gridN_sorted (n : Nat) : (gridN n).Pairwise keyLt := by
 induction n with
 | zero => simp [gridN]
 | succ n ih =>
  rw [gridN_succ, List.pairwise_append]
  refine ⟨ih, row_sorted _ _, fun a ha b hb => ?_⟩
  simp only [gridN, rowG, List.mem_flatMap, List.mem_range, List.mem_map] at ha hb
  obtain ⟨v, hv, r, hr, rfl⟩ := ha
  obtain ⟨q, hq, rfl⟩ := hb
  exact .inl (by show (v : Int) < (n : Int); omega)
theorem grid_sorted : grid.Pairwise keyLt := gridN_sorted 61
/-- The vote that tells a regency. -/
def regV (p : Int × Int) : VoteV := { VoteV.zero with kind := 1, view := p.1, reg := p.2 }
def regP (l : List VoteV) : List VoteV := if 0 ≤ (regL l).1 then [regV (regL l)] else []
def allL (l : List VoteV) : List VoteV := regP l ++ (grid.filterMap (wroteL l) ++ (accL l).toList)
def Came (l : List VoteV) : Prop := ∀ v ∈ l, (putV v.abs).2 = 0
theorem wroteL_spec {l : List VoteV} {a : EraV} {v : VoteV} (h : wroteL l a = some v) : v ∈ l ∧ v.kind = 2 ∧ v.slot = slotL l ∧ v.view = a.view ∧ v.reg = a.reg := by
 have h1 := List.mem_of_find?_eq_some h
 have h2 := List.find?_some h
 simp only [isW, Bool.and_eq_true, decide_eq_true_eq] at h2
 exact ⟨h1, h2.1.1.1, h2.1.1.2, h2.1.2, h2.2⟩
theorem accS_spec (s : Int) : ∀ (l : List VoteV) (o : Option VoteV) (u : VoteV), l.foldl (accS s) o = some u → o = some u ∨ (u ∈ l ∧ u.kind = 3 ∧ u.slot = s)
 | [], o, u, h => .inl h
 | v :: l, o, u, h => by
  rcases accS_spec s l (accS s o v) u h with h1 | h1
  · unfold accS at h1
    split at h1
    · exact .inl h1
    · rename_i hn
      have hk : v.kind = 3 ∧ v.slot = s := by omega
      cases o with
      | none =>
       obtain rfl : v = u := by simpa using h1
       exact .inr ⟨by simp, hk⟩
      | some q =>
       simp only at h1
       split at h1
       · obtain rfl : v = u := by simpa using h1
         exact .inr ⟨by simp, hk⟩
       · exact .inl h1
  · exact .inr ⟨List.mem_cons_of_mem _ h1.1, h1.2⟩
theorem accL_spec {l : List VoteV} {u : VoteV} (h : accL l = some u) : u ∈ l ∧ u.kind = 3 ∧ u.slot = slotL l := by
 rcases accS_spec _ l none u h with h1 | h1
 · cases h1
 · exact h1
theorem accS_some (s : Int) : ∀ (l : List VoteV) (o : Option VoteV), (o.isSome = true ∨ ∃ u ∈ l, u.kind = 3 ∧ u.slot = s) → (l.foldl (accS s) o).isSome = true
 | [], o, h => by
  rcases h with h | ⟨u, hu, -⟩
  · exact h
  · cases hu
 | v :: l, o, h => by
  refine accS_some s l (accS s o v) ?_
  by_cases hv : v.kind = 3 ∧ v.slot = s
  · left
    unfold accS
    rw [if_neg (by omega)]
    cases o with
    | none => rfl
    | some q => simp only; split <;> rfl
  · rcases h with h | ⟨u, hu, hk⟩
    · left
      unfold accS
      rw [if_pos (by omega)]
      exact h
    · rcases List.mem_cons.1 hu with rfl | hu
      · exact absurd hk hv
      · exact .inr ⟨u, hu, hk⟩
theorem came_grid {l : List VoteV} (hc : Came l) {a : EraV} (h : (wroteL l a).isSome = true) : a ∈ grid := by
 obtain ⟨v, hv⟩ := Option.isSome_iff_exists.1 h
 obtain ⟨hm, -, -, h1, h2⟩ := wroteL_spec hv
 obtain ⟨-, -, hvw, hrg, -⟩ := (formed_spec _).1 (formed_of_put (hc v hm))
 have hvw : 0 ≤ v.view ∧ v.view ≤ 60 := hvw
 have hrg : 0 ≤ v.reg ∧ v.reg ≤ 40 := hrg
 rw [mem_grid]
 omega
theorem filterMap_sorted {f : EraV → Option VoteV} (g : List EraV) : (g.filter fun a => (f a).isSome).map (fun a => (f a).getD VoteV.zero) = g.filterMap f := by
 induction g with
 | nil => rfl
 | cons a g ih =>
  cases h : f a with
  | none => simp [h, ih]
  | some v => simp [h, ih]
/-- The sorted keys of what was written are the grid's. -/
theorem keys_grid {l : List VoteV} (hc : Came l) {ks : List EraV} (hs : ks.Pairwise keyLt) (hm : ∀ a, a ∈ ks ↔ (wroteL l a).isSome = true) : ks = grid.filter fun a => (wroteL l a).isSome :=
 sorted_ext keyLt_irrefl (fun _ _ => keyLt_asymm) _ _ hs (grid_sorted.filter _) (fun a => by
  rw [hm, List.mem_filter]
  exact ⟨fun h => ⟨came_grid hc h, h⟩, fun h => h.2⟩)
theorem keys_votes {l : List VoteV} (hc : Came l) {ks : List EraV} (hs : ks.Pairwise keyLt) (hm : ∀ a, a ∈ ks ↔ (wroteL l a).isSome = true) : ks.map (fun a => (wroteL l a).getD VoteV.zero) = grid.filterMap (wroteL l) := by
 rw [keys_grid hc hs hm, filterMap_sorted]
theorem slotL_hit : ∀ (l : List VoteV) (n : Int), n < l.foldl slotS n → ∃ v ∈ l, 1 < v.kind ∧ v.slot = l.foldl slotS n
 | [], n, h => absurd h (by simp)
 | v :: l, n, h => by
  rw [List.foldl_cons] at h ⊢
  by_cases hl : slotS n v < l.foldl slotS (slotS n v)
  · obtain ⟨u, hu, h1⟩ := slotL_hit l _ hl
    exact ⟨u, List.mem_cons_of_mem _ hu, h1⟩
  · have h2 := (slot_grow l (slotS n v)).1
    have e : l.foldl slotS (slotS n v) = slotS n v := by omega
    rw [e] at h ⊢
    unfold slotS at h ⊢
    split at h
    · rename_i hk; rw [if_pos hk]; exact ⟨v, by simp, hk.1, rfl⟩
    · omega
theorem slotL_nonneg (l : List VoteV) : 0 ≤ slotL l := (slot_grow l 0).1
theorem slotL_le {S : Int} : ∀ (l : List VoteV) (n : Int), n ≤ S → (∀ v ∈ l, 1 < v.kind → v.slot ≤ S) → l.foldl slotS n ≤ S
 | [], _, h, _ => h
 | v :: l, n, h, hl => by
  rw [List.foldl_cons]
  refine slotL_le l _ ?_ (fun u hu => hl u (by simp [hu]))
  unfold slotS; split
  · rename_i hk; exact hl v (by simp) hk.1
  · exact h
/-- Of the votes that are told. -/
theorem all_mem {l : List VoteV} {v : VoteV} (h : v ∈ allL l) : (0 ≤ (regL l).1 ∧ v = regV (regL l)) ∨ (v ∈ l ∧ v.kind = 2 ∧ v.slot = slotL l ∧ wroteL l ⟨v.view, v.reg⟩ = some v) ∨ (v ∈ l ∧ v.kind = 3 ∧ v.slot = slotL l ∧ accL l = some v) := by
 unfold allL at h
 rcases List.mem_append.1 h with h | h
 · left
   unfold regP at h
   split at h
   · exact ⟨by assumption, by simpa using h⟩
   · cases h
 · rcases List.mem_append.1 h with h | h
   · right; left
     obtain ⟨a, -, ha⟩ := List.mem_filterMap.1 h
     obtain ⟨h1, h2, h3, h4, h5⟩ := wroteL_spec ha
     refine ⟨h1, h2, h3, ?_⟩
     rw [h4, h5]
     exact ha
   · right; right
     have h := Option.mem_toList.1 h
     obtain ⟨h1, h2, h3⟩ := accL_spec h
     exact ⟨h1, h2, h3, h⟩
theorem all_slot {l : List VoteV} {v : VoteV} (hv : v ∈ allL l) : 1 < v.kind → v.slot = slotL l := fun hk => by
 rcases all_mem hv with ⟨h0, rfl⟩ | ⟨-, -, h, -⟩ | ⟨-, -, h, -⟩
 · exact absurd hk (by simp [regV])
 · exact h
 · exact h
theorem all_slotL {l : List VoteV} (hc : Came l) : slotL (allL l) = slotL l := by
 have h1 : slotL (allL l) ≤ slotL l := slotL_le _ _ (slotL_nonneg l) (fun v hv hk => by rw [all_slot hv hk]; exact Int.le_refl _)
 have h0 := slotL_nonneg (allL l)
 by_cases hp : 0 < slotL l
 · obtain ⟨v, hv, hk, hs⟩ := slotL_hit l 0 hp
   have hs : v.slot = slotL l := hs
   have key : ∃ u ∈ allL l, 1 < u.kind := by
    have hf := (formed_spec _).1 (formed_of_put (hc v hv))
    have hk3 : v.kind ≤ 3 := hf.2.1
    by_cases h2 : v.kind = 2
    · have hw : (wroteL l ⟨v.view, v.reg⟩).isSome = true := by
       unfold wroteL
       rw [List.find?_isSome]
       exact ⟨v, hv, by simp [isW, h2, hs]⟩
      obtain ⟨u, hu⟩ := Option.isSome_iff_exists.1 hw
      refine ⟨u, ?_, by have := (wroteL_spec hu).2.1; omega⟩
      unfold allL
      exact List.mem_append_right _ (List.mem_append_left _ (List.mem_filterMap.2 ⟨_, came_grid hc hw, hu⟩))
    · have ha : (accL l).isSome = true := accS_some _ l none (.inr ⟨v, hv, by omega, hs⟩)
      obtain ⟨u, hu⟩ := Option.isSome_iff_exists.1 ha
      refine ⟨u, ?_, by have := (accL_spec hu).2.1; omega⟩
      unfold allL
      exact List.mem_append_right _ (List.mem_append_right _ (Option.mem_toList.2 hu))
   obtain ⟨u, hu, huk⟩ := key
   have h2 := (slot_grow (allL l) 0).2 u hu huk
   have h3 : slotL (allL l) = (allL l).foldl slotS 0 := rfl
   have h4 := all_slot hu huk
   omega
 · have := slotL_nonneg l
   omega
theorem allL_len (l : List VoteV) : (allL l).length ≤ 2503 := by
 have h1 : (regP l).length ≤ 1 := by unfold regP; split <;> simp
 have h2 : (grid.filterMap (wroteL l)).length ≤ 2501 := Nat.le_trans (List.length_filterMap_le _ _) (by rw [grid, gridN_len]; decide)
 have h3 : (accL l).toList.length ≤ 1 := by cases accL l <;> simp
 simp only [allL, List.length_append]
 omega
end
section
open Go.RowKit Go.Sx
set_option maxRecDepth 100000
set_option linter.unusedSimpArgs false
set_option linter.unusedVariables false
open Go.Maps
section
variable {P : Program} {F : Fence} {n : Nat} {ops : Array Oper} {rest : List Oper} {o : Oper} {a : Act} {Q : Exit → Act → World → Prop} {κ ν : Type} {enc : κ → Value} {ev : ν → Value}
theorem run_rangeM (w : World) {t k e : TypeId} {r c : Nat} {es : List (Ent κ ν)} (ht : P.underlying t = some (.map k e)) (h : w.heap[r]? = some (mapO enc ev es c)) :
 (Instr.range t (.map (some r))).run P w = .ok (.pointer (some ⟨w.heap.size, 0, none⟩)) (w.alloc (.mapIter (some r) c #[] c)) := by
 simp only [Instr.range, Sem.run_bind, run_underlying ht, Result.andThen_ok, getObj_run h, Sem.run_pure, run_newObj]
 rfl
theorem run_nextM (w : World) (ty : TypeId) {it r since last c : Nat} {seen : Array Nat} {es : List (Ent κ ν)} (hb : w.heap[it]? = some (.mapIter (some r) since seen last)) (hmr : w.heap[r]? = some (mapO enc ev es c)) (hs : ∀ e ∈ es, e.b < since) (hl : ∀ e ∈ es, e.b < last) :
 (leftE es seen = [] ∧ (Instr.next (.pointer (some ⟨it, 0, none⟩)) false ty).run P w = .ok (.tuple #[.bool false]) w) ∨
 ∃ e ∈ leftE es seen, ∃ m, (Instr.next (.pointer (some ⟨it, 0, none⟩)) false ty).run P w = .ok (.tuple #[.bool true, enc e.k, ev e.v]) { w with drawn := m, heap := w.heap.setIfInBounds it (.mapIter (some r) since (seen.push e.b) c) } := by
 simp only [Instr.next, Sem.run_bind, getIter_run hb, Result.andThen_ok, getObj_run hmr]
 have hall : (!seen.isEmpty && !(es.map (entV enc ev)).toArray.isEmpty && (es.map (entV enc ev)).toArray.all fun x => decide (x.born ≥ last)) = false := by
  cases es with
  | nil => simp
  | cons e es =>
   have := hl e (by simp)
   have hne : ¬ (e.b ≥ last) := by omega
   simp [entV, hne]
 rw [hall]
 simp only [Bool.false_eq_true, if_false, Sem.run_bind, Sem.run_pure, Result.andThen_ok]
 have hleft : (Array.filter (fun e : MapEntry => !seen.contains e.born) (es.map (entV enc ev)).toArray) = ((leftE es seen).map (entV enc ev)).toArray := by
  rw [List.filter_toArray]; simp only [leftE]
  congr 1
  rw [List.filter_map]
  rfl
 have hold : (Array.filter (fun e : MapEntry => decide (e.born < since)) ((leftE es seen).map (entV enc ev)).toArray) = ((leftE es seen).map (entV enc ev)).toArray := by
  rw [List.filter_toArray]
  congr 1
  rw [List.filter_eq_self]
  intro a ha
  obtain ⟨e, he, rfl⟩ := List.mem_map.1 ha
  have := hs e (List.mem_filter.1 he).1
  exact decide_eq_true this
 have hnew : (Array.filter (fun e : MapEntry => decide (e.born ≥ since)) ((leftE es seen).map (entV enc ev)).toArray) = #[] := by
  rw [List.filter_toArray]
  congr 1
  rw [List.filter_eq_nil_iff]
  intro a ha
  obtain ⟨e, he, rfl⟩ := List.mem_map.1 ha
  have := hs e (List.mem_filter.1 he).1
  simpa [entV] using this
 rw [hleft, hold, hnew]
 cases hlf : leftE es seen with
 | nil =>
  have hch : (choose (.mapNext 1)).run P w = .ok 0 w := by simp [run_choose, Question.forced]
  simp only [List.map_nil, Array.append_empty, List.map_toArray, Array.isEmpty]
  simp [hch, Question.forced]
 | cons e0 l0 =>
  right
  have hn : ((((e0 :: l0).map (entV enc ev)).toArray ++ #[]).map some).size = (e0 :: l0).length := by simp
  have hne : (((e0 :: l0).map (entV enc ev)).toArray).isEmpty = false := by simp
  simp only [hne, Bool.false_eq_true, if_false, Array.empty_append]
  have hchoose : ∃ i w', (choose (.mapNext ((((e0 :: l0).map (entV enc ev)).toArray ++ #[]).map some).size)).run P w = .ok i w' ∧ i < (e0 :: l0).length ∧ ∃ m, w' = { w with drawn := m } := by
   rw [hn, run_choose]
   split
   · exact ⟨0, w, rfl, by simp, w.drawn, rfl⟩
   · refine ⟨_, _, rfl, ?_, _, rfl⟩
     simp only [Question.cut]
     exact Nat.mod_lt _ (by simp)
  obtain ⟨i, w', hc, hi, m, hw2⟩ := hchoose
  obtain ⟨e, he⟩ : ∃ e, (e0 :: l0)[i]? = some e := ⟨_, List.getElem?_eq_getElem hi⟩
  have hcand : ((((e0 :: l0).map (entV enc ev)).toArray ++ #[]).map some)[i]? = some (some (entV enc ev e)) := by
   rw [Array.append_empty, Array.getElem?_map, List.getElem?_toArray, List.getElem?_map, he]
   rfl
  have hb' : w'.heap[it]? = some (.mapIter (some r) since seen last) := by rw [hw2]; exact hb
  refine ⟨e, List.mem_of_getElem? he, m, ?_⟩
  simp only [hc, Result.andThen_ok, hcand, Sem.run_bind, setIter_run hb', Sem.run_pure]
  subst hw2
  rfl
theorem run_entryM (w : World) {it r since c : Nat} {seen : Array Nat} {es : List (Ent κ ν)} (e : Ent κ ν) (hi : w.heap[it]? = some (.mapIter (some r) since (seen.push e.b) c)) (hm : w.heap[r]? = some (mapO enc ev es c))
 (he : e ∈ es) (hn : (es.map (·.b)).Nodup) : (Instr.entry (.pointer (some ⟨it, 0, none⟩))).run P w = .ok (.tuple #[enc e.k, ev e.v]) w := by
 have hfind : ((es.map (entV enc ev)).toArray.find? fun y => y.born == e.b) = some (entV enc ev e) := by
  rw [List.find?_toArray, List.find?_map]
  have : es.find? ((fun y : MapEntry => y.born == e.b) ∘ entV enc ev) = some e := by
   clear hm
   induction es with
   | nil => cases he
   | cons a l ih =>
    simp only [List.map_cons, List.nodup_cons] at hn
    rcases List.mem_cons.1 he with rfl | he
    · simp [entV]
    · have hne : ¬ a.b = e.b := fun h => hn.1 (h ▸ List.mem_map.2 ⟨e, he, rfl⟩)
      simp only [List.find?_cons, Function.comp, entV]
      have : (a.b == e.b) = false := by simpa using hne
      rw [this]
      exact ih he hn.2
  rw [this]
  rfl
 simp only [Instr.entry, Sem.run_bind, getIter_run hi, Result.andThen_ok, getObj_run hm, Array.back?_push]
 simp only [bne_self_eq_false, Bool.false_eq_true, if_false, Sem.run_bind, Sem.run_pure, Result.andThen_ok, hfind]
 rfl
theorem wpListIn_rangeM (w : World) (hg : o.guard = none) (x : Operand) (t k e : TypeId) (hop : o.op = Op.range t x) {r c : Nat} {es : List (Ent κ ν)} (ht : P.underlying t = some (.map k e)) (hx : a.eval x = .map (some r)) (h : w.heap[r]? = some (mapO enc ev es c))
 (hK : wpListIn F n P ops Q rest (a.put o.dst (.pointer (some ⟨w.heap.size, 0, none⟩))) (w.alloc (.mapIter (some r) c #[] c))) : wpListIn F n P ops Q (o :: rest) a w := by
 refine wpListIn_plain hg fun K' hK' => ?_
 have hrun := run_rangeM (P := P) w ht h
 unfold Oper.wpIn
 refine ⟨by simp [Oper.about, hop], ?_⟩
 rw [Oper.semAt_plain F _ _ (by rw [hop]; intro c hc'; cases hc')]
 simp [execOp, hop, hx, hrun, Result.andThen]
 exact hK' _ _ hK
structure TurnedM (w w' : World) (it : Nat) (m : Option Nat) (since last b : Nat) (seen : Array Nat) : Prop where
 gr : w.grownBy w' (some it)
 at_ : w'.heap[it]? = some (.mapIter m since (seen.push b) last)
theorem TurnedM.of (w : World) {it : Nat} {o : Obj} (h : w.heap[it]? = some o) (dr : Nat) (m : Option Nat) (since last b : Nat) (seen : Array Nat) : TurnedM w { w with drawn := dr, heap := w.heap.setIfInBounds it (.mapIter m since (seen.push b) last) } it m since last b seen :=
 ⟨⟨rfl, rfl, rfl, by simp, fun k _ hk => by show (w.heap.setIfInBounds _ _)[k]? = _; rw [Array.getElem?_setIfInBounds_ne (fun e => hk (by rw [e]))]⟩, by show (w.heap.setIfInBounds _ _)[_]? = _; rw [Array.getElem?_setIfInBounds_self_of_lt (Array.getElem?_eq_some_iff.1 h).1]⟩
theorem wpListIn_nextM (w : World) (hg : o.guard = none) (x : Operand) (hop : o.op = Op.next x false) {it r since last c : Nat} {seen : Array Nat} {es : List (Ent κ ν)} (hx : a.eval x = .pointer (some ⟨it, 0, none⟩)) (hb : w.heap[it]? = some (.mapIter (some r) since seen last)) (hmr : w.heap[r]? = some (mapO enc ev es c)) (hs : ∀ e ∈ es, e.b < since) (hl : ∀ e ∈ es, e.b < last)
 (hDone : leftE es seen = [] → wpListIn F n P ops Q rest (a.put o.dst (.tuple #[.bool false])) w)
 (hMore : ∀ e ∈ leftE es seen, ∀ w', TurnedM w w' it (some r) since c e.b seen → wpListIn F n P ops Q rest (a.put o.dst (.tuple #[.bool true, enc e.k, ev e.v])) w') : wpListIn F n P ops Q (o :: rest) a w := by
 refine wpListIn_plain hg fun K' hK' => ?_
 unfold Oper.wpIn
 refine ⟨by simp [Oper.about, hop], ?_⟩
 rw [Oper.semAt_plain F _ _ (by rw [hop]; intro c hc'; cases hc')]
 rcases run_nextM (P := P) w o.type hb hmr hs hl with ⟨h0, hrun⟩ | ⟨e, he, m, hrun⟩
 · simp [execOp, hop, hx, hrun, Result.andThen]
   exact hK' _ _ (hDone h0)
 · simp [execOp, hop, hx, hrun, Result.andThen]
   exact hK' _ _ (hMore e he _ (TurnedM.of w hb m (some r) since c e.b seen))
end
theorem nodup_len : ∀ (l m : List Nat), l.Nodup → (∀ x ∈ l, x ∈ m) → l.length ≤ m.length
 | [], _, _, _ => Nat.zero_le _
 | x :: l, m, hn, h => by
  obtain ⟨h1, h2⟩ := List.nodup_cons.1 hn
  have hx := h x (by simp)
  have := nodup_len l (m.erase x) h2 (fun y hy => (List.mem_erase_of_ne (by rintro rfl; exact h1 hy)).2 (h y (by simp [hy])))
  rw [List.length_erase_of_mem hx] at this
  have := List.length_pos_of_mem hx
  simp only [List.length_cons]
  omega
theorem nodup_of_map {α β : Type} {f : α → β} {l : List α} (h : (l.map f).Nodup) : l.Nodup := (List.pairwise_map.1 h).imp fun h e => h (by rw [e])
theorem leftE_nil {κ ν : Type} {es gs : List (Ent κ ν)} (hsub : ∀ g ∈ gs, g ∈ es) (hnd : (gs.map (·.b)).Nodup) (hes : (es.map (·.b)).Nodup) (h : leftE es (gs.map (·.b)).toArray = []) : gs.Perm es := by
 have n1 : gs.Nodup := nodup_of_map hnd
 have n2 : es.Nodup := nodup_of_map hes
 rw [List.perm_ext_iff_of_nodup n1 n2]
 intro e
 refine ⟨hsub e, fun he => ?_⟩
 have h1 : e ∉ leftE es (gs.map (·.b)).toArray := by rw [h]; simp
 have h2 : e.b ∈ gs.map (·.b) := by
  refine Classical.byContradiction fun hn => h1 (List.mem_filter.2 ⟨he, ?_⟩)
  simpa using hn
 obtain ⟨g, hg, hgb⟩ := List.mem_map.1 h2
 have : g = e := by
  have hp := List.pairwise_iff_getElem.1 (List.nodup_iff_pairwise_ne.1 hes)
  obtain ⟨i, hi, rfl⟩ := List.getElem_of_mem (hsub g hg)
  obtain ⟨j, hj, rfl⟩ := List.getElem_of_mem he
  rcases Nat.lt_trichotomy i j with h | h | h
  · exact absurd (by rw [List.getElem_map, List.getElem_map]; exact hgb) (hp i j (by simpa using hi) (by simpa using hj) h)
  · subst h; rfl
  · exact absurd (by rw [List.getElem_map, List.getElem_map]; exact hgb.symm) (hp j i (by simpa using hj) (by simpa using hi) h)
 exact this ▸ hg
theorem gs_len {κ ν : Type} {es gs : List (Ent κ ν)} (hsub : ∀ g ∈ gs, g ∈ es) (hnd : (gs.map (·.b)).Nodup) : gs.length ≤ es.length := by
 have := nodup_len (gs.map (·.b)) (es.map (·.b)) hnd (fun x hx => by obtain ⟨g, hg, rfl⟩ := List.mem_map.1 hx; exact List.mem_map.2 ⟨g, hsub g hg, rfl⟩)
 simpa using this
set_option maxRecDepth 100000 in
set_option maxHeartbeats 1000000 in
theorem keysS_in (F : Fence) (n : Nat) (hF : F.fn 127) (hro : F.round = none) (hn : 1 ≤ n) (l Bm r c : Nat) (es : List (Ent EraV VoteV)) (hg : GoodM es c) (J Jx : List EraV → World → Prop)
 (hY : ∀ pre x W, J pre W → pre.length < es.length → YieldAt F (n - 1) Tryz.prog l #[encE x] W fun e W' => (e = .returned (.bool true) ∧ J (pre ++ [x]) W' ∧ KeepsWalks W W') ∨ (e = .returned (.bool false) ∧ Jx (pre ++ [x]) W'))
 (W : World) (hJ : AbidesFrom W.heap.size J) (hm : W.cell? ⟨Bm, 0, none⟩ = some (.map (some r))) (hr : W.heap[r]? = some (mapO encE encV es c)) (h0 : J [] W) :
 CallsIn F n Tryz.prog 127 #[.func (.yield l) #[] #[], .pointer (some ⟨Bm, 0, none⟩)] W fun e W' => (∃ v, e = .returned v) ∧ ((∃ ss : List EraV, ss.Perm (es.map (·.k)) ∧ J ss W') ∨ (∃ pre, True ∧ Jx pre W')) := by
 refine callsIn_of_wp Tryz.func127 rfl hF ?_ hro
 simp only [Tryz.ntmps127, List.size_toArray, List.length_cons, List.length_nil, Nat.reduceAdd, Nat.reduceSub, Array.replicate_succ, Array.replicate_zero, List.push_toArray, List.append_toArray, List.nil_append, List.cons_append]
 gi_wp2_with (first
  | (gi_at_range; refine wpListIn_rangeM _ rfl _ 110 _ _ rfl Tryz.underlying110 rfl hr ?_)
  | gi_in)
 go_frame
 gi_loopw [3] (fun _ wr => ∃ gs : List (Ent EraV VoteV), wr.heap[W.heap.size]? = some (.mapIter (some r) c (gs.map (·.b)).toArray c) ∧ wr.heap[r]? = some (mapO encE encV es c) ∧ (∀ g ∈ gs, g ∈ es) ∧ (gs.map (·.b)).Nodup ∧ J (gs.map (·.k)) wr)
  (fun _ wr => match wr.heap[W.heap.size]? with | some (.mapIter _ _ seen _) => es.length - seen.size | _ => 0)
 case atStart =>
  refine ⟨[], World.alloc_heap_new W _, (Below.heap_alloc _ _ r (Array.getElem?_eq_some_iff.1 hr).1).trans hr, by simp, by simp, hJ [] W _ none h0 (World.grownBy_alloc W _ none) (fun r e => by cases e)⟩
 case round =>
  obtain ⟨gs, hit, hmr, hsub, hnd, hJs⟩ := hrel
  gi_wp2_with (first
   | (gi_at_next; refine wpListIn_nextM _ rfl _ rfl rfl hit hmr (fun e he => hg.lt e he) (fun e he => hg.lt e he) ?_ ?_)
   | gi_in)
  · intro hl0
    gi_wp2
    go_end0
    exact ⟨⟨_, rfl⟩, .inl ⟨_, (leftE_nil hsub hnd hg.born hl0).map _, hJs⟩⟩
  · intro e he w2 hw2
    obtain ⟨hees, hnew⟩ := List.mem_filter.1 he
    have hnew : e.b ∉ gs.map (·.b) := by simpa using hnew
    have hsub2 : ∀ g ∈ gs ++ [e], g ∈ es := fun g hg => (List.mem_append.1 hg).elim (hsub g) (fun h => by obtain rfl : g = e := (by simpa using h); exact hees)
    have hnd2 : ((gs ++ [e]).map (·.b)).Nodup := by
     rw [List.map_append, List.nodup_append]
     exact ⟨hnd, by simp, fun a ha b hb => by obtain rfl : b = e.b := (by simpa using hb); rintro rfl; exact hnew ha⟩
    have hlen := gs_len hsub2 hnd2
    rw [List.length_append] at hlen
    have hlen : gs.length + 1 ≤ es.length := hlen
    have hlt : W.heap.size < wr.heap.size := (Array.getElem?_eq_some_iff.1 hit).1
    have hgr := hw2.gr
    have hJ2 : J (gs.map (·.k)) w2 := hJ _ wr w2 (some W.heap.size) hJs hgr (fun r e => by cases e; exact ⟨Nat.le_refl _, _, hit, rfl⟩)
    have hit2 := hw2.at_
    have hne : r ≠ W.heap.size := by intro h; rw [h, hit] at hmr; cases hmr
    have hmr2 : w2.heap[r]? = some (mapO encE encV es c) := (hgr.block r (Array.getElem?_eq_some_iff.1 hmr).1 (fun h => hne (by cases h; rfl))).trans hmr
    have hen := run_entryM (P := Tryz.prog) w2 e hit2 hmr2 hees hg.born
    have hek : encE e.k = .agg #[.int .i64 e.k.view, .int .i64 e.k.reg] := rfl
    rw [hek] at hen ⊢
    have hJa : J (gs.map (·.k)) (w2.alloc (.cells #[.int .i64 e.k.view, .int .i64 e.k.reg] 112)) := hJ _ w2 _ none hJ2 (World.grownBy_alloc w2 _ none) (fun r e => by cases e)
    obtain ⟨fn, tmps, assign, body, hy, hR⟩ := hY _ e.k _ hJa (by simp; omega)
    rw [hek] at hy
    have hita : (w2.alloc (.cells #[.int .i64 e.k.view, .int .i64 e.k.reg] 112)).heap[W.heap.size]? = some (.mapIter (some r) c ((gs.map (·.b)).toArray.push e.b) c) := (Below.heap_alloc _ _ _ (Array.getElem?_eq_some_iff.1 hit2).1).trans hit2
    have hmra : (w2.alloc (.cells #[.int .i64 e.k.view, .int .i64 e.k.reg] 112)).heap[r]? = some (mapO encE encV es c) := (Below.heap_alloc _ _ _ (Array.getElem?_eq_some_iff.1 hmr2).1).trans hmr2
    clear hw2
    gi_wp2
    refine hR.mono ?_
    rintro e' W3 (⟨rfl, hJ3, hk3⟩ | ⟨rfl, hJx3⟩)
    · gi_wp2
      have hit3 := hk3.same _ _ hita rfl
      go_roundw
      case rel => exact ⟨gs ++ [e], by rw [hit3]; simp, hk3.same _ _ hmra rfl, hsub2, hnd2, by simpa using hJ3⟩
      case measure => rw [hit3, hit]; simp; omega
    · gi_wp2
      refine bodyPost_ret (results_none rfl _ _ _) rfl ?_
      exact ⟨⟨_, rfl⟩, .inr ⟨_, trivial, hJx3⟩⟩
theorem keysS_stops (F : Fence) (n : Nat) (hF : F.fn 127) (hro : F.round = none) (hn : 1 ≤ n) (Bm r c : Nat) (es : List (Ent EraV VoteV)) (hg : GoodM es c) (w : World) (hBm : Bm < w.heap.size) (hm : w.cell? ⟨Bm, 0, none⟩ = some (.map (some r))) (hr : w.heap[r]? = some (mapO encE encV es c)) :
 SeqStopsA F n Tryz.prog 127 #[.pointer (some ⟨Bm, 0, none⟩)] (fun x => #[encE x]) (fun ss => ss.Perm (es.map (·.k))) (fun _ => True) es.length w := fun l J Jx W hW hJ _ hY h0 =>
 keysS_in F n hF hro hn l Bm r c es hg J Jx hY W hJ ((hW.cell (p := ⟨Bm, 0, none⟩) hBm).trans hm) ((hW.block r (Array.getElem?_eq_some_iff.1 hr).1).trans hr) h0
end
section
open Go.RowKit Go.Sx
set_option maxRecDepth 100000
set_option linter.unusedSimpArgs false
set_option linter.unusedVariables false
open Go.Maps
def Held (p : Prop) : Prop := p
theorem Held.of {p : Prop} (h : Held p) : p := h
theorem cells_two (W : World) (t : TypeId) (a b : Value) : ∀ j u, [a, b][j]? = some u → (W.alloc (.cells #[a, b] t)).cell? ((⟨W.heap.size, 0, none⟩ : Addr).add j) = some u := fun j u h => by
 have hb : (W.alloc (.cells #[a, b] t)).heap[W.heap.size]? = some (.cells #[a, b] t (0, 0)) := World.alloc_heap_new W _
 rw [add_block, cell_of_blk hb]
 simpa using h
/-- Between two rounds: what the box holds. -/
def ApI (w : World) (ss : List EraV) (W : World) : Prop :=
 (∃ v, W.heap[w.heap.size]? = some (.cells #[v] 155 (0, 0)) ∧ W.ownsRow w.heap.size 112 2 v ss.length (ss.flatMap EraV.list) ∧ (v = .slice none 0 0 ↔ ss = [])) ∧ Below w.heap.size w W
theorem ApI.own (w : World) (B : Nat) (hB : w.heap.size < B) : OwnFrom B (ApI w) := fun s W W' row h hg hr => by
 obtain ⟨⟨v, hv, hrow, hn⟩, hb⟩ := h
 refine ⟨⟨v, (hg.block _ (Array.getElem?_eq_some_iff.1 hv).1 (fun e => by have := (hr _ e.symm).1; omega)).trans hv, hrow.kept hg ?_, hn⟩, hb.grown hg hb.size (fun k e => by have := (hr k e).1; omega)⟩
 rcases hrow.2 with ⟨rfl, _⟩ | ⟨g, cap, cur, rfl, _, hgb, _⟩
 · exact .inl rfl
 · refine .inr fun e' => ?_
   obtain ⟨-, o, ho, hw⟩ := hr g (by simpa [Value.ownBlock] using e'.symm)
   rw [hgb] at ho; cases ho; cases hw
set_option maxRecDepth 100000 in
set_option maxHeartbeats 2000000 in
theorem appendS_in (F : Fence) (n : Nat) (h11 : F.fn 172) (hro : F.round = none) (hn : 2 ≤ n) (g : Nat) (lb : Array Value) (hFg : F.fn g) (eg : ∀ args w, (callFunc g args).run Tryz.prog w = .ok (.enter g args) w) (Sx : List EraV → Prop) (N : Nat) (hN : N ≤ 100000) (w : World)
 (hseq : SeqStopsA F (n - 1) Tryz.prog g lb (fun x => #[encE x]) Sx (fun _ => True) N w) :
 CallsIn F n Tryz.prog 172 #[.slice none 0 0, .func (.func g) #[] lb] w fun e w' => ∃ (v : Value) (ss : List EraV), e = .returned v ∧ Sx ss ∧ w'.ownsRow w.heap.size 112 2 v ss.length (ss.flatMap EraV.list) ∧ Below w.heap.size w w' := by
 have h1 : 1 ≤ n := by omega
 refine callsIn_of_wp_marks Tryz.func172 rfl h11 ?_ hro
 simp only [Tryz.ntmps172, List.size_toArray, List.length_cons, List.length_nil, Nat.reduceAdd, Nat.reduceSub, Array.replicate_succ, Array.replicate_zero, List.push_toArray, List.append_toArray, List.nil_append, List.cons_append]
 gi_wp2
 obtain ⟨W0, hW0⟩ : ∃ W0, w.alloc (.cells #[.slice none 0 0] 155) = W0 := ⟨_, rfl⟩
 have hs0 : W0.heap.size = w.heap.size + 1 := by rw [← hW0]; simp
 have hv0 : W0.heap[w.heap.size]? = some (.cells #[.slice none 0 0] 155 (0, 0)) := by rw [← hW0]; exact World.alloc_heap_new w _
 have hb0 : Below w.heap.size w W0 := by rw [← hW0]; exact (Below.refl _ w).alloc (Nat.le_refl _) _
 rw [hW0]
 refine wpIn_rangeFunc_ownH hro h1 (gf := g) (lb := lb) rfl hFg eg (seqStopsA_iff.1 hseq) walksK_t walksK_b hb0 (fun _ => rfl) (ApI w) (fun _ _ _ => False) (ApI.own w _ (by omega)) (fun _ _ _ _ _ h => h.elim)
  ⟨⟨_, hv0, ⟨rfl, .inl ⟨rfl, rfl⟩⟩, by simp⟩, hb0⟩
  (fun x a' W => ∃ Bx, w.heap.size < Bx ∧ W.heap[Bx]? = some (.cells x.cells 112 (0, 0)) ∧ a' = { tmps := #[.slice none 0 0, .func (.func g) #[] lb, .pointer (some ⟨w.heap.size, 0, none⟩), undef, .slice none 0 0, .pointer (some ⟨Bx, 0, none⟩), .func (.func g) #[] lb, encE x, undef, undef, undef, undef, undef], defers := [] })
  (fun x a' _ X Y row hs hg hr => by obtain ⟨Bx, h1, h2, h3⟩ := hs; exact ⟨Bx, h1, (hg.block _ (Array.getElem?_eq_some_iff.1 h2).1 (fun e => by obtain ⟨-, o, ho, hc⟩ := hr _ e.symm; rw [h2] at ho; cases ho; cases hc)).trans h2, h3⟩)
  ?assign ?body ?done (fun _ _ _ _ _ _ h => h.elim)
 case assign =>
  rintro l pre x W K hI hK
  have hex : encE x = .agg #[.int .i64 x.view, .int .i64 x.reg] := rfl
  have hK := fun a' W' h1 h2 h3 h4 => hK a' W' h1 h2 h3 h4
  simp only [hex] at hK ⊢
  gi_wp2_with (rw [Oper.semAt_eq _ _ _ (fun c h => by cases h)]; go_simp; try go_bits)
  exact hK _ _ ((KeepsOthers.alloc _ _).from _) (KeepsWalks.alloc _ _) ((ApI.own w (w.heap.size + 1) (by omega)).alloc _ hI) ⟨W.heap.size, by have := hI.2.size; obtain ⟨⟨v, hv, -⟩, -⟩ := hI; exact (Array.getElem?_eq_some_iff.1 hv).1, World.alloc_heap_new W _, rfl⟩
 case body =>
  rintro l pre x a' W hl ⟨r, hr⟩ hI ⟨Bx, hBx, bX, rfl⟩ hlt
  obtain ⟨⟨v, hv, hrow, hnil⟩, hbe⟩ := hI
  have hc : W.cell? ⟨w.heap.size, 0, none⟩ = some v := by rw [cell_of_blk hv]; rfl
  have hf : W.frozen? ⟨w.heap.size, 0, none⟩ = false := by simp [World.frozen?, hv]
  have hx0 : W.cell? ⟨Bx, 0, none⟩ = some (.int .i64 x.view) := by rw [cell_of_blk bX]; rfl
  have hx1 : W.cell? ⟨Bx, 1, none⟩ = some (.int .i64 x.reg) := by rw [cell_of_blk bX]; rfl
  obtain ⟨i0, hi, hz0, hz1, hz2⟩ := info_parts (P := Tryz.prog) (e := 112) (z := .agg #[.int .i64 0, .int .i64 0]) (size := 2) (bytes := 16) (by kernel_rfl)
  have hbv : Boxed W w.heap.size 155 v := hv
  have hsz := hbe.size
  gi_wp2_with (first | (gi_at_builtin; refine Held.of ?_) | (rw [Oper.semAt_eq _ _ _ (fun c h => by cases h)]; go_simp; try go_bits))
  unfold Held
  refine wpListIn_append_own _ rfl _ _ 155 rfl w.heap.size 112 i0 (.agg #[.int .i64 0, .int .i64 0]) 2 16 Tryz.underlying155 hi hz0 hz1 hz2 rfl (by decide) v pre.length _ rfl (hrow.alloc _) ⟨W.heap.size, 0, none⟩ 1 1 [.int .i64 x.view, .int .i64 x.reg] rfl rfl (cells_two W _ _ _) (by simp [Value.oneCell']) (by unfold maxLen; omega) (by omega) (by simp; omega) ?_
  intro v' w3 hown' hg3 hnil3
  obtain ⟨g', cap', rfl⟩ := ownsRow_succ hown'
  obtain ⟨hb3, hbs, hrs, hko, hbl⟩ := Boxed.appended hbv (by decide) hrow hbe.size (Nat.le_refl _) hown' hg3
  have hc3 := hb3.cell
  have hf3 := hb3.frozen
  go_frame
  gi_wp2_with (rw [Oper.semAt_eq _ _ _ (fun c h => by cases h)]; go_simp; try go_bits)
  exact ⟨hko.from _, hko.walks, ⟨_, hbs, by simpa [EraV.list] using hrs, by simp⟩, hbe.trans hbl⟩
 case done =>
  rintro D xs W hD hS ⟨⟨v, hv, hrow, hnil⟩, hbe⟩ hK
  have hc : W.cell? ⟨w.heap.size, 0, none⟩ = some v := by rw [cell_of_blk hv]; rfl
  have hf : W.frozen? ⟨w.heap.size, 0, none⟩ = false := by simp [World.frozen?, hv]
  gi_wp2
  refine ⟨by simp, .inl ⟨_, _, rfl, run_takeDeferred hK, ?_⟩⟩
  exact ⟨_, results_tmp rfl _ _ _, v, xs, rfl, hS, ownsRow_putObj hrow _ hK rfl, hbe.grown (grownBy_putObj' _ _ _) hbe.size (fun k e => by cases e; omega)⟩
set_option maxRecDepth 100000 in
set_option maxHeartbeats 1000000 in
theorem collectS_in (F : Fence) (n : Nat) (h8 : F.fn 125) (h11 : F.fn 172) (hro : F.round = none) (hn : 3 ≤ n) (g : Nat) (lb : Array Value) (hFg : F.fn g) (eg : ∀ args w, (callFunc g args).run Tryz.prog w = .ok (.enter g args) w) (Sx : List EraV → Prop) (N : Nat) (hN : N ≤ 100000) (w : World)
 (hseq : SeqStopsA F (n - 1 - 1) Tryz.prog g lb (fun x => #[encE x]) Sx (fun _ => True) N w) :
 CallsIn F n Tryz.prog 125 #[.func (.func g) #[] lb] w fun e w' => ∃ (v : Value) (ss : List EraV), e = .returned v ∧ Sx ss ∧ w'.ownsRow w.heap.size 112 2 v ss.length (ss.flatMap EraV.list) ∧ Below w.heap.size w w' := by
 have h1 : 1 ≤ n := by omega
 have e11 : ∀ args w, (callFunc 172 args).run Tryz.prog w = .ok (.enter 172 args) w := enters_of Tryz.func172 (by kernel_rfl) rfl
 refine callsIn_of_wp Tryz.func125 rfl h8 ?_ hro
 simp only [Tryz.ntmps125, List.size_toArray, List.length_cons, List.length_nil, Nat.reduceAdd, Nat.reduceSub, Array.replicate_succ, Array.replicate_zero, List.push_toArray, List.append_toArray, List.nil_append, List.cons_append]
 gi_wp2_with (gi_at_call 172; refine (appendS_in F (n - 1) h11 hro (by omega) g lb hFg eg Sx N hN _ hseq).mono ?_; rintro e w' ⟨v, ss, rfl, hS, hrow, hb⟩)
 go_ret
 exact ⟨v, ss, rfl, hS, hrow, hb⟩
end
end Go.Proofs.YtgeknnclmhfjlaaGreatDoor
