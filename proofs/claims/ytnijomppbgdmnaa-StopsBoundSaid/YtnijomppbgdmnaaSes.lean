/- Walks: Seal and Open of package seals, and of the reference. -/
import Derived.Test.YtnijomppbgdmnaaMs
namespace Go.Proofs.Ytnijomppbgdmnaa
open Go.RowKit Go.Sx
set_option maxRecDepth 100000
set_option linter.unusedSimpArgs false
set_option linter.unusedVariables false
def vec32 (l : List UInt8) : Vector UInt8 32 := Vector.ofFn fun i => l.getD i 0
theorem vec32_list (l : List UInt8) (h : l.length = 32) : (vec32 l).toList = l := by
  apply List.ext_getElem
  · simp [h]
  · intro i h1 h2
    simp [vec32, List.getD, List.getElem?_eq_getElem h2]
theorem vec32_toList (v : Vector UInt8 32) : vec32 v.toList = v := by
  apply Vector.ext; intro i hi; simp [vec32, List.getD, hi]
theorem vec32_cells (l : List UInt8) (h : l.length = 32) : hlist (vec32 l) = bytesV l := by unfold hlist; rw [vec32_list l h]
/-- seals.Seal: the bytes, the error. -/
def sealK (K : List (List UInt8)) (m : MsgD) : List UInt8 × Int :=
  if (putM m).2 ≠ 0 then ([], (putM m).2) else if (K.length : Int) ≤ m.frm then ([], 6) else ((putM m).1 ++ (tagOf (K.getD m.frm.toNat []) (putM m).1).toList, 0)
/-- seals.Open: the error, the message. -/
def openK (K : List (List UInt8)) (l : List UInt8) : Int × MsgD :=
  if l.length < 32 then (1, .zero) else if (getM (l.take (l.length - 32))).1 ≠ 0 then ((getM (l.take (l.length - 32))).1, .zero)
  else if (K.length : Int) ≤ (getM (l.take (l.length - 32))).2.frm then (6, .zero)
  else if tagOf (K.getD (getM (l.take (l.length - 32))).2.frm.toNat []) (l.take (l.length - 32)) ≠ vec32 (l.drop (l.length - 32)) then (5, .zero) else (0, (getM (l.take (l.length - 32))).2)
theorem putM_ok {m : MsgD} (h : (putM m).2 = 0) : (putM m).1 = msgB m ∧ formedM m = true ∧ (msgB m).length ≤ 65504 ∧ m.parts.length ≤ 16 := by
  unfold putM at h ⊢
  split at h
  · simp at h
  · rename_i h1
    split at h
    · rename_i h2
      rw [if_neg h1, if_pos h2]
      exact ⟨rfl, h2, by omega, by omega⟩
    · simp at h
theorem msgR_formed {l : List UInt8} (h : (msgR l).1 = 0) : formedM (msgR l).2 = true := by
  unfold msgR at h ⊢
  split at h
  · simp at h
  · split at h
    · omega
    · split at h
      · omega
      · split at h
        · simp at h
        · split at h
          · rename_i h1 h2 h3 h4 h5
            rw [if_neg h1, if_neg h2, if_neg h3, if_neg h4, if_pos h5]; exact h5
          · simp at h
theorem getM_formed {l : List UInt8} (h : (getM l).1 = 0) : formedM (getM l).2 = true := by
  unfold getM at h ⊢
  split at h
  · simp at h
  · split at h
    · omega
    · rename_i h1 h2
      rw [if_neg h1, if_neg h2]
      exact msgR_formed h
theorem frm_range {m : MsgD} (h : formedM m = true) : 0 ≤ m.frm ∧ m.frm ≤ 15 := by
  have := (formedM_iff m).1 h
  omega
theorem keys_get {k : PS} {j : Nat} (h : j < k.ls.length) : (k.ls.map BS.l).getD j [] = k.ls[j].l := by simp [List.getD, h]
theorem sealK_err {K : List (List UInt8)} {m : MsgD} (h : (putM m).2 ≠ 0) : sealK K m = ([], (putM m).2) := if_pos h
theorem sealK_who {K : List (List UInt8)} {m : MsgD} (h : (putM m).2 = 0) (h2 : (K.length : Int) ≤ m.frm) : sealK K m = ([], 6) := by rw [sealK, if_neg (by omega), if_pos h2]
theorem sealK_ok {K : List (List UInt8)} {m : MsgD} (h : (putM m).2 = 0) (h2 : ¬ (K.length : Int) ≤ m.frm) : sealK K m = ((putM m).1 ++ (tagOf (K.getD m.frm.toNat []) (putM m).1).toList, 0) := by rw [sealK, if_neg (by omega), if_neg h2]
instance RdE.two {w0 : World} {H : List SA} {x y : BS} [h : RdB w0 H (.slice x.a x.l.length x.c) x.l] [h2 : RdB w0 H (.slice y.a y.l.length y.c) y.l] : RdE w0 H [x, y] := ⟨fun z hz w hw => by
  rcases List.mem_cons.1 hz with rfl | hz
  · exact h.rd w hw
  · obtain rfl : z = y := by simpa using hz
    exact h2.rd w hw⟩
instance RdB.hashL {w0 : World} {H : List SA} {b o : Nat} {cs : Array Value} {T : TypeId} {fz : Nat × Nat} {x : Vector UInt8 32} [hm : Mem w0 H b (.cells cs T fz)] [hc : SubAt cs o 32 (hlist x).toArray] : RdB w0 H (.slice (some ⟨b, o, none⟩) x.toList.length 32) x.toList := by
  have := RdB.hash x hm hc (by decide)
  rwa [show x.toList.length = 32 from by simp]
theorem concat2_c {w0 : World} {H : List SA} {a : Option Addr} {x y : BS} {c : Nat} [hr : RdC w0 H (.slice a 2 c) 1 [x.val, y.val]] [h1 : RdB w0 H (.slice x.a x.l.length x.c) x.l] [h2 : RdB w0 H (.slice y.a y.l.length y.c) y.l] (hs : x.l.length + y.l.length ≤ 4294967296) :
    CT Try.prog w0 H 27 [.slice a 2 c] (α := AC) (fun z => .slice z.a (x.l ++ y.l).length z.c) (fun z => row (.slice z.a (x.l ++ y.l).length z.c) 5 1 (bytesV (x.l ++ y.l)) :: H) := by
  have e : ([x, y].map BS.l).flatten = x.l ++ y.l := by simp
  have := concat_c (w0 := w0) (H := H) (a := a) (ls := [x, y]) (c := c) (hr := hr) (re := RdE.two) (by rw [e]; simpa using hs) (by simp)
  rwa [e] at this
attribute [local irreducible] tagOf putM

set_option maxHeartbeats 1000000 in
theorem seal_c {w0 : World} {H : List SA} {k : KeysV} {m : MsgV} [rk : RdC w0 H (.slice k.seals.a k.seals.ls.length k.seals.c) 1 (k.seals.ls.map BS.val)] [rke : RdE w0 H k.seals.ls] (hkl : ∀ x ∈ k.seals.ls, x.l.length ≤ 4294967000) [rb : RdB w0 H (.slice m.body.a m.body.l.length m.body.c) m.body.l] [rc : RdC w0 H (.slice m.parts.a m.parts.ls.length m.parts.c) 1 (m.parts.ls.map BS.val)] [re : RdE w0 H m.parts.ls] (hs : SmallM m.abs) :
    CT Try.prog w0 (H) 11 [.agg k.cells, .agg m.cells] (α := AC) (fun y => .tuple #[.slice y.a (sealK (k.seals.ls.map BS.l) m.abs).1.length y.c, .int .i64 (sealK (k.seals.ls.map BS.l) m.abs).2]) (fun y => row (.slice y.a (sealK (k.seals.ls.map BS.l) m.abs).1.length y.c) 5 1 (bytesV (sealK (k.seals.ls.map BS.l) m.abs).1) :: H) := by
  refine CT_intro Try.func11 rfl Try.ntmps11 rfl ?_
  refine T_seq ?_
  refine T_region ?_
  refine TL_e rfl (Ef_boxN rfl (fun b2 => ?_))
  refine TL_e rfl (Ef_boxN rfl (fun b3 => ?_))
  refine TL_q (Qt_assign (.slice _ _ _) rfl) rfl ?_
  refine TL_q (Qt_assign (.int .i64 _) rfl) rfl ?_
  refine TL_nil ?_
  refine X_then ?_
  refine T_seq ?_
  refine T_region ?_
  refine TL_q (Qt_loadN rfl rfl) rfl ?_
  refine TL_e rfl (Ef_call (wput_c hs) rfl (fun x11 => ?_))
  refine TL_q (Qt_move (.tuple _) rfl) rfl ?_
  refine TL_q (Qt_extract rfl) rfl ?_
  refine TL_q (Qt_extract rfl) rfl ?_
  refine TL_q (Qt_assign (.slice _ _ _) rfl) rfl ?_
  refine TL_q (Qt_assign (.int .i64 _) rfl) rfl ?_
  refine TL_nil ?_
  refine X_then ?_
  refine T_seq ?_
  refine T_block ?_
  refine T_seq ?_
  refine T_region ?_
  refine TL_q (Qt_move (.int .i64 _) rfl) rfl ?_
  refine TL_q (Qt_neq rfl rfl) rfl ?_
  refine TL_q (Qt_assign (.bool _) rfl) rfl ?_
  refine TL_nil ?_
  refine X_then ?_
  refine T_cond rfl (fun h14 => ?_) (fun h14 => ?_)
  ·
    have p14 := h14
    try simp only [decide_eq_true_eq, decide_eq_false_iff_not, Bool.not_eq_true', Bool.not_eq_false', Option.isNone_iff_eq_none, ne_eq, Decidable.not_not, Int.not_lt, Int.not_le] at p14
    refine T_seq ?_
    refine T_region ?_
    refine TL_q (Qt_move (.int .i64 _) rfl) rfl ?_
    refine TL_q (Qt_assign (.slice _ _ _) rfl) rfl ?_
    refine TL_q (Qt_assign (.int .i64 _) rfl) rfl ?_
    refine TL_nil ?_
    refine X_then ?_
    refine T_ret ?_
    refine X_block_ret ?_
    refine X_then_ret ?_
    have e : sealK (k.seals.ls.map BS.l) m.abs = ([], (putM m.abs).2) := sealK_err (by omega)
    simp only [e]
    exact X_ret ⟨none, 0⟩ [_, _] Try.results11 ⟨rfl, rfl, trivial⟩ rfl (fun w hw => (Subs.st inferInstance w hw : St w0 H w).addNilB 5)
  ·
    have p14 := h14
    try simp only [decide_eq_true_eq, decide_eq_false_iff_not, Bool.not_eq_true', Bool.not_eq_false', Option.isNone_iff_eq_none, ne_eq, Decidable.not_not, Int.not_lt, Int.not_le] at p14
    refine T_seq ?_
    refine T_region ?_
    refine TL_q (Qt_fieldAddr 1 rfl rfl) rfl ?_
    refine TL_q (Qt_load1 rfl) rfl ?_
    refine TL_q (Qt_fieldAddr 0 rfl rfl) rfl ?_
    refine TL_q (Qt_load1 rfl) rfl ?_
    refine TL_q (Qt_len_slice rfl Try.underlying28) rfl ?_
    refine TL_q (Qt_geq rfl rfl) rfl ?_
    refine TL_q (Qt_assign (.bool _) rfl) rfl ?_
    refine TL_nil ?_
    refine X_then ?_
    refine T_cond rfl (fun h18 => ?_) (fun h18 => ?_)
    ·
      have p18 := h18
      try simp only [decide_eq_true_eq, decide_eq_false_iff_not, Bool.not_eq_true', Bool.not_eq_false', Option.isNone_iff_eq_none, ne_eq, Decidable.not_not, Int.not_lt, Int.not_le] at p18
      refine T_seq ?_
      refine T_region ?_
      refine TL_q (Qt_assign (.slice _ _ _) rfl) rfl ?_
      refine TL_q (Qt_assign (.int .i64 _) rfl) rfl ?_
      refine TL_nil ?_
      refine X_then ?_
      refine T_ret ?_
      refine X_block_ret ?_
      refine X_then_ret ?_
      have e : sealK (k.seals.ls.map BS.l) m.abs = ([], 6) := sealK_who (by omega) (by rw [List.length_map]; show _ ≤ m.frm; omega)
      simp only [e]
      exact X_ret ⟨none, 0⟩ [_, _] Try.results11 ⟨rfl, rfl, trivial⟩ rfl (fun w hw => (Subs.st inferInstance w hw : St w0 H w).addNilB 5)
    ·
      have p18 := h18
      try simp only [decide_eq_true_eq, decide_eq_false_iff_not, Bool.not_eq_true', Bool.not_eq_false', Option.isNone_iff_eq_none, ne_eq, Decidable.not_not, Int.not_lt, Int.not_le] at p18
      refine T_skip ?_
      refine X_block ?_
      refine X_then ?_
      refine T_seq ?_
      refine T_region ?_
      have hz : (putM m.abs).2 = 0 := by omega
      have hfr := frm_range (putM_ok hz).2.1
      have hfr : 0 ≤ m.frm ∧ m.frm ≤ 15 := hfr
      have hk : m.frm.toNat < k.seals.ls.length := by omega
      have : RdB w0 H (.slice k.seals.ls[m.frm.toNat].a k.seals.ls[m.frm.toNat].l.length k.seals.ls[m.frm.toNat].c) k.seals.ls[m.frm.toNat].l := rke.get (List.getElem_mem hk)
      have hle := putM_le m.abs
      have hkl1 := hkl _ (List.getElem_mem hk)
      refine TL_q (Qt_fieldAddr 0 rfl rfl) rfl ?_
      refine TL_q (Qt_load1 rfl) rfl ?_
      refine TL_q (Qt_fieldAddr 1 rfl rfl) rfl ?_
      refine TL_q (Qt_load1 rfl) rfl ?_
      refine TL_q (Qt_indexR rfl rfl (by omega) (by simp; omega)) rfl ?_
      refine TL_q (Qt_loadR (.slice _ _ _) rfl (vals_get _ _ hk)) rfl ?_
      refine TL_q (Qt_move (.slice _ _ _) rfl) rfl ?_
      refine TL_e rfl (Ef_call (tag_c (by omega) (by omega)) rfl (fun x32 => ?_))
      obtain ⟨tv, htv⟩ : ∃ tv, tv = (tagOf k.seals.ls[m.frm.toNat].l (putM m.abs).1) := ⟨_, rfl⟩
      rw [← htv]
      refine TL_e rfl (Ef_allocN (fun b8 => ?_))
      refine TL_n (Ef_storeN rfl rfl (?_))
      refine TL_nil ?_
      refine X_then ?_
      refine T_seq ?_
      refine T_region ?_
      refine TL_q (Qt_move (.slice _ _ _) rfl) rfl ?_
      refine TL_q (Qt_val (Qt_slice_arr rfl Try.underlying35 rfl rfl) (congrArg (fun n => Value.slice (some ⟨b8, 0, none⟩) n 32) (show 32 = tv.toList.length from by simp))) rfl ?_
      refine TL_e rfl (Ef_sliceN (m := 2) [BS.val ⟨x11.a, x11.c, (putM m.abs).1⟩, BS.val ⟨some ⟨b8, 0, none⟩, 32, tv.toList⟩] [BS.val ⟨x11.a, x11.c, (putM m.abs).1⟩, BS.val ⟨some ⟨b8, 0, none⟩, 32, tv.toList⟩] rfl rfl rfl rfl (by simp [Value.cells, BS.val]) rfl rfl (fun a35 c35 => ?_))
      refine TL_e rfl (Ef_call (concat2_c (x := ⟨x11.a, x11.c, (putM m.abs).1⟩) (y := ⟨some ⟨b8, 0, none⟩, 32, tv.toList⟩) (by simp; omega)) rfl (fun x36 => ?_))
      refine TL_q (Qt_assign (.slice _ _ _) rfl) rfl ?_
      refine TL_q (Qt_assign (.int .i64 _) rfl) rfl ?_
      refine TL_nil ?_
      refine X_then ?_
      refine T_ret ?_
      have e : sealK (k.seals.ls.map BS.l) m.abs = ((putM m.abs).1 ++ (tagOf k.seals.ls[m.frm.toNat].l (putM m.abs).1).toList, 0) := by rw [sealK_ok hz (by rw [List.length_map]; show ¬ _ ≤ m.frm; omega)]; rw [show m.abs.frm = m.frm from rfl, keys_get hk]
      rw [← htv] at e
      simp only [e]
      exact X_ret x36 [_, _] Try.results11 ⟨rfl, rfl, trivial⟩ rfl (Subs.st inferInstance)
end Go.Proofs.Ytnijomppbgdmnaa
