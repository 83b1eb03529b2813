/- Walks: Seal and Open of package seals, and of the reference. -/
import Derived.Test.YtnijomppbgdmnaaGreatSgP
import Derived.Test.YtnijomppbgdmnaaGreatMsRP
namespace Go.Proofs.YtnijomppbgdmnaaGreat
section
open Go.RowKit Go.Sx
set_option maxRecDepth 100000
set_option linter.unusedSimpArgs false
set_option linter.unusedVariables false
def vec32 (l : List UInt8) : Vector UInt8 32 := Vector.ofFn fun i => l.getD i 0
theorem vec32_list (l : List UInt8) (h : l.length = 32) : (vec32 l).toList = l := by
 apply List.ext_getElem
 · simp [h]
 · intro i h1 h2
   simp [vec32, List.getD, List.getElem?_eq_getElem h2]
theorem vec32_toList (v : Vector UInt8 32) : vec32 v.toList = v := by
 apply Vector.ext; intro i hi; simp [vec32, List.getD, hi]
theorem vec32_cells (l : List UInt8) (h : l.length = 32) : hlist (vec32 l) = bytesV l := by unfold hlist; rw [vec32_list l h]
/-- seals.Seal: the bytes, the error. -/
def sealK (K : List (List UInt8)) (m : MsgD) : List UInt8 × Int :=
 if (putM m).2 ≠ 0 then ([], (putM m).2) else if (K.length : Int) ≤ m.frm then ([], 6) else ((putM m).1 ++ (tagOf (K.getD m.frm.toNat []) (putM m).1).toList, 0)
/-- seals.Open: the error, the message. -/
def openK (K : List (List UInt8)) (l : List UInt8) : Int × MsgD :=
 if l.length < 32 then (1, .zero) else if (getM (l.take (l.length - 32))).1 ≠ 0 then ((getM (l.take (l.length - 32))).1, .zero)
 else if (K.length : Int) ≤ (getM (l.take (l.length - 32))).2.frm then (6, .zero)
 else if tagOf (K.getD (getM (l.take (l.length - 32))).2.frm.toNat []) (l.take (l.length - 32)) ≠ vec32 (l.drop (l.length - 32)) then (5, .zero) else (0, (getM (l.take (l.length - 32))).2)
theorem putM_ok {m : MsgD} (h : (putM m).2 = 0) : (putM m).1 = msgB m ∧ formedM m = true ∧ (msgB m).length ≤ 65504 ∧ m.parts.length ≤ 16 := by
 unfold putM at h ⊢
 split at h
 · simp at h
 · rename_i h1
   split at h
   · rename_i h2
     rw [if_neg h1, if_pos h2]
     exact ⟨rfl, h2, by omega, by omega⟩
   · simp at h
theorem msgR_formed {l : List UInt8} (h : (msgR l).1 = 0) : formedM (msgR l).2 = true := by
 unfold msgR at h ⊢
 split at h
 · simp at h
 · split at h
   · omega
   · split at h
     · omega
     · split at h
       · simp at h
       · split at h
         · rename_i h1 h2 h3 h4 h5
           rw [if_neg h1, if_neg h2, if_neg h3, if_neg h4, if_pos h5]; exact h5
         · simp at h
theorem getM_formed {l : List UInt8} (h : (getM l).1 = 0) : formedM (getM l).2 = true := by
 unfold getM at h ⊢
 split at h
 · simp at h
 · split at h
   · omega
   · rename_i h1 h2
     rw [if_neg h1, if_neg h2]
     exact msgR_formed h
theorem frm_range {m : MsgD} (h : formedM m = true) : 0 ≤ m.frm ∧ m.frm ≤ 15 := by
 have := (formedM_iff m).1 h
 omega
theorem keys_get {k : PS} {j : Nat} (h : j < k.ls.length) : (k.ls.map BS.l).getD j [] = k.ls[j].l := by simp [List.getD, h]
theorem sealK_err {K : List (List UInt8)} {m : MsgD} (h : (putM m).2 ≠ 0) : sealK K m = ([], (putM m).2) := if_pos h
theorem sealK_who {K : List (List UInt8)} {m : MsgD} (h : (putM m).2 = 0) (h2 : (K.length : Int) ≤ m.frm) : sealK K m = ([], 6) := by rw [sealK, if_neg (by omega), if_pos h2]
theorem sealK_ok {K : List (List UInt8)} {m : MsgD} (h : (putM m).2 = 0) (h2 : ¬ (K.length : Int) ≤ m.frm) : sealK K m = ((putM m).1 ++ (tagOf (K.getD m.frm.toNat []) (putM m).1).toList, 0) := by rw [sealK, if_neg (by omega), if_neg h2]
instance RdE.two {w0 : World} {H : List SA} {x y : BS} [h : RdB w0 H (.slice x.a x.l.length x.c) x.l] [h2 : RdB w0 H (.slice y.a y.l.length y.c) y.l] : RdE w0 H [x, y] := ⟨fun z hz w hw => by
 rcases List.mem_cons.1 hz with rfl | hz
 · exact h.rd w hw
 · obtain rfl : z = y := by simpa using hz
   exact h2.rd w hw⟩
instance RdB.hashL {w0 : World} {H : List SA} {b o : Nat} {cs : Array Value} {T : TypeId} {fz : Nat × Nat} {x : Vector UInt8 32} [hm : Mem w0 H b (.cells cs T fz)] [hc : SubAt cs o 32 (hlist x).toArray] : RdB w0 H (.slice (some ⟨b, o, none⟩) x.toList.length 32) x.toList := by
 have := RdB.hash x hm hc (by decide)
 rwa [show x.toList.length = 32 from by simp]
theorem concat2_c {w0 : World} {H : List SA} {a : Option Addr} {x y : BS} {c : Nat} [hr : RdC w0 H (.slice a 2 c) 1 [x.val, y.val]] [h1 : RdB w0 H (.slice x.a x.l.length x.c) x.l] [h2 : RdB w0 H (.slice y.a y.l.length y.c) y.l] (hs : x.l.length + y.l.length ≤ 4294967296) :
 CT Tryz.prog w0 H 54 [.slice a 2 c] (α := AC) (fun z => .slice z.a (x.l ++ y.l).length z.c) (fun z => row (.slice z.a (x.l ++ y.l).length z.c) 5 1 (bytesV (x.l ++ y.l)) :: H) := by
 have e : ([x, y].map BS.l).flatten = x.l ++ y.l := by simp
 have := concat_c (w0 := w0) (H := H) (a := a) (ls := [x, y]) (c := c) (hr := hr) (re := RdE.two) (by rw [e]; simpa using hs) (by simp)
 rwa [e] at this
attribute [local irreducible] tagOf putM
set_option maxHeartbeats 1000000 in
theorem seal_c {w0 : World} {H : List SA} {k : KeysV} {m : MsgV} [rk : RdC w0 H (.slice k.seals.a k.seals.ls.length k.seals.c) 1 (k.seals.ls.map BS.val)] [rke : RdE w0 H k.seals.ls] (hkl : ∀ x ∈ k.seals.ls, x.l.length ≤ 4294967000) [rb : RdB w0 H (.slice m.body.a m.body.l.length m.body.c) m.body.l] [rc : RdC w0 H (.slice m.parts.a m.parts.ls.length m.parts.c) 1 (m.parts.ls.map BS.val)] [re : RdE w0 H m.parts.ls] (hs : SmallM m.abs) :
 CT Tryz.prog w0 (H) 23 [.agg k.cells, .agg m.cells] (α := AC) (fun y => .tuple #[.slice y.a (sealK (k.seals.ls.map BS.l) m.abs).1.length y.c, .int .i64 (sealK (k.seals.ls.map BS.l) m.abs).2]) (fun y => row (.slice y.a (sealK (k.seals.ls.map BS.l) m.abs).1.length y.c) 5 1 (bytesV (sealK (k.seals.ls.map BS.l) m.abs).1) :: H) := by
 refine CT_intro Tryz.func23 rfl Tryz.ntmps23 rfl ?_
 refine T2 ?_
 refine ze rfl (Ef_boxN rfl (fun b2 => ?_))
 refine ze rfl (Ef_boxN rfl (fun b3 => ?_))
 refine Qas rfl rfl (Qai rfl rfl (T4 (zq (zn rfl rfl) rfl ?_)))
 refine ze rfl (zc (wput_c hs) rfl (fun x11 => ?_))
 refine zq (zm (.tuple _) rfl) rfl (zq (Qt_extract rfl) rfl (zq (Qt_extract rfl) rfl (Qas rfl rfl (Qai rfl rfl (TX (zS (zB (T2 ?_))))))))
 refine Qmi rfl rfl (zq (Qt_neq rfl rfl) rfl (Qab rfl rfl (TX (zC rfl (fun h14 => ?_) (fun h14 => ?_)))))
 ·
  have p14 := h14
  try simp only [dp] at p14
  refine T2 (Qmi rfl rfl (Qas rfl rfl (Qai rfl rfl (TX (zQ (zb (zr ?_)))))))
  have e : sealK (k.seals.ls.map BS.l) m.abs = ([], (putM m.abs).2) := sealK_err (by omega)
  simp only [e]
  exact zX ⟨none, 0⟩ [_, _] Tryz.results23 ⟨rfl, rfl, trivial⟩ rfl (fun w hw => (SB w hw : St w0 H w).addNilB 5)
 have p14 := h14
 try simp only [dp] at p14
 refine T2 (zq (zf 1 rfl rfl) rfl (zq (zl rfl) rfl (zq (zf 0 rfl rfl) rfl (zq (zl rfl) rfl (zq (zL rfl Tryz.underlying28) rfl ?_)))))
 refine zq (Qt_geq rfl rfl) rfl (Qab rfl rfl (TX (zC rfl (fun h18 => ?_) (fun h18 => ?_))))
 ·
  have p18 := h18
  try simp only [dp] at p18
  refine T2 (Qas rfl rfl (Qai rfl rfl (TX (zQ (zb (zr ?_))))))
  have e : sealK (k.seals.ls.map BS.l) m.abs = ([], 6) := sealK_who (by omega) (by rw [List.length_map]; show _ ≤ m.frm; omega)
  simp only [e]
  exact zX ⟨none, 0⟩ [_, _] Tryz.results23 ⟨rfl, rfl, trivial⟩ rfl (fun w hw => (SB w hw : St w0 H w).addNilB 5)
 have p18 := h18
 try simp only [dp] at p18
 refine zk (X_block (zx (T2 ?_)))
 have hz : (putM m.abs).2 = 0 := by omega
 have hfr := frm_range (putM_ok hz).2.1
 have hfr : 0 ≤ m.frm ∧ m.frm ≤ 15 := hfr
 have hk : m.frm.toNat < k.seals.ls.length := by omega
 have : RdB w0 H (.slice k.seals.ls[m.frm.toNat].a k.seals.ls[m.frm.toNat].l.length k.seals.ls[m.frm.toNat].c) k.seals.ls[m.frm.toNat].l := rke.get (List.getElem_mem hk)
 have hle := putM_le m.abs
 have hkl1 := hkl _ (List.getElem_mem hk)
 refine zq (zf 0 rfl rfl) rfl (zq (zl rfl) rfl (zq (zf 1 rfl rfl) rfl (zq (zl rfl) rfl (zq (Qt_indexR rfl rfl (by omega) (by simp; omega)) rfl (zq (Qt_loadR (.slice _ _ _) rfl (vals_get _ _ hk)) rfl ?_)))))
 refine Qms rfl rfl ?_
 refine ze rfl (zc (tag_c (by omega) (by omega)) rfl (fun x32 => ?_))
 obtain ⟨tv, htv⟩ : ∃ tv, tv = (tagOf k.seals.ls[m.frm.toNat].l (putM m.abs).1) := ⟨_, rfl⟩
 rw [← htv]
 refine ze rfl (Ef_allocN (fun b8 => ?_))
 refine zN (zs rfl rfl (?_))
 refine T4 (Qms rfl rfl (zq (Qt_val (Qt_slice_arr rfl Tryz.underlying32 rfl rfl) (congrArg (fun n => Value.slice (some ⟨b8, 0, none⟩) n 32) (show 32 = tv.toList.length from by simp))) rfl ?_))
 refine ze rfl (Ef_sliceN (m := 2) [BS.val ⟨x11.a, x11.c, (putM m.abs).1⟩, BS.val ⟨some ⟨b8, 0, none⟩, 32, tv.toList⟩] [BS.val ⟨x11.a, x11.c, (putM m.abs).1⟩, BS.val ⟨some ⟨b8, 0, none⟩, 32, tv.toList⟩] rfl rfl rfl rfl (by simp [Value.cells, BS.val]) rfl rfl (fun a35 c35 => ?_))
 refine ze rfl (zc (concat2_c (x := ⟨x11.a, x11.c, (putM m.abs).1⟩) (y := ⟨some ⟨b8, 0, none⟩, 32, tv.toList⟩) (by simp; omega)) rfl (fun x36 => ?_))
 refine Qas rfl rfl (Qai rfl rfl (TX (zQ ?_)))
 have e : sealK (k.seals.ls.map BS.l) m.abs = ((putM m.abs).1 ++ (tagOf k.seals.ls[m.frm.toNat].l (putM m.abs).1).toList, 0) := by rw [sealK_ok hz (by rw [List.length_map]; show ¬ _ ≤ m.frm; omega)]; rw [show m.abs.frm = m.frm from rfl, keys_get hk]
 rw [← htv] at e
 simp only [e]
 exact zX x36 [_, _] Tryz.results23 ⟨rfl, rfl, trivial⟩ rfl SB
end
section
open Go.RowKit Go.Sx
set_option maxRecDepth 100000
set_option linter.unusedSimpArgs false
set_option linter.unusedVariables false
theorem openK_1 {K : List (List UInt8)} {l : List UInt8} (h : l.length < 32) : openK K l = (1, .zero) := if_pos h
theorem openK_e {K : List (List UInt8)} {l : List UInt8} (h : ¬ l.length < 32) (h1 : (getM (l.take (l.length - 32))).1 ≠ 0) : openK K l = ((getM (l.take (l.length - 32))).1, .zero) := by rw [openK, if_neg h, if_pos h1]
theorem openK_6 {K : List (List UInt8)} {l : List UInt8} (h : ¬ l.length < 32) (h1 : (getM (l.take (l.length - 32))).1 = 0) (h2 : (K.length : Int) ≤ (getM (l.take (l.length - 32))).2.frm) : openK K l = (6, .zero) := by rw [openK, if_neg h, if_neg (by omega), if_pos h2]
theorem openK_t {K : List (List UInt8)} {l : List UInt8} (h : ¬ l.length < 32) (h1 : (getM (l.take (l.length - 32))).1 = 0) (h2 : ¬ (K.length : Int) ≤ (getM (l.take (l.length - 32))).2.frm) :
 openK K l = if tagOf (K.getD (getM (l.take (l.length - 32))).2.frm.toNat []) (l.take (l.length - 32)) ≠ vec32 (l.drop (l.length - 32)) then (5, .zero) else (0, (getM (l.take (l.length - 32))).2) := by rw [openK, if_neg h, if_neg (by omega), if_neg h2]
attribute [local irreducible] tagOf getM
set_option maxHeartbeats 1000000 in
theorem open_c {w0 : World} {H : List SA} {k : KeysV} [rk : RdC w0 H (.slice k.seals.a k.seals.ls.length k.seals.c) 1 (k.seals.ls.map BS.val)] [rke : RdE w0 H k.seals.ls] (hkl : ∀ x ∈ k.seals.ls, x.l.length ≤ 4294967000) {a : Option Addr} {l : List UInt8} {c : Nat} [hr : RdB w0 H (.slice a l.length c) l] (hl : l.length ≤ 4294960000) :
 CT Tryz.prog w0 (H) 58 [.agg k.cells, .slice a l.length c] (α := MsgV × List Nat) (fun y => .tuple #[.agg y.1.cells, .int .i64 (openK (k.seals.ls.map BS.l) l).1]) (fun y => pu (y.1.abs = (openK (k.seals.ls.map BS.l) l).2) :: dat y.2 (Deep.leads y.1) :: H) := by
 refine CT_intro Tryz.func58 rfl Tryz.ntmps58 rfl ?_
 refine T2 ?_
 refine ze rfl (Ef_boxN rfl (fun b2 => ?_))
 refine ze rfl (Ef_allocN (fun b4 => ?_))
 refine Qai rfl rfl (T4 (Qms rfl rfl (zq (zL rfl Tryz.underlying33) rfl (zq (Qt_sub rfl rfl (by omega) (by omega)) rfl (Qai rfl rfl ?_)))))
 refine TX (zS (T2 ?_))
 refine Qmi rfl rfl (zq (Qt_lss rfl rfl) rfl (TX (zC rfl (fun h13 => ?_) (fun h13 => ?_))))
 ·
  have p13 := h13
  try simp only [dp] at p13
  refine T2 (zq (Qt_build [] rfl (by kernel_rfl)) rfl ?_)
  refine zN (zs rfl rfl (?_))
  refine Qai rfl rfl (TX (zQ (zr ?_)))
  have e := openK_1 (K := (k.seals.ls.map BS.l)) (l := l) (by omega)
  exact zX (MsgV.zero, []) [_, _] Tryz.results58 ⟨⟨_, rfl, res_cellN rfl⟩, rfl, trivial⟩ (by rw [e]; rfl) (fun w hw => (St.datMsgZero (SB w hw : St w0 H w)).addPure (by rw [e]; rfl))
 have p13 := h13
 try simp only [dp] at p13
 have h32 : ¬ l.length < 32 := by omega
 refine S4 (Qms rfl rfl (Qmi rfl rfl (zq (Qt_sliceB_h (l.length - 32) rfl (by refine congrArg (Value.int .i64) ?_; omega) (by omega)) rfl ?_)))
 refine ze rfl (zc (wget_c (l := (l.take (l.length - 32))) (by simp; omega)) rfl (fun x19 => ?_))
 refine TL_pure (fun h19 => ?_)
 have hfrm : x19.1.frm = (getM (l.take (l.length - 32))).2.frm := congrArg MsgD.frm h19
 refine zq (zm (.tuple _) rfl) rfl (zq (Qt_extract rfl) rfl (zq (Qt_extract rfl) rfl ?_))
 refine ze rfl (Ef_allocN (fun b7 => ?_))
 refine zN (zs rfl rfl (?_))
 refine Qai rfl rfl (TX (zS (zB (T2 ?_))))
 refine Qmi rfl rfl (zq (Qt_neq rfl rfl) rfl (Qab rfl rfl (TX (zC rfl (fun h22 => ?_) (fun h22 => ?_)))))
 ·
  have p22 := h22
  try simp only [dp] at p22
  refine T2 (zq (Qt_build [] rfl (by kernel_rfl)) rfl (Qmi rfl rfl ?_))
  refine zN (zs rfl rfl (?_))
  refine Qai rfl rfl (TX (zQ (zb (zr ?_))))
  have e := openK_e (K := (k.seals.ls.map BS.l)) h32 (by omega)
  exact zX (MsgV.zero, []) [_, _] Tryz.results58 ⟨⟨_, rfl, res_cellN rfl⟩, rfl, trivial⟩ (by rw [e]; rfl) (fun w hw => (St.datMsgZero (SB w hw : St w0 H w)).addPure (by rw [e]; rfl))
 have p22 := h22
 try simp only [dp] at p22
 have hz : (getM (l.take (l.length - 32))).1 = 0 := by omega
 refine T2 (zq (zf 1 rfl rfl) rfl (zq (zl rfl) rfl (zq (zf 0 rfl rfl) rfl (zq (zl rfl) rfl (zq (zL rfl Tryz.underlying28) rfl ?_)))))
 refine zq (Qt_geq rfl rfl) rfl (Qab rfl rfl (TX (zC rfl (fun h27 => ?_) (fun h27 => ?_))))
 ·
  have p27 := h27
  try simp only [dp] at p27
  refine T2 (zq (Qt_build [] rfl (by kernel_rfl)) rfl ?_)
  refine zN (zs rfl rfl (?_))
  refine Qai rfl rfl (TX (zQ (zb (zr ?_))))
  have e := openK_6 (K := (k.seals.ls.map BS.l)) h32 hz (by rw [List.length_map]; omega)
  exact zX (MsgV.zero, []) [_, _] Tryz.results58 ⟨⟨_, rfl, res_cellN rfl⟩, rfl, trivial⟩ (by rw [e]; rfl) (fun w hw => (St.datMsgZero (SB w hw : St w0 H w)).addPure (by rw [e]; rfl))
 have p27 := h27
 try simp only [dp] at p27
 have hfr := frm_range (getM_formed hz)
 have hlt : ¬ (k.seals.ls.length : Int) ≤ (getM (l.take (l.length - 32))).2.frm := by omega
 have hk : x19.1.frm.toNat < k.seals.ls.length := by omega
 have : RdB w0 H (.slice k.seals.ls[x19.1.frm.toNat].a k.seals.ls[x19.1.frm.toNat].l.length k.seals.ls[x19.1.frm.toNat].c) k.seals.ls[x19.1.frm.toNat].l := rke.get (List.getElem_mem hk)
 have hkl1 := hkl _ (List.getElem_mem hk)
 have ht := openK_t (K := (k.seals.ls.map BS.l)) h32 hz (by rw [List.length_map]; exact hlt)
 rw [← hfrm, keys_get hk] at ht
 refine zS (T_draw (blk b7 (.cells x19.1.cells 82 (0, 0)) :: blk b2 (.cells k.cells 40 (0, 0)) :: H) [(0, true), (1, true), (2, true), (3, true), (4, true), (5, true), (6, true), (7, true), (8, true), (10, true), (11, true), (12, true), (13, true), (14, true), (9, false), (15, true), (16, true)] (by kernel_rfl) (by kernel_rfl) rfl (by kernel_rfl) SB (fun hns0 => ?_))
 refine zd hns0 rfl (zf 0 rfl rfl) rfl (zd hns0 rfl (zl rfl) rfl (zd hns0 rfl (zf 1 rfl rfl) rfl (zd hns0 rfl (zl rfl) rfl (zd hns0 rfl (Qt_indexR rfl rfl (by omega) (by simp; omega)) rfl (zd hns0 rfl (Qt_loadR (.slice _ _ _) rfl (vals_get _ _ hk)) rfl ?_)))))
 refine zd hns0 rfl (zm (.slice _ _ _) rfl) rfl (zd hns0 rfl (zm (.int .i64 _) rfl) rfl (zd hns0 rfl (Qt_sliceB_h (l.length - 32) rfl (by refine congrArg (Value.int .i64) ?_; omega) (by omega)) rfl (zd hns0 rfl (zm (.slice _ _ _) rfl) rfl (zd hns0 rfl (zm (.int .i64 _) rfl) rfl (zd hns0 rfl (Qt_sliceB_l (l.length - 32) rfl (by refine congrArg (Value.int .i64) ?_; omega) (by omega)) rfl ?_)))))
 refine zd hns0 rfl (Qt_arrayAt rfl Tryz.underlying32 (by simp; omega) (by decide)) rfl (zd hns0 rfl (Qt_loadRN 1 (hlist (vec32 (l.drop (l.length - 32)))) rfl (by rw [List.drop_zero, vec32_cells _ (by simp; omega)]; exact List.take_of_length_le (by simp; omega)) (by simp) (by decide)) rfl ?_)
 refine DL_e rfl rfl (zc (tag_c (l := (l.take (l.length - 32))) (by omega) (by simp; omega)) rfl (fun x45 => ⟨SB, ?_⟩))
 refine zd hns0 rfl (Qt_agg_neq rfl rfl (by kernel_rfl)) rfl (zd hns0 rfl (za (.bool _) rfl) rfl (DL_nil (zx (zC rfl (fun h35 => ?_) (fun h35 => ?_)))))
 ·
  have p35 := h35
  try simp only [dp] at p35
  refine T2 (zq (Qt_build [] rfl (by kernel_rfl)) rfl ?_)
  refine zN (zs rfl rfl (?_))
  refine Qai rfl rfl (TX (zQ (zb (zr ?_))))
  rw [if_pos (by simpa using h35)] at ht
  have e := ht
  exact zX (MsgV.zero, []) [_, _] Tryz.results58 ⟨⟨_, rfl, res_cellN rfl⟩, rfl, trivial⟩ (by rw [e]; rfl) (fun w hw => (St.datMsgZero (SB w hw : St w0 H w)).addPure (by rw [e]; rfl))
 have p35 := h35
 try simp only [dp] at p35
 refine zk (X_block (zx (T2 ?_)))
 refine zq (zn rfl rfl) rfl ?_
 refine zN (zs rfl rfl (?_))
 refine Qai rfl rfl (TX (zQ ?_))
 rw [if_neg (by simpa using h35)] at ht
 exact zX x19 [_, _] Tryz.results58 ⟨⟨_, rfl, res_cellN rfl⟩, rfl, trivial⟩ (by rw [ht]; rfl) (fun w hw => (SB w hw : St w0 (dat x19.2 (Deep.leads x19.1) :: H) w).addPure (by rw [ht]; exact h19))
end
section
open Go.RowKit Go.Sx
set_option maxRecDepth 100000
set_option linter.unusedSimpArgs false
set_option linter.unusedVariables false

theorem be_at {l r : List UInt8} {o x n : Nat} (h : l.drop o = fixed x n ++ r) (hx : x < 256 ^ n) : be l o n = (x : Int) := by
 unfold be
 rw [h, List.take_append_of_le_length (by rw [fixed_length]; exact Nat.le_refl _), List.take_of_length_le (by rw [fixed_length]; exact Nat.le_refl _), fixed_beN, Nat.mod_eq_of_lt hx]
theorem next_fixed {l r : List UInt8} {o x n : Nat} (h : l.drop o = fixed x n ++ r) : l.drop (o + n) = r := by
 have := drop_next h
 rwa [fixed_length] at this
theorem packed_pos (x : Nat) : 0 < (packed x).length := by unfold packed; split <;> simp
theorem textB_pos (t : List UInt8) : 0 < (textB t).length := by have := packed_pos t.length; simp [textB]; omega
theorem prs_texts : ∀ ps : List (List UInt8), (∀ x ∈ ps, x.length ≤ 65536) → prs ps.length (texts ps) = (0, ps, (texts ps).length)
 | [], _ => by simp [prs, texts]
 | x :: ps, h => by
  have h1 := prs_texts ps (fun y hy => h y (by simp [hy]))
  have hx := h x (by simp)
  have h2 := rdText_text x 65536 (texts ps) (by omega) (by omega)
  rw [show packed x.length ++ x ++ texts ps = texts (x :: ps) from by rw [texts_cons]; rfl] at h2
  have h3 : (texts (x :: ps)).drop (packed x.length ++ x).length = texts ps := by rw [texts_cons]; exact List.drop_left
  rw [List.length_cons, prs, h2, if_neg (by simp)]
  simp only [h3, h1]
  rw [if_neg (by simp), texts_cons]
  simp [textB]
  omega
theorem msgB_form {m : MsgD} (hf : formedM m = true) : ∃ kn fn vn rn sn : Nat, m.kind = kn ∧ m.frm = fn ∧ m.view = vn ∧ m.reg = rn ∧ m.slot = sn ∧ kn < 256 ∧ fn < 256 ∧ vn < 256 ∧ rn < 256 ∧ sn < 256 ∧
 msgB m = fixed kn 1 ++ (fixed fn 1 ++ (fixed vn 2 ++ (fixed rn 2 ++ (fixed sn 2 ++ (m.hash.toList ++ (textB m.body ++ (packed m.parts.length ++ texts m.parts))))))) := by
 have h := (formedM_iff m).1 hf
 obtain ⟨kn, e1⟩ := Int.eq_ofNat_of_zero_le (show 0 ≤ m.kind by omega)
 obtain ⟨fn, e2⟩ := Int.eq_ofNat_of_zero_le (show 0 ≤ m.frm by omega)
 obtain ⟨vn, e3⟩ := Int.eq_ofNat_of_zero_le (show 0 ≤ m.view by omega)
 obtain ⟨rn, e4⟩ := Int.eq_ofNat_of_zero_le (show 0 ≤ m.reg by omega)
 obtain ⟨sn, e5⟩ := Int.eq_ofNat_of_zero_le (show 0 ≤ m.slot by omega)
 have u : ∀ n : Nat, n < 256 → (u64 (n : Int)).toNat = n := fun n hn => by
  unfold u64; rw [wrap_u64 (by omega) (by omega)]; rfl
 refine ⟨kn, fn, vn, rn, sn, e1, e2, e3, e4, e5, by omega, by omega, by omega, by omega, by omega, ?_⟩
 simp only [msgB, headM, preM, numM, wid, e1, e2, e3, e4, e5, u kn (by omega), u fn (by omega), u vn (by omega), u rn (by omega), u sn (by omega), List.append_assoc, List.nil_append]
theorem getM_msgB {m : MsgD} (h : (putM m).2 = 0) (hs : SmallM m) : getM (msgB m) = (0, m) := by
 obtain ⟨-, hf, hlen, hp16⟩ := putM_ok h
 obtain ⟨kn, fn, vn, rn, sn, e1, e2, e3, e4, e5, l1, l2, l3, l4, l5, hb⟩ := msgB_form hf
 refine getM_good (by omega) ?_
 obtain ⟨l, hl⟩ : ∃ l, l = msgB m := ⟨_, rfl⟩
 rw [← hl] at hb hlen ⊢
 have d0 : l.drop 0 = fixed kn 1 ++ _ := hb
 have d1 := next_fixed d0
 have d2 := next_fixed d1
 have d3 := next_fixed d2
 have d4 := next_fixed d3
 have d5 : l.drop 8 = m.hash.toList ++ _ := next_fixed d4
 have d6 : l.drop (8 + 32) = textB m.body ++ (packed m.parts.length ++ texts m.parts) := by
  have := drop_next d5
  rwa [Vector.length_toList] at this
 have hbr : bodyR l = (0, m.body, (textB m.body).length) := by
  unfold bodyR
  rw [d6]
  exact rdText_text m.body 65536 _ (by have := hs.body; omega) (by have := hs.body; omega)
 have d7 : l.drop (8 + 32 + (bodyR l).2.2) = packed m.parts.length ++ texts m.parts := by
  rw [hbr]; exact drop_next d6
 have hbz : (bodyR l).1 = 0 := by rw [hbr]
 have hc : rdCount (packed m.parts.length ++ texts m.parts) 16 = (0, m.parts.length, (packed m.parts.length).length) := rdCount_packed _ _ _ (by omega) (by omega)
 have hpr := prs_texts m.parts (fun x hx => by have := hs.each x hx; omega)
 have hrr : restR l = (0, m.parts, (packed m.parts.length).length + (texts m.parts).length) := by
  unfold restR
  rw [d7, partsR, hc, if_neg (by simp)]
  simp only [List.drop_left, hpr]
  rw [if_neg (by simp)]
 have hrz : (restR l).1 = 0 := by rw [hrr]
 have hle6 := drop_le d6 (textB_pos _)
 have hll : l.length = 8 + 32 + ((textB m.body).length + ((packed m.parts.length).length + (texts m.parts).length)) := by
  have := congrArg List.length d6
  simp only [List.length_drop, List.length_append] at this
  omega
 have hend : ¬ 8 + 32 + (bodyR l).2.2 + (restR l).2.2 < l.length := by rw [hbr, hrr]; simp only; omega
 have hh : hashAt l = m.hash := by
  apply Vector.ext
  intro i hi
  have h1 : l[8 + i]? = some m.hash[i] := by
   rw [← List.getElem?_drop, d5, List.getElem?_append_left (by simpa using hi)]
   simp [hi]
  simp [hashAt, List.getD, h1]
 have hr : readM l = m := by
  unfold readM
  rw [be_at d0 (by omega), be_at d1 (by omega), be_at d2 (by omega), be_at d3 (by omega), be_at d4 (by omega), hh, hbr, hrr, ← e1, ← e2, ← e3, ← e4, ← e5]
 rw [msgR_end (by omega) hbz hrz hend, hr, if_pos hf]
theorem openK_of {K : List (List UInt8)} {m : MsgD} (h : (putM m).2 = 0) (hs : SmallM m) (t : Vector UInt8 32) :
 openK K (msgB m ++ t.toList) = if (K.length : Int) ≤ m.frm then (6, .zero) else if tagOf (K.getD m.frm.toNat []) (msgB m) ≠ t then (5, .zero) else (0, m) := by
 have e1 : (msgB m ++ t.toList).length - 32 = (msgB m).length := by simp
 have e2 : (msgB m ++ t.toList).take (msgB m).length = msgB m := List.take_left
 have e3 : (msgB m ++ t.toList).drop (msgB m).length = t.toList := List.drop_left
 have hg := getM_msgB h hs
 unfold openK
 rw [if_neg (by simp), e1, e2, e3, hg, if_neg (by simp), vec32_toList]
theorem openK_seal {K : List (List UInt8)} {m : MsgD} (h : (sealK K m).2 = 0) (hs : SmallM m) : openK K (sealK K m).1 = (0, m) := by
 by_cases h1 : (putM m).2 ≠ 0
 · rw [sealK_err h1] at h; exact absurd h h1
 · have h1 : (putM m).2 = 0 := by omega
   by_cases h2 : (K.length : Int) ≤ m.frm
   · rw [sealK_who h1 h2] at h; simp at h
   · rw [sealK_ok h1 h2]
     simp only [(putM_ok h1).1]
     rw [openK_of h1 hs, if_neg h2, if_neg (by simp)]
end
section
open Go.RowKit Go.Sx
set_option maxRecDepth 100000
set_option linter.unusedSimpArgs false
set_option linter.unusedVariables false
def openOfK (K : List (List UInt8)) (mk : Nat) (l : List UInt8) : Int × MsgD :=
 if (openK K l).1 = 0 ∧ hasV mk (openK K l).2.frm = false then (6, .zero) else openK K l
theorem openF_c {w0 : World} {H : List SA} {sa : Option Addr} {sc : Nat} {ls : List BS} {rt : Sl} [rk : RdC w0 H (.slice sa ls.length sc) 1 (ls.map BS.val)] [rke : RdE w0 H ls] (hkl : ∀ x ∈ ls, x.l.length ≤ 4294967000) {a : Option Addr} {l : List UInt8} {c : Nat} [hr : RdB w0 H (.slice a l.length c) l] (hl : l.length ≤ 4294960000) :
 CT Tryz.prog w0 H 58 [.agg (KeysV.mk ⟨sa, sc, ls⟩ rt).cells, .slice a l.length c] (α := MsgV × List Nat) (fun y => .tuple #[.agg y.1.cells, .int .i64 (openK (ls.map BS.l) l).1]) (fun y => pu (y.1.abs = (openK (ls.map BS.l) l).2) :: dat y.2 (Deep.leads y.1) :: H) :=
 open_c (k := ⟨⟨sa, sc, ls⟩, rt⟩) (rk := rk) (rke := rke) hkl hl
theorem sealF_c {w0 : World} {H : List SA} {sa : Option Addr} {sc : Nat} {ls : List BS} {rt : Sl} [rk : RdC w0 H (.slice sa ls.length sc) 1 (ls.map BS.val)] [rke : RdE w0 H ls] (hkl : ∀ x ∈ ls, x.l.length ≤ 4294967000) {m : MsgV} (M : MsgD) [rb : RdB w0 H (.slice m.body.a m.body.l.length m.body.c) m.body.l] [rc : RdC w0 H (.slice m.parts.a m.parts.ls.length m.parts.c) 1 (m.parts.ls.map BS.val)] [re : RdE w0 H m.parts.ls] (hM : m.abs = M) (hs : SmallM M) :
 CT Tryz.prog w0 H 23 [.agg (KeysV.mk ⟨sa, sc, ls⟩ rt).cells, .agg m.cells] (α := AC) (fun y => .tuple #[.slice y.a (sealK (ls.map BS.l) M).1.length y.c, .int .i64 (sealK (ls.map BS.l) M).2]) (fun y => row (.slice y.a (sealK (ls.map BS.l) M).1.length y.c) 5 1 (bytesV (sealK (ls.map BS.l) M).1) :: H) := by
 subst hM
 exact seal_c (k := ⟨⟨sa, sc, ls⟩, rt⟩) (rk := rk) (rke := rke) hkl hs
attribute [local irreducible] openK
set_option maxHeartbeats 1000000 in
theorem openOf_c {w0 : World} {H : List SA} {num : Int} {mk : Nat} (hmk : mk < 65536) {sa : Option Addr} {sc : Nat} {ls : List BS} {rt : Sl} [rk : RdC w0 H (.slice sa ls.length sc) 1 (ls.map BS.val)] [rke : RdE w0 H ls] (hkl : ∀ x ∈ ls, x.l.length ≤ 4294967000) {a : Option Addr} {l : List UInt8} {c : Nat} [hr : RdB w0 H (.slice a l.length c) l] (hl : l.length ≤ 4294960000) :
 CT Tryz.prog w0 (H) 29 [.agg (KeysV.mk ⟨sa, sc, ls⟩ rt).cells, .agg (ViewV.mk num (mk : Int)).cells, .slice a l.length c] (α := MsgV × List Nat) (fun y => .tuple #[.agg y.1.cells, .int .i64 (openOfK (ls.map BS.l) mk l).1]) (fun y => pu (y.1.abs = (openOfK (ls.map BS.l) mk l).2) :: dat y.2 (Deep.leads y.1) :: H) := by
 refine CT_intro Tryz.func29 rfl Tryz.ntmps29 rfl ?_
 refine T2 ?_
 refine ze rfl (Ef_boxN rfl (fun b3 => ?_))
 refine ze rfl (Ef_boxN rfl (fun b4 => ?_))
 refine ze rfl (Ef_allocN (fun b6 => ?_))
 refine Qai rfl rfl (T4 (zq (zn rfl rfl) rfl (Qms rfl rfl ?_)))
 refine ze rfl (zc (openF_c (sa := sa) (sc := sc) (ls := ls) (rt := rt) hkl hl) rfl (fun x13 => ?_))
 refine TL_pure (fun hx => ?_)
 have hfr : x13.1.frm = (openK (ls.map BS.l) l).2.frm := congrArg MsgD.frm hx
 refine zq (zm (.tuple _) rfl) rfl (zq (Qt_extract rfl) rfl (zq (Qt_extract rfl) rfl ?_))
 refine ze rfl (Ef_allocN (fun b8 => ?_))
 refine zN (zs rfl rfl (?_))
 refine Qai rfl rfl (TX (zS (T2 ?_)))
 refine Qmi rfl rfl (zq (Qt_eql rfl rfl) rfl (Qmb rfl rfl ?_))
 refine TL_split 18 rfl (fun h18 => ?_) (fun h18 => ?_)
 ·
  have p18 := h18
  try simp only [dp] at p18
  refine zt rfl rfl h18 (zq (zn rfl rfl) rfl (zt rfl rfl h18 (zq (zf 1 rfl rfl) rfl (zt rfl rfl h18 (zq (zl rfl) rfl ?_)))))
  refine zt rfl rfl h18 ?_
  refine ze rfl (zc (has_v (num := num) hmk) rfl (fun x22 => ?_))
  refine zt rfl rfl h18 (zq (Qt_not rfl) rfl (zq (zT (.bool _) rfl h18 rfl) rfl (TX (zC rfl (fun h24 => ?_) (fun h24 => ?_)))))
  ·
   have p24 := h24
   try simp only [dp] at p24
   refine T2 (zq (Qt_build [] rfl (by kernel_rfl)) rfl ?_)
   refine zN (zs rfl rfl (?_))
   refine Qai rfl rfl (TX (zQ (zr ?_)))
   have e : openOfK (ls.map BS.l) mk l = (6, .zero) := if_pos ⟨by simpa using h18, by rw [← hfr]; simpa using h24⟩
   exact zX (MsgV.zero, []) [_, _] Tryz.results29 ⟨⟨_, rfl, res_cellN rfl⟩, rfl, trivial⟩ (by rw [e]; rfl) (fun w hw => (St.datMsgZero (SB w hw : St w0 H w)).addPure (by rw [e]; rfl))
  have p24 := h24
  try simp only [dp] at p24
  refine S4 (zq (zn rfl rfl) rfl (Qmi rfl rfl ?_))
  refine zN (zs rfl rfl (?_))
  refine Qai rfl rfl (TX (zQ ?_))
  have e : openOfK (ls.map BS.l) mk l = openK (ls.map BS.l) l := if_neg (by rintro ⟨h1, h2⟩; rw [← hfr] at h2; simp_all)
  exact zX x13 [_, _] Tryz.results29 ⟨⟨_, rfl, res_cellN rfl⟩, rfl, trivial⟩ (by rw [e]; rfl) (fun w hw => (SB w hw : St w0 (dat x13.2 (Deep.leads x13.1) :: H) w).addPure (by rw [e]; exact hx))
 have p18 := h18
 try simp only [dp] at p18
 refine zp rfl rfl h18 rfl (zp rfl rfl h18 rfl (zp rfl rfl h18 rfl (zp rfl rfl h18 rfl (zp rfl rfl h18 rfl (zq (zF (.bool _) rfl h18 rfl) rfl ?_)))))
 refine TX (T_cond_false rfl rfl (S4 (zq (zn rfl rfl) rfl (Qmi rfl rfl ?_))))
 refine zN (zs rfl rfl (?_))
 refine Qai rfl rfl (TX (zQ ?_))
 have e : openOfK (ls.map BS.l) mk l = openK (ls.map BS.l) l := if_neg (by rintro ⟨h1, h2⟩; simp_all)
 exact zX x13 [_, _] Tryz.results29 ⟨⟨_, rfl, res_cellN rfl⟩, rfl, trivial⟩ (by rw [e]; rfl) (fun w hw => (SB w hw : St w0 (dat x13.2 (Deep.leads x13.1) :: H) w).addPure (by rw [e]; exact hx))
def keyT (n : Nat) : List (List UInt8) := (List.range n).map fun i => [UInt8.ofNat i]
theorem keyT_succ (n : Nat) : keyT (n + 1) = keyT n ++ [[UInt8.ofNat n]] := by simp [keyT, List.range_succ]
theorem keyT_len (n : Nat) : (keyT n).length = n := by simp [keyT]
theorem St.datPS {w0 w : World} {H : List SA} {a : Option Addr} {c : Nat} {ls : List BS} {fp : List Nat} {e : TypeId} (h : St w0 (row (.slice a ls.length c) e 1 (ls.map BS.val) :: eachA fp ls :: H) w) : ∃ fp, St w0 (dat fp (Deep.leads (PS.mk a c ls)) :: H) w := by
 have h1 : St w0 (eachA fp ls :: row (.slice a ls.length c) e 1 (ls.map BS.val) :: H) w := Subs.st inferInstance w h
 have h2 := St.datEach h1
 have h3 : St w0 (row (.slice a ls.length c) e 1 (ls.map BS.val) :: dat fp ⟨ls, [], []⟩ :: H) w := Subs.st inferInstance w h2
 exact ⟨_, St.datP (x := ⟨a, c, ls⟩) h3⟩
instance RdC.datK {w0 : World} {H : List SA} {fp : List Nat} {a : Option Addr} {c : Nat} {ls : List BS} : RdC w0 (dat fp (Deep.leads (PS.mk a c ls)) :: H) (.slice a ls.length c) 1 (ls.map BS.val) := RdC.ofPS (x := ⟨a, c, ls⟩)
instance RdE.datK {w0 : World} {H : List SA} {fp : List Nat} {a : Option Addr} {c : Nat} {ls : List BS} : RdE w0 (dat fp (Deep.leads (PS.mk a c ls)) :: H) ls := RdE.ofPS (x := ⟨a, c, ls⟩)
end
end Go.Proofs.YtnijomppbgdmnaaGreat
