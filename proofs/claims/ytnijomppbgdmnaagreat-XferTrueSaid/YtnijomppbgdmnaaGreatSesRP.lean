/- Walks: Seal and Open of package seals, and of the reference. -/
import Derived.Test.YtnijomppbgdmnaaGreatSgP
import Derived.Test.YtnijomppbgdmnaaGreatMsRP
set_option linter.unusedSimpArgs false
set_option linter.unusedVariables false
namespace Go.Proofs.YtnijomppbgdmnaaGreat
section
open Go.RowKit Go.Sx
set_option maxRecDepth 100000
def vec32 (l : List UInt8) : Vector UInt8 32 := Vector.ofFn fun i => l.getD i 0
theorem vec32_list (l : List UInt8) (h : l.length = 32) : (vec32 l).toList = l := by
 apply List.ext_getElem
 · simp [h]
 · intro i h1 h2
   simp [vec32, List.getD, List.getElem?_eq_getElem h2]
theorem vec32_toList (v : Vector UInt8 32) : vec32 v.toList = v := by
 apply Vector.ext; intro i hi; simp [vec32, List.getD, hi]
theorem vec32_cells (l : List UInt8) (h : l.length = 32) : hlist (vec32 l) = bytesV l := by unfold hlist; rw [vec32_list l h]
/-- seals.Open: the error, the message. -/
def openK (K : List (List UInt8)) (l : List UInt8) : Int × MsgD :=
 if l.length < 32 then (1, .zero) else if (getM (l.take (l.length - 32))).1 ≠ 0 then ((getM (l.take (l.length - 32))).1, .zero)
 else if (K.length : Int) ≤ (getM (l.take (l.length - 32))).2.frm then (6, .zero)
 else if tagOf (K.getD (getM (l.take (l.length - 32))).2.frm.toNat []) (l.take (l.length - 32)) ≠ vec32 (l.drop (l.length - 32)) then (5, .zero) else (0, (getM (l.take (l.length - 32))).2)
theorem msgR_formed {l : List UInt8} (h : (msgR l).1 = 0) : formedM (msgR l).2 = true := by
 unfold msgR at h ⊢
 split at h
 · simp at h
 · split at h
   · omega
   · split at h
     · omega
     · split at h
       · simp at h
       · split at h
         · rename_i h1 h2 h3 h4 h5
           rw [if_neg h1, if_neg h2, if_neg h3, if_neg h4, if_pos h5]; exact h5
         · simp at h
theorem getM_formed {l : List UInt8} (h : (getM l).1 = 0) : formedM (getM l).2 = true := by
 unfold getM at h ⊢
 split at h
 · simp at h
 · split at h
   · omega
   · rename_i h1 h2
     rw [if_neg h1, if_neg h2]
     exact msgR_formed h
theorem frm_range {m : MsgD} (h : formedM m = true) : 0 ≤ m.frm ∧ m.frm ≤ 15 := by
 have := (formedM_iff m).1 h
 omega
theorem keys_get {k : PS} {j : Nat} (h : j < k.ls.length) : (k.ls.map BS.l).getD j [] = k.ls[j].l := by simp [List.getD, h]
instance RdB.hashL {w0 : World} {H : List SA} {b o : Nat} {cs : Array Value} {T : TypeId} {fz : Nat × Nat} {x : Vector UInt8 32} [hm : Mem w0 H b (.cells cs T fz)] [hc : SubAt cs o 32 (hlist x).toArray] : RdB w0 H (.slice (some ⟨b, o, none⟩) x.toList.length 32) x.toList := by
 have := RdB.hash x hm hc (by decide)
 rwa [show x.toList.length = 32 from by simp]
attribute [local irreducible] tagOf
end
section
open Go.RowKit Go.Sx
set_option maxRecDepth 100000
set_option maxHeartbeats 1000000
theorem openK_1 {K : List (List UInt8)} {l : List UInt8} (h : l.length < 32) : openK K l = (1, .zero) := if_pos h
theorem openK_e {K : List (List UInt8)} {l : List UInt8} (h : ¬ l.length < 32) (h1 : (getM (l.take (l.length - 32))).1 ≠ 0) : openK K l = ((getM (l.take (l.length - 32))).1, .zero) := by rw [openK, if_neg h, if_pos h1]
theorem openK_6 {K : List (List UInt8)} {l : List UInt8} (h : ¬ l.length < 32) (h1 : (getM (l.take (l.length - 32))).1 = 0) (h2 : (K.length : Int) ≤ (getM (l.take (l.length - 32))).2.frm) : openK K l = (6, .zero) := by rw [openK, if_neg h, if_neg (by omega), if_pos h2]
theorem openK_t {K : List (List UInt8)} {l : List UInt8} (h : ¬ l.length < 32) (h1 : (getM (l.take (l.length - 32))).1 = 0) (h2 : ¬ (K.length : Int) ≤ (getM (l.take (l.length - 32))).2.frm) :
 openK K l = if tagOf (K.getD (getM (l.take (l.length - 32))).2.frm.toNat []) (l.take (l.length - 32)) ≠ vec32 (l.drop (l.length - 32)) then (5, .zero) else (0, (getM (l.take (l.length - 32))).2) := by rw [openK, if_neg h, if_neg (by omega), if_neg h2]
attribute [local irreducible] tagOf getM
theorem open_c {w0 : World} {H : List SA} {k : KeysV} [rk : RdC w0 H (.slice k.seals.a k.seals.ls.length k.seals.c) 1 (k.seals.ls.map BS.val)] [rke : RdE w0 H k.seals.ls] (hkl : ∀ x ∈ k.seals.ls, x.l.length ≤ 4294967000) {a : Option Addr} {l : List UInt8} {c : Nat} [hr : RdB w0 H (.slice a l.length c) l] (hl : l.length ≤ 4294960000) :
 CT Tryz.prog w0 (H) 58 [.agg k.cells, .slice a l.length c] (α := MsgV × List Nat) (fun y => .tuple #[.agg y.1.cells, .int .i64 (openK (k.seals.ls.map BS.l) l).1]) (fun y => pu (y.1.abs = (openK (k.seals.ls.map BS.l) l).2) :: dat y.2 (Deep.leads y.1) :: H) := by
 refine CT_intro Tryz.func58 rfl Tryz.ntmps58 rfl (T2 (ze rfl (Ef_boxN rfl (fun b2 => ?_))))
 refine ze rfl (Ef_allocN (fun b4 => ?_))
 refine Qai rfl rfl (T4 (Qms rfl rfl (zy (zL rfl Tryz.underlying33) (zy (zh rfl rfl) (Qai rfl rfl (TX (zS (T2 (Qmi rfl rfl (zy (Qt_lss rfl rfl) (TX (zC rfl (fun h13 => ?_) (fun h13 => ?_)))))))))))))
 ·
  have p13 := cL h13
  refine T2 (zy (zw [] rfl) (zN (zs rfl rfl (Qai rfl rfl (TX (zQ (zr ?_)))))))
  have e := openK_1 (K := (k.seals.ls.map BS.l)) (l := l) (by omega)
  exact zX (MsgV.zero, []) [_, _] Tryz.results58 ⟨⟨_, rfl, res_cellN rfl⟩, rfl, trivial⟩ (by rw [e]; rfl) (fun w hw => (St.datMsgZero (SB w hw : St w0 H w)).addPure (by rw [e]; rfl))
 have p13 := cL h13
 have h32 : ¬ l.length < 32 := by omega
 refine S4 (Qms rfl rfl (Qmi rfl rfl (zy (Qt_sliceB_h (l.length - 32) rfl (by refine congrArg (Value.int .i64) ?_; omega) (by omega)) ?_)))
 refine ze rfl (zc (wget_c (l := (l.take (l.length - 32))) (by simp; omega)) rfl (fun x19 => ?_))
 refine TL_pure (fun h19 => ?_)
 have hfrm : x19.1.frm = (getM (l.take (l.length - 32))).2.frm := congrArg MsgD.frm h19
 refine zy (zm (.tuple _) rfl) (zy (Qt_extract rfl) (zy (Qt_extract rfl) (ze rfl (Ef_allocN (fun b7 => ?_)))))
 refine zN (zs rfl rfl (Qai rfl rfl (TX (zS (zB (T2 (Qmi rfl rfl (zy (Qt_neq rfl rfl) (Qab rfl rfl (TX (zC rfl (fun h22 => ?_) (fun h22 => ?_))))))))))))
 ·
  have p22 := cL h22
  refine T2 (zy (zw [] rfl) (Qmi rfl rfl (zN (zs rfl rfl (Qai rfl rfl (TX (zQ (zb (zr ?_)))))))))
  have e := openK_e (K := (k.seals.ls.map BS.l)) h32 (by omega)
  exact zX (MsgV.zero, []) [_, _] Tryz.results58 ⟨⟨_, rfl, res_cellN rfl⟩, rfl, trivial⟩ (by rw [e]; rfl) (fun w hw => (St.datMsgZero (SB w hw : St w0 H w)).addPure (by rw [e]; rfl))
 have p22 := cL h22
 have hz : (getM (l.take (l.length - 32))).1 = 0 := by omega
 refine T2 (zy (zf 1 rfl rfl) (zy (zl rfl) (zy (zf 0 rfl rfl) (zy (zl rfl) (zy (zL rfl Tryz.underlying28) (zy (Qt_geq rfl rfl) (Qab rfl rfl (TX (zC rfl (fun h27 => ?_) (fun h27 => ?_))))))))))
 ·
  have p27 := cL h27
  refine T2 (zy (zw [] rfl) (zN (zs rfl rfl (Qai rfl rfl (TX (zQ (zb (zr ?_))))))))
  have e := openK_6 (K := (k.seals.ls.map BS.l)) h32 hz (by rw [List.length_map]; omega)
  exact zX (MsgV.zero, []) [_, _] Tryz.results58 ⟨⟨_, rfl, res_cellN rfl⟩, rfl, trivial⟩ (by rw [e]; rfl) (fun w hw => (St.datMsgZero (SB w hw : St w0 H w)).addPure (by rw [e]; rfl))
 have p27 := cL h27
 have hfr := frm_range (getM_formed hz)
 have hlt : ¬ (k.seals.ls.length : Int) ≤ (getM (l.take (l.length - 32))).2.frm := by omega
 have hk : x19.1.frm.toNat < k.seals.ls.length := by omega
 have : RdB w0 H (.slice k.seals.ls[x19.1.frm.toNat].a k.seals.ls[x19.1.frm.toNat].l.length k.seals.ls[x19.1.frm.toNat].c) k.seals.ls[x19.1.frm.toNat].l := rke.get (List.getElem_mem hk)
 have hkl1 := hkl _ (List.getElem_mem hk)
 have ht := openK_t (K := (k.seals.ls.map BS.l)) h32 hz (by rw [List.length_map]; exact hlt)
 rw [← hfrm, keys_get hk] at ht
 refine zS (zD (blk b7 (.cells x19.1.cells 82 (0, 0)) :: blk b2 (.cells k.cells 40 (0, 0)) :: H) [(0, true), (1, true), (2, true), (3, true), (4, true), (5, true), (6, true), (7, true), (8, true), (10, true), (11, true), (12, true), (13, true), (14, true), (9, false), (15, true), (16, true)] SB (fun hns0 => ?_))
 refine zd hns0 rfl (zf 0 rfl rfl) rfl (zd hns0 rfl (zl rfl) rfl (zd hns0 rfl (zf 1 rfl rfl) rfl (zd hns0 rfl (zl rfl) rfl (zd hns0 rfl (Qt_indexR rfl rfl (by omega) (by simp; omega)) rfl (zd hns0 rfl (Qt_loadR (.slice _ _ _) rfl (vals_get _ _ hk)) rfl (zd hns0 rfl (zm (.slice _ _ _) rfl) rfl (zd hns0 rfl (zm (.int .i64 _) rfl) rfl (zd hns0 rfl (Qt_sliceB_h (l.length - 32) rfl (by refine congrArg (Value.int .i64) ?_; omega) (by omega)) rfl (zd hns0 rfl (zm (.slice _ _ _) rfl) rfl (zd hns0 rfl (zm (.int .i64 _) rfl) rfl (zd hns0 rfl (Qt_sliceB_l (l.length - 32) rfl (by refine congrArg (Value.int .i64) ?_; omega) (by omega)) rfl ?_)))))))))))
 refine zd hns0 rfl (Qt_arrayAt rfl Tryz.underlying32 (by simp; omega) (by decide)) rfl (zd hns0 rfl (Qt_loadRN 1 (hlist (vec32 (l.drop (l.length - 32)))) rfl (by rw [List.drop_zero, vec32_cells _ (by simp; omega)]; exact List.take_of_length_le (by simp; omega)) (by simp) (by decide)) rfl (DL_e rfl rfl (zc (tag_c (l := (l.take (l.length - 32))) (by omega) (by simp; omega)) rfl (fun x45 => ⟨SB, ?_⟩))))
 refine zd hns0 rfl (Qt_agg_neq rfl rfl (by kernel_rfl)) rfl (zd hns0 rfl (za (.bool _) rfl) rfl (DL_nil (zx (zC rfl (fun h35 => ?_) (fun h35 => ?_)))))
 ·
  have p35 := cL h35
  refine T2 (zy (zw [] rfl) (zN (zs rfl rfl (Qai rfl rfl (TX (zQ (zb (zr ?_))))))))
  rw [if_pos (by simpa using h35)] at ht
  have e := ht
  exact zX (MsgV.zero, []) [_, _] Tryz.results58 ⟨⟨_, rfl, res_cellN rfl⟩, rfl, trivial⟩ (by rw [e]; rfl) (fun w hw => (St.datMsgZero (SB w hw : St w0 H w)).addPure (by rw [e]; rfl))
 have p35 := cL h35
 refine zk (X_block (zx (T2 (zy (zn rfl rfl) (zN (zs rfl rfl (Qai rfl rfl (TX (zQ ?_)))))))))
 rw [if_neg (by simpa using h35)] at ht
 exact zX x19 [_, _] Tryz.results58 ⟨⟨_, rfl, res_cellN rfl⟩, rfl, trivial⟩ (by rw [ht]; rfl) (fun w hw => (SB w hw : St w0 (dat x19.2 (Deep.leads x19.1) :: H) w).addPure (by rw [ht]; exact h19))
end
section
open Go.RowKit Go.Sx
set_option maxRecDepth 100000
set_option maxHeartbeats 1000000
def openOfK (K : List (List UInt8)) (mk : Nat) (l : List UInt8) : Int × MsgD :=
 if (openK K l).1 = 0 ∧ hasV mk (openK K l).2.frm = false then (6, .zero) else openK K l
theorem openF_c {w0 : World} {H : List SA} {sa : Option Addr} {sc : Nat} {ls : List BS} {rt : Sl} [rk : RdC w0 H (.slice sa ls.length sc) 1 (ls.map BS.val)] [rke : RdE w0 H ls] (hkl : ∀ x ∈ ls, x.l.length ≤ 4294967000) {a : Option Addr} {l : List UInt8} {c : Nat} [hr : RdB w0 H (.slice a l.length c) l] (hl : l.length ≤ 4294960000) :
 CT Tryz.prog w0 H 58 [.agg (KeysV.mk ⟨sa, sc, ls⟩ rt).cells, .slice a l.length c] (α := MsgV × List Nat) (fun y => .tuple #[.agg y.1.cells, .int .i64 (openK (ls.map BS.l) l).1]) (fun y => pu (y.1.abs = (openK (ls.map BS.l) l).2) :: dat y.2 (Deep.leads y.1) :: H) :=
 open_c (k := ⟨⟨sa, sc, ls⟩, rt⟩) (rk := rk) (rke := rke) hkl hl
attribute [local irreducible] openK
theorem openOf_c {w0 : World} {H : List SA} {num : Int} {mk : Nat} (hmk : mk < 65536) {sa : Option Addr} {sc : Nat} {ls : List BS} {rt : Sl} [rk : RdC w0 H (.slice sa ls.length sc) 1 (ls.map BS.val)] [rke : RdE w0 H ls] (hkl : ∀ x ∈ ls, x.l.length ≤ 4294967000) {a : Option Addr} {l : List UInt8} {c : Nat} [hr : RdB w0 H (.slice a l.length c) l] (hl : l.length ≤ 4294960000) :
 CT Tryz.prog w0 (H) 29 [.agg (KeysV.mk ⟨sa, sc, ls⟩ rt).cells, .agg (ViewV.mk num (mk : Int)).cells, .slice a l.length c] (α := MsgV × List Nat) (fun y => .tuple #[.agg y.1.cells, .int .i64 (openOfK (ls.map BS.l) mk l).1]) (fun y => pu (y.1.abs = (openOfK (ls.map BS.l) mk l).2) :: dat y.2 (Deep.leads y.1) :: H) := by
 refine CT_intro Tryz.func29 rfl Tryz.ntmps29 rfl (T2 (ze rfl (Ef_boxN rfl (fun b3 => ?_))))
 refine ze rfl (Ef_boxN rfl (fun b4 => ?_))
 refine ze rfl (Ef_allocN (fun b6 => ?_))
 refine Qai rfl rfl (T4 (zy (zn rfl rfl) (Qms rfl rfl (ze rfl (zc (openF_c (sa := sa) (sc := sc) (ls := ls) (rt := rt) hkl hl) rfl (fun x13 => ?_))))))
 refine TL_pure (fun hx => ?_)
 have hfr : x13.1.frm = (openK (ls.map BS.l) l).2.frm := congrArg MsgD.frm hx
 refine zy (zm (.tuple _) rfl) (zy (Qt_extract rfl) (zy (Qt_extract rfl) (ze rfl (Ef_allocN (fun b8 => ?_)))))
 refine zN (zs rfl rfl (Qai rfl rfl (TX (zS (T2 (Qmi rfl rfl (zy (Qt_eql rfl rfl) (Qmb rfl rfl (TL_split 18 rfl (fun h18 => ?_) (fun h18 => ?_))))))))))
 ·
  have p18 := cL h18
  refine zt rfl rfl h18 (zy (zn rfl rfl) (zt rfl rfl h18 (zy (zf 1 rfl rfl) (zt rfl rfl h18 (zy (zl rfl) (zt rfl rfl h18 (ze rfl (zc (has_v (num := num) hmk) rfl (fun x22 => ?_)))))))))
  refine zt rfl rfl h18 (zy (Qt_not rfl) (zy (zT (.bool _) rfl h18 rfl) (TX (zC rfl (fun h24 => ?_) (fun h24 => ?_)))))
  ·
   have p24 := cL h24
   refine T2 (zy (zw [] rfl) (zN (zs rfl rfl (Qai rfl rfl (TX (zQ (zr ?_)))))))
   have e : openOfK (ls.map BS.l) mk l = (6, .zero) := if_pos ⟨by simpa using h18, by rw [← hfr]; simpa using h24⟩
   exact zX (MsgV.zero, []) [_, _] Tryz.results29 ⟨⟨_, rfl, res_cellN rfl⟩, rfl, trivial⟩ (by rw [e]; rfl) (fun w hw => (St.datMsgZero (SB w hw : St w0 H w)).addPure (by rw [e]; rfl))
  have p24 := cL h24
  refine S4 (zy (zn rfl rfl) (Qmi rfl rfl (zN (zs rfl rfl (Qai rfl rfl (TX (zQ ?_)))))))
  have e : openOfK (ls.map BS.l) mk l = openK (ls.map BS.l) l := if_neg (by rintro ⟨h1, h2⟩; rw [← hfr] at h2; simp_all)
  exact zX x13 [_, _] Tryz.results29 ⟨⟨_, rfl, res_cellN rfl⟩, rfl, trivial⟩ (by rw [e]; rfl) (fun w hw => (SB w hw : St w0 (dat x13.2 (Deep.leads x13.1) :: H) w).addPure (by rw [e]; exact hx))
 have p18 := cL h18
 refine zp rfl rfl h18 rfl (zp rfl rfl h18 rfl (zp rfl rfl h18 rfl (zp rfl rfl h18 rfl (zp rfl rfl h18 rfl (zy (zF (.bool _) rfl h18 rfl) (TX (T_cond_false rfl rfl (S4 (zy (zn rfl rfl) (Qmi rfl rfl (zN (zs rfl rfl (Qai rfl rfl (TX (zQ ?_)))))))))))))))
 have e : openOfK (ls.map BS.l) mk l = openK (ls.map BS.l) l := if_neg (by rintro ⟨h1, h2⟩; simp_all)
 exact zX x13 [_, _] Tryz.results29 ⟨⟨_, rfl, res_cellN rfl⟩, rfl, trivial⟩ (by rw [e]; rfl) (fun w hw => (SB w hw : St w0 (dat x13.2 (Deep.leads x13.1) :: H) w).addPure (by rw [e]; exact hx))
def keyT (n : Nat) : List (List UInt8) := (List.range n).map fun i => [UInt8.ofNat i]
theorem keyT_succ (n : Nat) : keyT (n + 1) = keyT n ++ [[UInt8.ofNat n]] := by simp [keyT, List.range_succ]
theorem keyT_len (n : Nat) : (keyT n).length = n := by simp [keyT]
theorem keyT_small {ls : List BS} {n : Nat} (h : ls.map BS.l = keyT n) : ls.length = n ∧ ∀ x ∈ ls, x.l.length ≤ 4294967000 := by
 refine ⟨by have := congrArg List.length h; simpa [keyT_len] using this, fun x hx => ?_⟩
 have : x.l ∈ keyT n := by rw [← h]; exact List.mem_map.2 ⟨x, hx, rfl⟩
 obtain ⟨i, -, hi⟩ := List.mem_map.1 this
 rw [← hi]; show 1 ≤ 4294967000; decide
theorem St.datPS {w0 w : World} {H : List SA} {a : Option Addr} {c : Nat} {ls : List BS} {fp : List Nat} {e : TypeId} (h : St w0 (row (.slice a ls.length c) e 1 (ls.map BS.val) :: eachA fp ls :: H) w) : ∃ fp, St w0 (dat fp (Deep.leads (PS.mk a c ls)) :: H) w := by
 have h1 : St w0 (eachA fp ls :: row (.slice a ls.length c) e 1 (ls.map BS.val) :: H) w := Subs.st inferInstance w h
 have h2 := St.datEach h1
 have h3 : St w0 (row (.slice a ls.length c) e 1 (ls.map BS.val) :: dat fp ⟨ls, [], []⟩ :: H) w := Subs.st inferInstance w h2
 exact ⟨_, St.datP (x := ⟨a, c, ls⟩) h3⟩
instance RdC.datK {w0 : World} {H : List SA} {fp : List Nat} {a : Option Addr} {c : Nat} {ls : List BS} : RdC w0 (dat fp (Deep.leads (PS.mk a c ls)) :: H) (.slice a ls.length c) 1 (ls.map BS.val) := RdC.ofPS (x := ⟨a, c, ls⟩)
instance RdE.datK {w0 : World} {H : List SA} {fp : List Nat} {a : Option Addr} {c : Nat} {ls : List BS} : RdE w0 (dat fp (Deep.leads (PS.mk a c ls)) :: H) ls := RdE.ofPS (x := ⟨a, c, ls⟩)
end
end Go.Proofs.YtnijomppbgdmnaaGreat
