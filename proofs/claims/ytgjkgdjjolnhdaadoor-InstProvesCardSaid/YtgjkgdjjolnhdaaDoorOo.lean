/- Walks: OpenOf of package seals, keys by their parts, tables of keys. -/
import Derived.Test.YtgjkgdjjolnhdaaDoorLp
import Derived.Test.YtgjkgdjjolnhdaaDoorVi
namespace Go.Proofs.YtgjkgdjjolnhdaaDoor
open Go.RowKit Go.Sx
set_option maxRecDepth 100000
set_option linter.unusedSimpArgs false
set_option linter.unusedVariables false
def openOfK (K : List (List UInt8)) (mk : Nat) (l : List UInt8) : Int × MsgD :=
 if (openK K l).1 = 0 ∧ hasV mk (openK K l).2.frm = false then (6, .zero) else openK K l
theorem openF_c {w0 : World} {H : List SA} {sa : Option Addr} {sc : Nat} {ls : List BS} {rt : Sl} [rk : RdC w0 H (.slice sa ls.length sc) 1 (ls.map BS.val)] [rke : RdE w0 H ls] (hkl : ∀ x ∈ ls, x.l.length ≤ 4294967000) {a : Option Addr} {l : List UInt8} {c : Nat} [hr : RdB w0 H (.slice a l.length c) l] (hl : l.length ≤ 4294960000) :
 CT Tryd.prog w0 H 59 [.agg (KeysV.mk ⟨sa, sc, ls⟩ rt).cells, .slice a l.length c] (α := MsgV × List Nat) (fun y => .tuple #[.agg y.1.cells, .int .i64 (openK (ls.map BS.l) l).1]) (fun y => pu (y.1.abs = (openK (ls.map BS.l) l).2) :: dat y.2 (Deep.leads y.1) :: H) :=
 open_c (k := ⟨⟨sa, sc, ls⟩, rt⟩) (rk := rk) (rke := rke) hkl hl
theorem sealF_c {w0 : World} {H : List SA} {sa : Option Addr} {sc : Nat} {ls : List BS} {rt : Sl} [rk : RdC w0 H (.slice sa ls.length sc) 1 (ls.map BS.val)] [rke : RdE w0 H ls] (hkl : ∀ x ∈ ls, x.l.length ≤ 4294967000) {m : MsgV} (M : MsgD) [rb : RdB w0 H (.slice m.body.a m.body.l.length m.body.c) m.body.l] [rc : RdC w0 H (.slice m.parts.a m.parts.ls.length m.parts.c) 1 (m.parts.ls.map BS.val)] [re : RdE w0 H m.parts.ls] (hM : m.abs = M) (hs : SmallM M) :
 CT Tryd.prog w0 H 33 [.agg (KeysV.mk ⟨sa, sc, ls⟩ rt).cells, .agg m.cells] (α := AC) (fun y => .tuple #[.slice y.a (sealK (ls.map BS.l) M).1.length y.c, .int .i64 (sealK (ls.map BS.l) M).2]) (fun y => row (.slice y.a (sealK (ls.map BS.l) M).1.length y.c) 5 1 (bytesV (sealK (ls.map BS.l) M).1) :: H) := by
 subst hM
 exact seal_c (k := ⟨⟨sa, sc, ls⟩, rt⟩) (rk := rk) (rke := rke) hkl hs
attribute [local irreducible] openK
set_option maxHeartbeats 1000000 in
theorem openOf_c {w0 : World} {H : List SA} {num : Int} {mk : Nat} (hmk : mk < 65536) {sa : Option Addr} {sc : Nat} {ls : List BS} {rt : Sl} [rk : RdC w0 H (.slice sa ls.length sc) 1 (ls.map BS.val)] [rke : RdE w0 H ls] (hkl : ∀ x ∈ ls, x.l.length ≤ 4294967000) {a : Option Addr} {l : List UInt8} {c : Nat} [hr : RdB w0 H (.slice a l.length c) l] (hl : l.length ≤ 4294960000) :
 CT Tryd.prog w0 (H) 47 [.agg (KeysV.mk ⟨sa, sc, ls⟩ rt).cells, .agg (ViewV.mk num (mk : Int)).cells, .slice a l.length c] (α := MsgV × List Nat) (fun y => .tuple #[.agg y.1.cells, .int .i64 (openOfK (ls.map BS.l) mk l).1]) (fun y => pu (y.1.abs = (openOfK (ls.map BS.l) mk l).2) :: dat y.2 (Deep.leads y.1) :: H) := by
 refine CT_intro Tryd.func47 rfl Tryd.ntmps47 rfl ?_
 refine T_seq ?_
 refine T_region ?_
 refine TL_e rfl (Ef_boxN rfl (fun b3 => ?_))
 refine TL_e rfl (Ef_boxN rfl (fun b4 => ?_))
 refine TL_e rfl (Ef_allocN (fun b6 => ?_))
 refine TL_q (Qt_assign (.int .i64 _) rfl) rfl ?_
 refine TL_nil ?_
 refine X_then ?_
 refine T_seq ?_
 refine T_region ?_
 refine TL_q (Qt_loadN rfl rfl) rfl ?_
 refine TL_q (Qt_move (.slice _ _ _) rfl) rfl ?_
 refine TL_e rfl (Ef_call (openF_c (sa := sa) (sc := sc) (ls := ls) (rt := rt) hkl hl) rfl (fun x13 => ?_))
 refine TL_pure (fun hx => ?_)
 have hfr : x13.1.frm = (openK (ls.map BS.l) l).2.frm := congrArg MsgD.frm hx
 refine TL_q (Qt_move (.tuple _) rfl) rfl ?_
 refine TL_q (Qt_extract rfl) rfl ?_
 refine TL_q (Qt_extract rfl) rfl ?_
 refine TL_e rfl (Ef_allocN (fun b8 => ?_))
 refine TL_n (Ef_storeN rfl rfl (?_))
 refine TL_q (Qt_assign (.int .i64 _) rfl) rfl ?_
 refine TL_nil ?_
 refine X_then ?_
 refine T_seq ?_
 refine T_seq ?_
 refine T_region ?_
 refine TL_q (Qt_move (.int .i64 _) rfl) rfl ?_
 refine TL_q (Qt_eql rfl rfl) rfl ?_
 refine TL_q (Qt_move (.bool _) rfl) rfl ?_
 refine TL_split 18 rfl (fun h18 => ?_) (fun h18 => ?_)
 ·
  have p18 := h18
  try simp only [decide_eq_true_eq, decide_eq_false_iff_not, Bool.not_eq_true', Bool.not_eq_false', Option.isNone_iff_eq_none, ne_eq, Decidable.not_not, Int.not_lt, Int.not_le] at p18
  refine TL_take rfl rfl h18 ?_
  refine TL_q (Qt_loadN rfl rfl) rfl ?_
  refine TL_take rfl rfl h18 ?_
  refine TL_q (Qt_fieldAddr 1 rfl rfl) rfl ?_
  refine TL_take rfl rfl h18 ?_
  refine TL_q (Qt_load1 rfl) rfl ?_
  refine TL_take rfl rfl h18 ?_
  refine TL_e rfl (Ef_call (has_v (num := num) hmk) rfl (fun x22 => ?_))
  refine TL_take rfl rfl h18 ?_
  refine TL_q (Qt_not rfl) rfl ?_
  refine TL_q (Qt_pick_t (.bool _) rfl h18 rfl) rfl ?_
  refine TL_nil ?_
  refine X_then ?_
  refine T_cond rfl (fun h24 => ?_) (fun h24 => ?_)
  ·
   have p24 := h24
   try simp only [decide_eq_true_eq, decide_eq_false_iff_not, Bool.not_eq_true', Bool.not_eq_false', Option.isNone_iff_eq_none, ne_eq, Decidable.not_not, Int.not_lt, Int.not_le] at p24
   refine T_seq ?_
   refine T_region ?_
   refine TL_q (Qt_build [] rfl (by kernel_rfl)) rfl ?_
   refine TL_n (Ef_storeN rfl rfl (?_))
   refine TL_q (Qt_assign (.int .i64 _) rfl) rfl ?_
   refine TL_nil ?_
   refine X_then ?_
   refine T_ret ?_
   refine X_then_ret ?_
   have e : openOfK (ls.map BS.l) mk l = (6, .zero) := if_pos ⟨by simpa using h18, by rw [← hfr]; simpa using h24⟩
   exact X_ret (MsgV.zero, []) [_, _] Tryd.results47 ⟨⟨_, rfl, res_cellN rfl⟩, rfl, trivial⟩ (by rw [e]; rfl) (fun w hw => (St.datMsgZero (Subs.st inferInstance w hw : St w0 H w)).addPure (by rw [e]; rfl))
  ·
   have p24 := h24
   try simp only [decide_eq_true_eq, decide_eq_false_iff_not, Bool.not_eq_true', Bool.not_eq_false', Option.isNone_iff_eq_none, ne_eq, Decidable.not_not, Int.not_lt, Int.not_le] at p24
   refine T_skip ?_
   refine X_then ?_
   refine T_seq ?_
   refine T_region ?_
   refine TL_q (Qt_loadN rfl rfl) rfl ?_
   refine TL_q (Qt_move (.int .i64 _) rfl) rfl ?_
   refine TL_n (Ef_storeN rfl rfl (?_))
   refine TL_q (Qt_assign (.int .i64 _) rfl) rfl ?_
   refine TL_nil ?_
   refine X_then ?_
   refine T_ret ?_
   have e : openOfK (ls.map BS.l) mk l = openK (ls.map BS.l) l := if_neg (by rintro ⟨h1, h2⟩; rw [← hfr] at h2; simp_all)
   exact X_ret x13 [_, _] Tryd.results47 ⟨⟨_, rfl, res_cellN rfl⟩, rfl, trivial⟩ (by rw [e]; rfl) (fun w hw => (Subs.st inferInstance w hw : St w0 (dat x13.2 (Deep.leads x13.1) :: H) w).addPure (by rw [e]; exact hx))
 ·
  have p18 := h18
  try simp only [decide_eq_true_eq, decide_eq_false_iff_not, Bool.not_eq_true', Bool.not_eq_false', Option.isNone_iff_eq_none, ne_eq, Decidable.not_not, Int.not_lt, Int.not_le] at p18
  refine TL_pass rfl rfl h18 rfl ?_
  refine TL_pass rfl rfl h18 rfl ?_
  refine TL_pass rfl rfl h18 rfl ?_
  refine TL_pass rfl rfl h18 rfl ?_
  refine TL_pass rfl rfl h18 rfl ?_
  refine TL_q (Qt_pick_f (.bool _) rfl h18 rfl) rfl ?_
  refine TL_nil ?_
  refine X_then ?_
  refine T_cond_false rfl rfl ?_
  refine T_skip ?_
  refine X_then ?_
  refine T_seq ?_
  refine T_region ?_
  refine TL_q (Qt_loadN rfl rfl) rfl ?_
  refine TL_q (Qt_move (.int .i64 _) rfl) rfl ?_
  refine TL_n (Ef_storeN rfl rfl (?_))
  refine TL_q (Qt_assign (.int .i64 _) rfl) rfl ?_
  refine TL_nil ?_
  refine X_then ?_
  refine T_ret ?_
  have e : openOfK (ls.map BS.l) mk l = openK (ls.map BS.l) l := if_neg (by rintro ⟨h1, h2⟩; simp_all)
  exact X_ret x13 [_, _] Tryd.results47 ⟨⟨_, rfl, res_cellN rfl⟩, rfl, trivial⟩ (by rw [e]; rfl) (fun w hw => (Subs.st inferInstance w hw : St w0 (dat x13.2 (Deep.leads x13.1) :: H) w).addPure (by rw [e]; exact hx))
def keyT (n : Nat) : List (List UInt8) := (List.range n).map fun i => [UInt8.ofNat i]
theorem keyT_succ (n : Nat) : keyT (n + 1) = keyT n ++ [[UInt8.ofNat n]] := by simp [keyT, List.range_succ]
theorem keyT_len (n : Nat) : (keyT n).length = n := by simp [keyT]
theorem keyT_small {ls : List BS} {n : Nat} (h : ls.map BS.l = keyT n) : ls.length = n ∧ ∀ x ∈ ls, x.l.length ≤ 4294967000 := by
 refine ⟨by have := congrArg List.length h; simpa [keyT_len] using this, fun x hx => ?_⟩
 have : x.l ∈ keyT n := by rw [← h]; exact List.mem_map.2 ⟨x, hx, rfl⟩
 obtain ⟨i, -, hi⟩ := List.mem_map.1 this
 rw [← hi]; show 1 ≤ 4294967000; decide
theorem St.datPS {w0 w : World} {H : List SA} {a : Option Addr} {c : Nat} {ls : List BS} {fp : List Nat} {e : TypeId} (h : St w0 (row (.slice a ls.length c) e 1 (ls.map BS.val) :: eachA fp ls :: H) w) : ∃ fp, St w0 (dat fp (Deep.leads (PS.mk a c ls)) :: H) w := by
 have h1 : St w0 (eachA fp ls :: row (.slice a ls.length c) e 1 (ls.map BS.val) :: H) w := Subs.st inferInstance w h
 have h2 := St.datEach h1
 have h3 : St w0 (row (.slice a ls.length c) e 1 (ls.map BS.val) :: dat fp ⟨ls, [], []⟩ :: H) w := Subs.st inferInstance w h2
 exact ⟨_, St.datP (x := ⟨a, c, ls⟩) h3⟩
instance RdC.datK {w0 : World} {H : List SA} {fp : List Nat} {a : Option Addr} {c : Nat} {ls : List BS} : RdC w0 (dat fp (Deep.leads (PS.mk a c ls)) :: H) (.slice a ls.length c) 1 (ls.map BS.val) := RdC.ofPS (x := ⟨a, c, ls⟩)
instance RdE.datK {w0 : World} {H : List SA} {fp : List Nat} {a : Option Addr} {c : Nat} {ls : List BS} : RdE w0 (dat fp (Deep.leads (PS.mk a c ls)) :: H) ls := RdE.ofPS (x := ⟨a, c, ls⟩)

set_option maxHeartbeats 1000000 in
theorem table17_c {w0 : World} {H : List SA}  :
 CT Tryd.prog w0 (H) 13 [] (α := (PS × List Nat)) (fun y => .agg (KeysV.mk ⟨y.1.a, y.1.c, y.1.ls⟩ ⟨none, 0, 0⟩).cells) (fun y => pu (y.1.ls.map BS.l = keyT 16) :: dat y.2 (Deep.leads (PS.mk y.1.a y.1.c y.1.ls)) :: H) := by
 refine CT_intro Tryd.func13 rfl Tryd.ntmps13 rfl ?_
 refine T_seq ?_
 refine T_region ?_
 refine TL_e rfl (Ef_allocN (fun b0 => ?_))
 refine TL_nil ?_
 refine X_then ?_
 refine T_seq ?_
 refine T_region ?_
 refine TL_e rfl (Ef_allocN (fun b1 => ?_))
 refine TL_nil ?_
 refine X_then ?_
 refine T_seq ?_
 refine T_seq ?_
 refine T_region ?_
 refine TL_q (Qt_move (.int .i64 _) rfl) rfl ?_
 refine TL_nil ?_
 refine X_then ?_
 refine T_block ?_
 refine T_loop [2, 3, 4, 5, 6, 7, 8, 9, 10, 11, 12, 13, 14] [3] (fun us H' => ∃ (k : Nat) (a : Option Addr) (c : Nat) (ls : List BS) (fp : List Nat), us = [.int .i64 (k : Int)] ∧ row (.slice a (ls).length c) 27 1 ((ls).map BS.val) :: eachA fp ls :: blk b1 (.cells (KeysV.mk ⟨a, c, ls⟩ ⟨none, 0, 0⟩).cells 38 (0, 0)) :: blk b0 (.cells KeysV.zero.cells 38 (0, 0)) :: H = H' ∧ k ≤ 16 ∧ (ls.map BS.l = keyT k) ∧ (ls.length = k)) (fun us => match us with | .int _ i :: _ => 16 - i.toNat | _ => 0) ⟨0, none, 0, [], [], rfl, rfl, by omega, rfl, rfl⟩ (fun w hw => by
  have h0 : St w0 (blk b1 (.cells (KeysV.mk ⟨none, 0, []⟩ ⟨none, 0, 0⟩).cells 38 (0, 0)) :: blk b0 (.cells KeysV.zero.cells 38 (0, 0)) :: H) w := Subs.st inferInstance w hw
  exact (h0.eachNil).addNil 27 1) ?_
 rintro τ0 _ _  ⟨k, a, c, ls, fp, rfl, rfl, hk0, hls, hll⟩ _
 refine T_seq ?_
 refine T_region ?_
 refine TL_q (Qt_lss rfl rfl) rfl ?_
 refine TL_nil ?_
 refine X_then ?_
 refine T_seq ?_
 refine T_cond rfl (fun h4 => ?_) (fun h4 => ?_)
 ·
  have p4 := h4
  try simp only [decide_eq_true_eq, decide_eq_false_iff_not, Bool.not_eq_true', Bool.not_eq_false', Option.isNone_iff_eq_none, ne_eq, Decidable.not_not, Int.not_lt, Int.not_le] at p4
  refine T_skip ?_
  refine X_then ?_
  refine T_seq ?_
  refine T_block ?_
  refine T_seq ?_
  refine T_region ?_
  refine TL_q (Qt_move (.int .i64 _) rfl) rfl ?_
  refine TL_q (Qt_assign (.int .i64 _) rfl) rfl ?_
  refine TL_nil ?_
  refine X_then ?_
  refine T_region ?_
  refine TL_q (Qt_fieldAddr 0 rfl rfl) rfl ?_
  refine TL_q (Qt_load1 rfl) rfl ?_
  refine TL_q (Qt_move (.int .i64 _) rfl) rfl ?_
  refine TL_q (Qt_conv rfl rfl Tryd.underlying5) rfl ?_
  rw [wrap_nat .u8 rfl (by show _ < 2 ^ 8; omega)]
  obtain ⟨u, hu⟩ : ∃ u : UInt8, u = UInt8.ofNat k := ⟨_, rfl⟩
  have hun : (k : Int) = (u.toNat : Int) := by rw [hu]; simp; omega
  refine TL_e rfl (Ef_sliceN (m := ([u] : List UInt8).length) [.int .u8 (k : Int)] (bytesV [u]) rfl rfl rfl (by rw [hun]; rfl) (by simp [Value.cells]) rfl rfl (fun a10 c10 => ?_))
  refine TL_e rfl (Ef_slice1 (v := .slice _ _ _) rfl (fun a11 c11 => ?_))
  refine TL_e rfl (Ef_appendP (sv := .slice _ _ _) (xv := .slice _ _ _) ⟨a10, c10, [u]⟩ rfl rfl (by omega) rfl (fun a12 c12 => ?_))
  refine TL_q (Qt_fieldAddr 0 rfl rfl) rfl ?_
  refine TL_n (Ef_store1 (.slice _ _ _) rfl rfl (?_))
  refine TL_nil ?_
  refine X_block ?_
  refine X_then ?_
  refine T_region ?_
  first
   | refine TL_q (Qt_add rfl rfl (by omega) (by omega)) rfl ?_
   | refine TL_q (Qt_addw rfl rfl) rfl ?_
  refine TL_q (Qt_move (.int .i64 _) rfl) rfl ?_
  refine TL_nil ?_
  apply X_loop
  case ha => exact (by repeat (first | with_reducible exact agree_refl | refine agree_upd rfl ?_ | refine agree_mix rfl ?_ | refine agree_setAll rfl ?_))
  case hI => exact ⟨k + 1, a12, c12, ls ++ [⟨a10, c10, [u]⟩], rowFp (.slice a10 ([u] : List UInt8).length c10) ++ fp, rfl, rfl, by omega, by rw [List.map_append, hls, keyT_succ, ← hu]; rfl, by simp [hll]⟩
  case hm => exact by show 16 - (k + 1 : Int).toNat < 16 - (k : Int).toNat; omega
  case hH => exact fun w hw => eachUnder (Subs.st inferInstance w hw : St w0 (row (.slice a12 (ls ++ [(⟨a10, c10, [u]⟩ : BS)]).length c12) 27 1 ((ls ++ [(⟨a10, c10, [u]⟩ : BS)]).map BS.val) :: row (BS.val ⟨a10, c10, [u]⟩) 5 1 (bytesV (BS.l ⟨a10, c10, [u]⟩)) :: eachA fp ls :: blk b1 (.cells (KeysV.mk ⟨a12, c12, ls ++ [⟨a10, c10, [u]⟩]⟩ ⟨none, 0, 0⟩).cells 38 (0, 0)) :: blk b0 (.cells KeysV.zero.cells 38 (0, 0)) :: H) w)
 ·
  have p4 := h4
  try simp only [decide_eq_true_eq, decide_eq_false_iff_not, Bool.not_eq_true', Bool.not_eq_false', Option.isNone_iff_eq_none, ne_eq, Decidable.not_not, Int.not_lt, Int.not_le] at p4
  have hk16 : k = 16 := by omega
  refine T_exit ?_
  refine X_then_exit ?_
  refine X_loop_exit ?_
  refine X_block_exit ?_
  refine X_then ?_
  refine T_seq ?_
  refine T_region ?_
  refine TL_q (Qt_loadN rfl rfl) rfl ?_
  refine TL_n (Ef_storeN rfl rfl (?_))
  refine TL_nil ?_
  refine X_then ?_
  refine T_ret ?_
  refine X_conv (fun w hw => St.datPS (a := a) (c := c) (ls := ls) (fp := fp) (e := 27) (H := blk b0 (.cells (KeysV.mk ⟨a, c, ls⟩ ⟨none, 0, 0⟩).cells 38 (0, 0)) :: H) (Subs.st inferInstance w hw)) (fun fp2 => ?_)
  exact X_ret (⟨a, c, ls⟩, fp2) [_] Tryd.results13 ⟨⟨_, rfl, res_cellN rfl⟩, trivial⟩ rfl (fun w hw => (Subs.st inferInstance w hw : St w0 (dat fp2 (Deep.leads (PS.mk a c ls)) :: H) w).addPure (by rw [hls, hk16]))
set_option maxHeartbeats 1000000 in
theorem table18_c {w0 : World} {H : List SA}  :
 CT Tryd.prog w0 (H) 26 [] (α := (PS × List Nat)) (fun y => .agg (KeysV.mk ⟨y.1.a, y.1.c, y.1.ls⟩ ⟨none, 0, 0⟩).cells) (fun y => pu (y.1.ls.map BS.l = keyT 16) :: dat y.2 (Deep.leads (PS.mk y.1.a y.1.c y.1.ls)) :: H) := by
 refine CT_intro Tryd.func26 rfl Tryd.ntmps26 rfl ?_
 refine T_seq ?_
 refine T_region ?_
 refine TL_e rfl (Ef_allocN (fun b0 => ?_))
 refine TL_nil ?_
 refine X_then ?_
 refine T_seq ?_
 refine T_region ?_
 refine TL_e rfl (Ef_allocN (fun b1 => ?_))
 refine TL_nil ?_
 refine X_then ?_
 refine T_seq ?_
 refine T_seq ?_
 refine T_region ?_
 refine TL_q (Qt_move (.int .i64 _) rfl) rfl ?_
 refine TL_nil ?_
 refine X_then ?_
 refine T_block ?_
 refine T_loop [2, 3, 4, 5, 6, 7, 8, 9, 10, 11, 12, 13, 14] [3] (fun us H' => ∃ (k : Nat) (a : Option Addr) (c : Nat) (ls : List BS) (fp : List Nat), us = [.int .i64 (k : Int)] ∧ row (.slice a (ls).length c) 27 1 ((ls).map BS.val) :: eachA fp ls :: blk b1 (.cells (KeysV.mk ⟨a, c, ls⟩ ⟨none, 0, 0⟩).cells 38 (0, 0)) :: blk b0 (.cells KeysV.zero.cells 38 (0, 0)) :: H = H' ∧ k ≤ 16 ∧ (ls.map BS.l = keyT k) ∧ (ls.length = k)) (fun us => match us with | .int _ i :: _ => 16 - i.toNat | _ => 0) ⟨0, none, 0, [], [], rfl, rfl, by omega, rfl, rfl⟩ (fun w hw => by
  have h0 : St w0 (blk b1 (.cells (KeysV.mk ⟨none, 0, []⟩ ⟨none, 0, 0⟩).cells 38 (0, 0)) :: blk b0 (.cells KeysV.zero.cells 38 (0, 0)) :: H) w := Subs.st inferInstance w hw
  exact (h0.eachNil).addNil 27 1) ?_
 rintro τ0 _ _  ⟨k, a, c, ls, fp, rfl, rfl, hk0, hls, hll⟩ _
 refine T_seq ?_
 refine T_region ?_
 refine TL_q (Qt_lss rfl rfl) rfl ?_
 refine TL_nil ?_
 refine X_then ?_
 refine T_seq ?_
 refine T_cond rfl (fun h4 => ?_) (fun h4 => ?_)
 ·
  have p4 := h4
  try simp only [decide_eq_true_eq, decide_eq_false_iff_not, Bool.not_eq_true', Bool.not_eq_false', Option.isNone_iff_eq_none, ne_eq, Decidable.not_not, Int.not_lt, Int.not_le] at p4
  refine T_skip ?_
  refine X_then ?_
  refine T_seq ?_
  refine T_block ?_
  refine T_seq ?_
  refine T_region ?_
  refine TL_q (Qt_move (.int .i64 _) rfl) rfl ?_
  refine TL_q (Qt_assign (.int .i64 _) rfl) rfl ?_
  refine TL_nil ?_
  refine X_then ?_
  refine T_region ?_
  refine TL_q (Qt_fieldAddr 0 rfl rfl) rfl ?_
  refine TL_q (Qt_load1 rfl) rfl ?_
  refine TL_q (Qt_move (.int .i64 _) rfl) rfl ?_
  refine TL_q (Qt_conv rfl rfl Tryd.underlying5) rfl ?_
  rw [wrap_nat .u8 rfl (by show _ < 2 ^ 8; omega)]
  obtain ⟨u, hu⟩ : ∃ u : UInt8, u = UInt8.ofNat k := ⟨_, rfl⟩
  have hun : (k : Int) = (u.toNat : Int) := by rw [hu]; simp; omega
  refine TL_e rfl (Ef_sliceN (m := ([u] : List UInt8).length) [.int .u8 (k : Int)] (bytesV [u]) rfl rfl rfl (by rw [hun]; rfl) (by simp [Value.cells]) rfl rfl (fun a10 c10 => ?_))
  refine TL_e rfl (Ef_slice1 (v := .slice _ _ _) rfl (fun a11 c11 => ?_))
  refine TL_e rfl (Ef_appendP (sv := .slice _ _ _) (xv := .slice _ _ _) ⟨a10, c10, [u]⟩ rfl rfl (by omega) rfl (fun a12 c12 => ?_))
  refine TL_q (Qt_fieldAddr 0 rfl rfl) rfl ?_
  refine TL_n (Ef_store1 (.slice _ _ _) rfl rfl (?_))
  refine TL_nil ?_
  refine X_block ?_
  refine X_then ?_
  refine T_region ?_
  first
   | refine TL_q (Qt_add rfl rfl (by omega) (by omega)) rfl ?_
   | refine TL_q (Qt_addw rfl rfl) rfl ?_
  refine TL_q (Qt_move (.int .i64 _) rfl) rfl ?_
  refine TL_nil ?_
  apply X_loop
  case ha => exact (by repeat (first | with_reducible exact agree_refl | refine agree_upd rfl ?_ | refine agree_mix rfl ?_ | refine agree_setAll rfl ?_))
  case hI => exact ⟨k + 1, a12, c12, ls ++ [⟨a10, c10, [u]⟩], rowFp (.slice a10 ([u] : List UInt8).length c10) ++ fp, rfl, rfl, by omega, by rw [List.map_append, hls, keyT_succ, ← hu]; rfl, by simp [hll]⟩
  case hm => exact by show 16 - (k + 1 : Int).toNat < 16 - (k : Int).toNat; omega
  case hH => exact fun w hw => eachUnder (Subs.st inferInstance w hw : St w0 (row (.slice a12 (ls ++ [(⟨a10, c10, [u]⟩ : BS)]).length c12) 27 1 ((ls ++ [(⟨a10, c10, [u]⟩ : BS)]).map BS.val) :: row (BS.val ⟨a10, c10, [u]⟩) 5 1 (bytesV (BS.l ⟨a10, c10, [u]⟩)) :: eachA fp ls :: blk b1 (.cells (KeysV.mk ⟨a12, c12, ls ++ [⟨a10, c10, [u]⟩]⟩ ⟨none, 0, 0⟩).cells 38 (0, 0)) :: blk b0 (.cells KeysV.zero.cells 38 (0, 0)) :: H) w)
 ·
  have p4 := h4
  try simp only [decide_eq_true_eq, decide_eq_false_iff_not, Bool.not_eq_true', Bool.not_eq_false', Option.isNone_iff_eq_none, ne_eq, Decidable.not_not, Int.not_lt, Int.not_le] at p4
  have hk16 : k = 16 := by omega
  refine T_exit ?_
  refine X_then_exit ?_
  refine X_loop_exit ?_
  refine X_block_exit ?_
  refine X_then ?_
  refine T_seq ?_
  refine T_region ?_
  refine TL_q (Qt_loadN rfl rfl) rfl ?_
  refine TL_n (Ef_storeN rfl rfl (?_))
  refine TL_nil ?_
  refine X_then ?_
  refine T_ret ?_
  refine X_conv (fun w hw => St.datPS (a := a) (c := c) (ls := ls) (fp := fp) (e := 27) (H := blk b0 (.cells (KeysV.mk ⟨a, c, ls⟩ ⟨none, 0, 0⟩).cells 38 (0, 0)) :: H) (Subs.st inferInstance w hw)) (fun fp2 => ?_)
  exact X_ret (⟨a, c, ls⟩, fp2) [_] Tryd.results26 ⟨⟨_, rfl, res_cellN rfl⟩, trivial⟩ rfl (fun w hw => (Subs.st inferInstance w hw : St w0 (dat fp2 (Deep.leads (PS.mk a c ls)) :: H) w).addPure (by rw [hls, hk16]))
end Go.Proofs.YtgjkgdjjolnhdaaDoor
