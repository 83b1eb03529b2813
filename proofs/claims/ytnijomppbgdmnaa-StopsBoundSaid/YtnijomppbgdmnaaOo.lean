/- Walks: OpenOf of package seals, keys by their parts, tables of keys. -/
import Derived.Test.YtnijomppbgdmnaaLp
import Derived.Test.YtnijomppbgdmnaaVi
namespace Go.Proofs.Ytnijomppbgdmnaa
open Go.RowKit Go.Sx
set_option maxRecDepth 100000
set_option linter.unusedSimpArgs false
set_option linter.unusedVariables false
def openOfK (K : List (List UInt8)) (mk : Nat) (l : List UInt8) : Int × MsgD :=
  if (openK K l).1 = 0 ∧ hasV mk (openK K l).2.frm = false then (6, .zero) else openK K l
theorem openF_c {w0 : World} {H : List SA} {sa : Option Addr} {sc : Nat} {ls : List BS} {rt : Sl} [rk : RdC w0 H (.slice sa ls.length sc) 1 (ls.map BS.val)] [rke : RdE w0 H ls] (hkl : ∀ x ∈ ls, x.l.length ≤ 4294967000) {a : Option Addr} {l : List UInt8} {c : Nat} [hr : RdB w0 H (.slice a l.length c) l] (hl : l.length ≤ 4294960000) :
    CT Try.prog w0 H 8 [.agg (KeysV.mk ⟨sa, sc, ls⟩ rt).cells, .slice a l.length c] (α := MsgV × List Nat) (fun y => .tuple #[.agg y.1.cells, .int .i64 (openK (ls.map BS.l) l).1]) (fun y => pu (y.1.abs = (openK (ls.map BS.l) l).2) :: dat y.2 (Deep.leads y.1) :: H) :=
  open_c (k := ⟨⟨sa, sc, ls⟩, rt⟩) (rk := rk) (rke := rke) hkl hl
theorem sealF_c {w0 : World} {H : List SA} {sa : Option Addr} {sc : Nat} {ls : List BS} {rt : Sl} [rk : RdC w0 H (.slice sa ls.length sc) 1 (ls.map BS.val)] [rke : RdE w0 H ls] (hkl : ∀ x ∈ ls, x.l.length ≤ 4294967000) {m : MsgV} (M : MsgD) [rb : RdB w0 H (.slice m.body.a m.body.l.length m.body.c) m.body.l] [rc : RdC w0 H (.slice m.parts.a m.parts.ls.length m.parts.c) 1 (m.parts.ls.map BS.val)] [re : RdE w0 H m.parts.ls] (hM : m.abs = M) (hs : SmallM M) :
    CT Try.prog w0 H 11 [.agg (KeysV.mk ⟨sa, sc, ls⟩ rt).cells, .agg m.cells] (α := AC) (fun y => .tuple #[.slice y.a (sealK (ls.map BS.l) M).1.length y.c, .int .i64 (sealK (ls.map BS.l) M).2]) (fun y => row (.slice y.a (sealK (ls.map BS.l) M).1.length y.c) 5 1 (bytesV (sealK (ls.map BS.l) M).1) :: H) := by
  subst hM
  exact seal_c (k := ⟨⟨sa, sc, ls⟩, rt⟩) (rk := rk) (rke := rke) hkl hs
attribute [local irreducible] openK
set_option maxHeartbeats 1000000 in
theorem openOf_c {w0 : World} {H : List SA} {num : Int} {mk : Nat} (hmk : mk < 65536) {sa : Option Addr} {sc : Nat} {ls : List BS} {rt : Sl} [rk : RdC w0 H (.slice sa ls.length sc) 1 (ls.map BS.val)] [rke : RdE w0 H ls] (hkl : ∀ x ∈ ls, x.l.length ≤ 4294967000) {a : Option Addr} {l : List UInt8} {c : Nat} [hr : RdB w0 H (.slice a l.length c) l] (hl : l.length ≤ 4294960000) :
    CT Try.prog w0 (H) 17 [.agg (KeysV.mk ⟨sa, sc, ls⟩ rt).cells, .agg (ViewV.mk num (mk : Int)).cells, .slice a l.length c] (α := MsgV × List Nat) (fun y => .tuple #[.agg y.1.cells, .int .i64 (openOfK (ls.map BS.l) mk l).1]) (fun y => pu (y.1.abs = (openOfK (ls.map BS.l) mk l).2) :: dat y.2 (Deep.leads y.1) :: H) := by
  refine CT_intro Try.func17 rfl Try.ntmps17 rfl ?_
  refine T_seq ?_
  refine T_region ?_
  refine TL_e rfl (Ef_boxN rfl (fun b3 => ?_))
  refine TL_e rfl (Ef_boxN rfl (fun b4 => ?_))
  refine TL_e rfl (Ef_allocN (fun b6 => ?_))
  refine TL_q (Qt_assign (.int .i64 _) rfl) rfl ?_
  refine TL_nil ?_
  refine X_then ?_
  refine T_seq ?_
  refine T_region ?_
  refine TL_q (Qt_loadN rfl rfl) rfl ?_
  refine TL_q (Qt_move (.slice _ _ _) rfl) rfl ?_
  refine TL_e rfl (Ef_call (openF_c (sa := sa) (sc := sc) (ls := ls) (rt := rt) hkl hl) rfl (fun x13 => ?_))
  refine TL_pure (fun hx => ?_)
  have hfr : x13.1.frm = (openK (ls.map BS.l) l).2.frm := congrArg MsgD.frm hx
  refine TL_q (Qt_move (.tuple _) rfl) rfl ?_
  refine TL_q (Qt_extract rfl) rfl ?_
  refine TL_q (Qt_extract rfl) rfl ?_
  refine TL_e rfl (Ef_allocN (fun b8 => ?_))
  refine TL_n (Ef_storeN rfl rfl (?_))
  refine TL_q (Qt_assign (.int .i64 _) rfl) rfl ?_
  refine TL_nil ?_
  refine X_then ?_
  refine T_seq ?_
  refine T_seq ?_
  refine T_region ?_
  refine TL_q (Qt_move (.int .i64 _) rfl) rfl ?_
  refine TL_q (Qt_eql rfl rfl) rfl ?_
  refine TL_q (Qt_move (.bool _) rfl) rfl ?_
  refine TL_split 18 rfl (fun h18 => ?_) (fun h18 => ?_)
  ·
    have p18 := h18
    try simp only [decide_eq_true_eq, decide_eq_false_iff_not, Bool.not_eq_true', Bool.not_eq_false', Option.isNone_iff_eq_none, ne_eq, Decidable.not_not, Int.not_lt, Int.not_le] at p18
    refine TL_take rfl rfl h18 ?_
    refine TL_q (Qt_loadN rfl rfl) rfl ?_
    refine TL_take rfl rfl h18 ?_
    refine TL_q (Qt_fieldAddr 1 rfl rfl) rfl ?_
    refine TL_take rfl rfl h18 ?_
    refine TL_q (Qt_load1 rfl) rfl ?_
    refine TL_take rfl rfl h18 ?_
    refine TL_e rfl (Ef_call (has_v (num := num) hmk) rfl (fun x22 => ?_))
    refine TL_take rfl rfl h18 ?_
    refine TL_q (Qt_not rfl) rfl ?_
    refine TL_q (Qt_pick_t (.bool _) rfl h18 rfl) rfl ?_
    refine TL_nil ?_
    refine X_then ?_
    refine T_cond rfl (fun h24 => ?_) (fun h24 => ?_)
    ·
      have p24 := h24
      try simp only [decide_eq_true_eq, decide_eq_false_iff_not, Bool.not_eq_true', Bool.not_eq_false', Option.isNone_iff_eq_none, ne_eq, Decidable.not_not, Int.not_lt, Int.not_le] at p24
      refine T_seq ?_
      refine T_region ?_
      refine TL_q (Qt_build [] rfl (by kernel_rfl)) rfl ?_
      refine TL_n (Ef_storeN rfl rfl (?_))
      refine TL_q (Qt_assign (.int .i64 _) rfl) rfl ?_
      refine TL_nil ?_
      refine X_then ?_
      refine T_ret ?_
      refine X_then_ret ?_
      have e : openOfK (ls.map BS.l) mk l = (6, .zero) := if_pos ⟨by simpa using h18, by rw [← hfr]; simpa using h24⟩
      exact X_ret (MsgV.zero, []) [_, _] Try.results17 ⟨⟨_, rfl, res_cellN rfl⟩, rfl, trivial⟩ (by rw [e]; rfl) (fun w hw => (St.datMsgZero (Subs.st inferInstance w hw : St w0 H w)).addPure (by rw [e]; rfl))
    ·
      have p24 := h24
      try simp only [decide_eq_true_eq, decide_eq_false_iff_not, Bool.not_eq_true', Bool.not_eq_false', Option.isNone_iff_eq_none, ne_eq, Decidable.not_not, Int.not_lt, Int.not_le] at p24
      refine T_skip ?_
      refine X_then ?_
      refine T_seq ?_
      refine T_region ?_
      refine TL_q (Qt_loadN rfl rfl) rfl ?_
      refine TL_q (Qt_move (.int .i64 _) rfl) rfl ?_
      refine TL_n (Ef_storeN rfl rfl (?_))
      refine TL_q (Qt_assign (.int .i64 _) rfl) rfl ?_
      refine TL_nil ?_
      refine X_then ?_
      refine T_ret ?_
      have e : openOfK (ls.map BS.l) mk l = openK (ls.map BS.l) l := if_neg (by rintro ⟨h1, h2⟩; rw [← hfr] at h2; simp_all)
      exact X_ret x13 [_, _] Try.results17 ⟨⟨_, rfl, res_cellN rfl⟩, rfl, trivial⟩ (by rw [e]; rfl) (fun w hw => (Subs.st inferInstance w hw : St w0 (dat x13.2 (Deep.leads x13.1) :: H) w).addPure (by rw [e]; exact hx))
  ·
    have p18 := h18
    try simp only [decide_eq_true_eq, decide_eq_false_iff_not, Bool.not_eq_true', Bool.not_eq_false', Option.isNone_iff_eq_none, ne_eq, Decidable.not_not, Int.not_lt, Int.not_le] at p18
    refine TL_pass rfl rfl h18 rfl ?_
    refine TL_pass rfl rfl h18 rfl ?_
    refine TL_pass rfl rfl h18 rfl ?_
    refine TL_pass rfl rfl h18 rfl ?_
    refine TL_pass rfl rfl h18 rfl ?_
    refine TL_q (Qt_pick_f (.bool _) rfl h18 rfl) rfl ?_
    refine TL_nil ?_
    refine X_then ?_
    refine T_cond_false rfl rfl ?_
    refine T_skip ?_
    refine X_then ?_
    refine T_seq ?_
    refine T_region ?_
    refine TL_q (Qt_loadN rfl rfl) rfl ?_
    refine TL_q (Qt_move (.int .i64 _) rfl) rfl ?_
    refine TL_n (Ef_storeN rfl rfl (?_))
    refine TL_q (Qt_assign (.int .i64 _) rfl) rfl ?_
    refine TL_nil ?_
    refine X_then ?_
    refine T_ret ?_
    have e : openOfK (ls.map BS.l) mk l = openK (ls.map BS.l) l := if_neg (by rintro ⟨h1, h2⟩; simp_all)
    exact X_ret x13 [_, _] Try.results17 ⟨⟨_, rfl, res_cellN rfl⟩, rfl, trivial⟩ (by rw [e]; rfl) (fun w hw => (Subs.st inferInstance w hw : St w0 (dat x13.2 (Deep.leads x13.1) :: H) w).addPure (by rw [e]; exact hx))
def keyT (n : Nat) : List (List UInt8) := (List.range n).map fun i => [UInt8.ofNat i]
theorem keyT_succ (n : Nat) : keyT (n + 1) = keyT n ++ [[UInt8.ofNat n]] := by simp [keyT, List.range_succ]
theorem keyT_len (n : Nat) : (keyT n).length = n := by simp [keyT]
theorem keyT_small {ls : List BS} {n : Nat} (h : ls.map BS.l = keyT n) : ls.length = n ∧ ∀ x ∈ ls, x.l.length ≤ 4294967000 := by
  refine ⟨by have := congrArg List.length h; simpa [keyT_len] using this, fun x hx => ?_⟩
  have : x.l ∈ keyT n := by rw [← h]; exact List.mem_map.2 ⟨x, hx, rfl⟩
  obtain ⟨i, -, hi⟩ := List.mem_map.1 this
  rw [← hi]; show 1 ≤ 4294967000; decide
theorem St.datPS {w0 w : World} {H : List SA} {a : Option Addr} {c : Nat} {ls : List BS} {fp : List Nat} {e : TypeId} (h : St w0 (row (.slice a ls.length c) e 1 (ls.map BS.val) :: eachA fp ls :: H) w) : ∃ fp, St w0 (dat fp (Deep.leads (PS.mk a c ls)) :: H) w := by
  have h1 : St w0 (eachA fp ls :: row (.slice a ls.length c) e 1 (ls.map BS.val) :: H) w := Subs.st inferInstance w h
  have h2 := St.datEach h1
  have h3 : St w0 (row (.slice a ls.length c) e 1 (ls.map BS.val) :: dat fp ⟨ls, [], []⟩ :: H) w := Subs.st inferInstance w h2
  exact ⟨_, St.datP (x := ⟨a, c, ls⟩) h3⟩
instance RdC.datK {w0 : World} {H : List SA} {fp : List Nat} {a : Option Addr} {c : Nat} {ls : List BS} : RdC w0 (dat fp (Deep.leads (PS.mk a c ls)) :: H) (.slice a ls.length c) 1 (ls.map BS.val) := RdC.ofPS (x := ⟨a, c, ls⟩)
instance RdE.datK {w0 : World} {H : List SA} {fp : List Nat} {a : Option Addr} {c : Nat} {ls : List BS} : RdE w0 (dat fp (Deep.leads (PS.mk a c ls)) :: H) ls := RdE.ofPS (x := ⟨a, c, ls⟩)

end Go.Proofs.Ytnijomppbgdmnaa
