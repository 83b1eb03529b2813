/- Walks: Pick of package certs. -/
import Derived.Test.YtgjkgdjjolnhdaaDoorCd
import Derived.Test.YtgjkgdjjolnhdaaDoorSu
namespace Go.Proofs.YtgjkgdjjolnhdaaDoor
open Go.RowKit Go.Sx
set_option maxRecDepth 100000
set_option linter.unusedSimpArgs false
set_option linter.unusedVariables false
def pickP (K : List (List UInt8)) (num : Int) (mk : Nat) (m : MsgD) (i : Nat) (l : List UInt8) : Bool := decide ((opn K mk l).frm = (i : Int)) && cntD num m (opn K mk l)
def pickE (K : List (List UInt8)) (num : Int) (mk : Nat) (m : MsgD) (P : List (List UInt8)) (i : Nat) : List UInt8 := (P.find? (pickP K num mk m i)).getD []
/-- Of each member that votes the first part that counts. -/
def pickD (K : List (List UInt8)) (num : Int) (mk : Nat) (m : MsgD) (P : List (List UInt8)) : List (List UInt8) := (memK (setD num m (P.map (opn K mk)))).map (pickE K num mk m P)
theorem opnL {K : List (List UInt8)} {mk : Nat} {P : List (List UInt8)} : ∀ v ∈ P.map (opn K mk), 0 ≤ v.frm ∧ v.frm < 16 := fun v hv => by obtain ⟨l, -, rfl⟩ := List.mem_map.1 hv; exact opn_frm _ _ _
theorem pickE_mem {K : List (List UInt8)} {num : Int} {mk : Nat} {m : MsgD} {P : List (List UInt8)} {i : Nat} (hi : i ∈ memK (setD num m (P.map (opn K mk)))) : pickE K num mk m P i ∈ P ∧ pickP K num mk m i (pickE K num mk m P i) = true := by
  obtain ⟨v, hv, hc, he⟩ := (setD_mem opnL).1 hi
  obtain ⟨l, hl, rfl⟩ := List.mem_map.1 hv
  have hp : pickP K num mk m i l = true := by simp [pickP, hc, he]
  unfold pickE
  cases hf : P.find? (pickP K num mk m i) with
  | none => exact absurd hp (by simpa using List.find?_eq_none.1 hf l hl)
  | some x => exact ⟨List.mem_of_find?_eq_some hf, List.find?_some hf⟩
theorem pickD_sub {K : List (List UInt8)} {num : Int} {mk : Nat} {m : MsgD} {P : List (List UInt8)} : ∀ l ∈ pickD K num mk m P, l ∈ P := fun l hl => by
  obtain ⟨i, hi, rfl⟩ := List.mem_map.1 hl
  exact (pickE_mem hi).1
theorem pickD_len {K : List (List UInt8)} {num : Int} {mk : Nat} {m : MsgD} {P : List (List UInt8)} : (pickD K num mk m P).length ≤ 16 := by rw [pickD, List.length_map]; exact memK_len _
theorem set_mono {K : List (List UInt8)} {num : Int} {mk : Nat} {m : MsgD} {P Q : List (List UInt8)} (h : ∀ l ∈ P, l ∈ Q) : ∀ i ∈ memK (setD num m (P.map (opn K mk))), i ∈ memK (setD num m (Q.map (opn K mk))) := fun i hi => by
  rw [setD_mem opnL] at hi ⊢
  obtain ⟨v, hv, hc⟩ := hi
  obtain ⟨l, hl, rfl⟩ := List.mem_map.1 hv
  exact ⟨_, List.mem_map.2 ⟨l, h l hl, rfl⟩, hc⟩
theorem pick_set {K : List (List UInt8)} {num : Int} {mk : Nat} {m : MsgD} {P : List (List UInt8)} : ∀ i ∈ memK (setD num m (P.map (opn K mk))), i ∈ memK (setD num m ((pickD K num mk m P).map (opn K mk))) := fun i hi => by
  have h := (pickE_mem hi).2
  simp only [pickP, Bool.and_eq_true, decide_eq_true_eq] at h
  exact (setD_mem opnL).2 ⟨_, List.mem_map.2 ⟨_, List.mem_map.2 ⟨i, hi, rfl⟩, rfl⟩, h.2, h.1⟩
theorem enough_le {K : List (List UInt8)} {num : Int} {mk : Nat} {m : MsgD} {P Q : List (List UInt8)} (h : ∀ i ∈ memK (setD num m (P.map (opn K mk))), i ∈ memK (setD num m (Q.map (opn K mk)))) (he : enoughD num mk m (P.map (opn K mk)) = true) : enoughD num mk m (Q.map (opn K mk)) = true := by
  rw [enoughD, decide_eq_true_eq, ones16_mem setP_lt] at he ⊢
  exact Nat.le_trans he (nodup_le (memK_nodup _) h)
theorem find_at {α : Type} {p : α → Bool} {l : List α} {j : Nat} (hj : j < l.length) (h1 : p l[j] = true) (h2 : ∀ (i : Nat) (hi : i < j), p (l[i]'(Nat.lt_trans hi hj)) = false) : l.find? p = some l[j] := by
  rw [List.find?_eq_some_iff_getElem]
  exact ⟨h1, j, hj, rfl, fun i hi => by simp [h2 i hi]⟩
def pP (num : Int) (m : MsgD) (i : Int) (v : MsgD) : Bool := decide (v.frm = i) && cntD num m v
def IdxR (num : Int) (m : MsgD) (i : Int) (L : List MsgD) (r : Int) : Prop :=
  (r = -1 ∧ ∀ v ∈ L, pP num m i v = false) ∨ ∃ (j : Nat) (hj : j < L.length), r = (j : Int) ∧ pP num m i L[j] = true ∧ ∀ (k : Nat) (hk : k < j), pP num m i (L[k]'(Nat.lt_trans hk hj)) = false
theorem idx_pick {K : List (List UInt8)} {num : Int} {mk : Nat} {m : MsgD} {P : List (List UInt8)} {L : List MsgD} {i : Nat} {r : Int} (hL : L = P.map (opn K mk)) (hi : i ∈ memK (setD num m (P.map (opn K mk)))) (h : IdxR num m i L r) : ∃ (j : Nat) (hj : j < P.length), r = (j : Int) ∧ P[j] = pickE K num mk m P i := by
  subst hL
  rcases h with ⟨-, h⟩ | ⟨j, hj, rfl, h1, h2⟩
  · obtain ⟨v, hv, hc, he⟩ := (setD_mem opnL).1 hi
    have := h v hv
    simp [pP, hc, he] at this
  · have hj' : j < P.length := by simpa using hj
    refine ⟨j, hj', rfl, ?_⟩
    have := find_at (p := pickP K num mk m i) hj' (by simpa [pP, pickP] using h1) (fun k hk => by have := h2 k hk; simpa [pP, pickP] using this)
    rw [pickE, this]; rfl
attribute [local irreducible] sealK openOfK keyT writD opn setD memK pickE

set_option maxHeartbeats 1000000 in
theorem pick1_c {w0 : World} {H : List SA} {num : Int} {mk : Nat} {m : MsgV} {i : Int} {b1 b2 b3 : Nat} [h1 : Mem w0 H b1 (.cells #[.int .i64 i] 3 (0, 0))] [h2 : Mem w0 H b2 (.cells (ViewV.mk num (mk : Int)).cells 24 (0, 0))] [h3 : Mem w0 H b3 (.cells m.cells 30 (0, 0))] {v : MsgV} :
    CT Tryd.prog w0 (H) 41 [.agg v.cells, .pointer (some ⟨b1, 0, none⟩), .pointer (some ⟨b2, 0, none⟩), .pointer (some ⟨b3, 0, none⟩)] (α := Unit) (fun _ => .bool (pP num m.abs i v.abs)) (fun _ => H) := by
  refine CT_intro Tryd.func41 rfl Tryd.ntmps41 rfl ?_
  refine T_seq ?_
  refine T_region ?_
  refine TL_e rfl (Ef_boxN rfl (fun b4 => ?_))
  refine TL_q (Qt_assign (.bool _) rfl) rfl ?_
  refine TL_nil ?_
  refine X_then ?_
  refine T_seq ?_
  refine T_region ?_
  refine TL_q (Qt_fieldAddr 1 rfl rfl) rfl ?_
  refine TL_q (Qt_load1 rfl) rfl ?_
  refine TL_q (Qt_load1 rfl) rfl ?_
  refine TL_q (Qt_eql rfl rfl) rfl ?_
  refine TL_q (Qt_move (.bool _) rfl) rfl ?_
  refine TL_split 10 rfl (fun h10 => ?_) (fun h10 => ?_)
  ·
    have p10 := h10
    try simp only [decide_eq_true_eq, decide_eq_false_iff_not, Bool.not_eq_true', Bool.not_eq_false', Option.isNone_iff_eq_none, ne_eq, Decidable.not_not, Int.not_lt, Int.not_le] at p10
    refine TL_take rfl rfl h10 ?_
    refine TL_q (Qt_loadN rfl rfl) rfl ?_
    refine TL_take rfl rfl h10 ?_
    refine TL_q (Qt_loadN rfl rfl) rfl ?_
    refine TL_take rfl rfl h10 ?_
    refine TL_q (Qt_loadN rfl rfl) rfl ?_
    refine TL_take rfl rfl h10 ?_
    refine TL_e rfl (Ef_call (counts_c (num := num) (mk := mk) (m := m) (v := v)) rfl (fun x14 => ?_))
    refine TL_q (Qt_pick_t (.bool _) rfl h10 rfl) rfl ?_
    refine TL_q (Qt_assign (.bool _) rfl) rfl ?_
    refine TL_nil ?_
    refine X_then ?_
    refine T_ret ?_
    refine X_ret () [.bool (pP num m.abs i v.abs)] Tryd.results41 ⟨?_, trivial⟩ rfl (Subs.st inferInstance)
    refine congrArg Value.bool ?_
    have ef : v.abs.frm = v.frm := rfl
    unfold pP
    rw [ef]
    simp_all
  ·
    have p10 := h10
    try simp only [decide_eq_true_eq, decide_eq_false_iff_not, Bool.not_eq_true', Bool.not_eq_false', Option.isNone_iff_eq_none, ne_eq, Decidable.not_not, Int.not_lt, Int.not_le] at p10
    refine TL_pass rfl rfl h10 rfl ?_
    refine TL_pass rfl rfl h10 rfl ?_
    refine TL_pass rfl rfl h10 rfl ?_
    refine TL_pass rfl rfl h10 rfl ?_
    refine TL_q (Qt_pick_f (.bool _) rfl h10 rfl) rfl ?_
    refine TL_q (Qt_assign (.bool _) rfl) rfl ?_
    refine TL_nil ?_
    refine X_then ?_
    refine T_ret ?_
    refine X_ret () [.bool (pP num m.abs i v.abs)] Tryd.results41 ⟨?_, trivial⟩ rfl (Subs.st inferInstance)
    refine congrArg Value.bool ?_
    have ef : v.abs.frm = v.frm := rfl
    unfold pP
    rw [ef]
    simp_all
set_option maxHeartbeats 1000000 in
theorem indexf_c {w0 : World} {H : List SA} {num : Int} {mk : Nat} {m : MsgV} {i : Int} {b1 b2 b3 : Nat} [h1 : Mem w0 H b1 (.cells #[.int .i64 i] 3 (0, 0))] [h2 : Mem w0 H b2 (.cells (ViewV.mk num (mk : Int)).cells 24 (0, 0))] [h3 : Mem w0 H b3 (.cells m.cells 30 (0, 0))] {a : Option Addr} {ms : List MsgV} {c : Nat} [hr : RdC w0 H (.slice a ms.length c) 39 (ms.flatMap MsgV.list)] (hn : ms.length ≤ 1000) :
    CT Tryd.prog w0 (H) 40 [.slice a ms.length c, .func (.func 41) #[] #[.pointer (some ⟨b1, 0, none⟩), .pointer (some ⟨b2, 0, none⟩), .pointer (some ⟨b3, 0, none⟩)]] (α := Int) (fun r => .int .i64 r) (fun r => pu (IdxR num m.abs i (ms.map MsgV.abs) r) :: H) := by
  refine CT_intro Tryd.func40 rfl Tryd.ntmps40 rfl ?_
  refine T_seq ?_
  refine T_region ?_
  refine TL_q (Qt_assign (.int .i64 _) rfl) rfl ?_
  refine TL_nil ?_
  refine X_then ?_
  refine T_seq ?_
  refine T_seq ?_
  refine T_region ?_
  refine TL_q (Qt_move (.slice _ _ _) rfl) rfl ?_
  refine TL_q (Qt_len_slice rfl Tryd.underlying76) rfl ?_
  refine TL_q (Qt_move (.int .i64 _) rfl) rfl ?_
  refine TL_nil ?_
  refine X_then ?_
  refine T_block ?_
  refine T_loop [4, 5, 8, 9, 10, 11, 12, 13, 14, 15, 16, 17, 18] [8] (fun us H' => ∃ (k : Nat), us = [.int .i64 (k : Int)] ∧ H = H' ∧ k ≤ ms.length ∧ (∀ (j : Nat) (hj : j < ms.length), j < k → pP num m.abs i ms[j].abs = false)) (fun us => match us with | .int _ i :: _ => ms.length - i.toNat | _ => 0) ⟨0, rfl, rfl, by omega, fun j hj h => by omega⟩ (Subs.st inferInstance) ?_
  rintro τ0 _ _  ⟨k, rfl, rfl, hk0, hno⟩ _
  refine T_seq ?_
  refine T_region ?_
  refine TL_q (Qt_lss rfl rfl) rfl ?_
  refine TL_nil ?_
  refine X_then ?_
  refine T_seq ?_
  refine T_cond rfl (fun h9 => ?_) (fun h9 => ?_)
  ·
    have p9 := h9
    try simp only [decide_eq_true_eq, decide_eq_false_iff_not, Bool.not_eq_true', Bool.not_eq_false', Option.isNone_iff_eq_none, ne_eq, Decidable.not_not, Int.not_lt, Int.not_le] at p9
    have hk : k < ms.length := by omega
    refine T_skip ?_
    refine X_then ?_
    refine T_seq ?_
    refine T_block ?_
    refine T_seq ?_
    refine T_region ?_
    refine TL_q (Qt_move (.int .i64 _) rfl) rfl ?_
    refine TL_q (Qt_assign (.int .i64 _) rfl) rfl ?_
    refine TL_nil ?_
    refine X_then ?_
    refine T_seq ?_
    refine T_region ?_
    refine TL_q (Qt_move _ rfl) rfl ?_
    refine TL_q (Qt_move (.slice _ _ _) rfl) rfl ?_
    refine TL_q (Qt_move (.int .i64 _) rfl) rfl ?_
    refine TL_q (Qt_indexN rfl rfl (by omega) (by omega)) rfl ?_
    refine TL_q (Qt_val (Qt_loadRN 39 ms[k].list rfl (flat_slice _ 39 MsgV.list_len ms k hk) (MsgV.list_len _) (by decide)) (show Value.agg ms[k].list.toArray = Value.agg ms[k].cells from rfl)) rfl ?_
    refine TL_e rfl (Ef_callF (argv := [_]) (caps := [_, _, _]) (pick1_c (num := num) (mk := mk) (m := m) (i := i) (b1 := b1) (b2 := b2) (b3 := b3) (v := ms[k])) rfl rfl (fun x16 => ?_))
    refine TL_nil ?_
    refine X_then ?_
    refine T_cond rfl (fun h16 => ?_) (fun h16 => ?_)
    ·
      have p16 := h16
      try simp only [decide_eq_true_eq, decide_eq_false_iff_not, Bool.not_eq_true', Bool.not_eq_false', Option.isNone_iff_eq_none, ne_eq, Decidable.not_not, Int.not_lt, Int.not_le] at p16
      refine T_seq ?_
      refine T_region ?_
      refine TL_q (Qt_move (.int .i64 _) rfl) rfl ?_
      refine TL_q (Qt_assign (.int .i64 _) rfl) rfl ?_
      refine TL_nil ?_
      refine X_then ?_
      refine T_ret ?_
      refine X_block_ret ?_
      refine X_then_ret ?_
      refine X_loop_ret ?_
      refine X_block_ret ?_
      refine X_then_ret ?_
      exact X_ret (k : Int) [_] Tryd.results40 ⟨rfl, trivial⟩ rfl (fun w hw => (Subs.st inferInstance w hw : St w0 H w).addPure (.inr ⟨k, by simpa using hk, rfl, by simpa using h16, fun j hj => by simpa using hno j (by omega) hj⟩))
    ·
      have p16 := h16
      try simp only [decide_eq_true_eq, decide_eq_false_iff_not, Bool.not_eq_true', Bool.not_eq_false', Option.isNone_iff_eq_none, ne_eq, Decidable.not_not, Int.not_lt, Int.not_le] at p16
      refine T_skip ?_
      refine X_block ?_
      refine X_then ?_
      refine T_region ?_
      first
        | refine TL_q (Qt_add rfl rfl (by omega) (by omega)) rfl ?_
        | refine TL_q (Qt_addw rfl rfl) rfl ?_
      refine TL_q (Qt_move (.int .i64 _) rfl) rfl ?_
      refine TL_nil ?_
      apply X_loop
      case ha => exact (by repeat (first | with_reducible exact agree_refl | refine agree_upd rfl ?_ | refine agree_mix rfl ?_ | refine agree_setAll rfl ?_))
      case hI => exact ⟨k + 1, rfl, rfl, by omega, fun j hj h => by rcases Nat.lt_or_ge j k with h1 | h1; exact hno j hj h1; obtain rfl : j = k := (by omega); exact h16⟩
      case hm => exact by show ms.length - (k + 1 : Int).toNat < ms.length - (k : Int).toNat; omega
      case hH => exact (Subs.st inferInstance)
  ·
    have p9 := h9
    try simp only [decide_eq_true_eq, decide_eq_false_iff_not, Bool.not_eq_true', Bool.not_eq_false', Option.isNone_iff_eq_none, ne_eq, Decidable.not_not, Int.not_lt, Int.not_le] at p9
    refine T_exit ?_
    refine X_then_exit ?_
    refine X_loop_exit ?_
    refine X_block_exit ?_
    refine X_then ?_
    refine T_seq ?_
    refine T_region ?_
    refine TL_q (Qt_assign (.int .i64 _) rfl) rfl ?_
    refine TL_nil ?_
    refine X_then ?_
    refine T_ret ?_
    exact X_ret (-1) [_] Tryd.results40 ⟨rfl, trivial⟩ rfl (fun w hw => (Subs.st inferInstance w hw : St w0 H w).addPure (.inl ⟨rfl, fun v hv => by obtain ⟨u, hu, rfl⟩ := List.mem_map.1 hv; obtain ⟨j, hj, rfl⟩ := List.getElem_of_mem hu; exact hno j hj (by omega)⟩))
set_option maxHeartbeats 1000000 in
theorem pick_c {w0 : World} {H : List SA} [G : Glob w0] {num : Int} {mk : Nat} (hmk : mk < 65536) {sa : Option Addr} {sc : Nat} {ls : List BS} {rt : Sl} [rk : RdC w0 H (.slice sa ls.length sc) 1 (ls.map BS.val)] [rke : RdE w0 H ls] (hkl : ∀ x ∈ ls, x.l.length ≤ 4294967000) {a : Option Addr} {ps : List BS} {c : Nat} [hp : RdC w0 H (.slice a ps.length c) 1 (ps.map BS.val)] [hpe0 : RdE w0 H ps] (hps : ∀ x ∈ ps, x.l.length ≤ 4294960000) (hn : ps.length ≤ 1000) {m : MsgV} :
    CT Tryd.prog w0 (H) 17 [.agg (KeysV.mk ⟨sa, sc, ls⟩ rt).cells, .agg (ViewV.mk num (mk : Int)).cells, .agg m.cells, .slice a ps.length c] (α := (PS × List Nat)) (fun y => .slice y.1.a y.1.ls.length y.1.c) (fun y => pu (y.1.ls.map BS.l = pickD (ls.map BS.l) num mk m.abs (ps.map BS.l)) :: dat y.2 (Deep.leads (PS.mk y.1.a y.1.c y.1.ls)) :: H) := by
  refine CT_intro Tryd.func17 rfl Tryd.ntmps17 rfl ?_
  refine T_seq ?_
  refine T_region ?_
  refine TL_e rfl (Ef_boxN rfl (fun b4 => ?_))
  refine TL_e rfl (Ef_boxN rfl (fun b5 => ?_))
  refine TL_e rfl (Ef_boxN rfl (fun b6 => ?_))
  refine TL_q (Qt_assign (.slice _ _ _) rfl) rfl ?_
  refine TL_nil ?_
  refine X_then ?_
  refine T_seq ?_
  refine T_region ?_
  refine TL_q (Qt_loadN rfl rfl) rfl ?_
  refine TL_q (Qt_loadN rfl rfl) rfl ?_
  refine TL_q (Qt_move (.slice _ _ _) rfl) rfl ?_
  refine TL_e rfl (Ef_call (opened_c (num := num) hmk (sa := sa) (sc := sc) (ls := ls) (rt := rt) (ps := ps) hkl hps hn) rfl (fun x17 => ?_))
  refine TL_pure (fun h17 => ?_)
  have hml : x17.2.length = ps.length := by have := congrArg List.length h17; simpa using this
  refine TL_q (Qt_assign (.slice _ _ _) rfl) rfl ?_
  refine TL_nil ?_
  refine X_then ?_
  refine T_seq ?_
  refine T_region ?_
  refine TL_q (Qt_assign (.slice _ _ _) rfl) rfl ?_
  refine TL_nil ?_
  refine X_then ?_
  refine T_seq ?_
  refine T_seq ?_
  refine T_region ?_
  refine TL_q (Qt_loadN rfl rfl) rfl ?_
  refine TL_q (Qt_loadN rfl rfl) rfl ?_
  refine TL_q (Qt_move (.slice _ _ _) rfl) rfl ?_
  refine TL_e rfl (Ef_call (set_c (num := num) (mk := mk) (m := m) (ms := x17.2) (frm_map h17) (by omega)) rfl (fun x21 => ?_))
  rw [h17]
  refine TL_q (Qt_build [(1, (.int .u16 _))] rfl (by kernel_rfl)) rfl ?_
  refine TL_e rfl (Ef_call (members_v (num := 0) setP_lt) rfl (fun x23 => ?_))
  obtain ⟨W, hW⟩ : ∃ W, W = (memK (setD num m.abs ((ps.map BS.l).map (opn (ls.map BS.l) mk)))) := ⟨_, rfl⟩
  rw [← hW]
  have hWl : W.length ≤ 16 := hW ▸ memK_len _
  refine TL_q (Qt_len_slice rfl Tryd.underlying42) rfl ?_
  refine TL_q (Qt_move (.int .i64 _) rfl) rfl ?_
  refine TL_nil ?_
  refine X_then ?_
  refine T_block ?_
  refine T_loop [10, 12, 13, 25, 26, 27, 28, 29, 30, 31, 32, 33, 34, 35, 36, 37, 38, 39, 40] [25, 10] (fun us H' => ∃ (k : Nat) (ao : Option Addr) (co : Nat) (os : List BS) (fp : List Nat), us = [.int .i64 (k : Int), .slice ao os.length co] ∧ row (.slice ao (os).length co) 27 1 ((os).map BS.val) :: eachA fp os :: row (.slice x17.1.a x17.2.length x17.1.c) 30 39 (x17.2.flatMap MsgV.list) :: row (.slice x23.a W.length x23.c) 3 1 (W.flatMap encN) :: blk b4 (.cells (KeysV.mk ⟨sa, sc, ls⟩ rt).cells 38 (0, 0)) :: blk b5 (.cells (ViewV.mk num (mk : Int)).cells 24 (0, 0)) :: blk b6 (.cells m.cells 30 (0, 0)) :: H = H' ∧ k ≤ W.length ∧ (os.map BS.l = (W.take k).map (pickE (ls.map BS.l) num mk m.abs (ps.map BS.l))) ∧ (os.length = k)) (fun us => match us with | .int _ i :: _ => W.length - i.toNat | _ => 0) ⟨0, none, 0, [], [], rfl, rfl, by omega, rfl, rfl⟩ (fun w hw => by
        have h0 : St w0 (row (.slice x17.1.a x17.2.length x17.1.c) 30 39 (x17.2.flatMap MsgV.list) :: row (.slice x23.a W.length x23.c) 3 1 (W.flatMap encN) :: blk b4 (.cells (KeysV.mk ⟨sa, sc, ls⟩ rt).cells 38 (0, 0)) :: blk b5 (.cells (ViewV.mk num (mk : Int)).cells 24 (0, 0)) :: blk b6 (.cells m.cells 30 (0, 0)) :: H) w := Subs.st inferInstance w hw
        exact (h0.eachNil).addNil 27 1) ?_
  rintro τ0 _ _  ⟨k, ao, co, os, fp, rfl, rfl, hk0, hos, hol⟩ _
  refine T_seq ?_
  refine T_region ?_
  refine TL_q (Qt_lss rfl rfl) rfl ?_
  refine TL_nil ?_
  refine X_then ?_
  refine T_seq ?_
  refine T_cond rfl (fun h26 => ?_) (fun h26 => ?_)
  ·
    have p26 := h26
    try simp only [decide_eq_true_eq, decide_eq_false_iff_not, Bool.not_eq_true', Bool.not_eq_false', Option.isNone_iff_eq_none, ne_eq, Decidable.not_not, Int.not_lt, Int.not_le] at p26
    have hk : k < W.length := by omega
    refine T_skip ?_
    refine X_then ?_
    refine T_seq ?_
    refine T_block ?_
    refine T_seq ?_
    refine T_region ?_
    refine TL_q (Qt_indexR rfl rfl (by omega) (by rw [encN_len]; omega)) rfl ?_
    refine TL_q (Qt_loadR (.int .i64 (W[k] : Int)) rfl (encN_get _ k hk)) rfl ?_
    refine TL_e rfl (Ef_alloc1 (fun b12 => ?_))
    refine TL_n (Ef_store1 (.int .i64 _) rfl rfl (?_))
    refine TL_nil ?_
    refine X_then ?_
    refine T_seq ?_
    refine T_region ?_
    refine TL_q (Qt_move (.slice _ _ _) rfl) rfl ?_
    refine TL_q (Qt_makeFunc (args := [.pointer _, .pointer _, .pointer _]) rfl) rfl ?_
    refine TL_e rfl (Ef_call (indexf_c (num := num) (mk := mk) (m := m) (i := (W[k] : Int)) (b1 := b12) (b2 := b5) (b3 := b6) (ms := x17.2) (by omega)) rfl (fun x31 => ?_))
    refine TL_pure (fun h31 => ?_)
    obtain ⟨j, hjP, hxj, hpe⟩ := idx_pick h17 (hW ▸ List.getElem_mem hk) h31
    have hj : j < ps.length := by simpa using hjP
    subst hxj
    have hpl : ps[j].l = pickE (ls.map BS.l) num mk m.abs (ps.map BS.l) W[k] := by simpa using hpe
    refine TL_q (Qt_assign (.int .i64 _) rfl) rfl ?_
    refine TL_nil ?_
    refine X_then ?_
    refine T_region ?_
    refine TL_q (Qt_move (.slice _ _ _) rfl) rfl ?_
    refine TL_q (Qt_move (.slice _ _ _) rfl) rfl ?_
    refine TL_q (Qt_move (.int .i64 _) rfl) rfl ?_
    refine TL_q (Qt_indexR rfl rfl (by omega) (by simp; omega)) rfl ?_
    refine TL_q (Qt_loadR (.slice _ _ _) rfl (vals_get _ _ hj)) rfl ?_
    have : RdB w0 H (.slice ps[j].a ps[j].l.length ps[j].c) ps[j].l := hpe0.get (List.getElem_mem hj)
    refine TL_e rfl (Ef_call (clone_c (by have := hps ps[j] (List.getElem_mem hj); omega)) rfl (fun x37 => ?_))
    refine TL_e rfl (Ef_slice1 (v := .slice _ _ _) rfl (fun a38 c38 => ?_))
    refine TL_e rfl (Ef_appendP (sv := .slice _ _ _) (xv := .slice _ _ _) ⟨x37.a, x37.c, ps[j].l⟩ rfl rfl (by omega) rfl (fun a39 c39 => ?_))
    refine TL_q (Qt_assign (.slice _ _ _) rfl) rfl ?_
    refine TL_nil ?_
    refine X_block ?_
    refine X_then ?_
    refine T_region ?_
    first
      | refine TL_q (Qt_add rfl rfl (by omega) (by omega)) rfl ?_
      | refine TL_q (Qt_addw rfl rfl) rfl ?_
    refine TL_q (Qt_move (.int .i64 _) rfl) rfl ?_
    refine TL_nil ?_
    apply X_loop
    case ha => exact (by repeat (first | with_reducible exact agree_refl | refine agree_upd rfl ?_ | refine agree_mix rfl ?_ | refine agree_setAll rfl ?_))
    case hI => exact ⟨k + 1, a39, c39, os ++ [⟨x37.a, x37.c, ps[j].l⟩], rowFp (.slice x37.a ps[j].l.length x37.c) ++ fp, rfl, rfl, by omega, by rw [List.map_append, hos, List.take_succ_eq_append_getElem hk, List.map_append]; simp [hpl], by simp [hol]⟩
    case hm => exact by show W.length - (k + 1 : Int).toNat < W.length - (k : Int).toNat; omega
    case hH => exact fun w hw => eachUnder (Subs.st inferInstance w hw : St w0 (row (.slice a39 (os ++ [(⟨x37.a, x37.c, ps[j].l⟩ : BS)]).length c39) 27 1 ((os ++ [(⟨x37.a, x37.c, ps[j].l⟩ : BS)]).map BS.val) :: row (BS.val ⟨x37.a, x37.c, ps[j].l⟩) 5 1 (bytesV (BS.l ⟨x37.a, x37.c, ps[j].l⟩)) :: eachA fp os :: row (.slice x17.1.a x17.2.length x17.1.c) 30 39 (x17.2.flatMap MsgV.list) :: row (.slice x23.a W.length x23.c) 3 1 (W.flatMap encN) :: blk b4 (.cells (KeysV.mk ⟨sa, sc, ls⟩ rt).cells 38 (0, 0)) :: blk b5 (.cells (ViewV.mk num (mk : Int)).cells 24 (0, 0)) :: blk b6 (.cells m.cells 30 (0, 0)) :: H) w)
  ·
    have p26 := h26
    try simp only [decide_eq_true_eq, decide_eq_false_iff_not, Bool.not_eq_true', Bool.not_eq_false', Option.isNone_iff_eq_none, ne_eq, Decidable.not_not, Int.not_lt, Int.not_le] at p26
    have hkW : k = W.length := by omega
    rw [hkW, List.take_length, hW] at hos
    refine T_exit ?_
    refine X_then_exit ?_
    refine X_loop_exit ?_
    refine X_block_exit ?_
    refine X_then ?_
    refine T_seq ?_
    refine T_region ?_
    refine TL_q (Qt_move (.slice _ _ _) rfl) rfl ?_
    refine TL_q (Qt_assign (.slice _ _ _) rfl) rfl ?_
    refine TL_nil ?_
    refine X_then ?_
    refine T_ret ?_
    refine X_conv (fun w hw => St.datPS (a := ao) (c := co) (ls := os) (fp := fp) (e := 27) (H := H) (Subs.st inferInstance w hw)) (fun fp2 => ?_)
    exact X_ret (⟨ao, co, os⟩, fp2) [_] Tryd.results17 ⟨rfl, trivial⟩ rfl (fun w hw => (Subs.st inferInstance w hw : St w0 (dat fp2 (Deep.leads (PS.mk ao co os)) :: H) w).addPure hos)
end Go.Proofs.YtgjkgdjjolnhdaaDoor
