/- Walks: a vote that was put is got. -/
import Derived.Test.YtgeknnclmhfjlaaGreatDoorRdP
import Derived.Test.YtgeknnclmhfjlaaGreatDoorBkP
namespace Go.Proofs.YtgeknnclmhfjlaaGreatDoor
open Go.RowKit Go.Sx
set_option maxRecDepth 100000
set_option linter.unusedSimpArgs false
set_option linter.unusedVariables false
theorem rdFixed_at {l r : List UInt8} {k x n : Nat} (h : l.drop k = fixed x n ++ r) (hn : wideB n = true) (hx : x < 256 ^ n) : (rdFixed (l.drop k) n).1 = 0 ∧ (rdFixed (l.drop k) n).2.1 = x ∧ (rdFixed (l.drop k) n).2.2 = n ∧ l.drop (k + n) = r ∧ k + n ≤ l.length := by
  have e := rdFixed_fixed x n r hn hx
  rw [← h] at e
  have h1 := drop_next h
  have h2 := wideB_le hn
  have h3 := drop_le h (by rw [fixed_length]; omega)
  rw [fixed_length] at h1 h3
  rw [e]
  exact ⟨rfl, rfl, rfl, h1, h3⟩
theorem rdText_at {l r t : List UInt8} {k : Nat} {m : Int} (h : l.drop k = textB t ++ r) (ht : t.length < 18446744073709551616) (hm : (t.length : Int) ≤ m) : (rdText (l.drop k) m).1 = 0 ∧ (rdText (l.drop k) m).2.1 = t ∧ (rdText (l.drop k) m).2.2 = (textB t).length ∧ l.drop (k + (textB t).length) = r ∧ k + (textB t).length ≤ l.length := by
  have e := rdText_text t m r ht hm
  rw [show packed t.length ++ t ++ r = textB t ++ r from rfl, ← h] at e
  have h0 : 0 < (textB t).length := by
    have : 0 < (packed t.length).length := by unfold packed; split <;> simp
    simp [textB]; omega
  rw [e]
  exact ⟨rfl, rfl, rfl, drop_next h, drop_le h h0⟩
theorem rdCount_at {l r : List UInt8} {k x : Nat} {m : Int} (h : l.drop k = packed x ++ r) (hx : x < 18446744073709551616) (hm : (x : Int) ≤ m) : (rdCount (l.drop k) m).1 = 0 ∧ (rdCount (l.drop k) m).2.1 = x ∧ (rdCount (l.drop k) m).2.2 = (packed x).length ∧ l.drop (k + (packed x).length) = r ∧ k + (packed x).length ≤ l.length := by
  have e := rdCount_packed x m r hx hm
  rw [← h] at e
  rw [e]
  exact ⟨rfl, rfl, rfl, drop_next h, drop_le h (by unfold packed; split <;> simp)⟩
theorem fixed_byte (c : UInt8) : fixed c.toNat 1 = [c] := by
  have := c.toNat_lt
  simp [fixed, List.range_succ]
def hvec (h : Vector UInt8 32) (i : Nat) : Vector UInt8 32 := Vector.ofFn fun j => if j.val < i then h[j] else 0
theorem hvec_zero (h : Vector UInt8 32) : hvec h 0 = zeroV 32 := by
  apply Vector.ext; intro i hi; simp [hvec, zeroV]
theorem hvec_all (h : Vector UInt8 32) : hvec h 32 = h := by
  apply Vector.ext; intro i hi; simp [hvec, hi]
theorem hvec_set (h : Vector UInt8 32) (i : Nat) (hi : i < 32) : (hvec h i).set i h[i] = hvec h (i + 1) := by
  apply Vector.ext; intro j hj
  by_cases e : i = j
  · subst e; simp [hvec]
  · rw [Vector.getElem_set_ne _ _ e]
    simp only [hvec, Vector.getElem_ofFn, Fin.getElem_fin]
    by_cases h1 : j < i <;> simp [h1] <;> omega
theorem hlist_set (h : Vector UInt8 32) (i : Nat) (hi : i < 32) (c : UInt8) : hlist (h.set i c) = (hlist h).take i ++ (byteV c :: (hlist h).drop (i + 1)) := by
  have e : hlist (h.set i c) = (hlist h).set i (byteV c) := by simp [hlist, bytesV, List.map_set, Vector.toList_set]
  rw [e, List.set_eq_take_append_cons_drop, if_pos (by simpa using hi)]
theorem VoteV.putHash (v : VoteV) (i : Nat) (hi : i < 32) (c : UInt8) : Put v.cells (4 + i) (.int .u8 (c.toNat : Int)) ({ v with hash := v.hash.set i c } : VoteV).cells := by
  have hl : (hlist v.hash).length = 32 := by simp
  have e1 : hlist v.hash = (hlist v.hash).take i ++ ((hlist v.hash).drop i).take 1 ++ (hlist v.hash).drop (i + 1) := by
    rw [List.append_assoc, ← List.drop_drop, List.take_append_drop, List.take_append_drop]
  have := Put.mid (([.int .i64 v.kind] : List Value) ++ (([.int .i64 v.view] : List Value) ++ (([.int .i64 v.reg] : List Value) ++ (([.int .i64 v.slot] : List Value) ++ (hlist v.hash).take i)))) (((hlist v.hash).drop i).take 1) ((hlist v.hash).drop (i + 1) ++ (([.slice v.batch.a v.batch.l.length v.batch.c] : List Value) ++ ([.slice v.cert.a v.cert.ls.length v.cert.c] : List Value))) (cs := v.cells) (o := 4 + i) (n := 1) (v := .int .u8 (c.toNat : Int))
    (by conv => lhs; rw [VoteV.cells, VoteV.list, e1]
        simp only [List.append_assoc, List.cons_append, List.nil_append]) (by simp; omega) (by simp; omega) rfl
  have e2 : ({ v with hash := v.hash.set i c } : VoteV).cells = ((([.int .i64 v.kind] : List Value) ++ (([.int .i64 v.view] : List Value) ++ (([.int .i64 v.reg] : List Value) ++ (([.int .i64 v.slot] : List Value) ++ (hlist v.hash).take i)))) ++ ((Value.int .u8 (c.toNat : Int)).cells.toList ++ ((hlist v.hash).drop (i + 1) ++ (([.slice v.batch.a v.batch.l.length v.batch.c] : List Value) ++ ([.slice v.cert.a v.cert.ls.length v.cert.c] : List Value))))).toArray := by
    rw [VoteV.cells, VoteV.list]
    simp only [hlist_set v.hash i hi c, Value.cells, byteV, List.append_assoc, List.cons_append, List.nil_append]
  rw [e2]; exact this
/-- The bytes of a vote that is formed, part by part. -/
theorem told_form {v : VoteD} (hf : formedB v = true) : ∃ kn vn rn sn : Nat, v.kind = kn ∧ v.view = vn ∧ v.reg = rn ∧ v.slot = sn ∧ kn < 256 ∧ vn < 256 ∧ rn < 256 ∧ sn < 256 ∧
    told v = fixed kn 1 ++ (fixed vn 2 ++ (fixed rn 2 ++ (fixed sn 2 ++ (v.hash.toList ++ (textB v.batch ++ (packed v.cert.length ++ texts v.cert)))))) := by
  obtain ⟨h1, h2, ⟨h3, h4⟩, ⟨h5, h6⟩, ⟨h7, h8⟩, -⟩ := (formed_spec v).1 hf
  obtain ⟨kn, e1⟩ := Int.eq_ofNat_of_zero_le (show 0 ≤ v.kind by omega)
  obtain ⟨vn, e2⟩ := Int.eq_ofNat_of_zero_le h3
  obtain ⟨rn, e3⟩ := Int.eq_ofNat_of_zero_le h5
  obtain ⟨sn, e4⟩ := Int.eq_ofNat_of_zero_le h7
  have u : ∀ n : Nat, n < 256 → (u64 (n : Int)).toNat = n := fun n hn => by
    unfold u64; rw [wrap_u64 (by omega) (by omega)]; rfl
  refine ⟨kn, vn, rn, sn, e1, e2, e3, e4, by omega, by omega, by omega, by omega, ?_⟩
  simp only [told, head, pre3, num3, e1, e2, e3, e4, u kn (by omega), u vn (by omega), u rn (by omega), u sn (by omega), List.append_assoc]
theorem told_long {v : VoteD} : v.batch.length ≤ (told v).length ∧ ∀ c ∈ v.cert, c.length ≤ (told v).length := by
  refine ⟨by simp [told, head, textB]; omega, fun c hc => ?_⟩
  have : c.length ≤ (texts v.cert).length := by
    obtain ⟨a, b, h⟩ := List.append_of_mem hc
    rw [h]; simp [texts, textB]; omega
  simp only [told, List.length_append]; omega

set_option maxHeartbeats 1000000 in
theorem get_c {w0 : World} {H : List SA} {a : Option Addr} {l : List UInt8} {c : Nat} {v : VoteD} [hr : RdB w0 H (.slice a l.length c) l] (hl : l = told v) (hf : formedB v = true) (hlen : l.length ≤ 65536) (hcl : v.cert.length ≤ 16) :
    CT Tryz.prog w0 (H) 67 [.slice a l.length c] (α := VoteV × List Nat) (fun y => .tuple #[.agg y.1.cells, .int .i64 0]) (fun y => pu (y.1.abs = v) :: datV y.2 [y.1] :: H) := by
  obtain ⟨kn, vn, rn, sn, h1k, h2k, h3k, h4k, hk8, hv8, hr8, hs8, hft⟩ := told_form hf
  have htl := told_long (v := v)
  rw [← hl] at htl
  refine CT_intro Tryz.func67 rfl Tryz.ntmps67 rfl ?_
  refine T_seq ?_
  refine T_region ?_
  refine TL_e rfl (Ef_allocN (fun b2 => ?_))
  refine TL_q (Qt_assign (.int .i64 _) rfl) rfl ?_
  refine TL_nil ?_
  refine X_then ?_
  refine T_seq ?_
  refine T_seq ?_
  refine T_region ?_
  refine TL_q (Qt_move (.slice _ _ _) rfl) rfl ?_
  refine TL_q (Qt_len_slice rfl Tryz.underlying41) rfl ?_
  refine TL_q (Qt_gtr rfl rfl) rfl ?_
  refine TL_nil ?_
  refine X_then ?_
  refine T_cond rfl (fun h20 => ?_) (fun h20 => ?_)
  ·
    have p20 := h20
    try simp only [decide_eq_true_eq, decide_eq_false_iff_not, Bool.not_eq_true', Bool.not_eq_false', Option.isNone_iff_eq_none, ne_eq, Decidable.not_not, Int.not_lt, Int.not_le] at p20
    exact absurd p20 (by omega)
  ·
    have p20 := h20
    try simp only [decide_eq_true_eq, decide_eq_false_iff_not, Bool.not_eq_true', Bool.not_eq_false', Option.isNone_iff_eq_none, ne_eq, Decidable.not_not, Int.not_lt, Int.not_le] at p20
    refine T_skip ?_
    refine X_then ?_
    refine T_seq ?_
    refine T_region ?_
    refine TL_q (Qt_move (.slice _ _ _) rfl) rfl ?_
    refine TL_e rfl (Ef_call (rnew_c (by omega)) rfl (fun x23 => ?_))
    refine TL_pure (fun hb => ?_)
    rw [hl, hft] at hb
    have hbl : x23.2.l.length ≤ 65536 := by rw [hb, ← hft, ← hl]; exact hlen
    have hd0 : x23.2.l.drop 0 = fixed kn 1 ++ _ := hb
    refine TL_q (Qt_assign (.pointer _) rfl) rfl ?_
    refine TL_nil ?_
    refine X_then ?_
    refine T_seq ?_
    refine T_region ?_
    refine TL_e rfl (Ef_allocN (fun b5 => ?_))
    refine TL_nil ?_
    refine X_then ?_
    refine T_seq ?_
    refine T_region ?_
    refine TL_q (Qt_assign (.int .i64 _) rfl) rfl ?_
    refine TL_nil ?_
    refine X_then ?_
    refine T_seq ?_
    refine T_seq ?_
    refine T_region ?_
    refine TL_q (Qt_fieldAddr 0 rfl rfl) rfl ?_
    refine TL_q (Qt_fieldAddr 1 rfl rfl) rfl ?_
    refine TL_q (Qt_fieldAddr 2 rfl rfl) rfl ?_
    refine TL_q (Qt_fieldAddr 3 rfl rfl) rfl ?_
    refine TL_q (Qt_build_arr #[(.pointer _), (.pointer _), (.pointer _), (.pointer _)] Tryz.underlying204 rfl rfl rfl) rfl ?_
    refine TL_q (Qt_move (.int .i64 _) rfl) rfl ?_
    refine TL_nil ?_
    refine X_then ?_
    refine T_block ?_
    refine T_unroll (TU_round ?_)
    refine T_seq ?_
    refine T_region ?_
    refine TL_q (Qt_lss rfl rfl) rfl ?_
    refine TL_nil ?_
    refine X_then ?_
    refine T_seq ?_
    refine T_cond_true rfl (by first | rfl | decide) ?_
    refine T_skip ?_
    refine X_then ?_
    refine T_seq ?_
    refine T_block ?_
    refine T_seq ?_
    refine T_region ?_
    refine TL_q (Qt_index (.pointer _) rfl rfl Tryz.underlying204 (by omega) (by omega) (rfl)) rfl ?_
    refine TL_q (Qt_assign (.pointer _) rfl) rfl ?_
    refine TL_nil ?_
    refine X_then ?_
    refine T_seq ?_
    refine T_region ?_
    refine TL_q (Qt_move (.pointer _) rfl) rfl ?_
    refine TL_q (Qt_move (.int .i64 _) rfl) rfl ?_
    refine TL_frontB x23.1 ?_
    refine TL_e rfl (Ef_call (fixed_c (b := x23.2) (k := 0) (n := ((1 : Nat) : Int)) (by omega) (by omega)) rfl (fun x35 => ?_))
    obtain ⟨e1, e2, e3, hd1, hle1⟩ := rdFixed_at hd0 rfl (by omega)
    rw [e1, e2, e3]
    refine TL_q (Qt_move (.tuple _) rfl) rfl ?_
    refine TL_q (Qt_extract rfl) rfl ?_
    refine TL_q (Qt_extract rfl) rfl ?_
    refine TL_q (Qt_assign (.int .u64 _) rfl) rfl ?_
    refine TL_q (Qt_assign (.int .i64 _) rfl) rfl ?_
    refine TL_nil ?_
    refine X_then ?_
    refine T_seq ?_
    refine T_seq ?_
    refine T_region ?_
    refine TL_q (Qt_move (.int .i64 _) rfl) rfl ?_
    refine TL_q (Qt_neq rfl rfl) rfl ?_
    refine TL_nil ?_
    refine X_then ?_
    refine T_cond_false rfl (by first | rfl | decide) ?_
    refine T_skip ?_
    refine X_then ?_
    refine T_region ?_
    refine TL_q (Qt_move (.pointer _) rfl) rfl ?_
    refine TL_q (Qt_move (.int .u64 _) rfl) rfl ?_
    refine TL_q (Qt_conv_i64 rfl rfl Tryz.underlying3 (by omega) (by omega)) rfl ?_
    refine TL_q (Qt_nilCheck rfl) rfl ?_
    refine TL_n (Ef_store1 (.int .i64 _) rfl rfl (?_))
    refine TL_q (Qt_assign (.int .i64 _) rfl) rfl ?_
    refine TL_nil ?_
    refine X_block ?_
    refine X_then ?_
    refine T_region ?_
    first
      | refine TL_q (Qt_add rfl rfl (by omega) (by omega)) rfl ?_
      | refine TL_q (Qt_addw rfl rfl) rfl ?_
    refine TL_q (Qt_move (.int .i64 _) rfl) rfl ?_
    refine TL_nil ?_
    refine X_again (TU_round ?_)
    refine T_seq ?_
    refine T_region ?_
    refine TL_q (Qt_lss rfl rfl) rfl ?_
    refine TL_nil ?_
    refine X_then ?_
    refine T_seq ?_
    refine T_cond_true rfl (by first | rfl | decide) ?_
    refine T_skip ?_
    refine X_then ?_
    refine T_seq ?_
    refine T_block ?_
    refine T_seq ?_
    refine T_region ?_
    refine TL_q (Qt_index (.pointer _) rfl rfl Tryz.underlying204 (by omega) (by omega) (rfl)) rfl ?_
    refine TL_q (Qt_assign (.pointer _) rfl) rfl ?_
    refine TL_nil ?_
    refine X_then ?_
    refine T_seq ?_
    refine T_region ?_
    refine TL_q (Qt_move (.pointer _) rfl) rfl ?_
    refine TL_q (Qt_move (.int .i64 _) rfl) rfl ?_
    refine TL_frontB x23.1 ?_
    refine TL_e rfl (Ef_call (fixed_c (b := x23.2) (k := 0 + 1) (n := ((2 : Nat) : Int)) (by omega) (by omega)) rfl (fun x35 => ?_))
    obtain ⟨e1, e2, e3, hd2, hle2⟩ := rdFixed_at hd1 rfl (by omega)
    rw [e1, e2, e3]
    refine TL_q (Qt_move (.tuple _) rfl) rfl ?_
    refine TL_q (Qt_extract rfl) rfl ?_
    refine TL_q (Qt_extract rfl) rfl ?_
    refine TL_q (Qt_assign (.int .u64 _) rfl) rfl ?_
    refine TL_q (Qt_assign (.int .i64 _) rfl) rfl ?_
    refine TL_nil ?_
    refine X_then ?_
    refine T_seq ?_
    refine T_seq ?_
    refine T_region ?_
    refine TL_q (Qt_move (.int .i64 _) rfl) rfl ?_
    refine TL_q (Qt_neq rfl rfl) rfl ?_
    refine TL_nil ?_
    refine X_then ?_
    refine T_cond_false rfl (by first | rfl | decide) ?_
    refine T_skip ?_
    refine X_then ?_
    refine T_region ?_
    refine TL_q (Qt_move (.pointer _) rfl) rfl ?_
    refine TL_q (Qt_move (.int .u64 _) rfl) rfl ?_
    refine TL_q (Qt_conv_i64 rfl rfl Tryz.underlying3 (by omega) (by omega)) rfl ?_
    refine TL_q (Qt_nilCheck rfl) rfl ?_
    refine TL_n (Ef_store1 (.int .i64 _) rfl rfl (?_))
    refine TL_q (Qt_assign (.int .i64 _) rfl) rfl ?_
    refine TL_nil ?_
    refine X_block ?_
    refine X_then ?_
    refine T_region ?_
    first
      | refine TL_q (Qt_add rfl rfl (by omega) (by omega)) rfl ?_
      | refine TL_q (Qt_addw rfl rfl) rfl ?_
    refine TL_q (Qt_move (.int .i64 _) rfl) rfl ?_
    refine TL_nil ?_
    refine X_again (TU_round ?_)
    refine T_seq ?_
    refine T_region ?_
    refine TL_q (Qt_lss rfl rfl) rfl ?_
    refine TL_nil ?_
    refine X_then ?_
    refine T_seq ?_
    refine T_cond_true rfl (by first | rfl | decide) ?_
    refine T_skip ?_
    refine X_then ?_
    refine T_seq ?_
    refine T_block ?_
    refine T_seq ?_
    refine T_region ?_
    refine TL_q (Qt_index (.pointer _) rfl rfl Tryz.underlying204 (by omega) (by omega) (rfl)) rfl ?_
    refine TL_q (Qt_assign (.pointer _) rfl) rfl ?_
    refine TL_nil ?_
    refine X_then ?_
    refine T_seq ?_
    refine T_region ?_
    refine TL_q (Qt_move (.pointer _) rfl) rfl ?_
    refine TL_q (Qt_move (.int .i64 _) rfl) rfl ?_
    refine TL_frontB x23.1 ?_
    refine TL_e rfl (Ef_call (fixed_c (b := x23.2) (k := 0 + 1 + 2) (n := ((2 : Nat) : Int)) (by omega) (by omega)) rfl (fun x35 => ?_))
    obtain ⟨e1, e2, e3, hd3, hle3⟩ := rdFixed_at hd2 rfl (by omega)
    rw [e1, e2, e3]
    refine TL_q (Qt_move (.tuple _) rfl) rfl ?_
    refine TL_q (Qt_extract rfl) rfl ?_
    refine TL_q (Qt_extract rfl) rfl ?_
    refine TL_q (Qt_assign (.int .u64 _) rfl) rfl ?_
    refine TL_q (Qt_assign (.int .i64 _) rfl) rfl ?_
    refine TL_nil ?_
    refine X_then ?_
    refine T_seq ?_
    refine T_seq ?_
    refine T_region ?_
    refine TL_q (Qt_move (.int .i64 _) rfl) rfl ?_
    refine TL_q (Qt_neq rfl rfl) rfl ?_
    refine TL_nil ?_
    refine X_then ?_
    refine T_cond_false rfl (by first | rfl | decide) ?_
    refine T_skip ?_
    refine X_then ?_
    refine T_region ?_
    refine TL_q (Qt_move (.pointer _) rfl) rfl ?_
    refine TL_q (Qt_move (.int .u64 _) rfl) rfl ?_
    refine TL_q (Qt_conv_i64 rfl rfl Tryz.underlying3 (by omega) (by omega)) rfl ?_
    refine TL_q (Qt_nilCheck rfl) rfl ?_
    refine TL_n (Ef_store1 (.int .i64 _) rfl rfl (?_))
    refine TL_q (Qt_assign (.int .i64 _) rfl) rfl ?_
    refine TL_nil ?_
    refine X_block ?_
    refine X_then ?_
    refine T_region ?_
    first
      | refine TL_q (Qt_add rfl rfl (by omega) (by omega)) rfl ?_
      | refine TL_q (Qt_addw rfl rfl) rfl ?_
    refine TL_q (Qt_move (.int .i64 _) rfl) rfl ?_
    refine TL_nil ?_
    refine X_again (TU_round ?_)
    refine T_seq ?_
    refine T_region ?_
    refine TL_q (Qt_lss rfl rfl) rfl ?_
    refine TL_nil ?_
    refine X_then ?_
    refine T_seq ?_
    refine T_cond_true rfl (by first | rfl | decide) ?_
    refine T_skip ?_
    refine X_then ?_
    refine T_seq ?_
    refine T_block ?_
    refine T_seq ?_
    refine T_region ?_
    refine TL_q (Qt_index (.pointer _) rfl rfl Tryz.underlying204 (by omega) (by omega) (rfl)) rfl ?_
    refine TL_q (Qt_assign (.pointer _) rfl) rfl ?_
    refine TL_nil ?_
    refine X_then ?_
    refine T_seq ?_
    refine T_region ?_
    refine TL_q (Qt_move (.pointer _) rfl) rfl ?_
    refine TL_q (Qt_move (.int .i64 _) rfl) rfl ?_
    refine TL_frontB x23.1 ?_
    refine TL_e rfl (Ef_call (fixed_c (b := x23.2) (k := 0 + 1 + 2 + 2) (n := ((2 : Nat) : Int)) (by omega) (by omega)) rfl (fun x35 => ?_))
    obtain ⟨e1, e2, e3, hd4, hle4⟩ := rdFixed_at hd3 rfl (by omega)
    rw [e1, e2, e3]
    refine TL_q (Qt_move (.tuple _) rfl) rfl ?_
    refine TL_q (Qt_extract rfl) rfl ?_
    refine TL_q (Qt_extract rfl) rfl ?_
    refine TL_q (Qt_assign (.int .u64 _) rfl) rfl ?_
    refine TL_q (Qt_assign (.int .i64 _) rfl) rfl ?_
    refine TL_nil ?_
    refine X_then ?_
    refine T_seq ?_
    refine T_seq ?_
    refine T_region ?_
    refine TL_q (Qt_move (.int .i64 _) rfl) rfl ?_
    refine TL_q (Qt_neq rfl rfl) rfl ?_
    refine TL_nil ?_
    refine X_then ?_
    refine T_cond_false rfl (by first | rfl | decide) ?_
    refine T_skip ?_
    refine X_then ?_
    refine T_region ?_
    refine TL_q (Qt_move (.pointer _) rfl) rfl ?_
    refine TL_q (Qt_move (.int .u64 _) rfl) rfl ?_
    refine TL_q (Qt_conv_i64 rfl rfl Tryz.underlying3 (by omega) (by omega)) rfl ?_
    refine TL_q (Qt_nilCheck rfl) rfl ?_
    refine TL_n (Ef_store1 (.int .i64 _) rfl rfl (?_))
    refine TL_q (Qt_assign (.int .i64 _) rfl) rfl ?_
    refine TL_nil ?_
    refine X_block ?_
    refine X_then ?_
    refine T_region ?_
    first
      | refine TL_q (Qt_add rfl rfl (by omega) (by omega)) rfl ?_
      | refine TL_q (Qt_addw rfl rfl) rfl ?_
    refine TL_q (Qt_move (.int .i64 _) rfl) rfl ?_
    refine TL_nil ?_
    refine X_again (TU_round ?_)
    refine T_seq ?_
    refine T_region ?_
    refine TL_q (Qt_lss rfl rfl) rfl ?_
    refine TL_nil ?_
    refine X_then ?_
    refine T_seq ?_
    refine T_cond_false rfl (by first | rfl | decide) ?_
    refine T_exit ?_
    refine X_then_exit ?_
    refine X_again_exit ?_
    refine X_block_exit ?_
    refine X_then ?_
    refine T_seq ?_
    refine T_seq ?_
    refine T_region ?_
    refine TL_q (Qt_move (.int .i64 _) rfl) rfl ?_
    refine TL_nil ?_
    refine X_then ?_
    refine T_block ?_
    refine T_loop [3, 11, 12, 13, 47, 48, 49, 50, 51, 52, 53, 54, 55, 56, 57, 58, 59, 60, 61, 62, 63, 64] [47] (fun us H' => ∃ (i : Nat), us = [.int .i64 (i : Int)] ∧ blk x23.1 (.cells (ReaderV.mk x23.2 ((((((0 + 1) + 2) + 2) + 2) + i : Nat) : Int)).cells 167 (0, 0)) :: blk b5 (.cells (VoteV.mk (kn : Int) (vn : Int) (rn : Int) (sn : Int) (hvec v.hash i) ⟨none, 0, []⟩ ⟨none, 0, []⟩).cells 44 (0, 0)) :: blk b2 (.cells VoteV.zero.cells 44 (0, 0)) :: row (.slice x23.2.a x23.2.l.length x23.2.c) 5 1 (bytesV x23.2.l) :: H = H' ∧ i ≤ 32 ∧ (((((0 + 1) + 2) + 2) + 2) + i ≤ x23.2.l.length) ∧ (x23.2.l.drop (((((0 + 1) + 2) + 2) + 2) + i) = v.hash.toList.drop i ++ (textB v.batch ++ (packed v.cert.length ++ texts v.cert)))) (fun us => match us with | .int _ i :: _ => 32 - i.toNat | _ => 0) ⟨0, rfl, rfl, by omega, hle4, hd4⟩ (fun w hw => by
            rw [hvec_zero]
            exact (Subs.st inferInstance w hw : St w0 (blk x23.1 (.cells (ReaderV.mk x23.2 ((((((0 + 1) + 2) + 2) + 2) : Nat) : Int)).cells 167 (0, 0)) :: blk b5 (.cells ({ VoteV.zero with kind := (kn : Int), view := (vn : Int), reg := (rn : Int), slot := (sn : Int) } : VoteV).cells 44 (0, 0)) :: blk b2 (.cells VoteV.zero.cells 44 (0, 0)) :: row (.slice x23.2.a x23.2.l.length x23.2.c) 5 1 (bytesV x23.2.l) :: H) w)) ?_
    rintro τ1 _ _  ⟨i, rfl, rfl, hi0, hie, hdh⟩ _
    refine T_seq ?_
    refine T_region ?_
    refine TL_q (Qt_lss rfl rfl) rfl ?_
    refine TL_nil ?_
    refine X_then ?_
    refine T_seq ?_
    refine T_cond rfl (fun h48 => ?_) (fun h48 => ?_)
    ·
      have p48 := h48
      try simp only [decide_eq_true_eq, decide_eq_false_iff_not, Bool.not_eq_true', Bool.not_eq_false', Option.isNone_iff_eq_none, ne_eq, Decidable.not_not, Int.not_lt, Int.not_le] at p48
      refine T_skip ?_
      refine X_then ?_
      refine T_seq ?_
      refine T_block ?_
      refine T_seq ?_
      refine T_region ?_
      refine TL_q (Qt_move (.int .i64 _) rfl) rfl ?_
      refine TL_q (Qt_assign (.int .i64 _) rfl) rfl ?_
      refine TL_nil ?_
      refine X_then ?_
      refine T_seq ?_
      refine T_region ?_
      refine TL_q (Qt_move (.pointer _) rfl) rfl ?_
      refine TL_frontB x23.1 ?_
      have hi : i < 32 := by omega
      have hdi : x23.2.l.drop (((((0 + 1) + 2) + 2) + 2) + i) = fixed v.hash[i].toNat 1 ++ (v.hash.toList.drop (i + 1) ++ (textB v.batch ++ (packed v.cert.length ++ texts v.cert))) := by
        rw [fixed_byte, hdh, List.drop_eq_getElem_cons (by simpa using hi)]; simp
      refine TL_e rfl (Ef_call (fixed_c (b := x23.2) (k := ((((0 + 1) + 2) + 2) + 2) + i) (n := ((1 : Nat) : Int)) (by omega) (by omega)) rfl (fun x52 => ?_))
      obtain ⟨e1, e2, e3, hd5, hle5⟩ := rdFixed_at hdi rfl (by have := v.hash[i].toNat_lt; omega)
      rw [e1, e2, e3]
      refine TL_q (Qt_move (.tuple _) rfl) rfl ?_
      refine TL_q (Qt_extract rfl) rfl ?_
      refine TL_q (Qt_extract rfl) rfl ?_
      refine TL_q (Qt_assign (.int .u64 _) rfl) rfl ?_
      refine TL_q (Qt_assign (.int .i64 _) rfl) rfl ?_
      refine TL_nil ?_
      refine X_then ?_
      refine T_seq ?_
      refine T_seq ?_
      refine T_region ?_
      refine TL_q (Qt_move (.int .i64 _) rfl) rfl ?_
      refine TL_q (Qt_neq rfl rfl) rfl ?_
      refine TL_nil ?_
      refine X_then ?_
      refine T_cond_false rfl (by first | rfl | decide) ?_
      refine T_skip ?_
      refine X_then ?_
      refine T_region ?_
      refine TL_q (Qt_move (.int .i64 _) rfl) rfl ?_
      refine TL_q (Qt_move (.int .u64 _) rfl) rfl ?_
      refine TL_q (Qt_conv rfl rfl Tryz.underlying5) rfl ?_
      rw [wrap_nat .u8 rfl (by have := v.hash[i].toNat_lt; show _ < 2 ^ 8; omega)]
      have hput : Put ((VoteV.mk (kn : Int) (vn : Int) (rn : Int) (sn : Int) (hvec v.hash i) ⟨none, 0, []⟩ ⟨none, 0, []⟩)).cells (4 + (i : Int).toNat * 1) (.int .u8 (v.hash[i].toNat : Int)) ((VoteV.mk (kn : Int) (vn : Int) (rn : Int) (sn : Int) (hvec v.hash (i + 1)) ⟨none, 0, []⟩ ⟨none, 0, []⟩)).cells := by
        have h1 := VoteV.putHash (VoteV.mk (kn : Int) (vn : Int) (rn : Int) (sn : Int) (hvec v.hash i) ⟨none, 0, []⟩ ⟨none, 0, []⟩) i hi v.hash[i]
        rw [show ({ (VoteV.mk (kn : Int) (vn : Int) (rn : Int) (sn : Int) (hvec v.hash i) ⟨none, 0, []⟩ ⟨none, 0, []⟩) with hash := (hvec v.hash i).set i v.hash[i] } : VoteV) = (VoteV.mk (kn : Int) (vn : Int) (rn : Int) (sn : Int) (hvec v.hash (i + 1)) ⟨none, 0, []⟩ ⟨none, 0, []⟩) from by rw [← hvec_set v.hash i hi]] at h1
        rw [show 4 + (i : Int).toNat * 1 = 4 + i from by simp]; exact h1
      refine TL_q (Qt_fieldAddr 4 rfl rfl) rfl ?_
      refine TL_q (Qt_indexAddr_arr (sz := 1) rfl rfl Tryz.underlying40 rfl rfl (by omega) (by omega)) rfl ?_
      refine TL_n (Ef_store1 (.int .u8 _) rfl rfl (?_))
      refine TL_nil ?_
      refine X_block ?_
      refine X_then ?_
      refine T_region ?_
      first
        | refine TL_q (Qt_add rfl rfl (by omega) (by omega)) rfl ?_
        | refine TL_q (Qt_addw rfl rfl) rfl ?_
      refine TL_q (Qt_move (.int .i64 _) rfl) rfl ?_
      refine TL_nil ?_
      refine X_loop _ (by repeat (first | with_reducible exact agree_refl | refine agree_upd rfl ?_ | refine agree_mix rfl ?_ | refine agree_setAll rfl ?_)) (⟨i + 1, rfl, rfl, by omega, hle5, hd5⟩) (by show 32 - (i + 1 : Int).toNat < 32 - (i : Int).toNat; omega) ((Subs.st inferInstance))
    ·
      have p48 := h48
      try simp only [decide_eq_true_eq, decide_eq_false_iff_not, Bool.not_eq_true', Bool.not_eq_false', Option.isNone_iff_eq_none, ne_eq, Decidable.not_not, Int.not_lt, Int.not_le] at p48
      have hi : i = 32 := by omega
      subst hi
      rw [hvec_all]
      have hd32 : x23.2.l.drop (((((0 + 1) + 2) + 2) + 2) + 32) = textB v.batch ++ (packed v.cert.length ++ texts v.cert) := by rw [hdh, List.drop_of_length_le (by simp)]; rfl
      refine T_exit ?_
      refine X_then_exit ?_
      refine X_loop_exit ?_
      refine X_block_exit ?_
      refine X_then ?_
      refine T_seq ?_
      refine T_region ?_
      refine TL_q (Qt_assign (.int .i64 _) rfl) rfl ?_
      refine TL_nil ?_
      refine X_then ?_
      refine T_seq ?_
      refine T_seq ?_
      refine T_region ?_
      refine TL_q (Qt_move (.pointer _) rfl) rfl ?_
      refine TL_frontB x23.1 ?_
      refine TL_e rfl (Ef_call (text_c (b := x23.2) (k := ((((0 + 1) + 2) + 2) + 2) + 32) (m := 65536) (by omega) (by omega) (by decide)) rfl (fun x67 => ?_))
      obtain ⟨e1, e2, e3, hd6, hle6⟩ := rdText_at hd32 (by omega) (by omega : (v.batch.length : Int) ≤ 65536)
      rw [e1, e2, e3]
      refine TL_q (Qt_move (.tuple _) rfl) rfl ?_
      refine TL_q (Qt_extract rfl) rfl ?_
      refine TL_q (Qt_extract rfl) rfl ?_
      refine TL_q (Qt_fieldAddr 36 rfl rfl) rfl ?_
      refine TL_n (Ef_store1 (.slice _ _ _) rfl rfl (?_))
      refine TL_q (Qt_assign (.int .i64 _) rfl) rfl ?_
      refine TL_nil ?_
      refine X_then ?_
      refine T_seq ?_
      refine T_region ?_
      refine TL_q (Qt_move (.int .i64 _) rfl) rfl ?_
      refine TL_q (Qt_neq rfl rfl) rfl ?_
      refine TL_nil ?_
      refine X_then ?_
      refine T_cond_false rfl (by first | rfl | decide) ?_
      refine T_skip ?_
      refine X_then ?_
      refine T_seq ?_
      refine T_region ?_
      refine TL_q (Qt_move (.pointer _) rfl) rfl ?_
      refine TL_frontB x23.1 ?_
      refine TL_e rfl (Ef_call (count_c (b := x23.2) (k := ((((0 + 1) + 2) + 2) + 2) + 32 + (textB v.batch).length) (m := 16) (by omega) (by omega) (by decide)) rfl (fun x77 => ?_))
      obtain ⟨e1, e2, e3, hd7, hle7⟩ := rdCount_at hd6 (by omega) (by omega : (v.cert.length : Int) ≤ 16)
      rw [e1, e2, e3]
      refine TL_q (Qt_move (.tuple _) rfl) rfl ?_
      refine TL_q (Qt_extract rfl) rfl ?_
      refine TL_q (Qt_extract rfl) rfl ?_
      refine TL_q (Qt_assign (.int .i64 _) rfl) rfl ?_
      refine TL_q (Qt_assign (.int .i64 _) rfl) rfl ?_
      refine TL_nil ?_
      refine X_then ?_
      refine T_seq ?_
      refine T_seq ?_
      refine T_region ?_
      refine TL_q (Qt_move (.int .i64 _) rfl) rfl ?_
      refine TL_q (Qt_neq rfl rfl) rfl ?_
      refine TL_nil ?_
      refine X_then ?_
      refine T_cond_false rfl (by first | rfl | decide) ?_
      refine T_skip ?_
      refine X_then ?_
      refine T_seq ?_
      refine T_seq ?_
      refine T_region ?_
      refine TL_q (Qt_move (.int .i64 _) rfl) rfl ?_
      refine TL_q (Qt_move (.int .i64 _) rfl) rfl ?_
      refine TL_nil ?_
      refine X_then ?_
      refine T_block ?_
      refine T_loop [3, 16, 17, 85, 86, 87, 88, 89, 90, 91, 92, 93, 94, 95, 96, 97, 98, 99, 100, 101, 102] [85] (fun us H' => ∃ (k : Nat) (q : Nat) (a : Option Addr) (c : Nat) (ls : List BS) (fp : List Nat), us = [.int .i64 (k : Int)] ∧ row (.slice a ls.length c) 41 1 (ls.map BS.val) :: eachA fp ls :: blk x23.1 (.cells (ReaderV.mk x23.2 ((q : Nat) : Int)).cells 167 (0, 0)) :: blk b5 (.cells (VoteV.mk (kn : Int) (vn : Int) (rn : Int) (sn : Int) v.hash ⟨x67.a, x67.c, v.batch⟩ ⟨a, c, ls⟩).cells 44 (0, 0)) :: row (.slice x67.a v.batch.length x67.c) 5 1 (bytesV v.batch) :: blk b2 (.cells VoteV.zero.cells 44 (0, 0)) :: row (.slice x23.2.a x23.2.l.length x23.2.c) 5 1 (bytesV x23.2.l) :: H = H' ∧ k ≤ v.cert.length ∧ (x23.2.l.drop q = texts (v.cert.drop k)) ∧ (ls.map BS.l = v.cert.take k) ∧ (q ≤ x23.2.l.length)) (fun us => match us with | .int _ i :: _ => v.cert.length - i.toNat | _ => 0) ⟨0, (((((0 + 1) + 2) + 2) + 2) + 32 + (textB v.batch).length + (packed v.cert.length).length), none, 0, [], [], rfl, rfl, by omega, hd7, rfl, hle7⟩ (fun w hw => by
            have h0 : St w0 (blk x23.1 (.cells (ReaderV.mk x23.2 (((((((0 + 1) + 2) + 2) + 2) + 32 + (textB v.batch).length + (packed v.cert.length).length) : Nat) : Int)).cells 167 (0, 0)) :: blk b5 (.cells (VoteV.mk (kn : Int) (vn : Int) (rn : Int) (sn : Int) v.hash ⟨x67.a, x67.c, v.batch⟩ ⟨none, 0, []⟩).cells 44 (0, 0)) :: row (.slice x67.a v.batch.length x67.c) 5 1 (bytesV v.batch) :: blk b2 (.cells VoteV.zero.cells 44 (0, 0)) :: row (.slice x23.2.a x23.2.l.length x23.2.c) 5 1 (bytesV x23.2.l) :: H) w := Subs.st inferInstance w hw
            exact (h0.eachNil).addNil 41 1) ?_
      rintro τ2 _ _  ⟨k, q, a, c, ls, fp, rfl, rfl, hk0, hdq, hls, hqe⟩ _
      have hll : ls.length = k := by have := congrArg List.length hls; simp at this; omega
      refine T_seq ?_
      refine T_region ?_
      refine TL_q (Qt_lss rfl rfl) rfl ?_
      refine TL_nil ?_
      refine X_then ?_
      refine T_seq ?_
      refine T_cond rfl (fun h86 => ?_) (fun h86 => ?_)
      ·
        have p86 := h86
        try simp only [decide_eq_true_eq, decide_eq_false_iff_not, Bool.not_eq_true', Bool.not_eq_false', Option.isNone_iff_eq_none, ne_eq, Decidable.not_not, Int.not_lt, Int.not_le] at p86
        have hk : k < v.cert.length := by omega
        refine T_skip ?_
        refine X_then ?_
        refine T_seq ?_
        refine T_block ?_
        refine T_seq ?_
        refine T_region ?_
        refine TL_q (Qt_move (.pointer _) rfl) rfl ?_
        refine TL_frontB x23.1 ?_
        have hdk : x23.2.l.drop q = textB v.cert[k] ++ texts (v.cert.drop (k + 1)) := by rw [hdq, ← texts_cons]; congr 1; exact List.drop_eq_getElem_cons hk
        have hck := htl.2 v.cert[k] (List.getElem_mem hk)
        refine TL_e rfl (Ef_call (text_c (b := x23.2) (k := q) (m := 65536) (by omega) (by omega) (by decide)) rfl (fun x89 => ?_))
        obtain ⟨e1, e2, e3, hd8, hle8⟩ := rdText_at hdk (by omega) (by omega : (v.cert[k].length : Int) ≤ 65536)
        rw [e1, e2, e3]
        refine TL_q (Qt_move (.tuple _) rfl) rfl ?_
        refine TL_q (Qt_extract rfl) rfl ?_
        refine TL_q (Qt_extract rfl) rfl ?_
        refine TL_q (Qt_assign (.slice _ _ _) rfl) rfl ?_
        refine TL_q (Qt_assign (.int .i64 _) rfl) rfl ?_
        refine TL_nil ?_
        refine X_then ?_
        refine T_seq ?_
        refine T_seq ?_
        refine T_region ?_
        refine TL_q (Qt_move (.int .i64 _) rfl) rfl ?_
        refine TL_q (Qt_neq rfl rfl) rfl ?_
        refine TL_nil ?_
        refine X_then ?_
        refine T_cond_false rfl (by first | rfl | decide) ?_
        refine T_skip ?_
        refine X_then ?_
        refine T_region ?_
        refine TL_q (Qt_fieldAddr 37 rfl rfl) rfl ?_
        refine TL_q (Qt_load1 rfl) rfl ?_
        refine TL_q (Qt_move (.slice _ _ _) rfl) rfl ?_
        refine TL_e rfl (Ef_slice1 (v := .slice _ _ _) rfl (fun a99 c99 => ?_))
        refine TL_e rfl (Ef_appendP (sv := .slice _ _ _) (xv := .slice _ _ _) ⟨x89.a, x89.c, v.cert[k]⟩ rfl rfl (by omega) rfl (fun a100 c100 => ?_))
        refine TL_q (Qt_fieldAddr 37 rfl rfl) rfl ?_
        refine TL_n (Ef_store1 (.slice _ _ _) rfl rfl (?_))
        refine TL_nil ?_
        refine X_block ?_
        refine X_then ?_
        refine T_region ?_
        first
          | refine TL_q (Qt_add rfl rfl (by omega) (by omega)) rfl ?_
          | refine TL_q (Qt_addw rfl rfl) rfl ?_
        refine TL_q (Qt_move (.int .i64 _) rfl) rfl ?_
        refine TL_nil ?_
        refine X_loop _ (by repeat (first | with_reducible exact agree_refl | refine agree_upd rfl ?_ | refine agree_mix rfl ?_ | refine agree_setAll rfl ?_)) (⟨k + 1, _, a100, c100, ls ++ [⟨x89.a, x89.c, v.cert[k]⟩], rowFp (.slice x89.a v.cert[k].length x89.c) ++ fp, rfl, rfl, by omega, hd8, by rw [List.map_append, hls, take_get _ _ hk]; rfl, hle8⟩) (by show v.cert.length - (k + 1 : Int).toNat < v.cert.length - (k : Int).toNat; omega) (fun w hw => by
                have h1 : St w0 (row (.slice a100 (ls ++ [(⟨x89.a, x89.c, v.cert[k]⟩ : BS)]).length c100) 41 1 ((ls ++ [(⟨x89.a, x89.c, v.cert[k]⟩ : BS)]).map BS.val) :: row (BS.val ⟨x89.a, x89.c, v.cert[k]⟩) 5 1 (bytesV (BS.l ⟨x89.a, x89.c, v.cert[k]⟩)) :: eachA fp ls :: blk x23.1 (.cells (ReaderV.mk x23.2 ((q + (textB v.cert[k]).length : Nat) : Int)).cells 167 (0, 0)) :: blk b5 (.cells (VoteV.mk (kn : Int) (vn : Int) (rn : Int) (sn : Int) v.hash ⟨x67.a, x67.c, v.batch⟩ ⟨a100, c100, ls ++ [⟨x89.a, x89.c, v.cert[k]⟩]⟩).cells 44 (0, 0)) :: row (.slice x67.a v.batch.length x67.c) 5 1 (bytesV v.batch) :: blk b2 (.cells VoteV.zero.cells 44 (0, 0)) :: row (.slice x23.2.a x23.2.l.length x23.2.c) 5 1 (bytesV x23.2.l) :: H) w := Subs.st inferInstance w hw
                exact eachUnder h1)
      ·
        have p86 := h86
        try simp only [decide_eq_true_eq, decide_eq_false_iff_not, Bool.not_eq_true', Bool.not_eq_false', Option.isNone_iff_eq_none, ne_eq, Decidable.not_not, Int.not_lt, Int.not_le] at p86
        have hk : k = v.cert.length := by omega
        rw [hk, List.drop_length] at hdq
        rw [hk, List.take_length] at hls
        have hql : x23.2.l.length ≤ q := List.drop_eq_nil_iff.1 hdq
        have hfu : formedB ((VoteV.mk (kn : Int) (vn : Int) (rn : Int) (sn : Int) v.hash ⟨x67.a, x67.c, v.batch⟩ ⟨a, c, ls⟩)).abs = true := by
          rw [show ((VoteV.mk (kn : Int) (vn : Int) (rn : Int) (sn : Int) v.hash ⟨x67.a, x67.c, v.batch⟩ ⟨a, c, ls⟩)).abs = v from by simp only [VoteV.abs, hls, ← h1k, ← h2k, ← h3k, ← h4k]]; exact hf
        refine T_exit ?_
        refine X_then_exit ?_
        refine X_loop_exit ?_
        refine X_block_exit ?_
        refine X_then ?_
        refine T_seq ?_
        refine T_block ?_
        refine T_seq ?_
        refine T_region ?_
        refine TL_q (Qt_move (.pointer _) rfl) rfl ?_
        refine TL_frontB x23.1 ?_
        refine TL_e rfl (Ef_call (done_c (b := x23.2) (k := q) (by omega) (by omega)) rfl (fun x105 => ?_))
        rw [if_neg (show ¬ q < x23.2.l.length by omega)]
        refine TL_q (Qt_neq rfl rfl) rfl ?_
        refine TL_q (Qt_assign (.bool _) rfl) rfl ?_
        refine TL_nil ?_
        refine X_then ?_
        refine T_cond_false rfl (by first | rfl | decide) ?_
        refine T_seq ?_
        refine T_region ?_
        refine TL_q (Qt_loadN rfl rfl) rfl ?_
        refine TL_e rfl (Ef_call (formed_c (v := (VoteV.mk (kn : Int) (vn : Int) (rn : Int) (sn : Int) v.hash ⟨x67.a, x67.c, v.batch⟩ ⟨a, c, ls⟩))) rfl (fun x110 => ?_))
        refine TL_q (Qt_not rfl) rfl ?_
        refine TL_q (Qt_assign (.bool _) rfl) rfl ?_
        refine TL_nil ?_
        refine X_then ?_
        refine T_cond rfl (fun h108 => ?_) (fun h108 => ?_)
        ·
          have p108 := h108
          try simp only [decide_eq_true_eq, decide_eq_false_iff_not, Bool.not_eq_true', Bool.not_eq_false', Option.isNone_iff_eq_none, ne_eq, Decidable.not_not, Int.not_lt, Int.not_le] at p108
          exact absurd h108 (by rw [hfu]; simp)
        ·
          have p108 := h108
          try simp only [decide_eq_true_eq, decide_eq_false_iff_not, Bool.not_eq_true', Bool.not_eq_false', Option.isNone_iff_eq_none, ne_eq, Decidable.not_not, Int.not_lt, Int.not_le] at p108
          refine T_skip ?_
          refine X_block ?_
          refine X_then ?_
          refine T_seq ?_
          refine T_region ?_
          refine TL_q (Qt_loadN rfl rfl) rfl ?_
          refine TL_n (Ef_storeN rfl rfl (?_))
          refine TL_q (Qt_assign (.int .i64 _) rfl) rfl ?_
          refine TL_nil ?_
          refine X_then ?_
          refine T_ret ?_
          refine X_conv (fun w hw => St.datMk (fp := fp) (v := (VoteV.mk (kn : Int) (vn : Int) (rn : Int) (sn : Int) v.hash ⟨x67.a, x67.c, v.batch⟩ ⟨a, c, ls⟩)) (H := blk b2 (.cells ((VoteV.mk (kn : Int) (vn : Int) (rn : Int) (sn : Int) v.hash ⟨x67.a, x67.c, v.batch⟩ ⟨a, c, ls⟩)).cells 44 (0, 0)) :: H) (Subs.st inferInstance w hw)) (fun fp2 => ?_)
          exact X_ret ((VoteV.mk (kn : Int) (vn : Int) (rn : Int) (sn : Int) v.hash ⟨x67.a, x67.c, v.batch⟩ ⟨a, c, ls⟩), fp2) [_, _] Tryz.results67 ⟨⟨_, rfl, res_cellN rfl⟩, rfl, trivial⟩ rfl (fun w hw => (Subs.st inferInstance w hw : St w0 (datV fp2 [_] :: H) w).addPure (by simp only [VoteV.abs, hls, ← h1k, ← h2k, ← h3k, ← h4k]))
end Go.Proofs.YtgeknnclmhfjlaaGreatDoor
