/- Walks: the reader of package wire, which gives up with a fault. -/
import Derived.Test.YtnijomppbgdmnaaWc
import Derived.Test.YtnijomppbgdmnaaSq
namespace Go.Proofs.Ytnijomppbgdmnaa
open Go.RowKit Go.Sx
set_option maxRecDepth 100000
set_option linter.unusedSimpArgs false
set_option linter.unusedVariables false

theorem rdFixed_fine {l : List UInt8} {n : Nat} (hn : wideB n = true) (h : (rdFixed l n).1 = 0) : (rdFixed l n).2.1 = beN (l.take n) ∧ (rdFixed l n).2.2 = n ∧ n ≤ l.length := by
  unfold rdFixed at h ⊢
  rw [if_neg (by simp [hn])] at h ⊢
  split at h
  · simp at h
  · rename_i h2
    rw [if_neg h2]
    exact ⟨rfl, rfl, by omega⟩
theorem rdFixed_bad {l : List UInt8} {n : Nat} (hn : wideB n = true) (h : (rdFixed l n).1 ≠ 0) : (rdFixed l n).1 = 1 ∧ l.length < n := by
  unfold rdFixed at h ⊢
  rw [if_neg (by simp [hn])] at h ⊢
  split at h
  · rename_i h2
    rw [if_pos h2]
    exact ⟨rfl, by omega⟩
  · simp at h
theorem beN_le2 {l : List UInt8} {n : Nat} (hn : n ≤ 2) : beN (l.take n) < 65536 := by
  have h1 := beN_lt (l.take n)
  have h2 : (l.take n).length ≤ 2 := by simp; omega
  have h3 : 256 ^ (l.take n).length ≤ 256 ^ 2 := Nat.pow_le_pow_right (by decide) h2
  omega
/-- What a fault panics with. -/
def errP (e : Int) : List PanicEntry := [{ v := .iface 85 (.int .i64 e), recovered := false }]
/-- So many texts, one behind the other: the error, the texts, how many bytes they take. -/
def prs : Nat → List UInt8 → Int × List (List UInt8) × Nat
  | 0, _ => (0, [], 0)
  | n + 1, l => if (rdText l 65536).1 ≠ 0 then ((rdText l 65536).1, [], 0) else
      if (prs n (l.drop (rdText l 65536).2.2)).1 ≠ 0 then ((prs n (l.drop (rdText l 65536).2.2)).1, [], 0)
      else (0, (rdText l 65536).2.1 :: (prs n (l.drop (rdText l 65536).2.2)).2.1, (rdText l 65536).2.2 + (prs n (l.drop (rdText l 65536).2.2)).2.2)
def partsR (l : List UInt8) : Int × List (List UInt8) × Nat :=
  if (rdCount l 16).1 ≠ 0 then ((rdCount l 16).1, [], 0) else
    if (prs (rdCount l 16).2.1 (l.drop (rdCount l 16).2.2)).1 ≠ 0 then ((prs (rdCount l 16).2.1 (l.drop (rdCount l 16).2.2)).1, [], 0)
    else (0, (prs (rdCount l 16).2.1 (l.drop (rdCount l 16).2.2)).2.1, (rdCount l 16).2.2 + (prs (rdCount l 16).2.1 (l.drop (rdCount l 16).2.2)).2.2)
/-- Behind some texts: what is told of all by what is told of the rest. -/
def PrsAt (l : List UInt8) (N k n : Nat) (ts : List (List UInt8)) (q0 q : Nat) : Prop :=
  prs N (l.drop q0) = if (prs n (l.drop q)).1 ≠ 0 then ((prs n (l.drop q)).1, [], 0) else (0, ts ++ (prs n (l.drop q)).2.1, (q - q0) + (prs n (l.drop q)).2.2)
theorem PrsAt.start {l : List UInt8} {N q : Nat} : PrsAt l N 0 N [] q q := by
  unfold PrsAt
  split
  · rename_i h
    cases N with
    | zero => simp [prs] at h
    | succ n =>
      unfold prs at h ⊢
      split
      · rfl
      · rw [if_neg (by assumption)] at h
        split
        · rfl
        · rw [if_neg (by assumption)] at h; simp at h
  · rename_i h
    have h0 : (prs N (l.drop q)).1 = 0 := by omega
    simp only [List.nil_append, Nat.sub_self, Nat.zero_add]
    rw [← h0]
theorem PrsAt.bad {l : List UInt8} {N k n : Nat} {ts : List (List UInt8)} {q0 q : Nat} (h : PrsAt l N k (n + 1) ts q0 q) (he : (rdText (l.drop q) 65536).1 ≠ 0) : (prs N (l.drop q0)).1 = (rdText (l.drop q) 65536).1 := by
  have e : prs (n + 1) (l.drop q) = ((rdText (l.drop q) 65536).1, [], 0) := by unfold prs; rw [if_pos he]
  rw [show prs N (l.drop q0) = _ from h, e, if_pos he]
theorem PrsAt.step {l : List UInt8} {N k n : Nat} {ts : List (List UInt8)} {q0 q : Nat} (h : PrsAt l N k (n + 1) ts q0 q) (hq : q0 ≤ q) (he : (rdText (l.drop q) 65536).1 = 0) :
    PrsAt l N (k + 1) n (ts ++ [(rdText (l.drop q) 65536).2.1]) q0 (q + (rdText (l.drop q) 65536).2.2) := by
  unfold PrsAt at h ⊢
  rw [h, ← List.drop_drop]
  have e : prs (n + 1) (l.drop q) = if (prs n ((l.drop q).drop (rdText (l.drop q) 65536).2.2)).1 ≠ 0 then ((prs n ((l.drop q).drop (rdText (l.drop q) 65536).2.2)).1, [], 0)
      else (0, (rdText (l.drop q) 65536).2.1 :: (prs n ((l.drop q).drop (rdText (l.drop q) 65536).2.2)).2.1, (rdText (l.drop q) 65536).2.2 + (prs n ((l.drop q).drop (rdText (l.drop q) 65536).2.2)).2.2) := by
    conv => lhs; unfold prs
    rw [if_neg (by omega)]
  rw [e]
  by_cases h1 : (prs n ((l.drop q).drop (rdText (l.drop q) 65536).2.2)).1 ≠ 0
  · simp only [if_pos h1]
  · simp only [if_neg h1, ne_eq, not_true_eq_false, if_false, List.append_assoc, List.cons_append, List.nil_append]
    congr 2
    omega
instance {v : Value} : SubAt #[v] 0 1 #[v] := ⟨rfl⟩
theorem prs_bound : ∀ (n : Nat) (l : List UInt8), (prs n l).2.2 ≤ l.length
  | 0, l => by simp [prs]
  | n + 1, l => by
    have h1 := (rdText_bound l 65536).1
    have h2 := prs_bound n (l.drop (rdText l 65536).2.2)
    rw [List.length_drop] at h2
    unfold prs
    split
    · simp
    · split
      · simp
      · simp only; omega
theorem partsR_bound (l : List UInt8) : (partsR l).2.2 ≤ l.length := by
  have h1 := (rdCount_bound l 16).2.1
  have h2 := prs_bound (rdCount l 16).2.1 (l.drop (rdCount l 16).2.2)
  rw [List.length_drop] at h2
  unfold partsR
  split
  · simp
  · split
    · simp
    · simp only; omega
theorem PrsAt.done {l : List UInt8} {N k : Nat} {ts : List (List UInt8)} {q0 q : Nat} (h : PrsAt l N k 0 ts q0 q) : prs N (l.drop q0) = (0, ts, q - q0) := by
  unfold PrsAt at h
  rw [h]
  simp [prs]

set_option maxHeartbeats 1000000 in
theorem need_c {w0 : World} {H : List SA} {e : Int} :
    CTP Try.prog w0 (H) 66 [.int .i64 e] (α := Unit) (β := Unit) (fun _ => .tuple #[]) (fun _ => pu (e = 0) :: H) (fun _ => errP e) (fun _ => pu (e ≠ 0) :: H) := by
  refine CTP_intro Try.func66 rfl Try.ntmps66 rfl ?_
  refine T_seq ?_
  refine T_region ?_
  refine TL_q (Qt_move (.int .i64 _) rfl) rfl ?_
  refine TL_q (Qt_neq rfl rfl) rfl ?_
  refine TL_nil ?_
  refine X_then ?_
  refine T_cond rfl (fun h3 => ?_) (fun h3 => ?_)
  ·
    have p3 := h3
    try simp only [decide_eq_true_eq, decide_eq_false_iff_not, Bool.not_eq_true', Bool.not_eq_false', Option.isNone_iff_eq_none, ne_eq, Decidable.not_not, Int.not_lt, Int.not_le] at p3
    refine T_region ?_
    refine TL_q (Qt_move (.int .i64 _) rfl) rfl ?_
    refine TL_q (Qt_makeIface rfl Try.underlying85) rfl ?_
    refine TL_nP (EfP_panic rfl (X_pan () rfl (fun w hw => hw.addPure p3)))
  ·
    have p3 := h3
    try simp only [decide_eq_true_eq, decide_eq_false_iff_not, Bool.not_eq_true', Bool.not_eq_false', Option.isNone_iff_eq_none, ne_eq, Decidable.not_not, Int.not_lt, Int.not_le] at p3
    refine T_skip ?_
    exact X_retP () [] Try.results66 trivial rfl (fun w hw => hw.addPure (by omega))
set_option maxHeartbeats 1000000 in
theorem number_c {w0 : World} {H : List SA} {p k : Nat} {b : BS} [rb : RdB w0 H (.slice b.a b.l.length b.c) b.l] (hk : k ≤ b.l.length) (hl : b.l.length ≤ 4294967296) {n : Nat} (hn : wideB n = true) (hn2 : n ≤ 2) :
    CTP Try.prog w0 (blk p (.cells (ReaderV.mk b (k : Int)).cells 126 (0, 0)) :: H) 63 [.agg #[.pointer (some ⟨p, 0, none⟩)], .int .i64 (n : Int)] (α := Unit) (β := Unit) (fun _ => .int .i64 ((beN ((b.l.drop k).take n) : Nat) : Int)) (fun _ => pu (k + n ≤ b.l.length) :: blk p (.cells (ReaderV.mk b ((k + n : Nat) : Int)).cells 126 (0, 0)) :: H) (fun _ => errP 1) (fun _ => pu (b.l.length < k + n) :: H) := by
  refine CTP_intro Try.func63 rfl Try.ntmps63 rfl ?_
  refine T_seq ?_
  refine T_region ?_
  refine TL_e rfl (Ef_boxN rfl (fun b2 => ?_))
  refine TL_q (Qt_assign (.int .i64 _) rfl) rfl ?_
  refine TL_nil ?_
  refine X_then ?_
  refine T_seq ?_
  refine T_region ?_
  refine TL_q (Qt_fieldAddr 0 rfl rfl) rfl ?_
  refine TL_q (Qt_load1 rfl) rfl ?_
  refine TL_q (Qt_move (.int .i64 _) rfl) rfl ?_
  refine TL_frontB p ?_
  refine TL_e rfl (Ef_call (fixed_c hk hl) rfl (fun x11 => ?_))
  refine TL_q (Qt_move (.tuple _) rfl) rfl ?_
  refine TL_q (Qt_extract rfl) rfl ?_
  refine TL_q (Qt_extract rfl) rfl ?_
  refine TL_q (Qt_assign (.int .u64 _) rfl) rfl ?_
  refine TL_q (Qt_assign (.int .i64 _) rfl) rfl ?_
  refine TL_nil ?_
  refine X_then ?_
  refine T_seq ?_
  refine T_region ?_
  refine TL_q (Qt_move (.int .i64 _) rfl) rfl ?_
  refine TL_eP rfl (EfP_call (need_c) rfl (fun x15 => ?_) (fun y => X_then_panic (X_pure fun hy => have hb := rdFixed_bad hn hy; X_pan () (by rw [hb.1]) (fun w hw => (Subs.st inferInstance w hw : St w0 H w).addPure (by have := hb.2; simp at this; omega)))))
  refine TL_pure (fun he => ?_)
  obtain ⟨e1, e0, e2⟩ := rdFixed_fine hn he
  have e3 : k + n ≤ b.l.length := by simp at e2; omega
  rw [e1, e0]
  have e4 := beN_le2 (l := b.l.drop k) hn2
  refine TL_nil ?_
  refine X_then ?_
  refine T_seq ?_
  refine T_region ?_
  refine TL_q (Qt_move (.int .u64 _) rfl) rfl ?_
  refine TL_q (Qt_conv_i64 rfl rfl Try.underlying3 (by omega) (by omega)) rfl ?_
  refine TL_q (Qt_assign (.int .i64 _) rfl) rfl ?_
  refine TL_nil ?_
  refine X_then ?_
  refine T_ret ?_
  exact X_retP () [_] Try.results63 ⟨rfl, trivial⟩ rfl (fun w hw => (Subs.st inferInstance w hw : St w0 (blk p (.cells (ReaderV.mk b ((k + n : Nat) : Int)).cells 126 (0, 0)) :: H) w).addPure e3)
set_option maxHeartbeats 1000000 in
theorem rtext_c {w0 : World} {H : List SA} {p k : Nat} {b : BS} [rb : RdB w0 H (.slice b.a b.l.length b.c) b.l] (hk : k ≤ b.l.length) (hl : b.l.length ≤ 4294967296) :
    CTP Try.prog w0 (blk p (.cells (ReaderV.mk b (k : Int)).cells 126 (0, 0)) :: H) 64 [.agg #[.pointer (some ⟨p, 0, none⟩)]] (α := AC) (β := Unit) (fun y => .slice y.a (rdText (b.l.drop k) 65536).2.1.length y.c) (fun y => pu ((rdText (b.l.drop k) 65536).1 = 0) :: row (.slice y.a (rdText (b.l.drop k) 65536).2.1.length y.c) 5 1 (bytesV (rdText (b.l.drop k) 65536).2.1) :: blk p (.cells (ReaderV.mk b ((k + (rdText (b.l.drop k) 65536).2.2 : Nat) : Int)).cells 126 (0, 0)) :: H) (fun _ => errP (rdText (b.l.drop k) 65536).1) (fun _ => pu ((rdText (b.l.drop k) 65536).1 ≠ 0) :: H) := by
  refine CTP_intro Try.func64 rfl Try.ntmps64 rfl ?_
  refine T_seq ?_
  refine T_region ?_
  refine TL_e rfl (Ef_boxN rfl (fun b1 => ?_))
  refine TL_q (Qt_assign (.slice _ _ _) rfl) rfl ?_
  refine TL_nil ?_
  refine X_then ?_
  refine T_seq ?_
  refine T_region ?_
  refine TL_q (Qt_fieldAddr 0 rfl rfl) rfl ?_
  refine TL_q (Qt_load1 rfl) rfl ?_
  refine TL_frontB p ?_
  refine TL_e rfl (Ef_call (text_c hk hl (by decide)) rfl (fun x8 => ?_))
  refine TL_q (Qt_move (.tuple _) rfl) rfl ?_
  refine TL_q (Qt_extract rfl) rfl ?_
  refine TL_q (Qt_extract rfl) rfl ?_
  refine TL_q (Qt_assign (.slice _ _ _) rfl) rfl ?_
  refine TL_q (Qt_assign (.int .i64 _) rfl) rfl ?_
  refine TL_nil ?_
  refine X_then ?_
  refine T_seq ?_
  refine T_region ?_
  refine TL_q (Qt_move (.int .i64 _) rfl) rfl ?_
  refine TL_eP rfl (EfP_call (need_c) rfl (fun x12 => ?_) (fun y => X_then_panic (X_pure fun hy => X_pan () rfl (fun w hw => (Subs.st inferInstance w hw : St w0 H w).addPure hy))))
  refine TL_pure (fun he => ?_)
  refine TL_nil ?_
  refine X_then ?_
  refine T_seq ?_
  refine T_region ?_
  refine TL_q (Qt_move (.slice _ _ _) rfl) rfl ?_
  refine TL_q (Qt_assign (.slice _ _ _) rfl) rfl ?_
  refine TL_nil ?_
  refine X_then ?_
  refine T_ret ?_
  exact X_retP x8 [_] Try.results64 ⟨rfl, trivial⟩ rfl (fun w hw => (Subs.st inferInstance w hw : St w0 (row (.slice x8.a (rdText (b.l.drop k) 65536).2.1.length x8.c) 5 1 (bytesV (rdText (b.l.drop k) 65536).2.1) :: blk p (.cells (ReaderV.mk b ((k + (rdText (b.l.drop k) 65536).2.2 : Nat) : Int)).cells 126 (0, 0)) :: H) w).addPure he)
set_option maxHeartbeats 1000000 in
theorem rparts_c {w0 : World} {H : List SA} {p k : Nat} {b : BS} [rb : RdB w0 H (.slice b.a b.l.length b.c) b.l] (hk : k ≤ b.l.length) (hl : b.l.length ≤ 4294967296) :
    CTP Try.prog w0 (blk p (.cells (ReaderV.mk b (k : Int)).cells 126 (0, 0)) :: H) 65 [.agg #[.pointer (some ⟨p, 0, none⟩)]] (α := PS × List Nat) (β := Unit) (fun y => .slice y.1.a y.1.ls.length y.1.c) (fun y => pu ((partsR (b.l.drop k)) = (0, y.1.ls.map BS.l, (partsR (b.l.drop k)).2.2)) :: row (.slice y.1.a y.1.ls.length y.1.c) 36 1 (y.1.ls.map BS.val) :: eachA y.2 y.1.ls :: blk p (.cells (ReaderV.mk b ((k + (partsR (b.l.drop k)).2.2 : Nat) : Int)).cells 126 (0, 0)) :: H) (fun _ => errP (partsR (b.l.drop k)).1) (fun _ => pu ((partsR (b.l.drop k)).1 ≠ 0) :: H) := by
  refine CTP_intro Try.func65 rfl Try.ntmps65 rfl ?_
  refine T_seq ?_
  refine T_region ?_
  refine TL_e rfl (Ef_boxN rfl (fun b1 => ?_))
  refine TL_q (Qt_assign (.slice _ _ _) rfl) rfl ?_
  refine TL_nil ?_
  refine X_then ?_
  refine T_seq ?_
  refine T_region ?_
  refine TL_q (Qt_fieldAddr 0 rfl rfl) rfl ?_
  refine TL_frontB p ?_
  refine TL_q (Qt_load1 rfl) rfl ?_
  refine TL_e rfl (Ef_call (count_c hk hl (m := 16) (by decide)) rfl (fun x9 => ?_))
  refine TL_q (Qt_move (.tuple _) rfl) rfl ?_
  refine TL_q (Qt_extract rfl) rfl ?_
  refine TL_q (Qt_extract rfl) rfl ?_
  refine TL_q (Qt_assign (.int .i64 _) rfl) rfl ?_
  refine TL_q (Qt_assign (.int .i64 _) rfl) rfl ?_
  refine TL_nil ?_
  refine X_then ?_
  refine T_seq ?_
  refine T_region ?_
  refine TL_q (Qt_move (.int .i64 _) rfl) rfl ?_
  refine TL_eP rfl (EfP_call (need_c) rfl (fun x13 => ?_) (fun y => X_then_panic (X_pure fun hy => X_pan () (by rw [partsR, if_pos hy]) (fun w hw => (Subs.st inferInstance w hw : St w0 H w).addPure (by rw [partsR, if_pos hy]; exact hy)))))
  refine TL_pure (fun he => ?_)
  have hn16 : (rdCount (b.l.drop k) 16).2.1 ≤ 16 := by have := (rdCount_ok he).2.1; rw [← (rdCount_ok he).1] at this; omega
  have hcb := (rdCount_bound (b.l.drop k) 16).2.1
  simp only [List.length_drop] at hcb
  refine TL_nil ?_
  refine X_then ?_
  refine T_seq ?_
  refine T_region ?_
  refine TL_q (Qt_assign (.slice _ _ _) rfl) rfl ?_
  refine TL_nil ?_
  refine X_then ?_
  refine T_seq ?_
  refine T_seq ?_
  refine T_region ?_
  refine TL_q (Qt_move (.int .i64 _) rfl) rfl ?_
  refine TL_q (Qt_move (.int .i64 _) rfl) rfl ?_
  refine TL_nil ?_
  refine X_then ?_
  refine T_block ?_
  refine T_loop [5, 15, 16, 17, 18, 19, 20, 21, 22] [15, 5] (fun us H' => ∃ (i : Nat) (q : Nat) (a : Option Addr) (c : Nat) (ls : List BS) (fp : List Nat), us = [.int .i64 (i : Int), .slice a ls.length c] ∧ row (.slice a (ls).length c) 36 1 ((ls).map BS.val) :: eachA fp ls :: blk p (.cells (ReaderV.mk b ((q : Nat) : Int)).cells 126 (0, 0)) :: blk b1 (.cells #[.pointer (some ⟨p, 0, none⟩)] 90 (0, 0)) :: H = H' ∧ i ≤ (rdCount (b.l.drop k) 16).2.1 ∧ (PrsAt b.l (rdCount (b.l.drop k) 16).2.1 i ((rdCount (b.l.drop k) 16).2.1 - i) (ls.map BS.l) (k + (rdCount (b.l.drop k) 16).2.2) q) ∧ (q ≤ b.l.length) ∧ (k + (rdCount (b.l.drop k) 16).2.2 ≤ q) ∧ (ls.length = i)) (fun us => match us with | .int _ i :: _ => (rdCount (b.l.drop k) 16).2.1 - i.toNat | _ => 0) ⟨0, k + (rdCount (b.l.drop k) 16).2.2, none, 0, [], [], rfl, rfl, by omega, PrsAt.start, by omega, Nat.le_refl _, rfl⟩ (fun w hw => by
        have h0 : St w0 (blk p (.cells (ReaderV.mk b ((k + (rdCount (b.l.drop k) 16).2.2 : Nat) : Int)).cells 126 (0, 0)) :: blk b1 (.cells #[.pointer (some ⟨p, 0, none⟩)] 90 (0, 0)) :: H) w := Subs.st inferInstance w hw
        exact (h0.eachNil).addNil 36 1) ?_
  rintro τ0 _ _  ⟨i, q, a, c, ls, fp, rfl, rfl, hi0, hp, hql, hkq, hll⟩ _
  refine T_seq ?_
  refine T_region ?_
  refine TL_q (Qt_lss rfl rfl) rfl ?_
  refine TL_nil ?_
  refine X_then ?_
  refine T_seq ?_
  refine T_cond rfl (fun h16 => ?_) (fun h16 => ?_)
  ·
    have p16 := h16
    try simp only [decide_eq_true_eq, decide_eq_false_iff_not, Bool.not_eq_true', Bool.not_eq_false', Option.isNone_iff_eq_none, ne_eq, Decidable.not_not, Int.not_lt, Int.not_le] at p16
    have hi : i < (rdCount (b.l.drop k) 16).2.1 := by omega
    obtain ⟨r, hr⟩ : ∃ r, (rdCount (b.l.drop k) 16).2.1 - i = r + 1 := ⟨(rdCount (b.l.drop k) 16).2.1 - i - 1, by omega⟩
    rw [hr] at hp
    refine T_skip ?_
    refine X_then ?_
    refine T_seq ?_
    refine T_block ?_
    refine T_region ?_
    refine TL_q (Qt_move (.slice _ _ _) rfl) rfl ?_
    refine TL_q (Qt_loadN rfl rfl) rfl ?_
    refine TL_frontB p ?_
    refine TL_eP rfl (EfP_call (rtext_c (k := q) hql hl) rfl (fun x19 => ?_) (fun y => X_block_panic (X_then_panic (X_loop_panic (X_block_panic (X_then_panic (X_pure fun hy => have hb := hp.bad hy; have hz : (prs (rdCount (b.l.drop k) 16).2.1 ((b.l.drop k).drop (rdCount (b.l.drop k) 16).2.2)).1 ≠ 0 := (by rw [List.drop_drop, hb]; exact hy); have hx : (partsR (b.l.drop k)).1 = (rdText (b.l.drop q) 65536).1 := (by rw [partsR, if_neg (by omega), if_pos hz, List.drop_drop, hb]); X_pan () (by rw [hx]) (fun w hw => (Subs.st inferInstance w hw : St w0 H w).addPure (by rw [hx]; exact hy)))))))))
    refine TL_pure (fun het => ?_)
    have htb := (rdText_bound (b.l.drop q) 65536).1
    simp only [List.length_drop] at htb
    refine TL_e rfl (Ef_slice1 (v := .slice _ _ _) rfl (fun a20 c20 => ?_))
    refine TL_e rfl (Ef_appendP (sv := .slice _ _ _) (xv := .slice _ _ _) ⟨x19.a, x19.c, (rdText (b.l.drop q) 65536).2.1⟩ rfl rfl (by omega) rfl (fun a21 c21 => ?_))
    refine TL_q (Qt_assign (.slice _ _ _) rfl) rfl ?_
    refine TL_nil ?_
    refine X_block ?_
    refine X_then ?_
    refine T_region ?_
    first
      | refine TL_q (Qt_add rfl rfl (by omega) (by omega)) rfl ?_
      | refine TL_q (Qt_addw rfl rfl) rfl ?_
    refine TL_q (Qt_move (.int .i64 _) rfl) rfl ?_
    refine TL_nil ?_
    apply X_loop
    case ha => exact (by repeat (first | with_reducible exact agree_refl | refine agree_upd rfl ?_ | refine agree_mix rfl ?_ | refine agree_setAll rfl ?_))
    case hI => exact ⟨i + 1, _, a21, c21, ls ++ [⟨x19.a, x19.c, (rdText (b.l.drop q) 65536).2.1⟩], rowFp (.slice x19.a (rdText (b.l.drop q) 65536).2.1.length x19.c) ++ fp, rfl, rfl, by omega, by rw [show (rdCount (b.l.drop k) 16).2.1 - (i + 1) = r from by omega, List.map_append]; exact hp.step hkq het, by omega, by omega, by simp [hll]⟩
    case hm => exact by show (rdCount (b.l.drop k) 16).2.1 - (i + 1 : Int).toNat < (rdCount (b.l.drop k) 16).2.1 - (i : Int).toNat; omega
    case hH => exact fun w hw => eachUnder (Subs.st inferInstance w hw : St w0 (row (.slice a21 (ls ++ [(⟨x19.a, x19.c, (rdText (b.l.drop q) 65536).2.1⟩ : BS)]).length c21) 36 1 ((ls ++ [(⟨x19.a, x19.c, (rdText (b.l.drop q) 65536).2.1⟩ : BS)]).map BS.val) :: row (BS.val ⟨x19.a, x19.c, (rdText (b.l.drop q) 65536).2.1⟩) 5 1 (bytesV (BS.l ⟨x19.a, x19.c, (rdText (b.l.drop q) 65536).2.1⟩)) :: eachA fp ls :: blk p (.cells (ReaderV.mk b ((q + (rdText (b.l.drop q) 65536).2.2 : Nat) : Int)).cells 126 (0, 0)) :: blk b1 (.cells #[.pointer (some ⟨p, 0, none⟩)] 90 (0, 0)) :: H) w)
  ·
    have p16 := h16
    try simp only [decide_eq_true_eq, decide_eq_false_iff_not, Bool.not_eq_true', Bool.not_eq_false', Option.isNone_iff_eq_none, ne_eq, Decidable.not_not, Int.not_lt, Int.not_le] at p16
    have hi : i = (rdCount (b.l.drop k) 16).2.1 := by omega
    rw [hi, Nat.sub_self] at hp
    have hd := hp.done
    have hx : (partsR (b.l.drop k)) = (0, ls.map BS.l, (rdCount (b.l.drop k) 16).2.2 + (q - (k + (rdCount (b.l.drop k) 16).2.2))) := by rw [partsR, if_neg (by omega), List.drop_drop, hd]; rfl
    have hqe : q = k + (partsR (b.l.drop k)).2.2 := by rw [hx]; show q = k + ((rdCount (b.l.drop k) 16).2.2 + (q - (k + (rdCount (b.l.drop k) 16).2.2))); omega
    refine T_exit ?_
    refine X_then_exit ?_
    refine X_loop_exit ?_
    refine X_block_exit ?_
    refine X_then ?_
    refine T_seq ?_
    refine T_region ?_
    refine TL_q (Qt_move (.slice _ _ _) rfl) rfl ?_
    refine TL_q (Qt_assign (.slice _ _ _) rfl) rfl ?_
    refine TL_nil ?_
    refine X_then ?_
    refine T_ret ?_
    rw [hqe]
    exact X_retP (⟨a, c, ls⟩, fp) [_] Try.results65 ⟨rfl, trivial⟩ rfl (fun w hw => (Subs.st inferInstance w hw : St w0 (row (.slice a ls.length c) 36 1 (ls.map BS.val) :: eachA fp ls :: blk p (.cells (ReaderV.mk b ((k + (partsR (b.l.drop k)).2.2 : Nat) : Int)).cells 126 (0, 0)) :: H) w).addPure (by rw [hx]))
end Go.Proofs.Ytnijomppbgdmnaa
