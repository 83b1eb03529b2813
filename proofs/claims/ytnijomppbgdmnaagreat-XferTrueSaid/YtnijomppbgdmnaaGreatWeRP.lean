/- Walks: the reader of package wire, which gives up with a fault. -/
import Derived.Test.YtnijomppbgdmnaaGreatSgP
import Derived.Test.YtnijomppbgdmnaaGreatMcRP
import Derived.Test.YtnijomppbgdmnaaGreatSqP
import Derived.Test.YtnijomppbgdmnaaGreatSrP
set_option linter.unusedSimpArgs false
set_option linter.unusedVariables false
namespace Go.Proofs.YtnijomppbgdmnaaGreat
section
open Go.RowKit Go.Sx
set_option maxRecDepth 100000
set_option maxHeartbeats 1000000

theorem rdFixed_fine {l : List UInt8} {n : Nat} (hn : wideB n = true) (h : (rdFixed l n).1 = 0) : (rdFixed l n).2.1 = beN (l.take n) ∧ (rdFixed l n).2.2 = n ∧ n ≤ l.length := by
 unfold rdFixed at h ⊢
 rw [if_neg (by simp [hn])] at h ⊢
 split at h
 · simp at h
 · rename_i h2
   rw [if_neg h2]
   exact ⟨rfl, rfl, by omega⟩
theorem rdFixed_bad {l : List UInt8} {n : Nat} (hn : wideB n = true) (h : (rdFixed l n).1 ≠ 0) : (rdFixed l n).1 = 1 ∧ l.length < n := by
 unfold rdFixed at h ⊢
 rw [if_neg (by simp [hn])] at h ⊢
 split at h
 · rename_i h2
   rw [if_pos h2]
   exact ⟨rfl, by omega⟩
 · simp at h
theorem beN_le2 {l : List UInt8} {n : Nat} (hn : n ≤ 2) : beN (l.take n) < 65536 := by
 have h1 := beN_lt (l.take n)
 have h2 : (l.take n).length ≤ 2 := by simp; omega
 have h3 : 256 ^ (l.take n).length ≤ 256 ^ 2 := Nat.pow_le_pow_right (by decide) h2
 omega
/-- What a fault panics with. -/
def errP (e : Int) : List PanicEntry := [{ v := .iface 244 (.int .i64 e), recovered := false }]
/-- So many texts, one behind the other: the error, the texts, how many bytes they take. -/
def prs : Nat → List UInt8 → Int × List (List UInt8) × Nat
 | 0, _ => (0, [], 0)
 | n + 1, l => if (rdText l 65536).1 ≠ 0 then ((rdText l 65536).1, [], 0) else
  if (prs n (l.drop (rdText l 65536).2.2)).1 ≠ 0 then ((prs n (l.drop (rdText l 65536).2.2)).1, [], 0)
  else (0, (rdText l 65536).2.1 :: (prs n (l.drop (rdText l 65536).2.2)).2.1, (rdText l 65536).2.2 + (prs n (l.drop (rdText l 65536).2.2)).2.2)
def partsR (l : List UInt8) : Int × List (List UInt8) × Nat :=
 if (rdCount l 16).1 ≠ 0 then ((rdCount l 16).1, [], 0) else
  if (prs (rdCount l 16).2.1 (l.drop (rdCount l 16).2.2)).1 ≠ 0 then ((prs (rdCount l 16).2.1 (l.drop (rdCount l 16).2.2)).1, [], 0)
  else (0, (prs (rdCount l 16).2.1 (l.drop (rdCount l 16).2.2)).2.1, (rdCount l 16).2.2 + (prs (rdCount l 16).2.1 (l.drop (rdCount l 16).2.2)).2.2)
/-- Behind some texts: what is told of all by what is told of the rest. -/
def PrsAt (l : List UInt8) (N k n : Nat) (ts : List (List UInt8)) (q0 q : Nat) : Prop :=
 prs N (l.drop q0) = if (prs n (l.drop q)).1 ≠ 0 then ((prs n (l.drop q)).1, [], 0) else (0, ts ++ (prs n (l.drop q)).2.1, (q - q0) + (prs n (l.drop q)).2.2)
theorem PrsAt.start {l : List UInt8} {N q : Nat} : PrsAt l N 0 N [] q q := by
 unfold PrsAt
 split
 · rename_i h
   cases N with
   | zero => simp [prs] at h
   | succ n =>
    unfold prs at h ⊢
    split
    · rfl
    · rw [if_neg (by assumption)] at h
      split
      · rfl
      · rw [if_neg (by assumption)] at h; simp at h
 · rename_i h
   have h0 : (prs N (l.drop q)).1 = 0 := by omega
   simp only [List.nil_append, Nat.sub_self, Nat.zero_add]
   rw [← h0]
theorem PrsAt.bad {l : List UInt8} {N k n : Nat} {ts : List (List UInt8)} {q0 q : Nat} (h : PrsAt l N k (n + 1) ts q0 q) (he : (rdText (l.drop q) 65536).1 ≠ 0) : (prs N (l.drop q0)).1 = (rdText (l.drop q) 65536).1 := by
 have e : prs (n + 1) (l.drop q) = ((rdText (l.drop q) 65536).1, [], 0) := by unfold prs; rw [if_pos he]
 rw [show prs N (l.drop q0) = _ from h, e, if_pos he]
theorem PrsAt.step {l : List UInt8} {N k n : Nat} {ts : List (List UInt8)} {q0 q : Nat} (h : PrsAt l N k (n + 1) ts q0 q) (hq : q0 ≤ q) (he : (rdText (l.drop q) 65536).1 = 0) :
 PrsAt l N (k + 1) n (ts ++ [(rdText (l.drop q) 65536).2.1]) q0 (q + (rdText (l.drop q) 65536).2.2) := by
 unfold PrsAt at h ⊢
 rw [h, ← List.drop_drop]
 have e : prs (n + 1) (l.drop q) = if (prs n ((l.drop q).drop (rdText (l.drop q) 65536).2.2)).1 ≠ 0 then ((prs n ((l.drop q).drop (rdText (l.drop q) 65536).2.2)).1, [], 0)
  else (0, (rdText (l.drop q) 65536).2.1 :: (prs n ((l.drop q).drop (rdText (l.drop q) 65536).2.2)).2.1, (rdText (l.drop q) 65536).2.2 + (prs n ((l.drop q).drop (rdText (l.drop q) 65536).2.2)).2.2) := by
  conv => lhs; unfold prs
  rw [if_neg (by omega)]
 rw [e]
 by_cases h1 : (prs n ((l.drop q).drop (rdText (l.drop q) 65536).2.2)).1 ≠ 0
 · simp only [if_pos h1]
 · simp only [if_neg h1, ne_eq, not_true_eq_false, if_false, List.append_assoc, List.cons_append, List.nil_append]
   congr 2
   omega
instance {v : Value} : SubAt #[v] 0 1 #[v] := ⟨rfl⟩
theorem prs_bound : ∀ (n : Nat) (l : List UInt8), (prs n l).2.2 ≤ l.length
 | 0, l => by simp [prs]
 | n + 1, l => by
  have h1 := (rdText_bound l 65536).1
  have h2 := prs_bound n (l.drop (rdText l 65536).2.2)
  rw [List.length_drop] at h2
  unfold prs
  split
  · simp
  · split
    · simp
    · simp only; omega
theorem partsR_bound (l : List UInt8) : (partsR l).2.2 ≤ l.length := by
 have h1 := (rdCount_bound l 16).2.1
 have h2 := prs_bound (rdCount l 16).2.1 (l.drop (rdCount l 16).2.2)
 rw [List.length_drop] at h2
 unfold partsR
 split
 · simp
 · split
   · simp
   · simp only; omega
theorem PrsAt.done {l : List UInt8} {N k : Nat} {ts : List (List UInt8)} {q0 q : Nat} (h : PrsAt l N k 0 ts q0 q) : prs N (l.drop q0) = (0, ts, q - q0) := by
 unfold PrsAt at h
 rw [h]
 simp [prs]

theorem need_c {w0 : World} {H : List SA} {e : Int} :
 CTP Tryz.prog w0 (H) 174 [.int .i64 e] (α := Unit) (β := Unit) (fun _ => .tuple #[]) (fun _ => pu (e = 0) :: H) (fun _ => errP e) (fun _ => pu (e ≠ 0) :: H) := by
 refine CTP_intro Tryz.func174 rfl Tryz.ntmps174 rfl (T2 (Qmi rfl rfl (zy (Qt_neq rfl rfl) (TX (zC rfl (fun h3 => ?_) (fun h3 => ?_))))))
 ·
  have p3 := cL h3
  refine zR (Qmi rfl rfl (zy (Qt_makeIface rfl Tryz.underlying244) ?_))
  refine TL_nP (EfP_panic rfl (X_pan () rfl (fun w hw => hw.addPure p3)))
 have p3 := cL h3
 refine zk ?_
 exact X_retP () [] Tryz.results174 trivial rfl (fun w hw => hw.addPure (by omega))
theorem number_c {w0 : World} {H : List SA} {p k : Nat} {b : BS} [rb : RdB w0 H (.slice b.a b.l.length b.c) b.l] (hk : k ≤ b.l.length) (hl : b.l.length ≤ 4294967296) {n : Nat} (hn : wideB n = true) (hn2 : n ≤ 2) :
 CTP Tryz.prog w0 (blk p (.cells (ReaderV.mk b (k : Int)).cells 222 (0, 0)) :: H) 171 [.agg #[.pointer (some ⟨p, 0, none⟩)], .int .i64 (n : Int)] (α := Unit) (β := Unit) (fun _ => .int .i64 ((beN ((b.l.drop k).take n) : Nat) : Int)) (fun _ => pu (k + n ≤ b.l.length) :: blk p (.cells (ReaderV.mk b ((k + n : Nat) : Int)).cells 222 (0, 0)) :: H) (fun _ => errP 1) (fun _ => pu (b.l.length < k + n) :: H) := by
 refine CTP_intro Tryz.func171 rfl Tryz.ntmps171 rfl (T2 (ze rfl (Ef_boxN rfl (fun b2 => ?_))))
 refine Qai rfl rfl (T4 (zy (zf 0 rfl rfl) (zy (zl rfl) (Qmi rfl rfl (TL_frontB p (ze rfl (zc (fixed_c hk hl) rfl (fun x11 => ?_))))))))
 refine zy (zm (.tuple _) rfl) (zy (Qt_extract rfl) (zy (Qt_extract rfl) (zy (za (.int .u64 _) rfl) (Qai rfl rfl (T4 (Qmi rfl rfl (TL_eP rfl (EfP_call (need_c) rfl (fun x15 => ?_) (fun y => X_then_panic (X_pure fun hy => have hb := rdFixed_bad hn hy; X_pan () (by rw [hb.1]) (fun w hw => (SB w hw : St w0 H w).addPure (by have := hb.2; simp at this; omega))))))))))))
 refine TL_pure (fun he => ?_)
 obtain ⟨e1, e0, e2⟩ := rdFixed_fine hn he
 have e3 : k + n ≤ b.l.length := by simp at e2; omega
 rw [e1, e0]
 have e4 := beN_le2 (l := b.l.drop k) hn2
 refine T4 (zy (zm (.int .u64 _) rfl) (zy (Qt_conv_i64 rfl rfl Tryz.underlying3 (by omega) (by omega)) (Qai rfl rfl (TX (zQ ?_)))))
 exact X_retP () [_] Tryz.results171 ⟨rfl, trivial⟩ rfl (fun w hw => (SB w hw : St w0 (blk p (.cells (ReaderV.mk b ((k + n : Nat) : Int)).cells 222 (0, 0)) :: H) w).addPure e3)
theorem rtext_c {w0 : World} {H : List SA} {p k : Nat} {b : BS} [rb : RdB w0 H (.slice b.a b.l.length b.c) b.l] (hk : k ≤ b.l.length) (hl : b.l.length ≤ 4294967296) :
 CTP Tryz.prog w0 (blk p (.cells (ReaderV.mk b (k : Int)).cells 222 (0, 0)) :: H) 172 [.agg #[.pointer (some ⟨p, 0, none⟩)]] (α := AC) (β := Unit) (fun y => .slice y.a (rdText (b.l.drop k) 65536).2.1.length y.c) (fun y => pu ((rdText (b.l.drop k) 65536).1 = 0) :: row (.slice y.a (rdText (b.l.drop k) 65536).2.1.length y.c) 5 1 (bytesV (rdText (b.l.drop k) 65536).2.1) :: blk p (.cells (ReaderV.mk b ((k + (rdText (b.l.drop k) 65536).2.2 : Nat) : Int)).cells 222 (0, 0)) :: H) (fun _ => errP (rdText (b.l.drop k) 65536).1) (fun _ => pu ((rdText (b.l.drop k) 65536).1 ≠ 0) :: H) := by
 refine CTP_intro Tryz.func172 rfl Tryz.ntmps172 rfl (T2 (ze rfl (Ef_boxN rfl (fun b1 => ?_))))
 refine Qas rfl rfl (T4 (zy (zf 0 rfl rfl) (zy (zl rfl) (TL_frontB p (ze rfl (zc (text_c hk hl (by decide)) rfl (fun x8 => ?_)))))))
 refine zy (zm (.tuple _) rfl) (zy (Qt_extract rfl) (zy (Qt_extract rfl) (Qas rfl rfl (Qai rfl rfl (T4 (Qmi rfl rfl (TL_eP rfl (EfP_call (need_c) rfl (fun x12 => ?_) (fun y => X_then_panic (X_pure fun hy => X_pan () rfl (fun w hw => (SB w hw : St w0 H w).addPure hy)))))))))))
 refine TL_pure (fun he => ?_)
 refine T4 (Qms rfl rfl (Qas rfl rfl (TX (zQ ?_))))
 exact X_retP x8 [_] Tryz.results172 ⟨rfl, trivial⟩ rfl (fun w hw => (SB w hw : St w0 (row (.slice x8.a (rdText (b.l.drop k) 65536).2.1.length x8.c) 5 1 (bytesV (rdText (b.l.drop k) 65536).2.1) :: blk p (.cells (ReaderV.mk b ((k + (rdText (b.l.drop k) 65536).2.2 : Nat) : Int)).cells 222 (0, 0)) :: H) w).addPure he)
theorem rparts_c {w0 : World} {H : List SA} {p k : Nat} {b : BS} [rb : RdB w0 H (.slice b.a b.l.length b.c) b.l] (hk : k ≤ b.l.length) (hl : b.l.length ≤ 4294967296) :
 CTP Tryz.prog w0 (blk p (.cells (ReaderV.mk b (k : Int)).cells 222 (0, 0)) :: H) 173 [.agg #[.pointer (some ⟨p, 0, none⟩)]] (α := PS × List Nat) (β := Unit) (fun y => .slice y.1.a y.1.ls.length y.1.c) (fun y => pu ((partsR (b.l.drop k)) = (0, y.1.ls.map BS.l, (partsR (b.l.drop k)).2.2)) :: row (.slice y.1.a y.1.ls.length y.1.c) 33 1 (y.1.ls.map BS.val) :: eachA y.2 y.1.ls :: blk p (.cells (ReaderV.mk b ((k + (partsR (b.l.drop k)).2.2 : Nat) : Int)).cells 222 (0, 0)) :: H) (fun _ => errP (partsR (b.l.drop k)).1) (fun _ => pu ((partsR (b.l.drop k)).1 ≠ 0) :: H) := by
 refine CTP_intro Tryz.func173 rfl Tryz.ntmps173 rfl (T2 (ze rfl (Ef_boxN rfl (fun b1 => ?_))))
 refine Qas rfl rfl (T4 (zy (zf 0 rfl rfl) (TL_frontB p (zy (zl rfl) (ze rfl (zc (count_c hk hl (m := 16) (by decide)) rfl (fun x9 => ?_)))))))
 refine zy (zm (.tuple _) rfl) (zy (Qt_extract rfl) (zy (Qt_extract rfl) (Qai rfl rfl (Qai rfl rfl (T4 (Qmi rfl rfl (TL_eP rfl (EfP_call (need_c) rfl (fun x13 => ?_) (fun y => X_then_panic (X_pure fun hy => X_pan () (by rw [partsR, if_pos hy]) (fun w hw => (SB w hw : St w0 H w).addPure (by rw [partsR, if_pos hy]; exact hy))))))))))))
 refine TL_pure (fun he => ?_)
 have hn16 : (rdCount (b.l.drop k) 16).2.1 ≤ 16 := by have := (rdCount_ok he).2.1; rw [← (rdCount_ok he).1] at this; omega
 have hcb := (rdCount_bound (b.l.drop k) 16).2.1
 simp only [List.length_drop] at hcb
 refine T4 (Qas rfl rfl (TX (zS (T2 (Qmi rfl rfl (Qmi rfl rfl (TX (zB ?_))))))))
 refine T_loop [5, 15, 16, 17, 18, 19, 20, 21, 22] [15, 5] (fun us H' => ∃ (i : Nat) (q : Nat) (a : Option Addr) (c : Nat) (ls : List BS) (fp : List Nat), us = [.int .i64 (i : Int), .slice a ls.length c] ∧ row (.slice a (ls).length c) 33 1 ((ls).map BS.val) :: eachA fp ls :: blk p (.cells (ReaderV.mk b ((q : Nat) : Int)).cells 222 (0, 0)) :: blk b1 (.cells #[.pointer (some ⟨p, 0, none⟩)] 247 (0, 0)) :: H = H' ∧ i ≤ (rdCount (b.l.drop k) 16).2.1 ∧ (PrsAt b.l (rdCount (b.l.drop k) 16).2.1 i ((rdCount (b.l.drop k) 16).2.1 - i) (ls.map BS.l) (k + (rdCount (b.l.drop k) 16).2.2) q) ∧ (q ≤ b.l.length) ∧ (k + (rdCount (b.l.drop k) 16).2.2 ≤ q) ∧ (ls.length = i)) (fun us => match us with | .int _ i :: _ => (rdCount (b.l.drop k) 16).2.1 - i.toNat | _ => 0) ⟨0, k + (rdCount (b.l.drop k) 16).2.2, none, 0, [], [], rfl, rfl, by omega, PrsAt.start, by omega, Nat.le_refl _, rfl⟩ (fun w hw => by
  have h0 : St w0 (blk p (.cells (ReaderV.mk b ((k + (rdCount (b.l.drop k) 16).2.2 : Nat) : Int)).cells 222 (0, 0)) :: blk b1 (.cells #[.pointer (some ⟨p, 0, none⟩)] 247 (0, 0)) :: H) w := SB w hw
  exact (h0.eachNil).addNil 33 1) ?_
 rintro τ0 _ _  ⟨i, q, a, c, ls, fp, rfl, rfl, hi0, hp, hql, hkq, hll⟩ _
 refine T2 (zy (Qt_lss rfl rfl) (TX (zS (zC rfl (fun h16 => ?_) (fun h16 => ?_)))))
 ·
  have p16 := cL h16
  have hi : i < (rdCount (b.l.drop k) 16).2.1 := by omega
  obtain ⟨r, hr⟩ : ∃ r, (rdCount (b.l.drop k) 16).2.1 - i = r + 1 := ⟨(rdCount (b.l.drop k) 16).2.1 - i - 1, by omega⟩
  rw [hr] at hp
  refine zk (zx (zS (zB (zR (Qms rfl rfl (zy (zn rfl rfl) (TL_frontB p (TL_eP rfl (EfP_call (rtext_c (k := q) hql hl) rfl (fun x19 => ?_) (fun y => X_block_panic (X_then_panic (X_loop_panic (X_block_panic (X_then_panic (X_pure fun hy => have hb := hp.bad hy; have hz : (prs (rdCount (b.l.drop k) 16).2.1 ((b.l.drop k).drop (rdCount (b.l.drop k) 16).2.2)).1 ≠ 0 := (by rw [List.drop_drop, hb]; exact hy); have hx : (partsR (b.l.drop k)).1 = (rdText (b.l.drop q) 65536).1 := (by rw [partsR, if_neg (by omega), if_pos hz, List.drop_drop, hb]); X_pan () (by rw [hx]) (fun w hw => (SB w hw : St w0 H w).addPure (by rw [hx]; exact hy)))))))))))))))))
  refine TL_pure (fun het => ?_)
  have htb := (rdText_bound (b.l.drop q) 65536).1
  simp only [List.length_drop] at htb
  refine ze rfl (Ef_slice1 (v := .slice _ _ _) rfl (fun a20 c20 => ?_))
  refine ze rfl (Ef_appendP (sv := .slice _ _ _) (xv := .slice _ _ _) ⟨x19.a, x19.c, (rdText (b.l.drop q) 65536).2.1⟩ rfl rfl (by omega) rfl (fun a21 c21 => ?_))
  refine Qas rfl rfl (zz (X_block (zx (zR (zy (zj rfl rfl) (Qmi rfl rfl (zz ?_)))))))
  apply X_loop
  case ha => exact zA
  case hI => exact ⟨i + 1, _, a21, c21, ls ++ [⟨x19.a, x19.c, (rdText (b.l.drop q) 65536).2.1⟩], rowFp (.slice x19.a (rdText (b.l.drop q) 65536).2.1.length x19.c) ++ fp, rfl, rfl, by omega, by rw [show (rdCount (b.l.drop k) 16).2.1 - (i + 1) = r from by omega, List.map_append]; exact hp.step hkq het, by omega, by omega, by simp [hll]⟩
  case hm => exact by show (rdCount (b.l.drop k) 16).2.1 - (i + 1 : Int).toNat < (rdCount (b.l.drop k) 16).2.1 - (i : Int).toNat; omega
  case hH => exact fun w hw => eachUnder (SB w hw : St w0 (row (.slice a21 (ls ++ [(⟨x19.a, x19.c, (rdText (b.l.drop q) 65536).2.1⟩ : BS)]).length c21) 33 1 ((ls ++ [(⟨x19.a, x19.c, (rdText (b.l.drop q) 65536).2.1⟩ : BS)]).map BS.val) :: row (BS.val ⟨x19.a, x19.c, (rdText (b.l.drop q) 65536).2.1⟩) 5 1 (bytesV (BS.l ⟨x19.a, x19.c, (rdText (b.l.drop q) 65536).2.1⟩)) :: eachA fp ls :: blk p (.cells (ReaderV.mk b ((q + (rdText (b.l.drop q) 65536).2.2 : Nat) : Int)).cells 222 (0, 0)) :: blk b1 (.cells #[.pointer (some ⟨p, 0, none⟩)] 247 (0, 0)) :: H) w)
 have p16 := cL h16
 have hi : i = (rdCount (b.l.drop k) 16).2.1 := by omega
 rw [hi, Nat.sub_self] at hp
 have hd := hp.done
 have hx : (partsR (b.l.drop k)) = (0, ls.map BS.l, (rdCount (b.l.drop k) 16).2.2 + (q - (k + (rdCount (b.l.drop k) 16).2.2))) := by rw [partsR, if_neg (by omega), List.drop_drop, hd]; rfl
 have hqe : q = k + (partsR (b.l.drop k)).2.2 := by rw [hx]; show q = k + ((rdCount (b.l.drop k) 16).2.2 + (q - (k + (rdCount (b.l.drop k) 16).2.2))); omega
 refine zY (zG (zW (zE (zx (T2 (Qms rfl rfl (Qas rfl rfl (TX (zQ ?_)))))))))
 rw [hqe]
 exact X_retP (⟨a, c, ls⟩, fp) [_] Tryz.results173 ⟨rfl, trivial⟩ rfl (fun w hw => (SB w hw : St w0 (row (.slice a ls.length c) 33 1 (ls.map BS.val) :: eachA fp ls :: blk p (.cells (ReaderV.mk b ((k + (partsR (b.l.drop k)).2.2 : Nat) : Int)).cells 222 (0, 0)) :: H) w).addPure (by rw [hx]))
end
section
open Go.RowKit Go.Sx
set_option maxRecDepth 100000
set_option maxHeartbeats 1000000

def MsgD.zero : MsgD := ⟨0, 0, 0, 0, 0, zeroV 32, [], []⟩
def be (l : List UInt8) (o n : Nat) : Int := ((beN ((l.drop o).take n) : Nat) : Int)
def hashAt (l : List UInt8) : Vector UInt8 32 := Vector.ofFn fun i => l.getD (8 + i) 0
/-- The text of the body, the parts behind it. -/
def bodyR (l : List UInt8) : Int × List UInt8 × Nat := rdText (l.drop (8 + 32)) 65536
def restR (l : List UInt8) : Int × List (List UInt8) × Nat := partsR (l.drop (8 + 32 + (bodyR l).2.2))
def readM (l : List UInt8) : MsgD := ⟨be l 0 1, be l (0 + 1) 1, be l (0 + 1 + 1) 2, be l (0 + 1 + 1 + 2) 2, be l (0 + 1 + 1 + 2 + 2) 2, hashAt l, (bodyR l).2.1, (restR l).2.1⟩
def msgR (l : List UInt8) : Int × MsgD :=
  if l.length < 40 then (1, .zero) else if (bodyR l).1 ≠ 0 then ((bodyR l).1, .zero) else if (restR l).1 ≠ 0 then ((restR l).1, .zero)
  else if 8 + 32 + (bodyR l).2.2 + (restR l).2.2 < l.length then (2, .zero) else if formedM (readM l) = true then (0, readM l) else (15, .zero)
/-- wire.Get: the error, the message. -/
def getM (l : List UInt8) : Int × MsgD := if 65504 < l.length then (4, .zero) else if (msgR l).1 ≠ 0 then ((msgR l).1, .zero) else msgR l
theorem msgR_short {l : List UInt8} (h : l.length < 40) : msgR l = (1, .zero) := if_pos h
theorem msgR_body {l : List UInt8} (h : ¬ l.length < 40) (hb : (bodyR l).1 ≠ 0) : msgR l = ((bodyR l).1, .zero) := by rw [msgR, if_neg h, if_pos hb]
theorem msgR_rest {l : List UInt8} (h : ¬ l.length < 40) (hb : (bodyR l).1 = 0) (hr : (restR l).1 ≠ 0) : msgR l = ((restR l).1, .zero) := by rw [msgR, if_neg h, if_neg (by omega), if_pos hr]
theorem msgR_more {l : List UInt8} (h : ¬ l.length < 40) (hb : (bodyR l).1 = 0) (hr : (restR l).1 = 0) (hm : 8 + 32 + (bodyR l).2.2 + (restR l).2.2 < l.length) : msgR l = (2, .zero) := by rw [msgR, if_neg h, if_neg (by omega), if_neg (by omega), if_pos hm]
theorem msgR_end {l : List UInt8} (h : ¬ l.length < 40) (hb : (bodyR l).1 = 0) (hr : (restR l).1 = 0) (hm : ¬ 8 + 32 + (bodyR l).2.2 + (restR l).2.2 < l.length) : msgR l = if formedM (readM l) = true then (0, readM l) else (15, .zero) := by rw [msgR, if_neg h, if_neg (by omega), if_neg (by omega), if_neg hm]
theorem hashAt_byte {l : List UInt8} {i : Nat} (hi : i < 32) (h : 8 + i < l.length) : beN ((l.drop (8 + i)).take 1) = (hashAt l)[i].toNat := by
  have e : (l.drop (8 + i)).take 1 = [l[8 + i]] := by rw [List.drop_eq_getElem_cons h]; rfl
  rw [e]
  simp [beN, hashAt, List.getD, List.getElem?_eq_getElem h]
def hvec (h : Vector UInt8 32) (i : Nat) : Vector UInt8 32 := Vector.ofFn fun j => if j.val < i then h[j] else 0
theorem hvec_zero (h : Vector UInt8 32) : hvec h 0 = zeroV 32 := by
  apply Vector.ext; intro i hi; simp [hvec, zeroV]
theorem hvec_all (h : Vector UInt8 32) : hvec h 32 = h := by
  apply Vector.ext; intro i hi; simp [hvec, hi]
theorem hvec_set (h : Vector UInt8 32) (i : Nat) (hi : i < 32) : (hvec h i).set i h[i] = hvec h (i + 1) := by
  apply Vector.ext; intro j hj
  by_cases e : i = j
  · subst e; simp [hvec]
  · rw [Vector.getElem_set_ne _ _ e]
    simp only [hvec, Vector.getElem_ofFn, Fin.getElem_fin]
    by_cases h1 : j < i <;> simp [h1] <;> omega
theorem hlist_set (h : Vector UInt8 32) (i : Nat) (hi : i < 32) (c : UInt8) : hlist (h.set i c) = (hlist h).take i ++ (byteV c :: (hlist h).drop (i + 1)) := by
  have e : hlist (h.set i c) = (hlist h).set i (byteV c) := by simp [hlist, bytesV, List.map_set, Vector.toList_set]
  rw [e, List.set_eq_take_append_cons_drop, if_pos (by simpa using hi)]
theorem MsgV.putHash (v : MsgV) (i : Nat) (hi : i < 32) (c : UInt8) : Put v.cells (5 + i) (.int .u8 (c.toNat : Int)) ({ v with hash := v.hash.set i c } : MsgV).cells := by
  have hl : (hlist v.hash).length = 32 := by simp
  have e1 : hlist v.hash = (hlist v.hash).take i ++ ((hlist v.hash).drop i).take 1 ++ (hlist v.hash).drop (i + 1) := by
    rw [List.append_assoc, ← List.drop_drop, List.take_append_drop, List.take_append_drop]
  have := Put.mid (([.int .i64 v.kind] : List Value) ++ (([.int .i64 v.frm] : List Value) ++ (([.int .i64 v.view] : List Value) ++ (([.int .i64 v.reg] : List Value) ++ (([.int .i64 v.slot] : List Value) ++ (hlist v.hash).take i))))) (((hlist v.hash).drop i).take 1) ((hlist v.hash).drop (i + 1) ++ (([.slice v.body.a v.body.l.length v.body.c] : List Value) ++ ([.slice v.parts.a v.parts.ls.length v.parts.c] : List Value))) (cs := v.cells) (o := 5 + i) (n := 1) (v := .int .u8 (c.toNat : Int))
    (by conv => lhs; rw [MsgV.cells, MsgV.list, e1]
        simp only [List.append_assoc, List.cons_append, List.nil_append]) (by simp; omega) (by simp; omega) rfl
  have e2 : ({ v with hash := v.hash.set i c } : MsgV).cells = ((([.int .i64 v.kind] : List Value) ++ (([.int .i64 v.frm] : List Value) ++ (([.int .i64 v.view] : List Value) ++ (([.int .i64 v.reg] : List Value) ++ (([.int .i64 v.slot] : List Value) ++ (hlist v.hash).take i))))) ++ ((Value.int .u8 (c.toNat : Int)).cells.toList ++ ((hlist v.hash).drop (i + 1) ++ (([.slice v.body.a v.body.l.length v.body.c] : List Value) ++ ([.slice v.parts.a v.parts.ls.length v.parts.c] : List Value))))).toArray := by
    rw [MsgV.cells, MsgV.list]
    simp only [hlist_set v.hash i hi c, Value.cells, byteV, List.append_assoc, List.cons_append, List.nil_append]
  rw [e2]; exact this
instance MsgV.deep : Deep MsgV := ⟨fun m => ⟨[m.body], [m.parts], []⟩⟩
instance (priority := low) RdB.ofMsg {w0 : World} {H : List SA} {x : MsgV} [h : Rd w0 H x] : RdB w0 H (.slice x.body.a x.body.l.length x.body.c) x.body.l := ⟨h.ok.b x.body (by simp [Deep.leads])⟩
instance (priority := low) RdC.ofMsg {w0 : World} {H : List SA} {x : MsgV} [h : Rd w0 H x] : RdC w0 H (.slice x.parts.a x.parts.ls.length x.parts.c) 1 (x.parts.ls.map BS.val) := ⟨h.ok.p x.parts (by simp [Deep.leads])⟩
instance (priority := low) RdE.ofMsg {w0 : World} {H : List SA} {x : MsgV} [h : Rd w0 H x] : RdE w0 H x.parts.ls := ⟨h.ok.e x.parts (by simp [Deep.leads])⟩
theorem St.datEach {w0 w : World} {H : List SA} {fp : List Nat} {ls : List BS} (h : St w0 (eachA fp ls :: H) w) : St w0 (dat fp ⟨ls, [], []⟩ :: H) w :=
  h.turn rfl fun hp => ⟨fun y hy => hp y hy, fun _ h => (by cases h), fun _ h => (by cases h), fun _ h => (by cases h)⟩
theorem St.datMsg {w0 w : World} {H : List SA} {m : MsgV} {fp : List Nat} {e e2 : TypeId} (h : St w0 (row (.slice m.parts.a m.parts.ls.length m.parts.c) e 1 (m.parts.ls.map BS.val) :: eachA fp m.parts.ls :: row (.slice m.body.a m.body.l.length m.body.c) e2 1 (bytesV m.body.l) :: H) w) :
    ∃ fp, St w0 (dat fp (Deep.leads m) :: H) w := by
  have h1 : St w0 (eachA fp m.parts.ls :: row (.slice m.parts.a m.parts.ls.length m.parts.c) e 1 (m.parts.ls.map BS.val) :: row (.slice m.body.a m.body.l.length m.body.c) e2 1 (bytesV m.body.l) :: H) w := Subs.st inferInstance w h
  have h2 := St.datEach h1
  have h3 : St w0 (row (.slice m.parts.a m.parts.ls.length m.parts.c) e 1 (m.parts.ls.map BS.val) :: dat fp ⟨m.parts.ls, [], []⟩ :: row (.slice m.body.a m.body.l.length m.body.c) e2 1 (bytesV m.body.l) :: H) w := Subs.st inferInstance w h2
  have h4 := h3.datP
  have h5 : St w0 (row (.slice m.body.a m.body.l.length m.body.c) e2 1 (bytesV m.body.l) :: dat (rowFp (.slice m.parts.a m.parts.ls.length m.parts.c) ++ fp) ⟨[], [m.parts], []⟩ :: H) w := Subs.st inferInstance w h4
  exact ⟨_, h5.datB.datAdd⟩

theorem fillP (a b c d e : Option Addr) : Instr.fill (fun i => some (i * 1, 1)) #[.pointer none, .pointer none, .pointer none, .pointer none, .pointer none] [(0, .pointer a), (1, .pointer b), (2, .pointer c), (3, .pointer d), (4, .pointer e)] = some #[.pointer a, .pointer b, .pointer c, .pointer d, .pointer e] := by
  rfl
attribute [local irreducible] beN hashAt rdText rdCount partsR
theorem message_c {w0 : World} {H : List SA} {p : Nat} {b : BS} [rb : RdB w0 H (.slice b.a b.l.length b.c) b.l] (hl : b.l.length ≤ 4294967296) :
    CTP Tryz.prog w0 (blk p (.cells (ReaderV.mk b ((0 : Nat) : Int)).cells 222 (0, 0)) :: H) 145 [.agg #[.pointer (some ⟨p, 0, none⟩)]] (α := MsgV × List Nat) (β := Unit) (fun y => .agg y.1.cells) (fun y => pu (msgR b.l = (0, y.1.abs)) :: dat y.2 (Deep.leads y.1) :: H) (fun _ => errP (msgR b.l).1) (fun _ => pu ((msgR b.l).1 ≠ 0) :: H) := by
  refine CTP_intro Tryz.func145 rfl Tryz.ntmps145 rfl (T2 (ze rfl (Ef_boxN rfl (fun b1 => ?_))))
  refine ze rfl (Ef_allocN (fun b2 => ?_))
  refine T4 (ze rfl (Ef_allocN (fun b3 => ?_)))
  refine T4 (ze rfl (zc (widths_c) rfl (fun x8 => ?_)))
  refine ze rfl (Ef_allocN (fun b4 => ?_))
  refine zN (zs rfl rfl (TX (zS (T2 (zy (zf 0 rfl rfl) (zy (zf 1 rfl rfl) (zy (zf 2 rfl rfl) (zy (zf 3 rfl rfl) (zy (zf 4 rfl rfl) (zy (Qt_build_arr #[.pointer (some ⟨b3, 0, none⟩), .pointer (some ⟨b3, 1, none⟩), .pointer (some ⟨b3, 2, none⟩), .pointer (some ⟨b3, 3, none⟩), .pointer (some ⟨b3, 4, none⟩)] Tryz.underlying275 rfl rfl (fillP _ _ _ _ _)) ?_))))))))))
  refine Qmi rfl rfl (TX (zB (T_unroll (TU_round (T2 (zy (Qt_lss rfl rfl) (TX (zS (T_cond_true rfl (by first | rfl | decide) (zk (zx (zS (zB (T2 (Qmi rfl rfl (zy (Qt_index (.pointer _) rfl rfl Tryz.underlying275 (by omega) (by omega) (rfl)) (Qai rfl rfl (zy (za (.pointer _) rfl) (TX (zD (blk b4 (.cells w5 182 (0, 0)) :: blk b1 (.cells #[.pointer (some ⟨p, 0, none⟩)] 247 (0, 0)) :: H) [(0, true), (1, true), (2, true), (3, true), (4, true), (5, false), (6, true), (7, false)] SB (fun hns0 => ?_)))))))))))))))))))))
  refine zd hns0 rfl (zm (.pointer _) rfl) rfl (zd hns0 rfl (zn rfl rfl) rfl (zd hns0 rfl (zm (.int .i64 _) rfl) rfl (zd hns0 rfl (Qt_indexAddr_arr (sz := 1) rfl rfl Tryz.underlying182 rfl rfl (by omega) (by omega)) rfl (zd hns0 rfl (zl (v := .int .i64 1) (hc := ⟨rfl⟩) rfl) rfl (DL_frontB p (DL_eP rfl rfl (EfP_call (number_c (b := b) (k := 0) (n := 1) (by omega) hl rfl (by decide)) rfl (fun x24 => ⟨SB, ?_⟩) (fun y => X_block_panic (X_then_panic (X_again_panic (X_block_panic (X_then_panic (X_pure fun hy => X_pan () (by rw [msgR_short (by omega)]) (fun w hw => (SB w hw : St w0 H w).addPure (by rw [msgR_short (by omega)]; decide)))))))))))))))
  refine zd hns0 rfl (Qt_nilCheck rfl) rfl (DL_n rfl (Ef_store1 (.int .i64 _) rfl rfl (⟨SB, (DL_nil (X_block (zx (zR (TL_know (fun w hw => hw.holds (pu (0 + 1 ≤ b.l.length)) (by simp)) (fun hle0 => ?_))))))⟩)))
  refine zy (zj rfl rfl) (Qmi rfl rfl (zz (X_again (TU_round (T2 (zy (Qt_lss rfl rfl) (TX (zS (T_cond_true rfl (by first | rfl | decide) (zk (zx (zS (zB (T2 (Qmi rfl rfl (zy (Qt_index (.pointer _) rfl rfl Tryz.underlying275 (by omega) (by omega) (rfl)) (Qai rfl rfl (zy (za (.pointer _) rfl) (TX (zD (blk b4 (.cells w5 182 (0, 0)) :: blk b1 (.cells #[.pointer (some ⟨p, 0, none⟩)] 247 (0, 0)) :: H) [(0, true), (1, true), (2, true), (3, true), (4, true), (5, false), (6, true), (7, false)] SB (fun hns1 => ?_)))))))))))))))))))))
  refine zd hns1 rfl (zm (.pointer _) rfl) rfl (zd hns1 rfl (zn rfl rfl) rfl (zd hns1 rfl (zm (.int .i64 _) rfl) rfl (zd hns1 rfl (Qt_indexAddr_arr (sz := 1) rfl rfl Tryz.underlying182 rfl rfl (by omega) (by omega)) rfl (zd hns1 rfl (zl (v := .int .i64 1) (hc := ⟨rfl⟩) rfl) rfl (DL_frontB p (DL_eP rfl rfl (EfP_call (number_c (b := b) (k := 0 + 1) (n := 1) (by omega) hl rfl (by decide)) rfl (fun x24 => ⟨SB, ?_⟩) (fun y => X_block_panic (X_then_panic (X_again_panic (X_block_panic (X_then_panic (X_pure fun hy => X_pan () (by rw [msgR_short (by omega)]) (fun w hw => (SB w hw : St w0 H w).addPure (by rw [msgR_short (by omega)]; decide)))))))))))))))
  refine zd hns1 rfl (Qt_nilCheck rfl) rfl (DL_n rfl (Ef_store1 (.int .i64 _) rfl rfl (⟨SB, (DL_nil (X_block (zx (zR (TL_know (fun w hw => hw.holds (pu (0 + 1 + 1 ≤ b.l.length)) (by simp)) (fun hle1 => ?_))))))⟩)))
  refine zy (zj rfl rfl) (Qmi rfl rfl (zz (X_again (TU_round (T2 (zy (Qt_lss rfl rfl) (TX (zS (T_cond_true rfl (by first | rfl | decide) (zk (zx (zS (zB (T2 (Qmi rfl rfl (zy (Qt_index (.pointer _) rfl rfl Tryz.underlying275 (by omega) (by omega) (rfl)) (Qai rfl rfl (zy (za (.pointer _) rfl) (TX (zD (blk b4 (.cells w5 182 (0, 0)) :: blk b1 (.cells #[.pointer (some ⟨p, 0, none⟩)] 247 (0, 0)) :: H) [(0, true), (1, true), (2, true), (3, true), (4, true), (5, false), (6, true), (7, false)] SB (fun hns2 => ?_)))))))))))))))))))))
  refine zd hns2 rfl (zm (.pointer _) rfl) rfl (zd hns2 rfl (zn rfl rfl) rfl (zd hns2 rfl (zm (.int .i64 _) rfl) rfl (zd hns2 rfl (Qt_indexAddr_arr (sz := 1) rfl rfl Tryz.underlying182 rfl rfl (by omega) (by omega)) rfl (zd hns2 rfl (zl (v := .int .i64 2) (hc := ⟨rfl⟩) rfl) rfl (DL_frontB p (DL_eP rfl rfl (EfP_call (number_c (b := b) (k := 0 + 1 + 1) (n := 2) (by omega) hl rfl (by decide)) rfl (fun x24 => ⟨SB, ?_⟩) (fun y => X_block_panic (X_then_panic (X_again_panic (X_block_panic (X_then_panic (X_pure fun hy => X_pan () (by rw [msgR_short (by omega)]) (fun w hw => (SB w hw : St w0 H w).addPure (by rw [msgR_short (by omega)]; decide)))))))))))))))
  refine zd hns2 rfl (Qt_nilCheck rfl) rfl (DL_n rfl (Ef_store1 (.int .i64 _) rfl rfl (⟨SB, (DL_nil (X_block (zx (zR (TL_know (fun w hw => hw.holds (pu (0 + 1 + 1 + 2 ≤ b.l.length)) (by simp)) (fun hle2 => ?_))))))⟩)))
  refine zy (zj rfl rfl) (Qmi rfl rfl (zz (X_again (TU_round (T2 (zy (Qt_lss rfl rfl) (TX (zS (T_cond_true rfl (by first | rfl | decide) (zk (zx (zS (zB (T2 (Qmi rfl rfl (zy (Qt_index (.pointer _) rfl rfl Tryz.underlying275 (by omega) (by omega) (rfl)) (Qai rfl rfl (zy (za (.pointer _) rfl) (TX (zD (blk b4 (.cells w5 182 (0, 0)) :: blk b1 (.cells #[.pointer (some ⟨p, 0, none⟩)] 247 (0, 0)) :: H) [(0, true), (1, true), (2, true), (3, true), (4, true), (5, false), (6, true), (7, false)] SB (fun hns3 => ?_)))))))))))))))))))))
  refine zd hns3 rfl (zm (.pointer _) rfl) rfl (zd hns3 rfl (zn rfl rfl) rfl (zd hns3 rfl (zm (.int .i64 _) rfl) rfl (zd hns3 rfl (Qt_indexAddr_arr (sz := 1) rfl rfl Tryz.underlying182 rfl rfl (by omega) (by omega)) rfl (zd hns3 rfl (zl (v := .int .i64 2) (hc := ⟨rfl⟩) rfl) rfl (DL_frontB p (DL_eP rfl rfl (EfP_call (number_c (b := b) (k := 0 + 1 + 1 + 2) (n := 2) (by omega) hl rfl (by decide)) rfl (fun x24 => ⟨SB, ?_⟩) (fun y => X_block_panic (X_then_panic (X_again_panic (X_block_panic (X_then_panic (X_pure fun hy => X_pan () (by rw [msgR_short (by omega)]) (fun w hw => (SB w hw : St w0 H w).addPure (by rw [msgR_short (by omega)]; decide)))))))))))))))
  refine zd hns3 rfl (Qt_nilCheck rfl) rfl (DL_n rfl (Ef_store1 (.int .i64 _) rfl rfl (⟨SB, (DL_nil (X_block (zx (zR (TL_know (fun w hw => hw.holds (pu (0 + 1 + 1 + 2 + 2 ≤ b.l.length)) (by simp)) (fun hle3 => ?_))))))⟩)))
  refine zy (zj rfl rfl) (Qmi rfl rfl (zz (X_again (TU_round (T2 (zy (Qt_lss rfl rfl) (TX (zS (T_cond_true rfl (by first | rfl | decide) (zk (zx (zS (zB (T2 (Qmi rfl rfl (zy (Qt_index (.pointer _) rfl rfl Tryz.underlying275 (by omega) (by omega) (rfl)) (Qai rfl rfl (zy (za (.pointer _) rfl) (TX (zD (blk b4 (.cells w5 182 (0, 0)) :: blk b1 (.cells #[.pointer (some ⟨p, 0, none⟩)] 247 (0, 0)) :: H) [(0, true), (1, true), (2, true), (3, true), (4, true), (5, false), (6, true), (7, false)] SB (fun hns4 => ?_)))))))))))))))))))))
  refine zd hns4 rfl (zm (.pointer _) rfl) rfl (zd hns4 rfl (zn rfl rfl) rfl (zd hns4 rfl (zm (.int .i64 _) rfl) rfl (zd hns4 rfl (Qt_indexAddr_arr (sz := 1) rfl rfl Tryz.underlying182 rfl rfl (by omega) (by omega)) rfl (zd hns4 rfl (zl (v := .int .i64 2) (hc := ⟨rfl⟩) rfl) rfl (DL_frontB p (DL_eP rfl rfl (EfP_call (number_c (b := b) (k := 0 + 1 + 1 + 2 + 2) (n := 2) (by omega) hl rfl (by decide)) rfl (fun x24 => ⟨SB, ?_⟩) (fun y => X_block_panic (X_then_panic (X_again_panic (X_block_panic (X_then_panic (X_pure fun hy => X_pan () (by rw [msgR_short (by omega)]) (fun w hw => (SB w hw : St w0 H w).addPure (by rw [msgR_short (by omega)]; decide)))))))))))))))
  refine zd hns4 rfl (Qt_nilCheck rfl) rfl (DL_n rfl (Ef_store1 (.int .i64 _) rfl rfl (⟨SB, (DL_nil (X_block (zx (zR (TL_know (fun w hw => hw.holds (pu (0 + 1 + 1 + 2 + 2 + 2 ≤ b.l.length)) (by simp)) (fun hle4 => ?_))))))⟩)))
  refine zy (zj rfl rfl) (Qmi rfl rfl (zz (X_again (TU_round (T2 (zy (Qt_lss rfl rfl) (TX (zS (T_cond_false rfl (by first | rfl | decide) (zY (zG (X_again_exit (zE (zx (zS (T2 ?_))))))))))))))))
  refine Qmi rfl rfl (TX (zB ?_))
  refine T_loop [7, 27, 28, 29, 30, 31, 32, 33, 34, 35, 36] [27] (fun us H' => ∃ (i : Nat), us = [.int .i64 (i : Int)] ∧ blk p (.cells (ReaderV.mk b ((8 + i : Nat) : Int)).cells 222 (0, 0)) :: blk b3 (.cells (MsgV.mk ((beN ((b.l.drop (0)).take 1) : Nat) : Int) ((beN ((b.l.drop (0 + 1)).take 1) : Nat) : Int) ((beN ((b.l.drop (0 + 1 + 1)).take 2) : Nat) : Int) ((beN ((b.l.drop (0 + 1 + 1 + 2)).take 2) : Nat) : Int) ((beN ((b.l.drop (0 + 1 + 1 + 2 + 2)).take 2) : Nat) : Int) (hvec (hashAt b.l) i) ⟨none, 0, []⟩ ⟨none, 0, []⟩).cells 82 (0, 0)) :: blk b4 (.cells w5 182 (0, 0)) :: blk b2 (.cells MsgV.zero.cells 82 (0, 0)) :: blk b1 (.cells #[.pointer (some ⟨p, 0, none⟩)] 247 (0, 0)) :: H = H' ∧ i ≤ 32 ∧ (8 + i ≤ b.l.length)) (fun us => match us with | .int _ i :: _ => 32 - i.toNat | _ => 0) ⟨0, rfl, rfl, by omega, by omega⟩ (fun w hw => by
          rw [hvec_zero]
          exact (SB w hw : St w0 (blk p (.cells (ReaderV.mk b ((0 + 1 + 1 + 2 + 2 + 2 : Nat) : Int)).cells 222 (0, 0)) :: blk b3 (.cells (MsgV.mk ((beN ((b.l.drop (0)).take 1) : Nat) : Int) ((beN ((b.l.drop (0 + 1)).take 1) : Nat) : Int) ((beN ((b.l.drop (0 + 1 + 1)).take 2) : Nat) : Int) ((beN ((b.l.drop (0 + 1 + 1 + 2)).take 2) : Nat) : Int) ((beN ((b.l.drop (0 + 1 + 1 + 2 + 2)).take 2) : Nat) : Int) (zeroV 32) ⟨none, 0, []⟩ ⟨none, 0, []⟩).cells 82 (0, 0)) :: blk b4 (.cells w5 182 (0, 0)) :: blk b2 (.cells MsgV.zero.cells 82 (0, 0)) :: blk b1 (.cells #[.pointer (some ⟨p, 0, none⟩)] 247 (0, 0)) :: H) w)) ?_
  rintro τ1 _ _  ⟨i, rfl, rfl, hi0, hie⟩ _
  refine T2 (zy (Qt_lss rfl rfl) (TX (zS (zC rfl (fun h28 => ?_) (fun h28 => ?_)))))
  ·
    have p28 := cL h28
    refine zk (zx (zS (zB (T2 (Qmi rfl rfl (Qai rfl rfl (TX (zR (Qmi rfl rfl (zy (zn rfl rfl) (TL_frontB p ?_)))))))))))
    have hi : i < 32 := by omega
    refine TL_eP rfl (EfP_call (number_c (b := b) (k := 8 + i) (n := 1) (by omega) hl rfl (by decide)) rfl (fun x32 => ?_) (fun y => X_block_panic (X_then_panic (X_loop_panic (X_block_panic (X_then_panic (X_pure fun hy => X_pan () (by rw [msgR_short (by omega)]) (fun w hw => (SB w hw : St w0 H w).addPure (by rw [msgR_short (by omega)]; decide)))))))))
    refine TL_pure (fun hle => ?_)
    have hby := hashAt_byte hi (by omega : 8 + i < b.l.length)
    rw [hby]
    refine zy (Qt_conv rfl rfl Tryz.underlying5) ?_
    rw [wrap_nat .u8 rfl (by have := (hashAt b.l)[i].toNat_lt; show _ < 2 ^ 8; omega)]
    have hput : Put ((MsgV.mk ((beN ((b.l.drop (0)).take 1) : Nat) : Int) ((beN ((b.l.drop (0 + 1)).take 1) : Nat) : Int) ((beN ((b.l.drop (0 + 1 + 1)).take 2) : Nat) : Int) ((beN ((b.l.drop (0 + 1 + 1 + 2)).take 2) : Nat) : Int) ((beN ((b.l.drop (0 + 1 + 1 + 2 + 2)).take 2) : Nat) : Int) (hvec (hashAt b.l) i) ⟨none, 0, []⟩ ⟨none, 0, []⟩)).cells (5 + (i : Int).toNat * 1) (.int .u8 ((hashAt b.l)[i].toNat : Int)) ((MsgV.mk ((beN ((b.l.drop (0)).take 1) : Nat) : Int) ((beN ((b.l.drop (0 + 1)).take 1) : Nat) : Int) ((beN ((b.l.drop (0 + 1 + 1)).take 2) : Nat) : Int) ((beN ((b.l.drop (0 + 1 + 1 + 2)).take 2) : Nat) : Int) ((beN ((b.l.drop (0 + 1 + 1 + 2 + 2)).take 2) : Nat) : Int) (hvec (hashAt b.l) (i + 1)) ⟨none, 0, []⟩ ⟨none, 0, []⟩)).cells := by
      have h1 := MsgV.putHash (MsgV.mk ((beN ((b.l.drop (0)).take 1) : Nat) : Int) ((beN ((b.l.drop (0 + 1)).take 1) : Nat) : Int) ((beN ((b.l.drop (0 + 1 + 1)).take 2) : Nat) : Int) ((beN ((b.l.drop (0 + 1 + 1 + 2)).take 2) : Nat) : Int) ((beN ((b.l.drop (0 + 1 + 1 + 2 + 2)).take 2) : Nat) : Int) (hvec (hashAt b.l) i) ⟨none, 0, []⟩ ⟨none, 0, []⟩) i hi (hashAt b.l)[i]
      rw [show ({ (MsgV.mk ((beN ((b.l.drop (0)).take 1) : Nat) : Int) ((beN ((b.l.drop (0 + 1)).take 1) : Nat) : Int) ((beN ((b.l.drop (0 + 1 + 1)).take 2) : Nat) : Int) ((beN ((b.l.drop (0 + 1 + 1 + 2)).take 2) : Nat) : Int) ((beN ((b.l.drop (0 + 1 + 1 + 2 + 2)).take 2) : Nat) : Int) (hvec (hashAt b.l) i) ⟨none, 0, []⟩ ⟨none, 0, []⟩) with hash := (hvec (hashAt b.l) i).set i (hashAt b.l)[i] } : MsgV) = (MsgV.mk ((beN ((b.l.drop (0)).take 1) : Nat) : Int) ((beN ((b.l.drop (0 + 1)).take 1) : Nat) : Int) ((beN ((b.l.drop (0 + 1 + 1)).take 2) : Nat) : Int) ((beN ((b.l.drop (0 + 1 + 1 + 2)).take 2) : Nat) : Int) ((beN ((b.l.drop (0 + 1 + 1 + 2 + 2)).take 2) : Nat) : Int) (hvec (hashAt b.l) (i + 1)) ⟨none, 0, []⟩ ⟨none, 0, []⟩) from by rw [← hvec_set (hashAt b.l) i hi]] at h1
      rw [show 5 + (i : Int).toNat * 1 = 5 + i from by simp]; exact h1
    refine zy (zf 5 rfl rfl) (zy (Qt_indexAddr_arr (sz := 1) rfl rfl Tryz.underlying32 rfl rfl (by omega) (by omega)) (zN (Ef_store1 (.int .u8 _) rfl rfl (zz (X_block (zx (zR (zy (zj rfl rfl) (Qmi rfl rfl (zz ?_))))))))))
    apply X_loop
    case ha => exact zA
    case hI => exact ⟨i + 1, rfl, rfl, by omega, by omega⟩
    case hm => exact by show 32 - (i + 1 : Int).toNat < 32 - (i : Int).toNat; omega
    case hH => exact SB
  have p28 := cL h28
  have hi : i = 32 := by omega
  subst hi
  rw [hvec_all]
  have hle32 : 8 + 32 ≤ b.l.length := hie
  refine zY (zG (zW (zE (zx (T2 (zy (zn rfl rfl) (TL_frontB p (TL_eP rfl (EfP_call (rtext_c (b := b) (k := 8 + 32) hle32 hl) rfl (fun x38 => ?_) (fun y => X_then_panic (X_pure fun hy => X_pan () (by rw [msgR_body (by omega) hy]; rfl) (fun w hw => (SB w hw : St w0 H w).addPure (by rw [msgR_body (by omega) hy]; exact hy)))))))))))))
  refine TL_pure (fun hbz => ?_)
  have hbz : (bodyR b.l).1 = 0 := hbz
  have hkb : 8 + 32 + (bodyR b.l).2.2 ≤ b.l.length := by have h : (bodyR b.l).2.2 ≤ (b.l.drop (8 + 32)).length := (rdText_bound (b.l.drop (8 + 32)) 65536).1; rw [List.length_drop] at h; omega
  refine zy (zf 37 rfl rfl) (zN (Ef_store1 (.slice _ _ _) rfl rfl (T4 (zy (zn rfl rfl) (TL_frontB p ?_)))))
  rw [show rdText (b.l.drop (8 + 32)) 65536 = bodyR b.l from rfl]
  refine TL_eP rfl (EfP_call (rparts_c (b := b) (k := 8 + 32 + (bodyR b.l).2.2) hkb hl) rfl (fun x41 => ?_) (fun y => X_then_panic (X_pure fun hy => X_pan () (by rw [msgR_rest (by omega) hbz hy]; rfl) (fun w hw => (SB w hw : St w0 H w).addPure (by rw [msgR_rest (by omega) hbz hy]; exact hy)))))
  refine TL_pure (fun h41 => ?_)
  have h41 : restR b.l = (0, x41.1.ls.map BS.l, (restR b.l).2.2) := h41
  have hrz : (restR b.l).1 = 0 := congrArg Prod.fst h41
  have h411 : (restR b.l).2.1 = x41.1.ls.map BS.l := congrArg (fun z => z.2.1) h41
  rw [show partsR (b.l.drop (8 + 32 + (bodyR b.l).2.2)) = restR b.l from rfl]
  have hkq : 8 + 32 + (bodyR b.l).2.2 + (restR b.l).2.2 ≤ b.l.length := by have h : (restR b.l).2.2 ≤ (b.l.drop (8 + 32 + (bodyR b.l).2.2)).length := partsR_bound (b.l.drop (8 + 32 + (bodyR b.l).2.2)); rw [List.length_drop] at h; omega
  refine zy (zf 38 rfl rfl) (zN (Ef_store1 (.slice _ _ _) rfl rfl (T4 (zy (zf 0 rfl rfl) (zy (zl rfl) (TL_frontB p (ze rfl (zc (done_c (b := b) (k := 8 + 32 + (bodyR b.l).2.2 + (restR b.l).2.2) hkq hl) rfl (fun x45 => ?_)))))))))
  refine TL_eP rfl (EfP_call (need_c) rfl (fun x46 => ?_) (fun y => X_then_panic (X_pure fun hy => have hm : 8 + 32 + (bodyR b.l).2.2 + (restR b.l).2.2 < b.l.length := (by by_cases h : 8 + 32 + (bodyR b.l).2.2 + (restR b.l).2.2 < b.l.length; exact h; rw [if_neg h] at hy; exact absurd rfl hy); X_pan () (by rw [if_pos hm, msgR_more (by omega) hbz hrz hm]) (fun w hw => (SB w hw : St w0 H w).addPure (by rw [msgR_more (by omega) hbz hrz hm]; decide)))))
  refine TL_pure (fun hy => ?_)
  have hm : ¬ 8 + 32 + (bodyR b.l).2.2 + (restR b.l).2.2 < b.l.length := by intro h; rw [if_pos h] at hy; exact absurd hy (by decide)
  refine TX (zS (T2 (zy (zn rfl rfl) ?_)))
  have hab : ((MsgV.mk ((beN ((b.l.drop (0)).take 1) : Nat) : Int) ((beN ((b.l.drop (0 + 1)).take 1) : Nat) : Int) ((beN ((b.l.drop (0 + 1 + 1)).take 2) : Nat) : Int) ((beN ((b.l.drop (0 + 1 + 1 + 2)).take 2) : Nat) : Int) ((beN ((b.l.drop (0 + 1 + 1 + 2 + 2)).take 2) : Nat) : Int) (hashAt b.l) ⟨x38.a, x38.c, (bodyR b.l).2.1⟩ x41.1)).abs = readM b.l := by simp only [MsgV.abs, readM, be, h411]
  refine ze rfl (zc (wformed_c (m := (MsgV.mk ((beN ((b.l.drop (0)).take 1) : Nat) : Int) ((beN ((b.l.drop (0 + 1)).take 1) : Nat) : Int) ((beN ((b.l.drop (0 + 1 + 1)).take 2) : Nat) : Int) ((beN ((b.l.drop (0 + 1 + 1 + 2)).take 2) : Nat) : Int) ((beN ((b.l.drop (0 + 1 + 1 + 2 + 2)).take 2) : Nat) : Int) (hashAt b.l) ⟨x38.a, x38.c, (bodyR b.l).2.1⟩ x41.1))) rfl (fun x48 => ?_))
  refine zy (Qt_not rfl) (TX (zC rfl (fun h49 => ?_) (fun h49 => ?_)))
  ·
    have p49 := cL h49
    refine zR (TL_eP rfl (EfP_call (need_c) rfl (fun x50 => ?_) (fun y => X_then_panic (X_pure fun hy => have hx : msgR b.l = (15, .zero) := (by rw [msgR_end (by omega) hbz hrz hm, if_neg (by rw [← hab, p49]; decide)]); X_pan () (by rw [hx]) (fun w hw => (SB w hw : St w0 H w).addPure (by rw [hx]; decide))))))
    exact TL_pure (fun h15 => absurd h15 (by decide))
  have p49 := cL h49
  refine S4 (zy (zn rfl rfl) (zN (zs rfl rfl (TX (zQ ?_)))))
  have hx : msgR b.l = (0, ((MsgV.mk ((beN ((b.l.drop (0)).take 1) : Nat) : Int) ((beN ((b.l.drop (0 + 1)).take 1) : Nat) : Int) ((beN ((b.l.drop (0 + 1 + 1)).take 2) : Nat) : Int) ((beN ((b.l.drop (0 + 1 + 1 + 2)).take 2) : Nat) : Int) ((beN ((b.l.drop (0 + 1 + 1 + 2 + 2)).take 2) : Nat) : Int) (hashAt b.l) ⟨x38.a, x38.c, (bodyR b.l).2.1⟩ x41.1)).abs) := by rw [msgR_end (by omega) hbz hrz hm, hab, if_pos (by rw [← hab]; simpa using h49)]
  refine X_conv (fun w hw => St.datMsg (m := (MsgV.mk ((beN ((b.l.drop (0)).take 1) : Nat) : Int) ((beN ((b.l.drop (0 + 1)).take 1) : Nat) : Int) ((beN ((b.l.drop (0 + 1 + 1)).take 2) : Nat) : Int) ((beN ((b.l.drop (0 + 1 + 1 + 2)).take 2) : Nat) : Int) ((beN ((b.l.drop (0 + 1 + 1 + 2 + 2)).take 2) : Nat) : Int) (hashAt b.l) ⟨x38.a, x38.c, (bodyR b.l).2.1⟩ x41.1)) (fp := x41.2) (e := 33) (e2 := 5) (H := blk b2 (.cells ((MsgV.mk ((beN ((b.l.drop (0)).take 1) : Nat) : Int) ((beN ((b.l.drop (0 + 1)).take 1) : Nat) : Int) ((beN ((b.l.drop (0 + 1 + 1)).take 2) : Nat) : Int) ((beN ((b.l.drop (0 + 1 + 1 + 2)).take 2) : Nat) : Int) ((beN ((b.l.drop (0 + 1 + 1 + 2 + 2)).take 2) : Nat) : Int) (hashAt b.l) ⟨x38.a, x38.c, (bodyR b.l).2.1⟩ x41.1)).cells 82 (0, 0)) :: H) (SB w hw)) (fun fp2 => ?_)
  exact X_retP ((MsgV.mk ((beN ((b.l.drop (0)).take 1) : Nat) : Int) ((beN ((b.l.drop (0 + 1)).take 1) : Nat) : Int) ((beN ((b.l.drop (0 + 1 + 1)).take 2) : Nat) : Int) ((beN ((b.l.drop (0 + 1 + 1 + 2)).take 2) : Nat) : Int) ((beN ((b.l.drop (0 + 1 + 1 + 2 + 2)).take 2) : Nat) : Int) (hashAt b.l) ⟨x38.a, x38.c, (bodyR b.l).2.1⟩ x41.1), fp2) [_] Tryz.results145 ⟨⟨_, rfl, res_cellN rfl⟩, trivial⟩ rfl (fun w hw => (SB w hw : St w0 (dat fp2 (Deep.leads (MsgV.mk ((beN ((b.l.drop (0)).take 1) : Nat) : Int) ((beN ((b.l.drop (0 + 1)).take 1) : Nat) : Int) ((beN ((b.l.drop (0 + 1 + 1)).take 2) : Nat) : Int) ((beN ((b.l.drop (0 + 1 + 1 + 2)).take 2) : Nat) : Int) ((beN ((b.l.drop (0 + 1 + 1 + 2 + 2)).take 2) : Nat) : Int) (hashAt b.l) ⟨x38.a, x38.c, (bodyR b.l).2.1⟩ x41.1)) :: H) w).addPure hx)
end
section
open Go.RowKit Go.Sx
set_option maxRecDepth 100000
set_option maxHeartbeats 1000000
instance : TyZ Tryz.prog 247 (.agg #[.pointer none]) := ⟨by kernel_rfl⟩
theorem get1_ret {w0 : World} {H : List SA} {bm be : Nat} : CTD Tryz.prog w0 (H) 144 ([.pointer (some ⟨bm, 0, none⟩), .pointer (some ⟨be, 0, none⟩)] : List Value).toArray (.returning) (.returning) (H) := by
 refine CTD_intro Tryz.func144 rfl Tryz.ntmps144 rfl (fun c₀ cs a w hu ha hw => ?_)
 refine wpS_seq ?_
 refine TS_recover rfl not_out ?_ ha hw
 rw [caught_returning hu]
 refine TL_q (Qt_assertNil rfl Tryz.underlying244) rfl ?_
 refine TL_q (Qt_move (.tuple _) rfl) rfl ?_
 refine TL_q (Qt_extract rfl) rfl ?_
 refine TL_q (Qt_extract rfl) rfl ?_
 refine TL_q (Qt_assign (.int .i64 _) rfl) rfl ?_
 refine TL_q (Qt_assign (.bool _) rfl) rfl ?_
 refine TL_nil ?_
 refine XS_then ?_
 refine TA_seq ?_
 refine T_region ?_
 refine TL_q (Qt_move (.bool _) rfl) rfl ?_
 refine TL_nil ?_
 refine XA_then ?_
 refine TA_leaf ?_
 refine T_cond rfl (fun h9 => ?_) (fun h9 => ?_)
 ·
  have p9 := cL h9
  cases h9
 ·
  have p9 := cL h9
  refine T_skip ?_
  refine XS_end (by rw [← frame_same hu]) (by simp) (.tuple #[]) ?_
  exact X_ret () [] Tryz.results144 trivial rfl (Subs.st inferInstance)
theorem get1_pan {w0 : World} {H : List SA} {bm be : Nat} {m : MsgV} {e x : Int} : CTD Tryz.prog w0 (blk bm (.cells (m).cells 82 (0, 0)) :: blk be (.cells #[.int .i64 (x)] 36 (0, 0)) :: H) 144 ([.pointer (some ⟨bm, 0, none⟩), .pointer (some ⟨be, 0, none⟩)] : List Value).toArray (.panicking (errP e)) (.panicking [{ v := .iface 244 (.int .i64 e), recovered := true }]) (blk bm (.cells (MsgV.zero).cells 82 (0, 0)) :: blk be (.cells #[.int .i64 (e)] 36 (0, 0)) :: H) := by
 refine CTD_intro Tryz.func144 rfl Tryz.ntmps144 rfl (fun c₀ cs a w hu ha hw => ?_)
 refine wpS_seq ?_
 refine TS_recover rfl not_out ?_ ha hw
 rw [caught_panicking hu]
 refine TL_q (Qt_assertIs rfl Tryz.underlying244) rfl ?_
 refine TL_q (Qt_move (.tuple _) rfl) rfl ?_
 refine TL_q (Qt_extract rfl) rfl ?_
 refine TL_q (Qt_extract rfl) rfl ?_
 refine TL_q (Qt_assign (.int .i64 _) rfl) rfl ?_
 refine TL_q (Qt_assign (.bool _) rfl) rfl ?_
 refine TL_nil ?_
 refine XS_then ?_
 refine TA_seq ?_
 refine T_region ?_
 refine TL_q (Qt_move (.bool _) rfl) rfl ?_
 refine TL_nil ?_
 refine XA_then ?_
 refine TA_leaf ?_
 refine T_cond rfl (fun h9 => ?_) (fun h9 => ?_)
 ·
  have p9 := cL h9
  refine T_region ?_
  refine TL_q (Qt_build [] rfl (by kernel_rfl)) rfl ?_
  refine TL_q (Qt_move (.int .i64 _) rfl) rfl ?_
  refine TL_n (Ef_storeN rfl rfl (?_))
  refine TL_n (Ef_store1 (.int .i64 _) rfl rfl (?_))
  refine TL_nil ?_
  refine XS_end (rfl) (by simp) (.tuple #[]) ?_
  exact X_ret () [] Tryz.results144 trivial rfl (Subs.st inferInstance)
 ·
  have p9 := cL h9
  cases h9
theorem getM_full {l : List UInt8} (h : 65504 < l.length) : getM l = (4, .zero) := if_pos h
theorem getM_bad {l : List UInt8} (h : ¬ 65504 < l.length) (he : (msgR l).1 ≠ 0) : getM l = ((msgR l).1, .zero) := by rw [getM, if_neg h, if_pos he]
theorem getM_good {l : List UInt8} {m : MsgD} (h : ¬ 65504 < l.length) (he : msgR l = (0, m)) : getM l = (0, m) := by rw [getM, if_neg h, he]; rfl
theorem cellsIn_nil {w : World} {fp : List Nat} : CellsIn fp w (.slice none 0 0) 1 [] := ⟨none, 0, 0, rfl, rfl, Nat.le_refl _, by unfold maxLen; omega, fun h => absurd h (by simp)⟩
theorem St.datMsgZero {w0 w : World} {H : List SA} (h : St w0 H w) : St w0 (dat [] (Deep.leads MsgV.zero) :: H) w := by
 refine h.datNil.turn rfl fun _ => ⟨fun y hy => ?_, fun y hy => ?_, fun y hy z hz => ?_, fun y hy => by cases hy⟩
 · obtain rfl : y = MsgV.zero.body := by simpa [Deep.leads] using hy
   exact cellsIn_nil
 · obtain rfl : y = MsgV.zero.parts := by simpa [Deep.leads] using hy
   exact cellsIn_nil
 · obtain rfl : y = MsgV.zero.parts := by simpa [Deep.leads] using hy
   cases hz
theorem wget_c {w0 : World} {H : List SA} {a : Option Addr} {l : List UInt8} {c : Nat} [hr : RdB w0 H (.slice a l.length c) l] (hl : l.length ≤ 4294967296) :
 CT Tryz.prog w0 H 100 [.slice a l.length c] (α := MsgV × List Nat) (fun y => .tuple #[.agg y.1.cells, .int .i64 (getM l).1]) (fun y => pu (y.1.abs = (getM l).2) :: dat y.2 (Deep.leads y.1) :: H) := by
 refine CT_introA Tryz.func100 rfl Tryz.ntmps100 rfl ?_
 refine TA_seq ?_
 refine T_region ?_
 refine TL_e rfl (Ef_allocN (fun b2 => ?_))
 refine TL_e rfl (Ef_alloc1 (fun b3 => ?_))
 refine TL_nil ?_
 refine XA_then ?_
 refine TA_seq ?_
 refine T_seq ?_
 refine T_region ?_
 refine TL_q (Qt_move (.slice _ _ _) rfl) rfl ?_
 refine TL_q (Qt_len_slice rfl Tryz.underlying33) rfl ?_
 refine TL_q (Qt_gtr rfl rfl) rfl ?_
 refine TL_nil ?_
 refine X_then ?_
 refine T_cond rfl (fun h6 => ?_) (fun h6 => ?_)
 ·
  have p6 := cL h6
  refine T_seq ?_
  refine T_region ?_
  refine TL_q (Qt_build [] rfl (by kernel_rfl)) rfl ?_
  refine TL_n (Ef_storeN rfl rfl (?_))
  refine TL_n (Ef_store1 (.int .i64 _) rfl rfl (?_))
  refine TL_nil ?_
  refine X_then ?_
  refine T_ret ?_
  refine XA_then_ret ?_
  refine XD_ret0 (by simp) ?_
  have hg := getM_full (l := l) (by omega)
  simp only [hg]
  exact X_ret (MsgV.zero, []) [_, _] Tryz.results100 ⟨⟨_, rfl, res_cellN rfl⟩, ⟨_, rfl, res_cell1⟩, trivial⟩ rfl (fun w hw => (St.datMsgZero (Subs.st inferInstance w hw : St w0 H w)).addPure rfl)
 ·
  have p6 := cL h6
  have hlen : ¬ 65504 < l.length := by omega
  refine T_skip ?_
  refine XA_then ?_
  refine TA_defer (args := [.pointer _, .pointer _]) rfl rfl ?_
  refine TA_regionA ?_
  refine TLA_q (Qt_move (.slice _ _ _) rfl) rfl ?_
  refine TLA_e rfl (Ef_call (rnew_c (by omega)) rfl (fun x10 => ?_))
  refine TLA_pure (fun hb => ?_)
  obtain ⟨x1, ⟨ba, bc, bl⟩⟩ := x10
  simp only at hb
  subst hb
  refine TLA_q (Qt_build [(0, (.pointer _))] rfl (by kernel_rfl)) rfl ?_
  refine TLA_eP rfl (EfP_call (message_c (p := x1) (b := ⟨ba, bc, bl⟩) (by show bl.length ≤ _; omega)) rfl (fun x12 => ?_) (fun y12 => by
   intro w hw
   have hy := hw.pure
   have hg := getM_bad hlen hy
   refine XD_panic (get1_pan (bm := b2) (be := b3) (m := MsgV.zero) (e := (msgR bl).1) (x := 0) (H := H)) rfl ?_ w (Subs.st inferInstance w hw)
   exact X_ret (MsgV.zero, []) [_, _] Tryz.results100 ⟨⟨_, rfl, res_cellN rfl⟩, ⟨_, rfl, res_cell1⟩, trivial⟩ (by rw [hg]; rfl) (fun w hw => (St.datMsgZero (Subs.st inferInstance w hw : St w0 H w)).addPure (by rw [hg]; rfl))))
  refine TLA_tail ?_
  refine TL_pure (fun hgl => ?_)
  have hgl := getM_good hlen hgl
  refine TL_n (Ef_storeN rfl rfl (?_))
  refine TL_n (Ef_store1 (.int .i64 _) rfl rfl (?_))
  refine TL_nil ?_
  refine XA_then ?_
  refine TA_leaf ?_
  refine T_ret ?_
  refine XD_ret (by simp) get1_ret rfl ?_
  have hgl := hgl
  exact X_ret x12 [_, _] Tryz.results100 ⟨⟨_, rfl, res_cellN rfl⟩, ⟨_, rfl, res_cell1⟩, trivial⟩ (by rw [hgl]; rfl) (fun w hw => (Subs.st inferInstance w hw : St w0 (dat x12.2 (Deep.leads x12.1) :: H) w).addPure (by rw [hgl]))
end
end Go.Proofs.YtnijomppbgdmnaaGreat
