/- Walks: the readers of package nums. -/
import Derived.Test.YtnijomppbgdmnaaGreatSgP
import Derived.Test.YtnijomppbgdmnaaGreatNumsP
import Derived.Test.YtnijomppbgdmnaaGreatSdP
set_option linter.unusedSimpArgs false
set_option linter.unusedVariables false
namespace Go.Proofs.YtnijomppbgdmnaaGreat
open Go.RowKit Go.Sx
set_option maxRecDepth 100000
set_option maxHeartbeats 1000000

theorem or_add (x c i : Nat) (h : c < 2 ^ i) : x * 2 ^ i ||| c = x * 2 ^ i + c := by
 rw [← Nat.shiftLeft_eq, Nat.shiftLeft_add_eq_or_of_lt h]
theorem or_addr (x c i : Nat) (h : x < 2 ^ i) : x ||| c * 2 ^ i = x + c * 2 ^ i := by
 rw [Nat.or_comm, or_add c x i h, Nat.add_comm]
/-! What is read -/
def beN (l : List UInt8) : Nat := l.foldl (fun x c => x * 256 + c.toNat) 0
theorem beN_snoc (l : List UInt8) (c : UInt8) : beN (l ++ [c]) = beN l * 256 + c.toNat := by simp [beN]
theorem beN_lt : ∀ l : List UInt8, beN l < 256 ^ l.length := by
 intro l
 have key : ∀ (l : List UInt8) (x n : Nat), x < 256 ^ n → l.foldl (fun x c => x * 256 + c.toNat) x < 256 ^ (n + l.length) := by
  intro l
  induction l with
  | nil => intro x n h; simpa using h
  | cons c l ih =>
   intro x n h
   have h1 := ih (x * 256 + c.toNat) (n + 1) (by have := c.toNat_lt; rw [Nat.pow_succ]; omega)
   simpa [Nat.add_assoc, Nat.add_comm 1] using h1
 simpa [beN] using key l 0 0 (by simp)
/-- A fixed number of n bytes: the error, the number, how many bytes that takes. -/
def rdFixed (l : List UInt8) (n : Int) : Int × Nat × Nat :=
 if wideB n = false then (15, 0, 0) else if (l.length : Int) < n then (1, 0, 0) else (0, beN (l.take n.toNat), n.toNat)
def pk (l : List UInt8) : Nat → Nat → Nat → Int × Nat × Nat
 | 0, _, _ => (2, 0, 0)
 | f + 1, i, x => match l[i]? with
  | none => (1, 0, 0)
  | some c => if i = 9 ∧ 1 < c.toNat then (2, 0, 0)
   else if c.toNat < 128 then (if c.toNat = 0 ∧ 0 < i then (2, 0, 0) else (0, x + c.toNat % 128 * 128 ^ i, i + 1))
   else pk l f (i + 1) (x + c.toNat % 128 * 128 ^ i)
/-- A packed number. -/
def rdPacked (l : List UInt8) : Int × Nat × Nat := pk l 10 0 0
/-- .. that is no more than a bound. -/
def rdCount (l : List UInt8) (most : Int) : Int × Nat × Nat :=
 if (rdPacked l).1 ≠ 0 then ((rdPacked l).1, 0, 0) else if most < 0 ∨ most < ((rdPacked l).2.1 : Int) then (3, 0, 0) else rdPacked l
/-- A text. -/
def rdText (l : List UInt8) (most : Int) : Int × List UInt8 × Nat :=
 if (rdCount l most).1 ≠ 0 then ((rdCount l most).1, [], 0)
 else if l.length < (rdCount l most).2.2 + (rdCount l most).2.1 then (1, [], 0)
 else (0, (l.drop (rdCount l most).2.2).take (rdCount l most).2.1, (rdCount l most).2.2 + (rdCount l most).2.1)
theorem pk_err (l : List UInt8) : ∀ f i x, (pk l f i x).1 ≠ 0 → (pk l f i x).2 = (0, 0)
 | 0, _, _, _ => rfl
 | f + 1, i, x, h => by
  unfold pk at h ⊢
  cases hl : l[i]? with
  | none => rfl
  | some c =>
   simp only [hl] at h ⊢
   split
   · rfl
   · rename_i h1
     simp only [h1, if_false] at h
     split
     · rename_i h2
       simp only [h2, if_true] at h
       split
       · rfl
       · rename_i h3; simp [h3] at h
     · rename_i h2
       simp only [h2, if_false] at h
       exact pk_err l f (i + 1) _ h
theorem rdPacked_err {l : List UInt8} (h : (rdPacked l).1 ≠ 0) : (rdPacked l).2 = (0, 0) := pk_err l 10 0 0 h
theorem pk_bound (l : List UInt8) : ∀ f i x, f + i = 10 → i ≤ l.length → x < 128 ^ i → (pk l f i x).2.2 ≤ 10 ∧ (pk l f i x).2.2 ≤ l.length ∧ (pk l f i x).2.1 < 18446744073709551616
 | 0, _, _, _, _, _ => by simp [pk]
 | f + 1, i, x, hf, hi, hx => by
  unfold pk
  cases hl : l[i]? with
  | none => simp
  | some c =>
   have hlt : i < l.length := (List.getElem?_eq_some_iff.1 hl).1
   simp only
   have hx2 : x + c.toNat % 128 * 128 ^ i < 128 ^ (i + 1) := by
    have h1 : c.toNat % 128 < 128 := Nat.mod_lt _ (by decide)
    have h2 := Nat.mul_le_mul_right (128 ^ i) (show c.toNat % 128 ≤ 127 by omega)
    rw [Nat.pow_succ]; omega
   split
   · simp
   · rename_i h9
     split
     · split
       · simp
       · refine ⟨by simp; omega, by simp; omega, ?_⟩
         show x + c.toNat % 128 * 128 ^ i < _
         by_cases hi9 : i = 9
         · subst hi9
           have h1 : c.toNat ≤ 1 := by omega
           have h3 : (128 : Nat) ^ 9 = 9223372036854775808 := by decide
           rw [h3] at hx ⊢
           have : c.toNat % 128 ≤ 1 := by omega
           omega
         · have h4 : (128 : Nat) ^ (i + 1) ≤ 128 ^ 9 := Nat.pow_le_pow_right (by decide) (by omega)
           have h3 : (128 : Nat) ^ 9 = 9223372036854775808 := by decide
           omega
     · exact pk_bound l f (i + 1) _ (by omega) (by omega) hx2
theorem rdPacked_bound (l : List UInt8) : (rdPacked l).2.2 ≤ 10 ∧ (rdPacked l).2.2 ≤ l.length ∧ (rdPacked l).2.1 < 18446744073709551616 := pk_bound l 10 0 0 rfl (by omega) (by simp)
theorem rdCount_err {l : List UInt8} {m : Int} (h : (rdCount l m).1 ≠ 0) : (rdCount l m).2 = (0, 0) := by
 unfold rdCount at h ⊢
 split
 · rfl
 · rename_i h1
   split
   · rfl
   · rename_i h2; simp [h1, h2] at h
theorem rdCount_ok {l : List UInt8} {m : Int} (h : (rdCount l m).1 = 0) : rdCount l m = rdPacked l ∧ ((rdPacked l).2.1 : Int) ≤ m ∧ (rdPacked l).1 = 0 := by
 unfold rdCount at h ⊢
 split
 · rename_i h1; simp [h1] at h
 · rename_i h1
   split
   · rename_i h2; simp [h1, h2] at h
   · exact ⟨rfl, by omega, by omega⟩
theorem rdCount_bound (l : List UInt8) (m : Int) : (rdCount l m).2.2 ≤ 10 ∧ (rdCount l m).2.2 ≤ l.length ∧ (rdCount l m).2.1 < 18446744073709551616 := by
 have := rdPacked_bound l
 unfold rdCount
 split
 · simp
 · split
   · simp
   · exact this
theorem rdText_bound (l : List UInt8) (m : Int) : (rdText l m).2.2 ≤ l.length ∧ (rdText l m).2.1.length ≤ l.length := by
 unfold rdText
 split
 · simp
 · split
   · simp
   · refine ⟨by simp; omega, by simp; omega⟩
theorem left_c {w0 : World} {H : List SA} {p k : Nat} {b : BS} [rb : RdB w0 H (.slice b.a b.l.length b.c) b.l] (hk : k ≤ b.l.length) (hl : b.l.length ≤ 4294967296) :
 CT Tryz.prog w0 (blk p (.cells (ReaderV.mk b (k : Int)).cells 222 (0, 0)) :: H) 124 [.pointer (some ⟨p, 0, none⟩)] (α := Unit) (fun _ => .int .i64 ((b.l.length - k : Nat) : Int)) (fun _ => blk p (.cells (ReaderV.mk b (k : Int)).cells 222 (0, 0)) :: H) := by
 refine CT_intro Tryz.func124 rfl Tryz.ntmps124 rfl (T2 (Qai rfl rfl (TX (zS (T2 (zy (zm (.pointer _) rfl) (zy (Qt_ptr_nil rfl rfl Tryz.underlying164) (TX (zC rfl (fun h4 => ?_) (fun h4 => ?_))))))))))
 ·
  have p4 := cL h4
  cases h4
 have p4 := cL h4
 refine zk (zx (zS (zD _ [(0, true), (1, true), (2, true), (3, true), (4, true), (5, true), (6, true), (7, true), (8, true), (9, true), (10, true)] (fun _ hh => hh) (fun hns0 => ?_))))
 refine zd hns0 rfl (zm (.pointer _) rfl) rfl (zd hns0 rfl (Qt_nilCheck rfl) rfl (zd hns0 rfl (zf 0 rfl rfl) rfl (zd hns0 rfl (zl rfl) rfl (zd hns0 rfl (zL rfl Tryz.underlying33) rfl (zd hns0 rfl (zm (.pointer _) rfl) rfl (zd hns0 rfl (Qt_nilCheck rfl) rfl (zd hns0 rfl (zf 1 rfl rfl) rfl (zd hns0 rfl (zl rfl) rfl (zd hns0 rfl (zh rfl rfl) rfl (zd hns0 rfl (za (.int .i64 _) rfl) rfl (DL_nil ?_)))))))))))
 refine zx (zQ ?_)
 exact zX () [_] Tryz.results124 ⟨rfl, trivial⟩ (by show Value.int .i64 ((b.l.length : Int) - (k : Int)) = _; congr 1; omega) SB
theorem done_c {w0 : World} {H : List SA} {p k : Nat} {b : BS} [rb : RdB w0 H (.slice b.a b.l.length b.c) b.l] (hk : k ≤ b.l.length) (hl : b.l.length ≤ 4294967296) :
 CT Tryz.prog w0 (blk p (.cells (ReaderV.mk b (k : Int)).cells 222 (0, 0)) :: H) 79 [.pointer (some ⟨p, 0, none⟩)] (α := Unit) (fun _ => .int .i64 (if k < b.l.length then 2 else 0)) (fun _ => blk p (.cells (ReaderV.mk b (k : Int)).cells 222 (0, 0)) :: H) := by
 refine CT_intro Tryz.func79 rfl Tryz.ntmps79 rfl (T2 (Qai rfl rfl (TX (zS (zB (T2 (zy (zm (.pointer _) rfl) (zy (Qt_ptr_nil rfl rfl Tryz.underlying164) (Qab rfl rfl (TX (zC rfl (fun h3 => ?_) (fun h3 => ?_))))))))))))
 ·
  have p3 := cL h3
  cases h3
 have p3 := cL h3
 refine T2 (zy (zm (.pointer _) rfl) (ze rfl (zc (left_c hk hl) rfl (fun x8 => ?_))))
 refine zy (Qt_gtr rfl rfl) (Qab rfl rfl (TX (zC rfl (fun h6 => ?_) (fun h6 => ?_))))
 ·
  have p6 := cL h6
  refine T2 (Qai rfl rfl (TX (zQ (zb (zr ?_)))))
  exact zX () [_] Tryz.results79 ⟨rfl, trivial⟩ (by first | (rw [if_pos (by omega)]; rfl) | (rw [if_neg (by omega)]; rfl)) SB
 have p6 := cL h6
 refine zk (X_block (zx (T2 (Qai rfl rfl (TX (zQ ?_))))))
 exact zX () [_] Tryz.results79 ⟨rfl, trivial⟩ (by first | (rw [if_pos (by omega)]; rfl) | (rw [if_neg (by omega)]; rfl)) SB
theorem rnew_c {w0 : World} {H : List SA} {a : Option Addr} {l : List UInt8} {c : Nat} [hr : RdB w0 H (.slice a l.length c) l] (hl : l.length ≤ 4294967296) :
 CT Tryz.prog w0 (H) 77 [.slice a l.length c] (α := Nat × BS) (fun x => .pointer (some ⟨x.1, 0, none⟩)) (fun x => pu (x.2.l = l) :: blk x.1 (.cells (ReaderV.mk x.2 ((0 : Nat) : Int)).cells 222 (0, 0)) :: row (.slice x.2.a x.2.l.length x.2.c) 5 1 (bytesV x.2.l) :: H) := by
 refine CT_intro Tryz.func77 rfl Tryz.ntmps77 rfl (T2 (zy (za (.pointer _) rfl) (T4 (Qms rfl rfl (ze rfl (zc (clone_c hl) rfl (fun x4 => ?_)))))))
 refine zy (zw [(0, .slice _ _ _)] rfl) (ze rfl (Ef_boxN rfl (fun b6 => ?_)))
 refine zy (za (.pointer _) rfl) (TX (zQ ?_))
 exact zX (b6, ⟨x4.a, x4.c, l⟩) [_] Tryz.results77 ⟨rfl, trivial⟩ rfl (fun w hw => St.addPure (Subs.st (H' := blk b6 (.cells (ReaderV.mk ⟨x4.a, x4.c, l⟩ 0).cells 222 (0, 0)) :: row (.slice x4.a l.length x4.c) 5 1 (bytesV l) :: H) inferInstance w hw) rfl)
theorem fixed_c {w0 : World} {H : List SA} {p k : Nat} {b : BS} [rb : RdB w0 H (.slice b.a b.l.length b.c) b.l] (hk : k ≤ b.l.length) (hl : b.l.length ≤ 4294967296) {n : Int} :
 CT Tryz.prog w0 (blk p (.cells (ReaderV.mk b (k : Int)).cells 222 (0, 0)) :: H) 125 [.pointer (some ⟨p, 0, none⟩), .int .i64 n] (α := Unit) (fun _ => .tuple #[.int .u64 ((rdFixed (b.l.drop k) n).2.1 : Int), .int .i64 (rdFixed (b.l.drop k) n).1]) (fun _ => blk p (.cells (ReaderV.mk b ((k + (rdFixed (b.l.drop k) n).2.2 : Nat) : Int)).cells 222 (0, 0)) :: H) := by
 refine CT_intro Tryz.func125 rfl Tryz.ntmps125 rfl (T2 (zy (za (.int .u64 _) rfl) (Qai rfl rfl (TX (zS (zB (T2 (zy (zm (.pointer _) rfl) (zy (Qt_ptr_nil rfl rfl Tryz.underlying164) (Qab rfl rfl (TX (zC rfl (fun h7 => ?_) (fun h7 => ?_)))))))))))))
 ·
  have p7 := cL h7
  cases h7
 have p7 := cL h7
 refine T2 (Qmi rfl rfl (ze rfl (zc (wide_c) rfl (fun x12 => ?_))))
 refine zy (Qt_not rfl) (Qab rfl rfl (TX (zC rfl (fun h10 => ?_) (fun h10 => ?_))))
 ·
  have p10 := cL h10
  refine T2 (zy (za (.int .u64 _) rfl) (Qai rfl rfl (TX (zQ (zb (zr ?_))))))
  have e : rdFixed (b.l.drop k) n = (15, 0, 0) := by unfold rdFixed; rw [if_pos (by simpa using h10)]
  simp only [e]
  exact zX () [_, _] Tryz.results125 ⟨rfl, rfl, trivial⟩ rfl SB
 have p10 := cL h10
 refine T2 (zy (zm (.pointer _) rfl) (ze rfl (zc (left_c hk hl) rfl (fun x16 => ?_))))
 refine Qmi rfl rfl (zy (Qt_lss rfl rfl) (Qab rfl rfl (TX (zC rfl (fun h14 => ?_) (fun h14 => ?_)))))
 ·
  have p14 := cL h14
  refine T2 (zy (za (.int .u64 _) rfl) (Qai rfl rfl (TX (zQ (zb (zr ?_))))))
  have e : rdFixed (b.l.drop k) n = (1, 0, 0) := by unfold rdFixed; rw [if_neg (by simpa using h10), if_pos (by simp; omega)]
  simp only [e]
  exact zX () [_, _] Tryz.results125 ⟨rfl, rfl, trivial⟩ rfl SB
 have p14 := cL h14
 have hw4 := wideB_le (n := n) (by simpa using h10)
 obtain ⟨n, rfl⟩ := Int.eq_ofNat_of_zero_le (show 0 ≤ n by omega)
 have hdl : (b.l.drop k).length = b.l.length - k := by simp
 have hkn : k + n ≤ b.l.length := by omega
 refine zk (X_block (zx (T2 (zy (za (.int .u64 _) rfl) (TX (zS (T2 (Qmi rfl rfl (Qmi rfl rfl (TX (zB ?_)))))))))))
 refine T_loop [6, 20, 21, 22, 23, 24, 25, 26, 27, 28, 29, 30, 31, 32, 33, 34, 35, 36, 37, 38, 39, 40, 41, 42, 43] [20, 6] (fun us H' => ∃ (i : Nat), us = [.int .i64 (i : Int), .int .u64 ((beN ((b.l.drop k).take i) : Nat) : Int)] ∧ blk p (.cells (ReaderV.mk b ((k + i : Nat) : Int)).cells 222 (0, 0)) :: H = H' ∧ i ≤ n) (fun us => match us with | .int _ i :: _ => n - i.toNat | _ => 0) ⟨0, rfl, rfl, by omega⟩ SB ?_
 rintro τ0 _ _  ⟨i, rfl, rfl, hi0⟩ _
 refine T2 (zy (Qt_lss rfl rfl) (TX (zS (zC rfl (fun h21 => ?_) (fun h21 => ?_)))))
 ·
  have p21 := cL h21
  have hin : i < n := by omega
  have hki : k + i < b.l.length := by omega
  have hsn : beN ((b.l.drop k).take (i + 1)) = beN ((b.l.drop k).take i) * 256 + b.l[k + i].toNat := by
   rw [List.take_succ_eq_append_getElem (by omega), beN_snoc]; simp
  have hlt : beN ((b.l.drop k).take i) < 256 ^ 7 := Nat.lt_of_lt_of_le (beN_lt _) (Nat.pow_le_pow_right (by decide) (by simp; omega))
  have hc8 := b.l[k + i].toNat_lt
  refine zk (zx (zS (zB (zS (zD _ [(0, true), (1, true), (2, true), (3, true), (4, true), (5, true), (6, true), (7, true), (8, true), (9, true), (10, true), (11, true), (12, true), (13, true), (14, true)] (fun _ hh => hh) (fun hns0 => ?_))))))
  refine zd hns0 rfl (zm (.int .u64 _) rfl) rfl (zd hns0 rfl (Qt_shl8 rfl rfl (by have : (256 : Nat) ^ 7 = 72057594037927936 := (by decide); omega)) rfl (zd hns0 rfl (zm (.pointer _) rfl) rfl (zd hns0 rfl (Qt_nilCheck rfl) rfl (zd hns0 rfl (zf 0 rfl rfl) rfl (zd hns0 rfl (zl rfl) rfl (zd hns0 rfl (zm (.pointer _) rfl) rfl (zd hns0 rfl (Qt_nilCheck rfl) rfl (zd hns0 rfl (zf 1 rfl rfl) rfl (zd hns0 rfl (zl rfl) rfl (zd hns0 rfl (Qt_indexR rfl rfl (by omega) (by simp; omega)) rfl (zd hns0 rfl (Qt_loadR (.int .u8 (b.l[k + i].toNat : Int)) rfl (bytes_get _ _ hki)) rfl ?_)))))))))))
  refine zd hns0 rfl (Qt_conv_u64 rfl rfl Tryz.underlying121 (by omega) (by omega)) rfl (zd hns0 rfl (Qt_orN rfl rfl rfl (by have : (256 : Nat) ^ 7 = 72057594037927936 := (by decide); show _ < 2 ^ 64; omega) (by show _ < 2 ^ 64; omega)) rfl ?_)
  rw [show beN ((b.l.drop k).take i) * 2 ^ 8 ||| b.l[k + i].toNat = beN ((b.l.drop k).take (i + 1)) from by rw [or_add _ _ 8 hc8, hsn]]
  refine zd hns0 rfl (za (.int .u64 _) rfl) rfl (DL_nil (zx (zR (zy (zm (.pointer _) rfl) (zy (Qt_nilCheck rfl) (zy (zf 1 rfl rfl) (zy (zl rfl) (zy (zj rfl rfl) ?_))))))))
  rw [show ((k + i : Nat) : Int) + 1 = ((k + (i + 1) : Nat) : Int) from rfl]
  refine zy (Qt_nilCheck rfl) (zy (zf 1 rfl rfl) (zN (Ef_store1 (.int .i64 _) rfl rfl (zz (X_block (zx (zR ?_)))))))
  refine zy (zj rfl rfl) (Qmi rfl rfl (zz (X_loop _ zA (⟨i + 1, rfl, rfl, by omega⟩) (by show n - (i + 1 : Int).toNat < n - (i : Int).toNat; omega) (SB))))
 have p21 := cL h21
 have hi : i = n := by omega
 subst hi
 refine zY (zG (zW (zE (zx (T2 (zy (zm (.int .u64 _) rfl) (zy (za (.int .u64 _) rfl) (Qai rfl rfl (TX (zQ ?_))))))))))
 have e : rdFixed (b.l.drop k) (i : Int) = (0, beN ((b.l.drop k).take i), i) := by unfold rdFixed; rw [if_neg (by simpa using h10), if_neg (by omega)]; rfl
 simp only [e]
 exact zX () [_, _] Tryz.results125 ⟨rfl, rfl, trivial⟩ rfl SB
theorem pk_short {l : List UInt8} {i x : Nat} (hi : i < 10) (h : l.length ≤ i) : pk l (10 - i) i x = (1, 0, 0) := by
 obtain ⟨f, hf⟩ : ∃ f, 10 - i = f + 1 := ⟨9 - i, by omega⟩
 rw [hf, pk, List.getElem?_eq_none h]
theorem pk_at {l : List UInt8} {i x : Nat} {c : UInt8} (hi : i < 10) (h : l[i]? = some c) : pk l (10 - i) i x = if i = 9 ∧ 1 < c.toNat then (2, 0, 0)
 else if c.toNat < 128 then (if c.toNat = 0 ∧ 0 < i then (2, 0, 0) else (0, x + c.toNat % 128 * 128 ^ i, i + 1))
 else pk l (10 - (i + 1)) (i + 1) (x + c.toNat % 128 * 128 ^ i) := by
 obtain ⟨f, hf⟩ : ∃ f, 10 - i = f + 1 := ⟨9 - i, by omega⟩
 rw [hf, pk, h, show 10 - (i + 1) = f by omega]
theorem and127 (c : Nat) : c &&& 127 = c % 128 := Nat.and_two_pow_sub_one_eq_mod c 7
theorem pk_room {x c i : Nat} (hi : i < 10) (hx : x < 128 ^ i) (h9 : i = 9 → c ≤ 1) : x < 2 ^ 64 ∧ c % 128 * 2 ^ (7 * i) < 2 ^ 64 ∧ x + c % 128 * 128 ^ i < 128 ^ (i + 1) := by
 have e : (2 : Nat) ^ (7 * i) = 128 ^ i := by rw [Nat.pow_mul]
 have h1 : (128 : Nat) ^ i ≤ 128 ^ 9 := Nat.pow_le_pow_right (by decide) (by omega)
 have h3 : (128 : Nat) ^ 9 = 9223372036854775808 := by decide
 have h2 := Nat.mul_le_mul_right (128 ^ i) (show c % 128 ≤ 127 by omega)
 refine ⟨by omega, ?_, by rw [Nat.pow_succ]; omega⟩
 rw [e]
 by_cases hi9 : i = 9
 · have := h9 hi9
   subst hi9
   have : c % 128 ≤ 1 := by omega
   rw [h3]; omega
 · have h4 : (128 : Nat) ^ i ≤ 128 ^ 8 := Nat.pow_le_pow_right (by decide) (by omega)
   have h5 : (128 : Nat) ^ 8 = 72057594037927936 := by decide
   omega

theorem packed_c {w0 : World} {H : List SA} {p k : Nat} {b : BS} [rb : RdB w0 H (.slice b.a b.l.length b.c) b.l] (hk : k ≤ b.l.length) (hl : b.l.length ≤ 4294967296) :
 CT Tryz.prog w0 (blk p (.cells (ReaderV.mk b (k : Int)).cells 222 (0, 0)) :: H) 164 [.pointer (some ⟨p, 0, none⟩)] (α := Unit) (fun _ => .tuple #[.int .u64 ((rdPacked (b.l.drop k)).2.1 : Int), .int .i64 (rdPacked (b.l.drop k)).1]) (fun _ => blk p (.cells (ReaderV.mk b ((k + (rdPacked (b.l.drop k)).2.2 : Nat) : Int)).cells 222 (0, 0)) :: H) := by
 refine CT_intro Tryz.func164 rfl Tryz.ntmps164 rfl (T2 (zy (za (.int .u64 _) rfl) (Qai rfl rfl (TX (zS (T2 (zy (zm (.pointer _) rfl) (zy (Qt_ptr_nil rfl rfl Tryz.underlying164) (TX (zC rfl (fun h8 => ?_) (fun h8 => ?_)))))))))))
 ·
  have p8 := cL h8
  cases h8
 have p8 := cL h8
 refine S4 (zy (za (.int .u64 _) rfl) (TX (zS (T2 (Qmi rfl rfl (TX (zB ?_)))))))
 refine T_loop [2, 3, 4, 5, 6, 9, 10, 11, 12, 13, 14, 15, 16, 17, 18, 19, 20, 21, 22, 23, 24, 25, 26, 27, 28, 29, 30, 31, 32, 33, 34, 35, 36, 37, 38, 39, 40, 41, 42, 43, 44, 45, 46, 47, 48, 49, 50, 51, 52, 53, 54, 55, 56, 57, 58, 59, 60, 61, 62, 63, 64, 65, 66, 67, 68] [9, 4] (fun us H' => ∃ (i : Nat) (x : Nat), us = [.int .i64 (i : Int), .int .u64 (x : Int)] ∧ blk p (.cells (ReaderV.mk b (k : Int)).cells 222 (0, 0)) :: H = H' ∧ i ≤ 10 ∧ (x < 128 ^ i) ∧ (rdPacked (b.l.drop k) = pk (b.l.drop k) (10 - i) i x)) (fun us => match us with | .int _ i :: _ => 10 - i.toNat | _ => 0) ⟨0, 0, rfl, rfl, by omega, by simp, rfl⟩ SB ?_
 rintro τ0 _ _  ⟨i, x, rfl, rfl, hi0, hx, hpk⟩ _
 refine T2 (zy (Qt_lss rfl rfl) (TX (zS (zC rfl (fun h10 => ?_) (fun h10 => ?_)))))
 ·
  have p10 := cL h10
  have hi10 : i < 10 := by omega
  refine zk (zx (zS (zB (T2 (Qmi rfl rfl (Qai rfl rfl (TX (zS (zS (zD _ [(0, true), (1, true), (2, true), (3, true), (4, true), (5, true), (6, true), (7, true), (8, true), (9, true), (10, true), (11, true)] (fun _ hh => hh) (fun hns0 => ?_)))))))))))
  refine zd hns0 rfl (zm (.pointer _) rfl) rfl (zd hns0 rfl (Qt_nilCheck rfl) rfl (zd hns0 rfl (zf 1 rfl rfl) rfl (zd hns0 rfl (zl rfl) rfl (zd hns0 rfl (zm (.int .i64 _) rfl) rfl (zd hns0 rfl (zj rfl rfl) rfl (zd hns0 rfl (zm (.pointer _) rfl) rfl (zd hns0 rfl (Qt_nilCheck rfl) rfl (zd hns0 rfl (zf 0 rfl rfl) rfl (zd hns0 rfl (zl rfl) rfl (zd hns0 rfl (zL rfl Tryz.underlying33) rfl (zd hns0 rfl (Qt_geq rfl rfl) rfl ?_)))))))))))
  refine DL_nil (zx (zC rfl (fun h23 => ?_) (fun h23 => ?_)))
  ·
   have p23 := cL h23
   refine T2 (zy (za (.int .u64 _) rfl) (Qai rfl rfl (TX (zQ (zr (zb (zr (X_loop_ret (zb (zr ?_))))))))))
   have e : rdPacked (b.l.drop k) = (1, 0, 0) := hpk.trans (pk_short hi10 (by simp; omega))
   simp only [e]
   exact zX () [_, _] Tryz.results164 ⟨rfl, rfl, trivial⟩ rfl SB
  have p23 := cL h23
  have hki : k + i < b.l.length := by omega
  have hgc : (b.l.drop k)[i]? = some b.l[k + i] := by rw [List.getElem?_drop, List.getElem?_eq_getElem hki]
  have hat := pk_at (x := x) hi10 hgc
  have hc8 := b.l[k + i].toNat_lt
  refine zk (zx (zS (zD _ [(0, true), (1, true), (2, true), (3, true), (4, true), (5, true), (6, true), (7, true), (8, true), (9, true), (10, true), (11, true), (12, true)] (fun _ hh => hh) (fun hns1 => ?_))))
  refine zd hns1 rfl (zm (.pointer _) rfl) rfl (zd hns1 rfl (Qt_nilCheck rfl) rfl (zd hns1 rfl (zf 0 rfl rfl) rfl (zd hns1 rfl (zl rfl) rfl (zd hns1 rfl (zm (.pointer _) rfl) rfl (zd hns1 rfl (Qt_nilCheck rfl) rfl (zd hns1 rfl (zf 1 rfl rfl) rfl (zd hns1 rfl (zl rfl) rfl (zd hns1 rfl (zm (.int .i64 _) rfl) rfl (zd hns1 rfl (zj rfl rfl) rfl (zd hns1 rfl (Qt_indexR rfl rfl (by omega) (by simp; omega)) rfl (zd hns1 rfl (Qt_loadR (.int .u8 (b.l[k + i].toNat : Int)) rfl (bytes_get _ _ hki)) rfl ?_)))))))))))
  refine zd hns1 rfl (za (.int .u8 _) rfl) rfl (DL_nil (zx (zS (T2 (Qmi rfl rfl (zy (Qt_eql rfl rfl) (Qmb rfl rfl (TL_split 38 rfl (fun h38 => ?_) (fun h38 => ?_)))))))))
  ·
   have p38 := cL h38
   refine zt rfl rfl h38 (zy (zm (.int .u8 _) rfl) (zt rfl rfl h38 (zy (Qt_gtr rfl rfl) (zy (zT (.bool _) rfl h38 rfl) (TX (zC rfl (fun h41 => ?_) (fun h41 => ?_)))))))
   ·
    have p41 := cL h41
    have hc41 : i = 9 ∧ 1 < b.l[k + i].toNat := by first | omega | (simp_all; done) | (simp_all; omega)
    refine T2 (zy (za (.int .u64 _) rfl) (Qai rfl rfl (TX (zQ (zr (zb (zr (X_loop_ret (zb (zr ?_))))))))))
    have e : rdPacked (b.l.drop k) = (2, 0, 0) := hpk.trans (by rw [hat, if_pos hc41])
    simp only [e]
    exact zX () [_, _] Tryz.results164 ⟨rfl, rfl, trivial⟩ rfl SB
   have p41 := cL h41
   have hn41 : ¬ (i = 9 ∧ 1 < b.l[k + i].toNat) := by first | omega | (simp_all; done) | (simp_all; omega)
   obtain ⟨hr1, hr2, hr3⟩ := pk_room (c := b.l[k + i].toNat) hi10 hx (by omega)
   refine S4 (zy (zm (.int .u64 _) rfl) (zy (zm (.int .u8 _) rfl) (zy (Qt_andN (b := 127) rfl rfl rfl (by show _ < 2 ^ 8; omega) (by decide)) ?_)))
   rw [and127]
   refine zy (Qt_conv_u64 rfl rfl Tryz.underlying121 (by omega) (by omega)) (Qmi rfl rfl (zy (Qt_mul rfl rfl (by omega) (by omega)) ?_))
   rw [show (7 : Int) * (i : Int) = ((7 * i : Nat) : Int) from by omega]
   refine zy (Qt_shlN (m := 7 * i) rfl (by exact rfl) (by show 7 * i ≤ 64; omega) hr2 rfl) (zy (Qt_orN rfl rfl rfl hr1 hr2) ?_)
   rw [or_addr _ _ (7 * i) (by rw [Nat.pow_mul]; exact hx), show (2 : Nat) ^ (7 * i) = 128 ^ i from by rw [Nat.pow_mul]]
   refine zy (za (.int .u64 _) rfl) (T4 (zy (zm (.int .u8 _) rfl) (zy (Qt_lss rfl rfl) (TX (zC rfl (fun h51 => ?_) (fun h51 => ?_))))))
   ·
    have p51 := cL h51
    have hlt : b.l[k + i].toNat < 128 := by omega
    refine zS (T2 (zy (zm (.int .u8 _) rfl) (zy (Qt_eql rfl rfl) (Qmb rfl rfl (TL_split 54 rfl (fun h54 => ?_) (fun h54 => ?_))))))
    ·
     have p54 := cL h54
     refine zt rfl rfl h54 (Qmi rfl rfl (zt rfl rfl h54 (zy (Qt_gtr rfl rfl) (zy (zT (.bool _) rfl h54 rfl) (TX (zC rfl (fun h57 => ?_) (fun h57 => ?_)))))))
     ·
      have p57 := cL h57
      have hc57 : b.l[k + i].toNat = 0 ∧ 0 < i := by first | omega | (simp_all; done) | (simp_all; omega)
      refine T2 (zy (za (.int .u64 _) rfl) (Qai rfl rfl (TX (zQ (zr (zb (zr (X_loop_ret (zb (zr ?_))))))))))
      have e : rdPacked (b.l.drop k) = (2, 0, 0) := hpk.trans (by rw [hat, if_neg hn41, if_pos hlt, if_pos hc57])
      simp only [e]
      exact zX () [_, _] Tryz.results164 ⟨rfl, rfl, trivial⟩ rfl SB
     have p57 := cL h57
     have hn57 : ¬ (b.l[k + i].toNat = 0 ∧ 0 < i) := by first | omega | (simp_all; done) | (simp_all; omega)
     refine S4 (zy (zm (.pointer _) rfl) (zy (Qt_nilCheck rfl) (zy (zf 1 rfl rfl) (zy (zl rfl) (Qmi rfl rfl (zy (zj rfl rfl) (zy (zj rfl rfl) ?_)))))))
     rw [show (k : Int) + ((i : Int) + 1) = ((k + (i + 1) : Nat) : Int) from rfl]
     refine zy (Qt_nilCheck rfl) (zy (zf 1 rfl rfl) (zN (Ef_store1 (.int .i64 _) rfl rfl (T4 (zy (zm (.int .u64 _) rfl) (zy (za (.int .u64 _) rfl) (Qai rfl rfl (TX (zQ (zb (zr (X_loop_ret (zb (zr ?_))))))))))))))
     have e : rdPacked (b.l.drop k) = (0, x + b.l[k + i].toNat % 128 * 128 ^ i, i + 1) := hpk.trans (by rw [hat, if_neg hn41, if_pos hlt, if_neg hn57])
     simp only [e]
     exact zX () [_, _] Tryz.results164 ⟨rfl, rfl, trivial⟩ rfl SB
    have p54 := cL h54
    refine zp rfl rfl h54 rfl (zp rfl rfl h54 rfl (zy (zF (.bool _) rfl h54 rfl) (TX (T_cond_false rfl rfl ?_))))
    have hn57 : ¬ (b.l[k + i].toNat = 0 ∧ 0 < i) := by first | omega | (simp_all; done) | (simp_all; omega)
    refine S4 (zy (zm (.pointer _) rfl) (zy (Qt_nilCheck rfl) (zy (zf 1 rfl rfl) (zy (zl rfl) (Qmi rfl rfl (zy (zj rfl rfl) (zy (zj rfl rfl) ?_)))))))
    rw [show (k : Int) + ((i : Int) + 1) = ((k + (i + 1) : Nat) : Int) from rfl]
    refine zy (Qt_nilCheck rfl) (zy (zf 1 rfl rfl) (zN (Ef_store1 (.int .i64 _) rfl rfl (T4 (zy (zm (.int .u64 _) rfl) (zy (za (.int .u64 _) rfl) (Qai rfl rfl (TX (zQ (zb (zr (X_loop_ret (zb (zr ?_))))))))))))))
    have e : rdPacked (b.l.drop k) = (0, x + b.l[k + i].toNat % 128 * 128 ^ i, i + 1) := hpk.trans (by rw [hat, if_neg hn41, if_pos hlt, if_neg hn57])
    simp only [e]
    exact zX () [_, _] Tryz.results164 ⟨rfl, rfl, trivial⟩ rfl SB
   have p51 := cL h51
   have hge : ¬ b.l[k + i].toNat < 128 := by omega
   rw [if_neg hn41, if_neg hge] at hat
   refine zk (X_block (zx (zR ?_)))
   refine zy (zj rfl rfl) (Qmi rfl rfl (zz (X_loop _ zA (⟨i + 1, _, rfl, rfl, by omega, hr3, hpk.trans hat⟩) (by show 10 - (i + 1 : Int).toNat < 10 - (i : Int).toNat; omega) (SB))))
  have p38 := cL h38
  refine zp rfl rfl h38 rfl (zp rfl rfl h38 rfl (zy (zF (.bool _) rfl h38 rfl) (TX (T_cond_false rfl rfl ?_))))
  have hn41 : ¬ (i = 9 ∧ 1 < b.l[k + i].toNat) := by first | omega | (simp_all; done) | (simp_all; omega)
  obtain ⟨hr1, hr2, hr3⟩ := pk_room (c := b.l[k + i].toNat) hi10 hx (by omega)
  refine S4 (zy (zm (.int .u64 _) rfl) (zy (zm (.int .u8 _) rfl) (zy (Qt_andN (b := 127) rfl rfl rfl (by show _ < 2 ^ 8; omega) (by decide)) ?_)))
  rw [and127]
  refine zy (Qt_conv_u64 rfl rfl Tryz.underlying121 (by omega) (by omega)) (Qmi rfl rfl (zy (Qt_mul rfl rfl (by omega) (by omega)) ?_))
  rw [show (7 : Int) * (i : Int) = ((7 * i : Nat) : Int) from by omega]
  refine zy (Qt_shlN (m := 7 * i) rfl (by exact rfl) (by show 7 * i ≤ 64; omega) hr2 rfl) (zy (Qt_orN rfl rfl rfl hr1 hr2) ?_)
  rw [or_addr _ _ (7 * i) (by rw [Nat.pow_mul]; exact hx), show (2 : Nat) ^ (7 * i) = 128 ^ i from by rw [Nat.pow_mul]]
  refine zy (za (.int .u64 _) rfl) (T4 (zy (zm (.int .u8 _) rfl) (zy (Qt_lss rfl rfl) (TX (zC rfl (fun h51 => ?_) (fun h51 => ?_))))))
  ·
   have p51 := cL h51
   have hlt : b.l[k + i].toNat < 128 := by omega
   refine zS (T2 (zy (zm (.int .u8 _) rfl) (zy (Qt_eql rfl rfl) (Qmb rfl rfl (TL_split 54 rfl (fun h54 => ?_) (fun h54 => ?_))))))
   ·
    have p54 := cL h54
    refine zt rfl rfl h54 (Qmi rfl rfl (zt rfl rfl h54 (zy (Qt_gtr rfl rfl) (zy (zT (.bool _) rfl h54 rfl) (TX (zC rfl (fun h57 => ?_) (fun h57 => ?_)))))))
    ·
     have p57 := cL h57
     have hc57 : b.l[k + i].toNat = 0 ∧ 0 < i := by first | omega | (simp_all; done) | (simp_all; omega)
     refine T2 (zy (za (.int .u64 _) rfl) (Qai rfl rfl (TX (zQ (zr (zb (zr (X_loop_ret (zb (zr ?_))))))))))
     have e : rdPacked (b.l.drop k) = (2, 0, 0) := hpk.trans (by rw [hat, if_neg hn41, if_pos hlt, if_pos hc57])
     simp only [e]
     exact zX () [_, _] Tryz.results164 ⟨rfl, rfl, trivial⟩ rfl SB
    have p57 := cL h57
    have hn57 : ¬ (b.l[k + i].toNat = 0 ∧ 0 < i) := by first | omega | (simp_all; done) | (simp_all; omega)
    refine S4 (zy (zm (.pointer _) rfl) (zy (Qt_nilCheck rfl) (zy (zf 1 rfl rfl) (zy (zl rfl) (Qmi rfl rfl (zy (zj rfl rfl) (zy (zj rfl rfl) ?_)))))))
    rw [show (k : Int) + ((i : Int) + 1) = ((k + (i + 1) : Nat) : Int) from rfl]
    refine zy (Qt_nilCheck rfl) (zy (zf 1 rfl rfl) (zN (Ef_store1 (.int .i64 _) rfl rfl (T4 (zy (zm (.int .u64 _) rfl) (zy (za (.int .u64 _) rfl) (Qai rfl rfl (TX (zQ (zb (zr (X_loop_ret (zb (zr ?_))))))))))))))
    have e : rdPacked (b.l.drop k) = (0, x + b.l[k + i].toNat % 128 * 128 ^ i, i + 1) := hpk.trans (by rw [hat, if_neg hn41, if_pos hlt, if_neg hn57])
    simp only [e]
    exact zX () [_, _] Tryz.results164 ⟨rfl, rfl, trivial⟩ rfl SB
   have p54 := cL h54
   refine zp rfl rfl h54 rfl (zp rfl rfl h54 rfl (zy (zF (.bool _) rfl h54 rfl) (TX (T_cond_false rfl rfl ?_))))
   have hn57 : ¬ (b.l[k + i].toNat = 0 ∧ 0 < i) := by first | omega | (simp_all; done) | (simp_all; omega)
   refine S4 (zy (zm (.pointer _) rfl) (zy (Qt_nilCheck rfl) (zy (zf 1 rfl rfl) (zy (zl rfl) (Qmi rfl rfl (zy (zj rfl rfl) (zy (zj rfl rfl) ?_)))))))
   rw [show (k : Int) + ((i : Int) + 1) = ((k + (i + 1) : Nat) : Int) from rfl]
   refine zy (Qt_nilCheck rfl) (zy (zf 1 rfl rfl) (zN (Ef_store1 (.int .i64 _) rfl rfl (T4 (zy (zm (.int .u64 _) rfl) (zy (za (.int .u64 _) rfl) (Qai rfl rfl (TX (zQ (zb (zr (X_loop_ret (zb (zr ?_))))))))))))))
   have e : rdPacked (b.l.drop k) = (0, x + b.l[k + i].toNat % 128 * 128 ^ i, i + 1) := hpk.trans (by rw [hat, if_neg hn41, if_pos hlt, if_neg hn57])
   simp only [e]
   exact zX () [_, _] Tryz.results164 ⟨rfl, rfl, trivial⟩ rfl SB
  have p51 := cL h51
  have hge : ¬ b.l[k + i].toNat < 128 := by omega
  rw [if_neg hn41, if_neg hge] at hat
  refine zk (X_block (zx (zR ?_)))
  refine zy (zj rfl rfl) (Qmi rfl rfl (zz (X_loop _ zA (⟨i + 1, _, rfl, rfl, by omega, hr3, hpk.trans hat⟩) (by show 10 - (i + 1 : Int).toNat < 10 - (i : Int).toNat; omega) (SB))))
 have p10 := cL h10
 have hi : i = 10 := by omega
 subst hi
 refine zY (zG (zW (zE (zx (T2 (zy (za (.int .u64 _) rfl) (Qai rfl rfl (TX (zQ ?_)))))))))
 have e : rdPacked (b.l.drop k) = (2, 0, 0) := hpk.trans (rfl)
 simp only [e]
 exact zX () [_, _] Tryz.results164 ⟨rfl, rfl, trivial⟩ rfl SB
theorem count_c {w0 : World} {H : List SA} {p k : Nat} {b : BS} [rb : RdB w0 H (.slice b.a b.l.length b.c) b.l] (hk : k ≤ b.l.length) (hl : b.l.length ≤ 4294967296) {m : Int} (hm : m ≤ 9223372036854775807) :
 CT Tryz.prog w0 (blk p (.cells (ReaderV.mk b (k : Int)).cells 222 (0, 0)) :: H) 123 [.pointer (some ⟨p, 0, none⟩), .int .i64 m] (α := Unit) (fun _ => .tuple #[.int .i64 ((rdCount (b.l.drop k) m).2.1 : Int), .int .i64 (rdCount (b.l.drop k) m).1]) (fun _ => blk p (.cells (ReaderV.mk b ((k + (rdCount (b.l.drop k) m).2.2 : Nat) : Int)).cells 222 (0, 0)) :: H) := by
 refine CT_intro Tryz.func123 rfl Tryz.ntmps123 rfl (T2 (Qai rfl rfl (Qai rfl rfl (TX (zS (T2 (zy (zm (.pointer _) rfl) (zy (Qt_ptr_nil rfl rfl Tryz.underlying164) (TX (zC rfl (fun h10 => ?_) (fun h10 => ?_)))))))))))
 ·
  have p10 := cL h10
  cases h10
 have p10 := cL h10
 refine S4 (zy (zm (.pointer _) rfl) (zy (Qt_nilCheck rfl) (zy (zf 1 rfl rfl) (zy (zl rfl) (Qai rfl rfl (T4 (zy (zm (.pointer _) rfl) (ze rfl (zc (packed_c hk hl) rfl (fun x17 => ?_))))))))))
 refine zy (zm (.tuple _) rfl) (zy (Qt_extract rfl) (zy (Qt_extract rfl) (zy (za (.int .u64 _) rfl) (Qai rfl rfl (TX (zS (T2 (Qmi rfl rfl (zy (Qt_neq rfl rfl) (TX (zC rfl (fun h21 => ?_) (fun h21 => ?_))))))))))))
 ·
  have p21 := cL h21
  have e : rdCount (b.l.drop k) m = ((rdPacked (b.l.drop k)).1, 0, 0) := if_pos p21
  have e2 := rdPacked_err p21
  rw [e2]
  refine T2 (Qmi rfl rfl (Qai rfl rfl (Qai rfl rfl (TX (zQ (zr ?_))))))
  simp only [e]
  exact zX () [_, _] Tryz.results123 ⟨rfl, rfl, trivial⟩ rfl SB
 have p21 := cL h21
 refine zk (zx (zS (T2 (Qmi rfl rfl (zy (Qt_lss rfl rfl) (Qmb rfl rfl (TL_split 25 rfl (fun h25 => ?_) (fun h25 => ?_))))))))
 ·
  have p25 := cL h25
  refine zp rfl rfl h25 rfl (zp rfl rfl h25 rfl (zp rfl rfl h25 rfl (zp rfl rfl h25 rfl (zy (zT (.bool _) rfl h25 rfl) (TX (T_cond_true rfl rfl ?_))))))
  have h30b : m < 0 ∨ m < ((rdPacked (b.l.drop k)).2.1 : Int) := by first | omega | (simp_all; done) | (simp_all; omega)
  have e : rdCount (b.l.drop k) m = (3, 0, 0) := by unfold rdCount; rw [if_neg (by omega), if_pos h30b]
  refine T2 (zy (zm (.pointer _) rfl) (Qmi rfl rfl (zy (Qt_nilCheck rfl) (zy (zf 1 rfl rfl) (zN (Ef_store1 (.int .i64 _) rfl rfl (T4 (Qai rfl rfl (Qai rfl rfl (TX (zQ (zr ?_))))))))))))
  simp only [e]
  exact zX () [_, _] Tryz.results123 ⟨rfl, rfl, trivial⟩ rfl SB
 have p25 := cL h25
 refine zt rfl rfl h25 (zy (zm (.int .u64 _) rfl) (zt rfl rfl h25 (Qmi rfl rfl (zt rfl rfl h25 (zy (Qt_conv_u64 rfl rfl Tryz.underlying121 (by omega) (by omega)) (zt rfl rfl h25 (zy (Qt_gtr rfl rfl) (zy (zF (.bool _) rfl h25 rfl) (TX (zC rfl (fun h30 => ?_) (fun h30 => ?_)))))))))))
 ·
  have p30 := cL h30
  have h30b : m < 0 ∨ m < ((rdPacked (b.l.drop k)).2.1 : Int) := by first | omega | (simp_all; done) | (simp_all; omega)
  have e : rdCount (b.l.drop k) m = (3, 0, 0) := by unfold rdCount; rw [if_neg (by omega), if_pos h30b]
  refine T2 (zy (zm (.pointer _) rfl) (Qmi rfl rfl (zy (Qt_nilCheck rfl) (zy (zf 1 rfl rfl) (zN (Ef_store1 (.int .i64 _) rfl rfl (T4 (Qai rfl rfl (Qai rfl rfl (TX (zQ (zr ?_))))))))))))
  simp only [e]
  exact zX () [_, _] Tryz.results123 ⟨rfl, rfl, trivial⟩ rfl SB
 have p30 := cL h30
 have h30b : ¬ (m < 0 ∨ m < ((rdPacked (b.l.drop k)).2.1 : Int)) := by first | omega | (simp_all; done) | (simp_all; omega)
 have e : rdCount (b.l.drop k) m = rdPacked (b.l.drop k) := by unfold rdCount; rw [if_neg (by omega), if_neg h30b]
 have e0 : (rdPacked (b.l.drop k)).1 = 0 := by omega
 refine S4 (zy (zm (.int .u64 _) rfl) (zy (Qt_conv_i64 rfl rfl Tryz.underlying3 (by omega) (by omega)) (Qai rfl rfl (Qai rfl rfl (TX (zQ ?_))))))
 simp only [e, e0]
 exact zX () [_, _] Tryz.results123 ⟨rfl, rfl, trivial⟩ rfl SB
theorem text_c {w0 : World} {H : List SA} {p k : Nat} {b : BS} [rb : RdB w0 H (.slice b.a b.l.length b.c) b.l] (hk : k ≤ b.l.length) (hl : b.l.length ≤ 4294967296) {m : Int} (hm : m ≤ 9223372036854775807) :
 CT Tryz.prog w0 (blk p (.cells (ReaderV.mk b (k : Int)).cells 222 (0, 0)) :: H) 78 [.pointer (some ⟨p, 0, none⟩), .int .i64 m] (α := AC) (fun y => .tuple #[.slice y.a (rdText (b.l.drop k) m).2.1.length y.c, .int .i64 (rdText (b.l.drop k) m).1]) (fun y => row (.slice y.a (rdText (b.l.drop k) m).2.1.length y.c) 5 1 (bytesV (rdText (b.l.drop k) m).2.1) :: blk p (.cells (ReaderV.mk b ((k + (rdText (b.l.drop k) m).2.2 : Nat) : Int)).cells 222 (0, 0)) :: H) := by
 refine CT_intro Tryz.func78 rfl Tryz.ntmps78 rfl (T2 (Qas rfl rfl (Qai rfl rfl (TX (zS (T2 (zy (zm (.pointer _) rfl) (zy (Qt_ptr_nil rfl rfl Tryz.underlying164) (TX (zC rfl (fun h10 => ?_) (fun h10 => ?_)))))))))))
 ·
  have p10 := cL h10
  cases h10
 have p10 := cL h10
 refine S4 (zy (zm (.pointer _) rfl) (zy (Qt_nilCheck rfl) (zy (zf 1 rfl rfl) (zy (zl rfl) (Qai rfl rfl (T4 (zy (zm (.pointer _) rfl) (Qmi rfl rfl ?_))))))))
 obtain ⟨hb1, hb2, hb3⟩ := rdCount_bound (b.l.drop k) m
 have hdl : (b.l.drop k).length = b.l.length - k := by simp
 rw [hdl] at hb2
 refine ze rfl (zc (count_c hk hl hm) rfl (fun x18 => ?_))
 refine zy (zm (.tuple _) rfl) (zy (Qt_extract rfl) (zy (Qt_extract rfl) (Qai rfl rfl (Qai rfl rfl (TX (zS (T2 (Qmi rfl rfl (zy (Qt_neq rfl rfl) (TX (zC rfl (fun h22 => ?_) (fun h22 => ?_))))))))))))
 ·
  have p22 := cL h22
  have e : rdText (b.l.drop k) m = ((rdCount (b.l.drop k) m).1, [], 0) := if_pos p22
  rw [rdCount_err p22]
  refine T2 (Qmi rfl rfl (Qas rfl rfl (Qai rfl rfl (TX (zQ (zr ?_))))))
  simp only [e]
  exact zX ⟨none, 0⟩ [_, _] Tryz.results78 ⟨rfl, rfl, trivial⟩ rfl (fun w hw => (SB w hw : St w0 _ w).addNilB 5)
 have p22 := cL h22
 have p22b : (rdCount (b.l.drop k) m).1 = 0 := by omega
 refine zk (zx (zS (T2 (Qmi rfl rfl (zy (zm (.pointer _) rfl) (ze rfl (zc (left_c (k := k + (rdCount (b.l.drop k) m).2.2) (by omega) hl) rfl (fun x26 => ?_))))))))
 refine zy (Qt_gtr rfl rfl) (TX (zC rfl (fun h27 => ?_) (fun h27 => ?_)))
 ·
  have p27 := cL h27
  have e : rdText (b.l.drop k) m = (1, [], 0) := by unfold rdText; rw [if_neg (by omega), if_pos (by omega)]
  refine T2 (zy (zm (.pointer _) rfl) (Qmi rfl rfl (zy (Qt_nilCheck rfl) (zy (zf 1 rfl rfl) (zN (Ef_store1 (.int .i64 _) rfl rfl (T4 (Qas rfl rfl (Qai rfl rfl (TX (zQ (zr ?_))))))))))))
  simp only [e]
  exact zX ⟨none, 0⟩ [_, _] Tryz.results78 ⟨rfl, rfl, trivial⟩ rfl (fun w hw => (SB w hw : St w0 _ w).addNilB 5)
 have p27 := cL h27
 have e : rdText (b.l.drop k) m = (0, (b.l.drop (k + (rdCount (b.l.drop k) m).2.2)).take (rdCount (b.l.drop k) m).2.1, (rdCount (b.l.drop k) m).2.2 + (rdCount (b.l.drop k) m).2.1) := by unfold rdText; rw [if_neg (by omega), if_neg (by omega), List.drop_drop]
 refine S4 (zy (zm (.pointer _) rfl) (zy (Qt_nilCheck rfl) (zy (zf 1 rfl rfl) (zy (zl rfl) (Qmi rfl rfl (zy (zj rfl rfl) ?_))))))
 rw [show ((k + (rdCount (b.l.drop k) m).2.2 : Nat) : Int) + ((rdCount (b.l.drop k) m).2.1 : Int) = ((k + ((rdCount (b.l.drop k) m).2.2 + (rdCount (b.l.drop k) m).2.1) : Nat) : Int) from by omega]
 refine zy (Qt_nilCheck rfl) (zy (zf 1 rfl rfl) (zN (Ef_store1 (.int .i64 _) rfl rfl (TX (zS (zD _ [(0, true), (1, true), (2, true), (3, true), (4, true), (5, true), (6, true), (7, true), (8, true), (9, true), (10, true), (11, true), (12, true), (13, true), (14, true), (15, false), (16, true), (17, true)] (fun _ hh => hh) (fun hns0 => ?_)))))))
 refine zd hns0 rfl (zm (.pointer _) rfl) rfl (zd hns0 rfl (Qt_nilCheck rfl) rfl (zd hns0 rfl (zf 0 rfl rfl) rfl (zd hns0 rfl (zl rfl) rfl (zd hns0 rfl (zm (.pointer _) rfl) rfl (zd hns0 rfl (Qt_nilCheck rfl) rfl (zd hns0 rfl (zf 1 rfl rfl) rfl (zd hns0 rfl (zl rfl) rfl (zd hns0 rfl (zm (.int .i64 _) rfl) rfl (zd hns0 rfl (zh rfl rfl) rfl (zd hns0 rfl (zm (.pointer _) rfl) rfl (zd hns0 rfl (Qt_nilCheck rfl) rfl ?_)))))))))))
 refine zd hns0 rfl (zf 1 rfl rfl) rfl (zd hns0 rfl (zl rfl) rfl (zd hns0 rfl (Qt_sliceB_lh (k + (rdCount (b.l.drop k) m).2.2) (rdCount (b.l.drop k) m).2.1 rfl (by refine congrArg (Value.int .i64) ?_; omega) (by refine congrArg (Value.int .i64) ?_; omega) (by omega)) rfl ?_))
 refine DL_e rfl rfl (zc (clone_c (l := (b.l.drop (k + (rdCount (b.l.drop k) m).2.2)).take (rdCount (b.l.drop k) m).2.1) (by simp; omega)) rfl (fun x55 => ⟨SB, ?_⟩))
 refine zd hns0 rfl (za (.slice _ _ _) rfl) rfl (zd hns0 rfl (za (.int .i64 _) rfl) rfl (DL_nil (zx (zQ ?_))))
 simp only [e]
 exact zX x55 [_, _] Tryz.results78 ⟨rfl, rfl, trivial⟩ rfl SB
end Go.Proofs.YtnijomppbgdmnaaGreat
