/- Walks: the readers of package nums. -/
import Derived.Test.YtgeknnclmhfjlaaGreatDoorSgP
import Derived.Test.YtgeknnclmhfjlaaGreatDoorNumsP
import Derived.Test.YtgeknnclmhfjlaaGreatDoorSdP
namespace Go.Proofs.YtgeknnclmhfjlaaGreatDoor
open Go.RowKit Go.Sx
set_option maxRecDepth 100000
set_option linter.unusedSimpArgs false
set_option linter.unusedVariables false

theorem or_add (x c i : Nat) (h : c < 2 ^ i) : x * 2 ^ i ||| c = x * 2 ^ i + c := by
 rw [← Nat.shiftLeft_eq, Nat.shiftLeft_add_eq_or_of_lt h]
theorem or_addr (x c i : Nat) (h : x < 2 ^ i) : x ||| c * 2 ^ i = x + c * 2 ^ i := by
 rw [Nat.or_comm, or_add c x i h, Nat.add_comm]
/-! What is read -/
def beN (l : List UInt8) : Nat := l.foldl (fun x c => x * 256 + c.toNat) 0
theorem beN_snoc (l : List UInt8) (c : UInt8) : beN (l ++ [c]) = beN l * 256 + c.toNat := by simp [beN]
theorem beN_lt : ∀ l : List UInt8, beN l < 256 ^ l.length := by
 intro l
 have key : ∀ (l : List UInt8) (x n : Nat), x < 256 ^ n → l.foldl (fun x c => x * 256 + c.toNat) x < 256 ^ (n + l.length) := by
  intro l
  induction l with
  | nil => intro x n h; simpa using h
  | cons c l ih =>
   intro x n h
   have h1 := ih (x * 256 + c.toNat) (n + 1) (by have := c.toNat_lt; rw [Nat.pow_succ]; omega)
   simpa [Nat.add_assoc, Nat.add_comm 1] using h1
 simpa [beN] using key l 0 0 (by simp)
/-- A fixed number of n bytes: the error, the number, how many bytes that takes. -/
def rdFixed (l : List UInt8) (n : Int) : Int × Nat × Nat :=
 if wideB n = false then (15, 0, 0) else if (l.length : Int) < n then (1, 0, 0) else (0, beN (l.take n.toNat), n.toNat)
def pk (l : List UInt8) : Nat → Nat → Nat → Int × Nat × Nat
 | 0, _, _ => (2, 0, 0)
 | f + 1, i, x => match l[i]? with
  | none => (1, 0, 0)
  | some c => if i = 9 ∧ 1 < c.toNat then (2, 0, 0)
   else if c.toNat < 128 then (if c.toNat = 0 ∧ 0 < i then (2, 0, 0) else (0, x + c.toNat % 128 * 128 ^ i, i + 1))
   else pk l f (i + 1) (x + c.toNat % 128 * 128 ^ i)
/-- A packed number. -/
def rdPacked (l : List UInt8) : Int × Nat × Nat := pk l 10 0 0
/-- .. that is no more than a bound. -/
def rdCount (l : List UInt8) (most : Int) : Int × Nat × Nat :=
 if (rdPacked l).1 ≠ 0 then ((rdPacked l).1, 0, 0) else if most < 0 ∨ most < ((rdPacked l).2.1 : Int) then (3, 0, 0) else rdPacked l
/-- A text. -/
def rdText (l : List UInt8) (most : Int) : Int × List UInt8 × Nat :=
 if (rdCount l most).1 ≠ 0 then ((rdCount l most).1, [], 0)
 else if l.length < (rdCount l most).2.2 + (rdCount l most).2.1 then (1, [], 0)
 else (0, (l.drop (rdCount l most).2.2).take (rdCount l most).2.1, (rdCount l most).2.2 + (rdCount l most).2.1)
theorem pk_err (l : List UInt8) : ∀ f i x, (pk l f i x).1 ≠ 0 → (pk l f i x).2 = (0, 0)
 | 0, _, _, _ => rfl
 | f + 1, i, x, h => by
  unfold pk at h ⊢
  cases hl : l[i]? with
  | none => rfl
  | some c =>
   simp only [hl] at h ⊢
   split
   · rfl
   · rename_i h1
     simp only [h1, if_false] at h
     split
     · rename_i h2
       simp only [h2, if_true] at h
       split
       · rfl
       · rename_i h3; simp [h3] at h
     · rename_i h2
       simp only [h2, if_false] at h
       exact pk_err l f (i + 1) _ h
theorem rdPacked_err {l : List UInt8} (h : (rdPacked l).1 ≠ 0) : (rdPacked l).2 = (0, 0) := pk_err l 10 0 0 h
theorem pk_bound (l : List UInt8) : ∀ f i x, f + i = 10 → i ≤ l.length → x < 128 ^ i → (pk l f i x).2.2 ≤ 10 ∧ (pk l f i x).2.2 ≤ l.length ∧ (pk l f i x).2.1 < 18446744073709551616
 | 0, _, _, _, _, _ => by simp [pk]
 | f + 1, i, x, hf, hi, hx => by
  unfold pk
  cases hl : l[i]? with
  | none => simp
  | some c =>
   have hlt : i < l.length := (List.getElem?_eq_some_iff.1 hl).1
   simp only
   have hx2 : x + c.toNat % 128 * 128 ^ i < 128 ^ (i + 1) := by
    have h1 : c.toNat % 128 < 128 := Nat.mod_lt _ (by decide)
    have h2 := Nat.mul_le_mul_right (128 ^ i) (show c.toNat % 128 ≤ 127 by omega)
    rw [Nat.pow_succ]; omega
   split
   · simp
   · rename_i h9
     split
     · split
       · simp
       · refine ⟨by simp; omega, by simp; omega, ?_⟩
         show x + c.toNat % 128 * 128 ^ i < _
         by_cases hi9 : i = 9
         · subst hi9
           have h1 : c.toNat ≤ 1 := by omega
           have h3 : (128 : Nat) ^ 9 = 9223372036854775808 := by decide
           rw [h3] at hx ⊢
           have : c.toNat % 128 ≤ 1 := by omega
           omega
         · have h4 : (128 : Nat) ^ (i + 1) ≤ 128 ^ 9 := Nat.pow_le_pow_right (by decide) (by omega)
           have h3 : (128 : Nat) ^ 9 = 9223372036854775808 := by decide
           omega
     · exact pk_bound l f (i + 1) _ (by omega) (by omega) hx2
theorem rdPacked_bound (l : List UInt8) : (rdPacked l).2.2 ≤ 10 ∧ (rdPacked l).2.2 ≤ l.length ∧ (rdPacked l).2.1 < 18446744073709551616 := pk_bound l 10 0 0 rfl (by omega) (by simp)
theorem rdCount_err {l : List UInt8} {m : Int} (h : (rdCount l m).1 ≠ 0) : (rdCount l m).2 = (0, 0) := by
 unfold rdCount at h ⊢
 split
 · rfl
 · rename_i h1
   split
   · rfl
   · rename_i h2; simp [h1, h2] at h
theorem rdCount_bound (l : List UInt8) (m : Int) : (rdCount l m).2.2 ≤ 10 ∧ (rdCount l m).2.2 ≤ l.length ∧ (rdCount l m).2.1 < 18446744073709551616 := by
 have := rdPacked_bound l
 unfold rdCount
 split
 · simp
 · split
   · simp
   · exact this
theorem rdText_bound (l : List UInt8) (m : Int) : (rdText l m).2.2 ≤ l.length ∧ (rdText l m).2.1.length ≤ l.length := by
 unfold rdText
 split
 · simp
 · split
   · simp
   · refine ⟨by simp; omega, by simp; omega⟩
theorem fixed_beN (x : Nat) : ∀ n, beN (fixed x n) = x % 256 ^ n := by
 intro n
 have key : ∀ i, i ≤ n → beN ((fixed x n).take i) = x / 256 ^ (n - i) % 256 ^ i := by
  intro i
  induction i with
  | zero => intro _; simp [beN, Nat.mod_one]
  | succ i ih =>
   intro hi
   rw [fixed_take x n i (by omega), beN_snoc, ih (by omega), UInt8.toNat_ofNat']
   have e1 : n - 1 - i = n - (i + 1) := by omega
   have e2 : n - i = n - (i + 1) + 1 := by omega
   rw [e1, e2, Nat.pow_succ, ← Nat.div_div_eq_div_mul, show (2 ^ 8 : Nat) = 256 from rfl, Nat.mod_mod]
   generalize x / 256 ^ (n - (i + 1)) = y
   rw [Nat.pow_succ, Nat.mul_comm (256 ^ i) 256, Nat.mod_mul]
   omega
 have := key n (Nat.le_refl _)
 rw [List.take_of_length_le (by rw [fixed_length]; exact Nat.le_refl _)] at this
 simpa using this
theorem rdFixed_fixed (x n : Nat) (rest : List UInt8) (hn : wideB n = true) (hx : x < 256 ^ n) : rdFixed (fixed x n ++ rest) n = (0, x, n) := by
 unfold rdFixed
 rw [if_neg (by simp [hn]), if_neg (by simp [fixed_length]; omega)]
 rw [show ((n : Int)).toNat = n from rfl, List.take_append_of_le_length (by simp [fixed_length]), List.take_of_length_le (by simp [fixed_length]), fixed_beN, Nat.mod_eq_of_lt hx]
theorem pk_packed (rest : List UInt8) : ∀ (x f i acc : Nat) (pre : List UInt8), pre.length = i → f + i = 10 → x * 128 ^ i < 18446744073709551616 → (0 < i → 0 < x) → pk (pre ++ (packed x ++ rest)) f i acc = (0, acc + x * 128 ^ i, i + (packed x).length) := by
 intro x
 induction x using Nat.strongRecOn with
 | _ x ih =>
  intro f i acc pre hp hf hx h0
  have hi : i < 10 := by
   rcases Nat.lt_or_ge i 10 with h | h
   · exact h
   · have h1 : (128 : Nat) ^ 10 ≤ 128 ^ i := Nat.pow_le_pow_right (by decide) h
     have h2 : 1 * 128 ^ i ≤ x * 128 ^ i := Nat.mul_le_mul_right _ (h0 (by omega))
     have h3 : (128 : Nat) ^ 10 = 1180591620717411303424 := by decide
     omega
  obtain ⟨f, rfl⟩ : ∃ g, f = g + 1 := ⟨f - 1, by omega⟩
  have h9 : i = 9 → x ≤ 1 := by
   rintro rfl
   have h3 : (128 : Nat) ^ 9 = 9223372036854775808 := by decide
   rw [h3] at hx; omega
  by_cases hs : x < 128
  · rw [packed_small hs, pk]
    have hg : (pre ++ ([UInt8.ofNat x] ++ rest))[i]? = some (UInt8.ofNat x) := by rw [← hp]; simp
    have ht : (UInt8.ofNat x).toNat = x := by rw [UInt8.toNat_ofNat']; omega
    simp only [hg, ht]
    rw [if_neg (by omega), if_pos hs, if_neg (by omega), Nat.mod_eq_of_lt hs]
    simp
  · rw [packed_big hs, pk]
    have hg : (pre ++ (UInt8.ofNat (x % 128 + 128) :: packed (x / 128) ++ rest))[i]? = some (UInt8.ofNat (x % 128 + 128)) := by rw [← hp]; simp
    have ht : (UInt8.ofNat (x % 128 + 128)).toNat = x % 128 + 128 := by rw [UInt8.toNat_ofNat']; omega
    simp only [hg, ht]
    rw [if_neg (by omega), if_neg (by omega)]
    have e : pre ++ (UInt8.ofNat (x % 128 + 128) :: packed (x / 128) ++ rest) = (pre ++ [UInt8.ofNat (x % 128 + 128)]) ++ (packed (x / 128) ++ rest) := by simp
    have hm : x / 128 * 128 ^ (i + 1) ≤ x * 128 ^ i := by
     rw [Nat.pow_succ, Nat.mul_comm (128 ^ i) 128, ← Nat.mul_assoc]
     exact Nat.mul_le_mul_right _ (by omega)
    rw [e, ih (x / 128) (by omega) f (i + 1) _ _ (by simp [hp]) (by omega) (by omega) (by omega)]
    have e2 : (x % 128 + 128) % 128 = x % 128 := by omega
    have e3 : x % 128 * 128 ^ i + x / 128 * 128 ^ (i + 1) = x * 128 ^ i := by
     rw [Nat.pow_succ, Nat.mul_comm (128 ^ i) 128, ← Nat.mul_assoc, ← Nat.add_mul]
     congr 1; omega
    rw [e2, Nat.add_assoc, e3, List.length_cons]
    congr 2; omega
theorem rdPacked_packed (x : Nat) (rest : List UInt8) (hx : x < 18446744073709551616) : rdPacked (packed x ++ rest) = (0, x, (packed x).length) := by
 have := pk_packed rest x 10 0 0 [] rfl rfl (by simpa using hx) (by omega)
 simpa [rdPacked] using this
theorem rdCount_packed (x : Nat) (m : Int) (rest : List UInt8) (hx : x < 18446744073709551616) (hm : (x : Int) ≤ m) : rdCount (packed x ++ rest) m = (0, x, (packed x).length) := by
 unfold rdCount
 rw [rdPacked_packed x rest hx]
 simp; omega
theorem rdText_text (t : List UInt8) (m : Int) (rest : List UInt8) (ht : t.length < 18446744073709551616) (hm : (t.length : Int) ≤ m) : rdText (packed t.length ++ t ++ rest) m = (0, t, (packed t.length ++ t).length) := by
 unfold rdText
 rw [List.append_assoc, rdCount_packed t.length m (t ++ rest) ht hm]
 simp

set_option maxHeartbeats 1000000 in
theorem left_c {w0 : World} {H : List SA} {p k : Nat} {b : BS} [rb : RdB w0 H (.slice b.a b.l.length b.c) b.l] (hk : k ≤ b.l.length) (hl : b.l.length ≤ 4294967296) :
 CT Tryz.prog w0 (blk p (.cells (ReaderV.mk b (k : Int)).cells 167 (0, 0)) :: H) 54 [.pointer (some ⟨p, 0, none⟩)] (α := Unit) (fun _ => .int .i64 ((b.l.length - k : Nat) : Int)) (fun _ => blk p (.cells (ReaderV.mk b (k : Int)).cells 167 (0, 0)) :: H) := by
 refine CT_intro Tryz.func54 rfl Tryz.ntmps54 rfl ?_
 refine T2 (Qai rfl rfl (TX (zS (T2 ?_))))
 refine zq (zm (.pointer _) rfl) rfl (zq (Qt_ptr_nil rfl rfl Tryz.underlying120) rfl (TX (zC rfl (fun h4 => ?_) (fun h4 => ?_))))
 ·
  have p4 := h4
  try simp only [dp] at p4
  cases h4
 have p4 := h4
 try simp only [dp] at p4
 refine zk (zx (zS ?_))
 refine T_draw _ [(0, true), (1, true), (2, true), (3, true), (4, true), (5, true), (6, true), (7, true), (8, true), (9, true), (10, true)] (by kernel_rfl) (by kernel_rfl) rfl (by kernel_rfl) (fun _ hh => hh) (fun hns0 => ?_)
 refine zd hns0 rfl (zm (.pointer _) rfl) rfl (zd hns0 rfl (Qt_nilCheck rfl) rfl (zd hns0 rfl (zf 0 rfl rfl) rfl (zd hns0 rfl (zl rfl) rfl (zd hns0 rfl (zL rfl Tryz.underlying41) rfl (zd hns0 rfl (zm (.pointer _) rfl) rfl ?_)))))
 refine zd hns0 rfl (Qt_nilCheck rfl) rfl (zd hns0 rfl (zf 1 rfl rfl) rfl (zd hns0 rfl (zl rfl) rfl (zd hns0 rfl (Qt_sub rfl rfl (by omega) (by omega)) rfl (zd hns0 rfl (za (.int .i64 _) rfl) rfl (DL_nil ?_)))))
 refine zx (zQ ?_)
 exact zX () [_] Tryz.results54 ⟨rfl, trivial⟩ (by show Value.int .i64 ((b.l.length : Int) - (k : Int)) = _; congr 1; omega) SB
set_option maxHeartbeats 1000000 in
theorem done_c {w0 : World} {H : List SA} {p k : Nat} {b : BS} [rb : RdB w0 H (.slice b.a b.l.length b.c) b.l] (hk : k ≤ b.l.length) (hl : b.l.length ≤ 4294967296) :
 CT Tryz.prog w0 (blk p (.cells (ReaderV.mk b (k : Int)).cells 167 (0, 0)) :: H) 59 [.pointer (some ⟨p, 0, none⟩)] (α := Unit) (fun _ => .int .i64 (if k < b.l.length then 2 else 0)) (fun _ => blk p (.cells (ReaderV.mk b (k : Int)).cells 167 (0, 0)) :: H) := by
 refine CT_intro Tryz.func59 rfl Tryz.ntmps59 rfl ?_
 refine T2 (Qai rfl rfl (TX (zS (zB (T2 ?_)))))
 refine zq (zm (.pointer _) rfl) rfl (zq (Qt_ptr_nil rfl rfl Tryz.underlying120) rfl (Qab rfl rfl (TX (zC rfl (fun h3 => ?_) (fun h3 => ?_)))))
 ·
  have p3 := h3
  try simp only [dp] at p3
  cases h3
 have p3 := h3
 try simp only [dp] at p3
 refine T2 (zq (zm (.pointer _) rfl) rfl ?_)
 refine ze rfl (zc (left_c hk hl) rfl (fun x8 => ?_))
 refine zq (Qt_gtr rfl rfl) rfl (Qab rfl rfl (TX (zC rfl (fun h6 => ?_) (fun h6 => ?_))))
 ·
  have p6 := h6
  try simp only [dp] at p6
  refine T2 (Qai rfl rfl (TX (zQ (zb (zr ?_)))))
  exact zX () [_] Tryz.results59 ⟨rfl, trivial⟩ (by first | (rw [if_pos (by omega)]; rfl) | (rw [if_neg (by omega)]; rfl)) SB
 have p6 := h6
 try simp only [dp] at p6
 refine zk (X_block (zx (T2 ?_)))
 refine Qai rfl rfl (TX (zQ ?_))
 exact zX () [_] Tryz.results59 ⟨rfl, trivial⟩ (by first | (rw [if_pos (by omega)]; rfl) | (rw [if_neg (by omega)]; rfl)) SB
set_option maxHeartbeats 1000000 in
theorem rnew_c {w0 : World} {H : List SA} {a : Option Addr} {l : List UInt8} {c : Nat} [hr : RdB w0 H (.slice a l.length c) l] (hl : l.length ≤ 4294967296) :
 CT Tryz.prog w0 (H) 52 [.slice a l.length c] (α := Nat × BS) (fun x => .pointer (some ⟨x.1, 0, none⟩)) (fun x => pu (x.2.l = l) :: blk x.1 (.cells (ReaderV.mk x.2 ((0 : Nat) : Int)).cells 167 (0, 0)) :: row (.slice x.2.a x.2.l.length x.2.c) 5 1 (bytesV x.2.l) :: H) := by
 refine CT_intro Tryz.func52 rfl Tryz.ntmps52 rfl ?_
 refine T2 (zq (za (.pointer _) rfl) rfl (T4 (Qms rfl rfl ?_)))
 refine ze rfl (zc (clone_c hl) rfl (fun x4 => ?_))
 refine zq (Qt_build [(0, .slice _ _ _)] rfl (by kernel_rfl)) rfl ?_
 refine ze rfl (Ef_boxN rfl (fun b6 => ?_))
 refine zq (za (.pointer _) rfl) rfl (TX (zQ ?_))
 exact zX (b6, ⟨x4.a, x4.c, l⟩) [_] Tryz.results52 ⟨rfl, trivial⟩ rfl (fun w hw => St.addPure (Subs.st (H' := blk b6 (.cells (ReaderV.mk ⟨x4.a, x4.c, l⟩ 0).cells 167 (0, 0)) :: row (.slice x4.a l.length x4.c) 5 1 (bytesV l) :: H) inferInstance w hw) rfl)
set_option maxHeartbeats 1000000 in
theorem fixed_c {w0 : World} {H : List SA} {p k : Nat} {b : BS} [rb : RdB w0 H (.slice b.a b.l.length b.c) b.l] (hk : k ≤ b.l.length) (hl : b.l.length ≤ 4294967296) {n : Int} :
 CT Tryz.prog w0 (blk p (.cells (ReaderV.mk b (k : Int)).cells 167 (0, 0)) :: H) 94 [.pointer (some ⟨p, 0, none⟩), .int .i64 n] (α := Unit) (fun _ => .tuple #[.int .u64 ((rdFixed (b.l.drop k) n).2.1 : Int), .int .i64 (rdFixed (b.l.drop k) n).1]) (fun _ => blk p (.cells (ReaderV.mk b ((k + (rdFixed (b.l.drop k) n).2.2 : Nat) : Int)).cells 167 (0, 0)) :: H) := by
 refine CT_intro Tryz.func94 rfl Tryz.ntmps94 rfl ?_
 refine T2 (zq (za (.int .u64 _) rfl) rfl (Qai rfl rfl (TX (zS (zB (T2 ?_))))))
 refine zq (zm (.pointer _) rfl) rfl (zq (Qt_ptr_nil rfl rfl Tryz.underlying120) rfl (Qab rfl rfl (TX (zC rfl (fun h7 => ?_) (fun h7 => ?_)))))
 ·
  have p7 := h7
  try simp only [dp] at p7
  cases h7
 have p7 := h7
 try simp only [dp] at p7
 refine T2 (Qmi rfl rfl ?_)
 refine ze rfl (zc (wide_c) rfl (fun x12 => ?_))
 refine zq (Qt_not rfl) rfl (Qab rfl rfl (TX (zC rfl (fun h10 => ?_) (fun h10 => ?_))))
 ·
  have p10 := h10
  try simp only [dp] at p10
  refine T2 (zq (za (.int .u64 _) rfl) rfl (Qai rfl rfl (TX (zQ (zb (zr ?_))))))
  have e : rdFixed (b.l.drop k) n = (15, 0, 0) := by unfold rdFixed; rw [if_pos (by simpa using h10)]
  simp only [e]
  exact zX () [_, _] Tryz.results94 ⟨rfl, rfl, trivial⟩ rfl SB
 have p10 := h10
 try simp only [dp] at p10
 refine T2 (zq (zm (.pointer _) rfl) rfl ?_)
 refine ze rfl (zc (left_c hk hl) rfl (fun x16 => ?_))
 refine Qmi rfl rfl (zq (Qt_lss rfl rfl) rfl (Qab rfl rfl (TX (zC rfl (fun h14 => ?_) (fun h14 => ?_)))))
 ·
  have p14 := h14
  try simp only [dp] at p14
  refine T2 (zq (za (.int .u64 _) rfl) rfl (Qai rfl rfl (TX (zQ (zb (zr ?_))))))
  have e : rdFixed (b.l.drop k) n = (1, 0, 0) := by unfold rdFixed; rw [if_neg (by simpa using h10), if_pos (by simp; omega)]
  simp only [e]
  exact zX () [_, _] Tryz.results94 ⟨rfl, rfl, trivial⟩ rfl SB
 have p14 := h14
 try simp only [dp] at p14
 have hw4 := wideB_le (n := n) (by simpa using h10)
 obtain ⟨n, rfl⟩ := Int.eq_ofNat_of_zero_le (show 0 ≤ n by omega)
 have hdl : (b.l.drop k).length = b.l.length - k := by simp
 have hkn : k + n ≤ b.l.length := by omega
 refine zk (X_block (zx (T2 ?_)))
 refine zq (za (.int .u64 _) rfl) rfl (TX (zS (T2 ?_)))
 refine Qmi rfl rfl (Qmi rfl rfl (TX (zB ?_)))
 refine T_loop [6, 20, 21, 22, 23, 24, 25, 26, 27, 28, 29, 30, 31, 32, 33, 34, 35, 36, 37, 38, 39, 40, 41, 42, 43] [20, 6] (fun us H' => ∃ (i : Nat), us = [.int .i64 (i : Int), .int .u64 ((beN ((b.l.drop k).take i) : Nat) : Int)] ∧ blk p (.cells (ReaderV.mk b ((k + i : Nat) : Int)).cells 167 (0, 0)) :: H = H' ∧ i ≤ n) (fun us => match us with | .int _ i :: _ => n - i.toNat | _ => 0) ⟨0, rfl, rfl, by omega⟩ SB ?_
 rintro τ0 _ _  ⟨i, rfl, rfl, hi0⟩ _
 refine T2 (zq (Qt_lss rfl rfl) rfl (TX (zS ?_)))
 refine zC rfl (fun h21 => ?_) (fun h21 => ?_)
 ·
  have p21 := h21
  try simp only [dp] at p21
  have hin : i < n := by omega
  have hki : k + i < b.l.length := by omega
  have hsn : beN ((b.l.drop k).take (i + 1)) = beN ((b.l.drop k).take i) * 256 + b.l[k + i].toNat := by
   rw [List.take_succ_eq_append_getElem (by omega), beN_snoc]; simp
  have hlt : beN ((b.l.drop k).take i) < 256 ^ 7 := Nat.lt_of_lt_of_le (beN_lt _) (Nat.pow_le_pow_right (by decide) (by simp; omega))
  have hc8 := b.l[k + i].toNat_lt
  refine zk (zx (zS (zB (zS ?_))))
  refine T_draw _ [(0, true), (1, true), (2, true), (3, true), (4, true), (5, true), (6, true), (7, true), (8, true), (9, true), (10, true), (11, true), (12, true), (13, true), (14, true)] (by kernel_rfl) (by kernel_rfl) rfl (by kernel_rfl) (fun _ hh => hh) (fun hns0 => ?_)
  refine zd hns0 rfl (zm (.int .u64 _) rfl) rfl (zd hns0 rfl (Qt_shl8 rfl rfl (by have : (256 : Nat) ^ 7 = 72057594037927936 := (by decide); omega)) rfl (zd hns0 rfl (zm (.pointer _) rfl) rfl (zd hns0 rfl (Qt_nilCheck rfl) rfl (zd hns0 rfl (zf 0 rfl rfl) rfl (zd hns0 rfl (zl rfl) rfl ?_)))))
  refine zd hns0 rfl (zm (.pointer _) rfl) rfl (zd hns0 rfl (Qt_nilCheck rfl) rfl (zd hns0 rfl (zf 1 rfl rfl) rfl (zd hns0 rfl (zl rfl) rfl (zd hns0 rfl (Qt_indexR rfl rfl (by omega) (by simp; omega)) rfl (zd hns0 rfl (Qt_loadR (.int .u8 (b.l[k + i].toNat : Int)) rfl (bytes_get _ _ hki)) rfl ?_)))))
  refine zd hns0 rfl (Qt_conv_u64 rfl rfl Tryz.underlying23 (by omega) (by omega)) rfl (zd hns0 rfl (Qt_orN rfl rfl rfl (by have : (256 : Nat) ^ 7 = 72057594037927936 := (by decide); show _ < 2 ^ 64; omega) (by show _ < 2 ^ 64; omega)) rfl ?_)
  rw [show beN ((b.l.drop k).take i) * 2 ^ 8 ||| b.l[k + i].toNat = beN ((b.l.drop k).take (i + 1)) from by rw [or_add _ _ 8 hc8, hsn]]
  refine zd hns0 rfl (za (.int .u64 _) rfl) rfl (DL_nil (zx (zR ?_)))
  refine zq (zm (.pointer _) rfl) rfl (zq (Qt_nilCheck rfl) rfl (zq (zf 1 rfl rfl) rfl (zq (zl rfl) rfl (zq (Qt_add rfl rfl (by omega) (by omega)) rfl ?_))))
  rw [show ((k + i : Nat) : Int) + 1 = ((k + (i + 1) : Nat) : Int) from rfl]
  refine zq (Qt_nilCheck rfl) rfl (zq (zf 1 rfl rfl) rfl ?_)
  refine zN (Ef_store1 (.int .i64 _) rfl rfl (?_))
  refine zz (X_block (zx (zR ?_)))
  refine zq (Qt_add rfl rfl (by omega) (by omega)) rfl (Qmi rfl rfl (zz (X_loop _ (by repeat (first | with_reducible exact agree_refl | refine agree_upd rfl ?_ | refine agree_mix rfl ?_ | refine agree_setAll rfl ?_)) (⟨i + 1, rfl, rfl, by omega⟩) (by show n - (i + 1 : Int).toNat < n - (i : Int).toNat; omega) (SB))))
 have p21 := h21
 try simp only [dp] at p21
 have hi : i = n := by omega
 subst hi
 refine zY (zG (zW (zE (zx (T2 ?_)))))
 refine zq (zm (.int .u64 _) rfl) rfl (zq (za (.int .u64 _) rfl) rfl (Qai rfl rfl (TX (zQ ?_))))
 have e : rdFixed (b.l.drop k) (i : Int) = (0, beN ((b.l.drop k).take i), i) := by unfold rdFixed; rw [if_neg (by simpa using h10), if_neg (by omega)]; rfl
 simp only [e]
 exact zX () [_, _] Tryz.results94 ⟨rfl, rfl, trivial⟩ rfl SB
theorem pk_short {l : List UInt8} {i x : Nat} (hi : i < 10) (h : l.length ≤ i) : pk l (10 - i) i x = (1, 0, 0) := by
 obtain ⟨f, hf⟩ : ∃ f, 10 - i = f + 1 := ⟨9 - i, by omega⟩
 rw [hf, pk, List.getElem?_eq_none h]
theorem pk_at {l : List UInt8} {i x : Nat} {c : UInt8} (hi : i < 10) (h : l[i]? = some c) : pk l (10 - i) i x = if i = 9 ∧ 1 < c.toNat then (2, 0, 0)
 else if c.toNat < 128 then (if c.toNat = 0 ∧ 0 < i then (2, 0, 0) else (0, x + c.toNat % 128 * 128 ^ i, i + 1))
 else pk l (10 - (i + 1)) (i + 1) (x + c.toNat % 128 * 128 ^ i) := by
 obtain ⟨f, hf⟩ : ∃ f, 10 - i = f + 1 := ⟨9 - i, by omega⟩
 rw [hf, pk, h, show 10 - (i + 1) = f by omega]
theorem and127 (c : Nat) : c &&& 127 = c % 128 := Nat.and_two_pow_sub_one_eq_mod c 7
theorem pk_room {x c i : Nat} (hi : i < 10) (hx : x < 128 ^ i) (h9 : i = 9 → c ≤ 1) : x < 2 ^ 64 ∧ c % 128 * 2 ^ (7 * i) < 2 ^ 64 ∧ x + c % 128 * 128 ^ i < 128 ^ (i + 1) := by
 have e : (2 : Nat) ^ (7 * i) = 128 ^ i := by rw [Nat.pow_mul]
 have h1 : (128 : Nat) ^ i ≤ 128 ^ 9 := Nat.pow_le_pow_right (by decide) (by omega)
 have h3 : (128 : Nat) ^ 9 = 9223372036854775808 := by decide
 have h2 := Nat.mul_le_mul_right (128 ^ i) (show c % 128 ≤ 127 by omega)
 refine ⟨by omega, ?_, by rw [Nat.pow_succ]; omega⟩
 rw [e]
 by_cases hi9 : i = 9
 · have := h9 hi9
   subst hi9
   have : c % 128 ≤ 1 := by omega
   rw [h3]; omega
 · have h4 : (128 : Nat) ^ i ≤ 128 ^ 8 := Nat.pow_le_pow_right (by decide) (by omega)
   have h5 : (128 : Nat) ^ 8 = 72057594037927936 := by decide
   omega

set_option maxHeartbeats 1000000 in
theorem packed_c {w0 : World} {H : List SA} {p k : Nat} {b : BS} [rb : RdB w0 H (.slice b.a b.l.length b.c) b.l] (hk : k ≤ b.l.length) (hl : b.l.length ≤ 4294967296) :
 CT Tryz.prog w0 (blk p (.cells (ReaderV.mk b (k : Int)).cells 167 (0, 0)) :: H) 139 [.pointer (some ⟨p, 0, none⟩)] (α := Unit) (fun _ => .tuple #[.int .u64 ((rdPacked (b.l.drop k)).2.1 : Int), .int .i64 (rdPacked (b.l.drop k)).1]) (fun _ => blk p (.cells (ReaderV.mk b ((k + (rdPacked (b.l.drop k)).2.2 : Nat) : Int)).cells 167 (0, 0)) :: H) := by
 refine CT_intro Tryz.func139 rfl Tryz.ntmps139 rfl ?_
 refine T2 (zq (za (.int .u64 _) rfl) rfl (Qai rfl rfl (TX (zS (T2 ?_)))))
 refine zq (zm (.pointer _) rfl) rfl (zq (Qt_ptr_nil rfl rfl Tryz.underlying120) rfl (TX (zC rfl (fun h8 => ?_) (fun h8 => ?_))))
 ·
  have p8 := h8
  try simp only [dp] at p8
  cases h8
 have p8 := h8
 try simp only [dp] at p8
 refine S4 (zq (za (.int .u64 _) rfl) rfl (TX (zS (T2 ?_))))
 refine Qmi rfl rfl (TX (zB ?_))
 refine T_loop [2, 3, 4, 5, 6, 9, 10, 11, 12, 13, 14, 15, 16, 17, 18, 19, 20, 21, 22, 23, 24, 25, 26, 27, 28, 29, 30, 31, 32, 33, 34, 35, 36, 37, 38, 39, 40, 41, 42, 43, 44, 45, 46, 47, 48, 49, 50, 51, 52, 53, 54, 55, 56, 57, 58, 59, 60, 61, 62, 63, 64, 65, 66, 67, 68] [9, 4] (fun us H' => ∃ (i : Nat) (x : Nat), us = [.int .i64 (i : Int), .int .u64 (x : Int)] ∧ blk p (.cells (ReaderV.mk b (k : Int)).cells 167 (0, 0)) :: H = H' ∧ i ≤ 10 ∧ (x < 128 ^ i) ∧ (rdPacked (b.l.drop k) = pk (b.l.drop k) (10 - i) i x)) (fun us => match us with | .int _ i :: _ => 10 - i.toNat | _ => 0) ⟨0, 0, rfl, rfl, by omega, by simp, rfl⟩ SB ?_
 rintro τ0 _ _  ⟨i, x, rfl, rfl, hi0, hx, hpk⟩ _
 refine T2 (zq (Qt_lss rfl rfl) rfl (TX (zS ?_)))
 refine zC rfl (fun h10 => ?_) (fun h10 => ?_)
 ·
  have p10 := h10
  try simp only [dp] at p10
  have hi10 : i < 10 := by omega
  refine zk (zx (zS (zB (T2 ?_))))
  refine Qmi rfl rfl (Qai rfl rfl (TX (zS (zS ?_))))
  refine T_draw _ [(0, true), (1, true), (2, true), (3, true), (4, true), (5, true), (6, true), (7, true), (8, true), (9, true), (10, true), (11, true)] (by kernel_rfl) (by kernel_rfl) rfl (by kernel_rfl) (fun _ hh => hh) (fun hns0 => ?_)
  refine zd hns0 rfl (zm (.pointer _) rfl) rfl (zd hns0 rfl (Qt_nilCheck rfl) rfl (zd hns0 rfl (zf 1 rfl rfl) rfl (zd hns0 rfl (zl rfl) rfl (zd hns0 rfl (zm (.int .i64 _) rfl) rfl (zd hns0 rfl (Qt_add rfl rfl (by omega) (by omega)) rfl ?_)))))
  refine zd hns0 rfl (zm (.pointer _) rfl) rfl (zd hns0 rfl (Qt_nilCheck rfl) rfl (zd hns0 rfl (zf 0 rfl rfl) rfl (zd hns0 rfl (zl rfl) rfl (zd hns0 rfl (zL rfl Tryz.underlying41) rfl (zd hns0 rfl (Qt_geq rfl rfl) rfl ?_)))))
  refine DL_nil (zx (zC rfl (fun h23 => ?_) (fun h23 => ?_)))
  ·
   have p23 := h23
   try simp only [dp] at p23
   refine T2 (zq (za (.int .u64 _) rfl) rfl (Qai rfl rfl (TX (zQ (zr (zb (zr (X_loop_ret (zb (zr ?_))))))))))
   have e : rdPacked (b.l.drop k) = (1, 0, 0) := hpk.trans (pk_short hi10 (by simp; omega))
   simp only [e]
   exact zX () [_, _] Tryz.results139 ⟨rfl, rfl, trivial⟩ rfl SB
  have p23 := h23
  try simp only [dp] at p23
  have hki : k + i < b.l.length := by omega
  have hgc : (b.l.drop k)[i]? = some b.l[k + i] := by rw [List.getElem?_drop, List.getElem?_eq_getElem hki]
  have hat := pk_at (x := x) hi10 hgc
  have hc8 := b.l[k + i].toNat_lt
  refine zk (zx (zS ?_))
  refine T_draw _ [(0, true), (1, true), (2, true), (3, true), (4, true), (5, true), (6, true), (7, true), (8, true), (9, true), (10, true), (11, true), (12, true)] (by kernel_rfl) (by kernel_rfl) rfl (by kernel_rfl) (fun _ hh => hh) (fun hns1 => ?_)
  refine zd hns1 rfl (zm (.pointer _) rfl) rfl (zd hns1 rfl (Qt_nilCheck rfl) rfl (zd hns1 rfl (zf 0 rfl rfl) rfl (zd hns1 rfl (zl rfl) rfl (zd hns1 rfl (zm (.pointer _) rfl) rfl (zd hns1 rfl (Qt_nilCheck rfl) rfl ?_)))))
  refine zd hns1 rfl (zf 1 rfl rfl) rfl (zd hns1 rfl (zl rfl) rfl (zd hns1 rfl (zm (.int .i64 _) rfl) rfl (zd hns1 rfl (Qt_add rfl rfl (by omega) (by omega)) rfl (zd hns1 rfl (Qt_indexR rfl rfl (by omega) (by simp; omega)) rfl (zd hns1 rfl (Qt_loadR (.int .u8 (b.l[k + i].toNat : Int)) rfl (bytes_get _ _ hki)) rfl ?_)))))
  refine zd hns1 rfl (za (.int .u8 _) rfl) rfl (DL_nil (zx (zS (T2 ?_))))
  refine Qmi rfl rfl (zq (Qt_eql rfl rfl) rfl (Qmb rfl rfl ?_))
  refine TL_split 38 rfl (fun h38 => ?_) (fun h38 => ?_)
  ·
   have p38 := h38
   try simp only [dp] at p38
   refine zt rfl rfl h38 (zq (zm (.int .u8 _) rfl) rfl (zt rfl rfl h38 (zq (Qt_gtr rfl rfl) rfl (zq (zT (.bool _) rfl h38 rfl) rfl (TX ?_)))))
   refine zC rfl (fun h41 => ?_) (fun h41 => ?_)
   ·
    have p41 := h41
    try simp only [dp] at p41
    have hc41 : i = 9 ∧ 1 < b.l[k + i].toNat := by first | omega | (simp_all; done) | (simp_all; omega)
    refine T2 (zq (za (.int .u64 _) rfl) rfl (Qai rfl rfl (TX (zQ (zr (zb (zr (X_loop_ret (zb (zr ?_))))))))))
    have e : rdPacked (b.l.drop k) = (2, 0, 0) := hpk.trans (by rw [hat, if_pos hc41])
    simp only [e]
    exact zX () [_, _] Tryz.results139 ⟨rfl, rfl, trivial⟩ rfl SB
   have p41 := h41
   try simp only [dp] at p41
   have hn41 : ¬ (i = 9 ∧ 1 < b.l[k + i].toNat) := by first | omega | (simp_all; done) | (simp_all; omega)
   obtain ⟨hr1, hr2, hr3⟩ := pk_room (c := b.l[k + i].toNat) hi10 hx (by omega)
   refine S4 (zq (zm (.int .u64 _) rfl) rfl (zq (zm (.int .u8 _) rfl) rfl (zq (Qt_andN (b := 127) rfl rfl rfl (by show _ < 2 ^ 8; omega) (by decide)) rfl ?_)))
   rw [and127]
   refine zq (Qt_conv_u64 rfl rfl Tryz.underlying23 (by omega) (by omega)) rfl (Qmi rfl rfl (zq (Qt_mul rfl rfl (by omega) (by omega)) rfl ?_))
   rw [show (7 : Int) * (i : Int) = ((7 * i : Nat) : Int) from by omega]
   refine zq (Qt_shlN (m := 7 * i) rfl (by exact rfl) (by show 7 * i ≤ 64; omega) hr2 rfl) rfl (zq (Qt_orN rfl rfl rfl hr1 hr2) rfl ?_)
   rw [or_addr _ _ (7 * i) (by rw [Nat.pow_mul]; exact hx), show (2 : Nat) ^ (7 * i) = 128 ^ i from by rw [Nat.pow_mul]]
   refine zq (za (.int .u64 _) rfl) rfl (T4 (zq (zm (.int .u8 _) rfl) rfl (zq (Qt_lss rfl rfl) rfl (TX (zC rfl (fun h51 => ?_) (fun h51 => ?_))))))
   ·
    have p51 := h51
    try simp only [dp] at p51
    have hlt : b.l[k + i].toNat < 128 := by omega
    refine zS (T2 ?_)
    refine zq (zm (.int .u8 _) rfl) rfl (zq (Qt_eql rfl rfl) rfl (Qmb rfl rfl ?_))
    refine TL_split 54 rfl (fun h54 => ?_) (fun h54 => ?_)
    ·
     have p54 := h54
     try simp only [dp] at p54
     refine zt rfl rfl h54 (Qmi rfl rfl (zt rfl rfl h54 (zq (Qt_gtr rfl rfl) rfl (zq (zT (.bool _) rfl h54 rfl) rfl (TX ?_)))))
     refine zC rfl (fun h57 => ?_) (fun h57 => ?_)
     ·
      have p57 := h57
      try simp only [dp] at p57
      have hc57 : b.l[k + i].toNat = 0 ∧ 0 < i := by first | omega | (simp_all; done) | (simp_all; omega)
      refine T2 (zq (za (.int .u64 _) rfl) rfl (Qai rfl rfl (TX (zQ (zr (zb (zr (X_loop_ret (zb (zr ?_))))))))))
      have e : rdPacked (b.l.drop k) = (2, 0, 0) := hpk.trans (by rw [hat, if_neg hn41, if_pos hlt, if_pos hc57])
      simp only [e]
      exact zX () [_, _] Tryz.results139 ⟨rfl, rfl, trivial⟩ rfl SB
     have p57 := h57
     try simp only [dp] at p57
     have hn57 : ¬ (b.l[k + i].toNat = 0 ∧ 0 < i) := by first | omega | (simp_all; done) | (simp_all; omega)
     refine S4 (zq (zm (.pointer _) rfl) rfl (zq (Qt_nilCheck rfl) rfl (zq (zf 1 rfl rfl) rfl (zq (zl rfl) rfl (Qmi rfl rfl ?_)))))
     refine zq (Qt_add rfl rfl (by omega) (by omega)) rfl (zq (Qt_add rfl rfl (by omega) (by omega)) rfl ?_)
     rw [show (k : Int) + ((i : Int) + 1) = ((k + (i + 1) : Nat) : Int) from rfl]
     refine zq (Qt_nilCheck rfl) rfl (zq (zf 1 rfl rfl) rfl ?_)
     refine zN (Ef_store1 (.int .i64 _) rfl rfl (?_))
     refine T4 (zq (zm (.int .u64 _) rfl) rfl (zq (za (.int .u64 _) rfl) rfl (Qai rfl rfl (TX (zQ (zb (zr (X_loop_ret (zb (zr ?_))))))))))
     have e : rdPacked (b.l.drop k) = (0, x + b.l[k + i].toNat % 128 * 128 ^ i, i + 1) := hpk.trans (by rw [hat, if_neg hn41, if_pos hlt, if_neg hn57])
     simp only [e]
     exact zX () [_, _] Tryz.results139 ⟨rfl, rfl, trivial⟩ rfl SB
    have p54 := h54
    try simp only [dp] at p54
    refine zp rfl rfl h54 rfl (zp rfl rfl h54 rfl (zq (zF (.bool _) rfl h54 rfl) rfl (TX (T_cond_false rfl rfl ?_))))
    have hn57 : ¬ (b.l[k + i].toNat = 0 ∧ 0 < i) := by first | omega | (simp_all; done) | (simp_all; omega)
    refine S4 (zq (zm (.pointer _) rfl) rfl (zq (Qt_nilCheck rfl) rfl (zq (zf 1 rfl rfl) rfl (zq (zl rfl) rfl (Qmi rfl rfl ?_)))))
    refine zq (Qt_add rfl rfl (by omega) (by omega)) rfl (zq (Qt_add rfl rfl (by omega) (by omega)) rfl ?_)
    rw [show (k : Int) + ((i : Int) + 1) = ((k + (i + 1) : Nat) : Int) from rfl]
    refine zq (Qt_nilCheck rfl) rfl (zq (zf 1 rfl rfl) rfl ?_)
    refine zN (Ef_store1 (.int .i64 _) rfl rfl (?_))
    refine T4 (zq (zm (.int .u64 _) rfl) rfl (zq (za (.int .u64 _) rfl) rfl (Qai rfl rfl (TX (zQ (zb (zr (X_loop_ret (zb (zr ?_))))))))))
    have e : rdPacked (b.l.drop k) = (0, x + b.l[k + i].toNat % 128 * 128 ^ i, i + 1) := hpk.trans (by rw [hat, if_neg hn41, if_pos hlt, if_neg hn57])
    simp only [e]
    exact zX () [_, _] Tryz.results139 ⟨rfl, rfl, trivial⟩ rfl SB
   have p51 := h51
   try simp only [dp] at p51
   have hge : ¬ b.l[k + i].toNat < 128 := by omega
   rw [if_neg hn41, if_neg hge] at hat
   refine zk (X_block (zx (zR ?_)))
   refine zq (Qt_add rfl rfl (by omega) (by omega)) rfl (Qmi rfl rfl (zz (X_loop _ (by repeat (first | with_reducible exact agree_refl | refine agree_upd rfl ?_ | refine agree_mix rfl ?_ | refine agree_setAll rfl ?_)) (⟨i + 1, _, rfl, rfl, by omega, hr3, hpk.trans hat⟩) (by show 10 - (i + 1 : Int).toNat < 10 - (i : Int).toNat; omega) (SB))))
  have p38 := h38
  try simp only [dp] at p38
  refine zp rfl rfl h38 rfl (zp rfl rfl h38 rfl (zq (zF (.bool _) rfl h38 rfl) rfl (TX (T_cond_false rfl rfl ?_))))
  have hn41 : ¬ (i = 9 ∧ 1 < b.l[k + i].toNat) := by first | omega | (simp_all; done) | (simp_all; omega)
  obtain ⟨hr1, hr2, hr3⟩ := pk_room (c := b.l[k + i].toNat) hi10 hx (by omega)
  refine S4 (zq (zm (.int .u64 _) rfl) rfl (zq (zm (.int .u8 _) rfl) rfl (zq (Qt_andN (b := 127) rfl rfl rfl (by show _ < 2 ^ 8; omega) (by decide)) rfl ?_)))
  rw [and127]
  refine zq (Qt_conv_u64 rfl rfl Tryz.underlying23 (by omega) (by omega)) rfl (Qmi rfl rfl (zq (Qt_mul rfl rfl (by omega) (by omega)) rfl ?_))
  rw [show (7 : Int) * (i : Int) = ((7 * i : Nat) : Int) from by omega]
  refine zq (Qt_shlN (m := 7 * i) rfl (by exact rfl) (by show 7 * i ≤ 64; omega) hr2 rfl) rfl (zq (Qt_orN rfl rfl rfl hr1 hr2) rfl ?_)
  rw [or_addr _ _ (7 * i) (by rw [Nat.pow_mul]; exact hx), show (2 : Nat) ^ (7 * i) = 128 ^ i from by rw [Nat.pow_mul]]
  refine zq (za (.int .u64 _) rfl) rfl (T4 (zq (zm (.int .u8 _) rfl) rfl (zq (Qt_lss rfl rfl) rfl (TX (zC rfl (fun h51 => ?_) (fun h51 => ?_))))))
  ·
   have p51 := h51
   try simp only [dp] at p51
   have hlt : b.l[k + i].toNat < 128 := by omega
   refine zS (T2 ?_)
   refine zq (zm (.int .u8 _) rfl) rfl (zq (Qt_eql rfl rfl) rfl (Qmb rfl rfl ?_))
   refine TL_split 54 rfl (fun h54 => ?_) (fun h54 => ?_)
   ·
    have p54 := h54
    try simp only [dp] at p54
    refine zt rfl rfl h54 (Qmi rfl rfl (zt rfl rfl h54 (zq (Qt_gtr rfl rfl) rfl (zq (zT (.bool _) rfl h54 rfl) rfl (TX ?_)))))
    refine zC rfl (fun h57 => ?_) (fun h57 => ?_)
    ·
     have p57 := h57
     try simp only [dp] at p57
     have hc57 : b.l[k + i].toNat = 0 ∧ 0 < i := by first | omega | (simp_all; done) | (simp_all; omega)
     refine T2 (zq (za (.int .u64 _) rfl) rfl (Qai rfl rfl (TX (zQ (zr (zb (zr (X_loop_ret (zb (zr ?_))))))))))
     have e : rdPacked (b.l.drop k) = (2, 0, 0) := hpk.trans (by rw [hat, if_neg hn41, if_pos hlt, if_pos hc57])
     simp only [e]
     exact zX () [_, _] Tryz.results139 ⟨rfl, rfl, trivial⟩ rfl SB
    have p57 := h57
    try simp only [dp] at p57
    have hn57 : ¬ (b.l[k + i].toNat = 0 ∧ 0 < i) := by first | omega | (simp_all; done) | (simp_all; omega)
    refine S4 (zq (zm (.pointer _) rfl) rfl (zq (Qt_nilCheck rfl) rfl (zq (zf 1 rfl rfl) rfl (zq (zl rfl) rfl (Qmi rfl rfl ?_)))))
    refine zq (Qt_add rfl rfl (by omega) (by omega)) rfl (zq (Qt_add rfl rfl (by omega) (by omega)) rfl ?_)
    rw [show (k : Int) + ((i : Int) + 1) = ((k + (i + 1) : Nat) : Int) from rfl]
    refine zq (Qt_nilCheck rfl) rfl (zq (zf 1 rfl rfl) rfl ?_)
    refine zN (Ef_store1 (.int .i64 _) rfl rfl (?_))
    refine T4 (zq (zm (.int .u64 _) rfl) rfl (zq (za (.int .u64 _) rfl) rfl (Qai rfl rfl (TX (zQ (zb (zr (X_loop_ret (zb (zr ?_))))))))))
    have e : rdPacked (b.l.drop k) = (0, x + b.l[k + i].toNat % 128 * 128 ^ i, i + 1) := hpk.trans (by rw [hat, if_neg hn41, if_pos hlt, if_neg hn57])
    simp only [e]
    exact zX () [_, _] Tryz.results139 ⟨rfl, rfl, trivial⟩ rfl SB
   have p54 := h54
   try simp only [dp] at p54
   refine zp rfl rfl h54 rfl (zp rfl rfl h54 rfl (zq (zF (.bool _) rfl h54 rfl) rfl (TX (T_cond_false rfl rfl ?_))))
   have hn57 : ¬ (b.l[k + i].toNat = 0 ∧ 0 < i) := by first | omega | (simp_all; done) | (simp_all; omega)
   refine S4 (zq (zm (.pointer _) rfl) rfl (zq (Qt_nilCheck rfl) rfl (zq (zf 1 rfl rfl) rfl (zq (zl rfl) rfl (Qmi rfl rfl ?_)))))
   refine zq (Qt_add rfl rfl (by omega) (by omega)) rfl (zq (Qt_add rfl rfl (by omega) (by omega)) rfl ?_)
   rw [show (k : Int) + ((i : Int) + 1) = ((k + (i + 1) : Nat) : Int) from rfl]
   refine zq (Qt_nilCheck rfl) rfl (zq (zf 1 rfl rfl) rfl ?_)
   refine zN (Ef_store1 (.int .i64 _) rfl rfl (?_))
   refine T4 (zq (zm (.int .u64 _) rfl) rfl (zq (za (.int .u64 _) rfl) rfl (Qai rfl rfl (TX (zQ (zb (zr (X_loop_ret (zb (zr ?_))))))))))
   have e : rdPacked (b.l.drop k) = (0, x + b.l[k + i].toNat % 128 * 128 ^ i, i + 1) := hpk.trans (by rw [hat, if_neg hn41, if_pos hlt, if_neg hn57])
   simp only [e]
   exact zX () [_, _] Tryz.results139 ⟨rfl, rfl, trivial⟩ rfl SB
  have p51 := h51
  try simp only [dp] at p51
  have hge : ¬ b.l[k + i].toNat < 128 := by omega
  rw [if_neg hn41, if_neg hge] at hat
  refine zk (X_block (zx (zR ?_)))
  refine zq (Qt_add rfl rfl (by omega) (by omega)) rfl (Qmi rfl rfl (zz (X_loop _ (by repeat (first | with_reducible exact agree_refl | refine agree_upd rfl ?_ | refine agree_mix rfl ?_ | refine agree_setAll rfl ?_)) (⟨i + 1, _, rfl, rfl, by omega, hr3, hpk.trans hat⟩) (by show 10 - (i + 1 : Int).toNat < 10 - (i : Int).toNat; omega) (SB))))
 have p10 := h10
 try simp only [dp] at p10
 have hi : i = 10 := by omega
 subst hi
 refine zY (zG (zW (zE (zx (T2 ?_)))))
 refine zq (za (.int .u64 _) rfl) rfl (Qai rfl rfl (TX (zQ ?_)))
 have e : rdPacked (b.l.drop k) = (2, 0, 0) := hpk.trans (rfl)
 simp only [e]
 exact zX () [_, _] Tryz.results139 ⟨rfl, rfl, trivial⟩ rfl SB
set_option maxHeartbeats 1000000 in
theorem count_c {w0 : World} {H : List SA} {p k : Nat} {b : BS} [rb : RdB w0 H (.slice b.a b.l.length b.c) b.l] (hk : k ≤ b.l.length) (hl : b.l.length ≤ 4294967296) {m : Int} (hm : m ≤ 9223372036854775807) :
 CT Tryz.prog w0 (blk p (.cells (ReaderV.mk b (k : Int)).cells 167 (0, 0)) :: H) 92 [.pointer (some ⟨p, 0, none⟩), .int .i64 m] (α := Unit) (fun _ => .tuple #[.int .i64 ((rdCount (b.l.drop k) m).2.1 : Int), .int .i64 (rdCount (b.l.drop k) m).1]) (fun _ => blk p (.cells (ReaderV.mk b ((k + (rdCount (b.l.drop k) m).2.2 : Nat) : Int)).cells 167 (0, 0)) :: H) := by
 refine CT_intro Tryz.func92 rfl Tryz.ntmps92 rfl ?_
 refine T2 (Qai rfl rfl (Qai rfl rfl (TX (zS (T2 ?_)))))
 refine zq (zm (.pointer _) rfl) rfl (zq (Qt_ptr_nil rfl rfl Tryz.underlying120) rfl (TX (zC rfl (fun h10 => ?_) (fun h10 => ?_))))
 ·
  have p10 := h10
  try simp only [dp] at p10
  cases h10
 have p10 := h10
 try simp only [dp] at p10
 refine S4 (zq (zm (.pointer _) rfl) rfl (zq (Qt_nilCheck rfl) rfl (zq (zf 1 rfl rfl) rfl (zq (zl rfl) rfl (Qai rfl rfl ?_)))))
 refine T4 (zq (zm (.pointer _) rfl) rfl ?_)
 refine ze rfl (zc (packed_c hk hl) rfl (fun x17 => ?_))
 refine zq (zm (.tuple _) rfl) rfl (zq (Qt_extract rfl) rfl (zq (Qt_extract rfl) rfl (zq (za (.int .u64 _) rfl) rfl (Qai rfl rfl (TX (zS (T2 ?_)))))))
 refine Qmi rfl rfl (zq (Qt_neq rfl rfl) rfl (TX (zC rfl (fun h21 => ?_) (fun h21 => ?_))))
 ·
  have p21 := h21
  try simp only [dp] at p21
  have e : rdCount (b.l.drop k) m = ((rdPacked (b.l.drop k)).1, 0, 0) := if_pos p21
  have e2 := rdPacked_err p21
  rw [e2]
  refine T2 (Qmi rfl rfl (Qai rfl rfl (Qai rfl rfl (TX (zQ (zr ?_))))))
  simp only [e]
  exact zX () [_, _] Tryz.results92 ⟨rfl, rfl, trivial⟩ rfl SB
 have p21 := h21
 try simp only [dp] at p21
 refine zk (zx (zS (T2 ?_)))
 refine Qmi rfl rfl (zq (Qt_lss rfl rfl) rfl (Qmb rfl rfl ?_))
 refine TL_split 25 rfl (fun h25 => ?_) (fun h25 => ?_)
 ·
  have p25 := h25
  try simp only [dp] at p25
  refine zp rfl rfl h25 rfl (zp rfl rfl h25 rfl (zp rfl rfl h25 rfl (zp rfl rfl h25 rfl (zq (zT (.bool _) rfl h25 rfl) rfl (TX ?_)))))
  refine T_cond_true rfl rfl ?_
  have h30b : m < 0 ∨ m < ((rdPacked (b.l.drop k)).2.1 : Int) := by first | omega | (simp_all; done) | (simp_all; omega)
  have e : rdCount (b.l.drop k) m = (3, 0, 0) := by unfold rdCount; rw [if_neg (by omega), if_pos h30b]
  refine T2 (zq (zm (.pointer _) rfl) rfl (Qmi rfl rfl (zq (Qt_nilCheck rfl) rfl (zq (zf 1 rfl rfl) rfl ?_))))
  refine zN (Ef_store1 (.int .i64 _) rfl rfl (?_))
  refine T4 (Qai rfl rfl (Qai rfl rfl (TX (zQ (zr ?_)))))
  simp only [e]
  exact zX () [_, _] Tryz.results92 ⟨rfl, rfl, trivial⟩ rfl SB
 have p25 := h25
 try simp only [dp] at p25
 refine zt rfl rfl h25 (zq (zm (.int .u64 _) rfl) rfl (zt rfl rfl h25 (Qmi rfl rfl (zt rfl rfl h25 (zq (Qt_conv_u64 rfl rfl Tryz.underlying23 (by omega) (by omega)) rfl ?_)))))
 refine zt rfl rfl h25 (zq (Qt_gtr rfl rfl) rfl (zq (zF (.bool _) rfl h25 rfl) rfl (TX (zC rfl (fun h30 => ?_) (fun h30 => ?_)))))
 ·
  have p30 := h30
  try simp only [dp] at p30
  have h30b : m < 0 ∨ m < ((rdPacked (b.l.drop k)).2.1 : Int) := by first | omega | (simp_all; done) | (simp_all; omega)
  have e : rdCount (b.l.drop k) m = (3, 0, 0) := by unfold rdCount; rw [if_neg (by omega), if_pos h30b]
  refine T2 (zq (zm (.pointer _) rfl) rfl (Qmi rfl rfl (zq (Qt_nilCheck rfl) rfl (zq (zf 1 rfl rfl) rfl ?_))))
  refine zN (Ef_store1 (.int .i64 _) rfl rfl (?_))
  refine T4 (Qai rfl rfl (Qai rfl rfl (TX (zQ (zr ?_)))))
  simp only [e]
  exact zX () [_, _] Tryz.results92 ⟨rfl, rfl, trivial⟩ rfl SB
 have p30 := h30
 try simp only [dp] at p30
 have h30b : ¬ (m < 0 ∨ m < ((rdPacked (b.l.drop k)).2.1 : Int)) := by first | omega | (simp_all; done) | (simp_all; omega)
 have e : rdCount (b.l.drop k) m = rdPacked (b.l.drop k) := by unfold rdCount; rw [if_neg (by omega), if_neg h30b]
 have e0 : (rdPacked (b.l.drop k)).1 = 0 := by omega
 refine S4 (zq (zm (.int .u64 _) rfl) rfl (zq (Qt_conv_i64 rfl rfl Tryz.underlying3 (by omega) (by omega)) rfl (Qai rfl rfl (Qai rfl rfl (TX (zQ ?_))))))
 simp only [e, e0]
 exact zX () [_, _] Tryz.results92 ⟨rfl, rfl, trivial⟩ rfl SB
set_option maxHeartbeats 1000000 in
theorem text_c {w0 : World} {H : List SA} {p k : Nat} {b : BS} [rb : RdB w0 H (.slice b.a b.l.length b.c) b.l] (hk : k ≤ b.l.length) (hl : b.l.length ≤ 4294967296) {m : Int} (hm : m ≤ 9223372036854775807) :
 CT Tryz.prog w0 (blk p (.cells (ReaderV.mk b (k : Int)).cells 167 (0, 0)) :: H) 53 [.pointer (some ⟨p, 0, none⟩), .int .i64 m] (α := AC) (fun y => .tuple #[.slice y.a (rdText (b.l.drop k) m).2.1.length y.c, .int .i64 (rdText (b.l.drop k) m).1]) (fun y => row (.slice y.a (rdText (b.l.drop k) m).2.1.length y.c) 5 1 (bytesV (rdText (b.l.drop k) m).2.1) :: blk p (.cells (ReaderV.mk b ((k + (rdText (b.l.drop k) m).2.2 : Nat) : Int)).cells 167 (0, 0)) :: H) := by
 refine CT_intro Tryz.func53 rfl Tryz.ntmps53 rfl ?_
 refine T2 (Qas rfl rfl (Qai rfl rfl (TX (zS (T2 ?_)))))
 refine zq (zm (.pointer _) rfl) rfl (zq (Qt_ptr_nil rfl rfl Tryz.underlying120) rfl (TX (zC rfl (fun h10 => ?_) (fun h10 => ?_))))
 ·
  have p10 := h10
  try simp only [dp] at p10
  cases h10
 have p10 := h10
 try simp only [dp] at p10
 refine S4 (zq (zm (.pointer _) rfl) rfl (zq (Qt_nilCheck rfl) rfl (zq (zf 1 rfl rfl) rfl (zq (zl rfl) rfl (Qai rfl rfl ?_)))))
 refine T4 (zq (zm (.pointer _) rfl) rfl (Qmi rfl rfl ?_))
 obtain ⟨hb1, hb2, hb3⟩ := rdCount_bound (b.l.drop k) m
 have hdl : (b.l.drop k).length = b.l.length - k := by simp
 rw [hdl] at hb2
 refine ze rfl (zc (count_c hk hl hm) rfl (fun x18 => ?_))
 refine zq (zm (.tuple _) rfl) rfl (zq (Qt_extract rfl) rfl (zq (Qt_extract rfl) rfl (Qai rfl rfl (Qai rfl rfl (TX (zS (T2 ?_)))))))
 refine Qmi rfl rfl (zq (Qt_neq rfl rfl) rfl (TX (zC rfl (fun h22 => ?_) (fun h22 => ?_))))
 ·
  have p22 := h22
  try simp only [dp] at p22
  have e : rdText (b.l.drop k) m = ((rdCount (b.l.drop k) m).1, [], 0) := if_pos p22
  rw [rdCount_err p22]
  refine T2 (Qmi rfl rfl (Qas rfl rfl (Qai rfl rfl (TX (zQ (zr ?_))))))
  simp only [e]
  exact zX ⟨none, 0⟩ [_, _] Tryz.results53 ⟨rfl, rfl, trivial⟩ rfl (fun w hw => (SB w hw : St w0 _ w).addNilB 5)
 have p22 := h22
 try simp only [dp] at p22
 have p22b : (rdCount (b.l.drop k) m).1 = 0 := by omega
 refine zk (zx (zS (T2 ?_)))
 refine Qmi rfl rfl (zq (zm (.pointer _) rfl) rfl ?_)
 refine ze rfl (zc (left_c (k := k + (rdCount (b.l.drop k) m).2.2) (by omega) hl) rfl (fun x26 => ?_))
 refine zq (Qt_gtr rfl rfl) rfl (TX (zC rfl (fun h27 => ?_) (fun h27 => ?_)))
 ·
  have p27 := h27
  try simp only [dp] at p27
  have e : rdText (b.l.drop k) m = (1, [], 0) := by unfold rdText; rw [if_neg (by omega), if_pos (by omega)]
  refine T2 (zq (zm (.pointer _) rfl) rfl (Qmi rfl rfl (zq (Qt_nilCheck rfl) rfl (zq (zf 1 rfl rfl) rfl ?_))))
  refine zN (Ef_store1 (.int .i64 _) rfl rfl (?_))
  refine T4 (Qas rfl rfl (Qai rfl rfl (TX (zQ (zr ?_)))))
  simp only [e]
  exact zX ⟨none, 0⟩ [_, _] Tryz.results53 ⟨rfl, rfl, trivial⟩ rfl (fun w hw => (SB w hw : St w0 _ w).addNilB 5)
 have p27 := h27
 try simp only [dp] at p27
 have e : rdText (b.l.drop k) m = (0, (b.l.drop (k + (rdCount (b.l.drop k) m).2.2)).take (rdCount (b.l.drop k) m).2.1, (rdCount (b.l.drop k) m).2.2 + (rdCount (b.l.drop k) m).2.1) := by unfold rdText; rw [if_neg (by omega), if_neg (by omega), List.drop_drop]
 refine S4 (zq (zm (.pointer _) rfl) rfl (zq (Qt_nilCheck rfl) rfl (zq (zf 1 rfl rfl) rfl (zq (zl rfl) rfl (Qmi rfl rfl ?_)))))
 refine zq (Qt_add rfl rfl (by omega) (by omega)) rfl ?_
 rw [show ((k + (rdCount (b.l.drop k) m).2.2 : Nat) : Int) + ((rdCount (b.l.drop k) m).2.1 : Int) = ((k + ((rdCount (b.l.drop k) m).2.2 + (rdCount (b.l.drop k) m).2.1) : Nat) : Int) from by omega]
 refine zq (Qt_nilCheck rfl) rfl (zq (zf 1 rfl rfl) rfl ?_)
 refine zN (Ef_store1 (.int .i64 _) rfl rfl (?_))
 refine TX (zS ?_)
 refine T_draw _ [(0, true), (1, true), (2, true), (3, true), (4, true), (5, true), (6, true), (7, true), (8, true), (9, true), (10, true), (11, true), (12, true), (13, true), (14, true), (15, false), (16, true), (17, true)] (by kernel_rfl) (by kernel_rfl) rfl (by kernel_rfl) (fun _ hh => hh) (fun hns0 => ?_)
 refine zd hns0 rfl (zm (.pointer _) rfl) rfl (zd hns0 rfl (Qt_nilCheck rfl) rfl (zd hns0 rfl (zf 0 rfl rfl) rfl (zd hns0 rfl (zl rfl) rfl (zd hns0 rfl (zm (.pointer _) rfl) rfl (zd hns0 rfl (Qt_nilCheck rfl) rfl ?_)))))
 refine zd hns0 rfl (zf 1 rfl rfl) rfl (zd hns0 rfl (zl rfl) rfl (zd hns0 rfl (zm (.int .i64 _) rfl) rfl (zd hns0 rfl (Qt_sub rfl rfl (by omega) (by omega)) rfl (zd hns0 rfl (zm (.pointer _) rfl) rfl (zd hns0 rfl (Qt_nilCheck rfl) rfl ?_)))))
 refine zd hns0 rfl (zf 1 rfl rfl) rfl (zd hns0 rfl (zl rfl) rfl (zd hns0 rfl (Qt_sliceB_lh (k + (rdCount (b.l.drop k) m).2.2) (rdCount (b.l.drop k) m).2.1 rfl (by refine congrArg (Value.int .i64) ?_; omega) (by refine congrArg (Value.int .i64) ?_; omega) (by omega)) rfl ?_))
 refine DL_e rfl rfl (zc (clone_c (l := (b.l.drop (k + (rdCount (b.l.drop k) m).2.2)).take (rdCount (b.l.drop k) m).2.1) (by simp; omega)) rfl (fun x55 => ⟨SB, ?_⟩))
 refine zd hns0 rfl (za (.slice _ _ _) rfl) rfl (zd hns0 rfl (za (.int .i64 _) rfl) rfl (DL_nil (zx (zQ ?_))))
 simp only [e]
 exact zX x55 [_, _] Tryz.results53 ⟨rfl, rfl, trivial⟩ rfl SB
end Go.Proofs.YtgeknnclmhfjlaaGreatDoor
