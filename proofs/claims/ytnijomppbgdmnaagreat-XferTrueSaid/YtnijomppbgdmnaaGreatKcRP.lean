/- Walks: folded numbers. -/
import Derived.Test.YtnijomppbgdmnaaGreatSgP
import Derived.Test.YtnijomppbgdmnaaGreatMsRP
import Derived.Test.YtnijomppbgdmnaaGreatCmRP
import Derived.Test.YtnijomppbgdmnaaGreatRdRP
set_option linter.unusedSimpArgs false
set_option linter.unusedVariables false
namespace Go.Proofs.YtnijomppbgdmnaaGreat
open Go.RowKit Go.Sx
set_option maxRecDepth 100000
set_option maxHeartbeats 1000000
/-- A number with a sign, folded. -/
def foldN (x : Int) : Nat := if x < 0 then (2 * (-(x + 1)) + 1).toNat else (2 * x).toNat
theorem foldN_lt {x : Int} (h : -9223372036854775808 ≤ x ∧ x ≤ 9223372036854775807) : foldN x < 18446744073709551616 := by
 unfold foldN; split <;> omega
theorem wrap_i64_u64 {x : Int} (h : 0 ≤ x) (h2 : x < 18446744073709551616) : IntKind.u64.wrap x = x := by
 simp [IntKind.wrap, IntKind.bits, IntKind.signed]; omega
theorem fold_neg {x : Int} (h : -9223372036854775808 ≤ x) (hx : x < 0) : IntKind.u64.wrap (IntKind.u64.wrap (2 * IntKind.u64.wrap (IntKind.i64.wrap (0 - IntKind.i64.wrap (x + 1)))) + 1) = (foldN x : Int) := by
 have e : foldN x = (2 * (-(x + 1)) + 1).toNat := if_pos hx
 have e1 : IntKind.i64.wrap (x + 1) = x + 1 := by simp [IntKind.wrap, IntKind.bits, IntKind.signed]; omega
 have e2 : IntKind.i64.wrap (0 - (x + 1)) = -(x + 1) := by simp [IntKind.wrap, IntKind.bits, IntKind.signed]; omega
 rw [e1, e2, wrap_i64_u64 (x := -(x + 1)) (by omega) (by omega), wrap_i64_u64 (x := 2 * -(x + 1)) (by omega) (by omega), wrap_i64_u64 (by omega) (by omega), e]
 omega
theorem fold_pos {x : Int} (h : x ≤ 9223372036854775807) (hx : ¬ x < 0) : IntKind.u64.wrap (2 * IntKind.u64.wrap x) = (foldN x : Int) := by
 have e : foldN x = (2 * x).toNat := if_neg hx
 rw [wrap_i64_u64 (x := x) (by omega) (by omega), wrap_i64_u64 (by omega) (by omega), e]
 omega
theorem xor_ones (a : Nat) (h : a < 18446744073709551616) : a ^^^ 18446744073709551615 = 18446744073709551615 - a := by
 have := BitVec.toNat_not (x := BitVec.ofNat 64 a)
 have h2 : (BitVec.ofNat 64 a) ^^^ BitVec.allOnes 64 = ~~~ BitVec.ofNat 64 a := BitVec.xor_allOnes
 have h3 := congrArg BitVec.toNat h2
 rw [BitVec.toNat_xor, this] at h3
 simp at h3
 rw [Nat.mod_eq_of_lt h] at h3
 exact h3
/-- The same by bits. -/
theorem fold_bits {x : Int} (h : -9223372036854775808 ≤ x ∧ x ≤ 9223372036854775807) (y z : Int) (hy : y = if x < 0 then 2 * x + 18446744073709551616 else 2 * x) (hz : z = if x < 0 then 18446744073709551615 else 0) :
 IntKind.u64.wrap ((BitVec.ofInt IntKind.u64.bits y ^^^ BitVec.ofInt IntKind.u64.bits z).toNat : Int) = (foldN x : Int) := by
 have key : ∀ a b : Nat, a < 18446744073709551616 → b < 18446744073709551616 → ((BitVec.ofInt IntKind.u64.bits (a : Int) ^^^ BitVec.ofInt IntKind.u64.bits (b : Int)).toNat) = a ^^^ b := fun a b ha hb => by
  show (BitVec.ofInt 64 (a : Int) ^^^ BitVec.ofInt 64 (b : Int)).toNat = a ^^^ b
  rw [BitVec.ofInt_natCast, BitVec.ofInt_natCast, BitVec.toNat_xor, BitVec.toNat_ofNat, BitVec.toNat_ofNat, Nat.mod_eq_of_lt (by simpa using ha), Nat.mod_eq_of_lt (by simpa using hb)]
 by_cases hx : x < 0
 · rw [if_pos hx] at hy hz
   obtain ⟨a, ha⟩ := Int.eq_ofNat_of_zero_le (show 0 ≤ y by omega)
   subst hz
   rw [ha, show (18446744073709551615 : Int) = ((18446744073709551615 : Nat) : Int) from rfl, key a _ (by omega) (by omega), xor_ones a (by omega), wrap_i64_u64 (by omega) (by omega)]
   have e : foldN x = (2 * (-(x + 1)) + 1).toNat := if_pos hx
   rw [e]; omega
 · rw [if_neg hx] at hy hz
   obtain ⟨a, ha⟩ := Int.eq_ofNat_of_zero_le (show 0 ≤ y by omega)
   subst hz
   rw [ha, show (0 : Int) = ((0 : Nat) : Int) from rfl, key a _ (by omega) (by omega), Nat.xor_zero, wrap_i64_u64 (by omega) (by omega)]
   have e : foldN x = (2 * x).toNat := if_neg hx
   rw [e]; omega
theorem fixed_one (x : Nat) : fixed x 1 = [UInt8.ofNat (x % 256)] := by simp [fixed]
theorem fixed_u8 (x : Int) : fixed (IntKind.u64.wrap x).toNat 1 = [u8Of (IntKind.u8.wrap x)] := by
 rw [fixed_one]
 congr 1
 simp only [u8Of, IntKind.wrap, IntKind.bits, IntKind.signed]
 apply UInt8.toNat_inj.1
 simp
 omega
theorem u64_nonneg (x : Int) : 0 ≤ IntKind.u64.wrap x := by simp [IntKind.wrap, IntKind.bits, IntKind.signed]; omega
theorem u64_lt (x : Int) : IntKind.u64.wrap x < 18446744073709551616 := by simp [IntKind.wrap, IntKind.bits, IntKind.signed]; omega
theorem putFixed_2k (l : List UInt8) (x : Int) : putFixed l x 2 = l ++ fixed x.toNat 2 := rfl
theorem putFixed_1k (l : List UInt8) (x : Int) : putFixed l x 1 = l ++ fixed x.toNat 1 := rfl
theorem fold_a {x : Int} (h : -9223372036854775808 ≤ x ∧ x ≤ 9223372036854775807) : IntKind.u64.wrap (IntKind.u64.wrap x * 2 ^ min (1 : Int).toNat IntKind.u64.bits) = if x < 0 then 2 * x + 18446744073709551616 else 2 * x := by
 simp [IntKind.wrap, IntKind.bits, IntKind.signed]; split <;> omega
theorem fold_b {x : Int} (h : -9223372036854775808 ≤ x ∧ x ≤ 9223372036854775807) : IntKind.u64.wrap (x.fdiv (2 ^ min (63 : Int).toNat IntKind.i64.bits)) = if x < 0 then 18446744073709551615 else 0 := by
 have e : (2 : Int) ^ min (63 : Int).toNat IntKind.i64.bits = 9223372036854775808 := by decide
 rw [e, Int.fdiv_eq_ediv_of_nonneg _ (by decide)]
 split
 · have : x / 9223372036854775808 = -1 := by omega
   rw [this]; decide
 · have : x / 9223372036854775808 = 0 := by omega
   rw [this]; decide

theorem fold_c {w0 : World} {H : List SA} {x : Int} (hx : -9223372036854775808 ≤ x ∧ x ≤ 9223372036854775807) :
 CT Tryz.prog w0 (H) 186 [.int .i64 x] (α := Unit) (fun _ => .int .u64 (foldN x : Int)) (fun _ => H) := by
 refine CT_intro Tryz.func186 rfl Tryz.ntmps186 rfl (T2 (zy (za (.int .u64 _) rfl) (T4 (Qmi rfl rfl (zy (Qt_conv rfl rfl Tryz.underlying121) (zy (Qt_shl rfl rfl (by omega)) (Qmi rfl rfl (zy (Qt_shr rfl rfl (by omega)) (zy (Qt_conv rfl rfl Tryz.underlying121) (zy (Qt_xor rfl rfl) (zy (za (.int .u64 _) rfl) (TX (zQ ?_)))))))))))))
 exact zX () [.int .u64 (foldN x : Int)] Tryz.results186 ⟨congrArg (Value.int .u64) (fold_bits hx _ _ (fold_a hx) (fold_b hx)), trivial⟩ rfl SB
theorem putFolded_c {w0 : World} {H : List SA} {a : Option Addr} {l : List UInt8} {c : Nat} [hr : RdB w0 H (.slice a l.length c) l] (hl : l.length ≤ 4294967200) {x : Int} (hx : -9223372036854775808 ≤ x ∧ x ≤ 9223372036854775807) :
 CT Tryz.prog w0 (H) 168 [.slice a l.length c, .int .i64 x] (α := AC) (fun y => .slice y.a (l ++ packed (foldN x)).length y.c) (fun y => row (.slice y.a (l ++ packed (foldN x)).length y.c) 5 1 (bytesV (l ++ packed (foldN x))) :: H) := by
 refine CT_intro Tryz.func168 rfl Tryz.ntmps168 rfl (T2 (Qas rfl rfl (T4 (Qms rfl rfl (Qmi rfl rfl (ze rfl (zc (fold_c hx) rfl (fun x7 => ?_))))))))
 refine ze rfl (zc (putPacked_c (x := (foldN x : Int)) hl (by omega) (by have := foldN_lt hx; omega)) rfl (fun x8 => ?_))
 rw [Int.toNat_natCast]
 refine Qas rfl rfl (TX (zQ ?_))
 exact zX ⟨x8.a, x8.c⟩ [_] Tryz.results168 ⟨rfl, trivial⟩ rfl SB
theorem CT.mono {P : Program} {w0 : World} {H : List SA} {f : FuncId} {args : List Value} {α β : Type} {val : α → Value} {H' : α → List SA} {val2 : β → Value} {H2 : β → List SA} (h : CT P w0 H f args val H')
 (g : ∀ x w, St w0 (H' x) w → ∃ y, val x = val2 y ∧ St w0 (H2 y) w) : CT P w0 H f args val2 H2 := fun w hw =>
 (h w hw).mono fun _ w' ⟨x, he, hs⟩ => let ⟨y, h1, h2⟩ := g x w' hs; ⟨y, by rw [he, h1], h2⟩
def Rd1 (l : List UInt8) (k : Nat) (y : UInt8 × Nat × Int) : Prop := (k < l.length ∧ y.1 = l.getD k 0 ∧ y.2.1 = k + 1 ∧ y.2.2 = 0) ∨ (l.length ≤ k ∧ y.1 = 0 ∧ y.2.1 = k ∧ y.2.2 = 1)
theorem rdFixed_one {l : List UInt8} {k : Nat} (h : k < l.length) : rdFixed (l.drop k) 1 = (0, (l.getD k 0).toNat, 1) := by
 unfold rdFixed
 have e : (l.drop k).take 1 = [l[k]] := by rw [List.drop_eq_getElem_cons h]; rfl
 rw [if_neg (by decide), if_neg (by simp; omega), show (1 : Int).toNat = 1 from rfl, e, List.getD_eq_getElem?_getD, List.getElem?_eq_getElem h]
 simp [beN]
theorem rdFixed_sh1 {l : List UInt8} {k : Nat} (h : l.length ≤ k) : rdFixed (l.drop k) 1 = (1, 0, 0) := by
 unfold rdFixed
 rw [if_neg (by decide), if_pos (by simp; omega)]
theorem fixed1_c {w0 : World} {H : List SA} {p k : Nat} {b : BS} [rb : RdB w0 H (.slice b.a b.l.length b.c) b.l] (hk : k ≤ b.l.length) (hl : b.l.length ≤ 4294967296) :
 CT Tryz.prog w0 (blk p (.cells (ReaderV.mk b (k : Int)).cells 222 (0, 0)) :: H) 125 [.pointer (some ⟨p, 0, none⟩), .int .i64 1] (α := UInt8 × Nat × Int) (fun y => .tuple #[.int .u64 (y.1.toNat : Int), .int .i64 y.2.2]) (fun y => pu (Rd1 b.l k y) :: blk p (.cells (ReaderV.mk b (y.2.1 : Int)).cells 222 (0, 0)) :: H) := by
 refine CT.mono (fixed_c (rb := rb) hk hl (n := 1)) (fun x w hw => ?_)
 by_cases hlt : k < b.l.length
 · rw [rdFixed_one hlt] at hw ⊢
   exact ⟨(b.l.getD k 0, k + 1, 0), rfl, St.addPure hw (.inl ⟨hlt, rfl, rfl, rfl⟩)⟩
 · rw [rdFixed_sh1 (by omega)] at hw ⊢
   exact ⟨(0, k, 1), rfl, St.addPure hw (.inr ⟨by omega, rfl, rfl, rfl⟩)⟩
def unfoldN (x : Nat) : Int := if x % 2 = 1 then -((x / 2 : Nat) : Int) - 1 else ((x / 2 : Nat) : Int)
theorem unfoldN_range {x : Nat} (h : x < 18446744073709551616) : -9223372036854775808 ≤ unfoldN x ∧ unfoldN x ≤ 9223372036854775807 := by
 unfold unfoldN; split <;> omega
theorem neg_small (x : Nat) : IntKind.i64.wrap (0 - ((x % 2 : Nat) : Int)) = -((x % 2 : Nat) : Int) := by
 simp [IntKind.wrap, IntKind.bits, IntKind.signed]; omega
theorem unfold_bits {x : Nat} (h : x < 18446744073709551616) : IntKind.i64.wrap ((BitVec.ofInt IntKind.i64.bits ((x / 2 : Nat) : Int) ^^^ BitVec.ofInt IntKind.i64.bits (-((x % 2 : Nat) : Int))).toNat : Int) = unfoldN x := by
 show IntKind.i64.wrap ((BitVec.ofInt 64 ((x / 2 : Nat) : Int) ^^^ BitVec.ofInt 64 (-((x % 2 : Nat) : Int))).toNat : Int) = unfoldN x
 unfold unfoldN
 rcases Nat.mod_two_eq_zero_or_one x with h2 | h2
 · rw [h2, if_neg (by decide), show BitVec.ofInt 64 (-((0 : Nat) : Int)) = 0#64 from by decide, BitVec.xor_zero, BitVec.ofInt_natCast, BitVec.toNat_ofNat, Nat.mod_eq_of_lt (by omega)]
   simp [IntKind.wrap, IntKind.bits, IntKind.signed]; omega
 · rw [h2, if_pos rfl, show BitVec.ofInt 64 (-((1 : Nat) : Int)) = BitVec.allOnes 64 from by decide, BitVec.xor_allOnes, BitVec.toNat_not, BitVec.ofInt_natCast, BitVec.toNat_ofNat, Nat.mod_eq_of_lt (by omega)]
   simp [IntKind.wrap, IntKind.bits, IntKind.signed]; omega
theorem unfold_c {w0 : World} {H : List SA} {x : Nat} (hx : x < 18446744073709551616) :
 CT Tryz.prog w0 (H) 185 [.int .u64 (x : Int)] (α := Unit) (fun _ => .int .i64 (unfoldN x)) (fun _ => H) := by
 refine CT_intro Tryz.func185 rfl Tryz.ntmps185 rfl (T2 (Qai rfl rfl (T4 (zy (zm (.int .u64 _) rfl) (zy (Qt_shrN 1 rfl rfl (by decide)) ?_)))))
 rw [show (2 : Nat) ^ 1 = 2 from rfl]
 refine zy (Qt_conv_i64 rfl rfl Tryz.underlying2 (by omega) (by omega)) (zy (zm (.int .u64 _) rfl) (zy (Qt_andN (b := 1) rfl rfl rfl (by show _ < 2 ^ 64; omega) (by decide)) ?_))
 rw [Nat.and_one_is_mod]
 refine zy (Qt_conv_i64 rfl rfl Tryz.underlying2 (by omega) (by omega)) (zy (Qt_val (Qt_neg rfl) (congrArg (Value.int .i64) (neg_small x))) (zy (Qt_val (Qt_xor rfl rfl) (congrArg (Value.int .i64) (unfold_bits hx))) (Qai rfl rfl (TX (zQ ?_)))))
 exact zX () [.int .i64 (unfoldN x)] Tryz.results185 ⟨rfl, trivial⟩ rfl SB
theorem folded_c {w0 : World} {H : List SA} {p k : Nat} {b : BS} [rb : RdB w0 H (.slice b.a b.l.length b.c) b.l] (hk : k ≤ b.l.length) (hl : b.l.length ≤ 4294967296) :
 CT Tryz.prog w0 (blk p (.cells (ReaderV.mk b (k : Int)).cells 222 (0, 0)) :: H) 166 [.pointer (some ⟨p, 0, none⟩)] (α := Unit) (fun _ => .tuple #[.int .i64 (if (rdPacked (b.l.drop k)).1 = 0 then unfoldN (rdPacked (b.l.drop k)).2.1 else 0), .int .i64 (rdPacked (b.l.drop k)).1]) (fun _ => blk p (.cells (ReaderV.mk b ((k + (rdPacked (b.l.drop k)).2.2 : Nat) : Int)).cells 222 (0, 0)) :: H) := by
 refine CT_intro Tryz.func166 rfl Tryz.ntmps166 rfl (T2 (Qai rfl rfl (Qai rfl rfl (T4 (zy (zm (.pointer _) rfl) (ze rfl (zc (packed_c hk hl) rfl (fun x8 => ?_))))))))
 refine zy (zm (.tuple _) rfl) (zy (Qt_extract rfl) (zy (Qt_extract rfl) (zy (za (.int .u64 _) rfl) (Qai rfl rfl (TX (zS (T2 (Qmi rfl rfl (zy (Qt_neq rfl rfl) (TX (zC rfl (fun h12 => ?_) (fun h12 => ?_))))))))))))
 ·
  have p12 := cL h12
  refine T2 (Qmi rfl rfl (Qai rfl rfl (Qai rfl rfl (TX (zQ (zr ?_))))))
  have e : (rdPacked (b.l.drop k)).1 ≠ 0 := p12
  rw [if_neg e]
  exact zX () [_, _] Tryz.results166 ⟨rfl, rfl, trivial⟩ rfl SB
 have p12 := cL h12
 refine S4 (zy (zm (.int .u64 _) rfl) (ze rfl (zc (unfold_c (rdPacked_bound _).2.2) rfl (fun x15 => ?_))))
 refine Qai rfl rfl (Qai rfl rfl (TX (zQ ?_)))
 have e : (rdPacked (b.l.drop k)).1 = 0 := by omega
 rw [if_pos e, e]
 exact zX () [_, _] Tryz.results166 ⟨rfl, rfl, trivial⟩ rfl SB
end Go.Proofs.YtnijomppbgdmnaaGreat
