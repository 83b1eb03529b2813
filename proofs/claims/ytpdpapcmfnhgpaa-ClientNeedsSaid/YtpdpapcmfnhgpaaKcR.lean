/- Walks: folded numbers, replies of bytes. -/
import Derived.Test.YtpdpapcmfnhgpaaKbR
import Derived.Test.YtpdpapcmfnhgpaaRdR
namespace Go.Proofs.Ytpdpapcmfnhgpaa
open Go.RowKit Go.Sx
set_option maxRecDepth 100000
set_option linter.unusedSimpArgs false
set_option linter.unusedVariables false
theorem CT.mono {P : Program} {w0 : World} {H : List SA} {f : FuncId} {args : List Value} {α β : Type} {val : α → Value} {H' : α → List SA} {val2 : β → Value} {H2 : β → List SA} (h : CT P w0 H f args val H')
 (g : ∀ x w, St w0 (H' x) w → ∃ y, val x = val2 y ∧ St w0 (H2 y) w) : CT P w0 H f args val2 H2 := fun w hw =>
 (h w hw).mono fun _ w' ⟨x, he, hs⟩ => let ⟨y, h1, h2⟩ := g x w' hs; ⟨y, by rw [he, h1], h2⟩
/-- One byte read at k: the byte, where the reader is, the error. -/
def Rd1 (l : List UInt8) (k : Nat) (y : UInt8 × Nat × Int) : Prop := (k < l.length ∧ y.1 = l.getD k 0 ∧ y.2.1 = k + 1 ∧ y.2.2 = 0) ∨ (l.length ≤ k ∧ y.1 = 0 ∧ y.2.1 = k ∧ y.2.2 = 1)
theorem rdFixed_one {l : List UInt8} {k : Nat} (h : k < l.length) : rdFixed (l.drop k) 1 = (0, (l.getD k 0).toNat, 1) := by
 unfold rdFixed
 have e : (l.drop k).take 1 = [l[k]] := by rw [List.drop_eq_getElem_cons h]; rfl
 rw [if_neg (by decide), if_neg (by simp; omega), show (1 : Int).toNat = 1 from rfl, e, List.getD_eq_getElem?_getD, List.getElem?_eq_getElem h]
 simp [beN]
theorem rdFixed_sh1 {l : List UInt8} {k : Nat} (h : l.length ≤ k) : rdFixed (l.drop k) 1 = (1, 0, 0) := by
 unfold rdFixed
 rw [if_neg (by decide), if_pos (by simp; omega)]
theorem fixed1_c {w0 : World} {H : List SA} {p k : Nat} {b : BS} [rb : RdB w0 H (.slice b.a b.l.length b.c) b.l] (hk : k ≤ b.l.length) (hl : b.l.length ≤ 4294967296) :
 CT Try.prog w0 (blk p (.cells (ReaderV.mk b (k : Int)).cells 243 (0, 0)) :: H) 109 [.pointer (some ⟨p, 0, none⟩), .int .i64 1] (α := UInt8 × Nat × Int) (fun y => .tuple #[.int .u64 (y.1.toNat : Int), .int .i64 y.2.2]) (fun y => pu (Rd1 b.l k y) :: blk p (.cells (ReaderV.mk b (y.2.1 : Int)).cells 243 (0, 0)) :: H) := by
 refine CT.mono (fixed_c (rb := rb) hk hl (n := 1)) (fun x w hw => ?_)
 by_cases hlt : k < b.l.length
 · rw [rdFixed_one hlt] at hw ⊢
   exact ⟨(b.l.getD k 0, k + 1, 0), rfl, St.addPure hw (.inl ⟨hlt, rfl, rfl, rfl⟩)⟩
 · rw [rdFixed_sh1 (by omega)] at hw ⊢
   exact ⟨(0, k, 1), rfl, St.addPure hw (.inr ⟨by omega, rfl, rfl, rfl⟩)⟩
def unfoldN (x : Nat) : Int := if x % 2 = 1 then -((x / 2 : Nat) : Int) - 1 else ((x / 2 : Nat) : Int)
theorem neg_small (x : Nat) : IntKind.i64.wrap (0 - ((x % 2 : Nat) : Int)) = -((x % 2 : Nat) : Int) := by
 simp [IntKind.wrap, IntKind.bits, IntKind.signed]; omega
theorem unfold_bits {x : Nat} (h : x < 18446744073709551616) : IntKind.i64.wrap ((BitVec.ofInt IntKind.i64.bits ((x / 2 : Nat) : Int) ^^^ BitVec.ofInt IntKind.i64.bits (-((x % 2 : Nat) : Int))).toNat : Int) = unfoldN x := by
 show IntKind.i64.wrap ((BitVec.ofInt 64 ((x / 2 : Nat) : Int) ^^^ BitVec.ofInt 64 (-((x % 2 : Nat) : Int))).toNat : Int) = unfoldN x
 unfold unfoldN
 rcases Nat.mod_two_eq_zero_or_one x with h2 | h2
 · rw [h2, if_neg (by decide), show BitVec.ofInt 64 (-((0 : Nat) : Int)) = 0#64 from by decide, BitVec.xor_zero, BitVec.ofInt_natCast, BitVec.toNat_ofNat, Nat.mod_eq_of_lt (by omega)]
   simp [IntKind.wrap, IntKind.bits, IntKind.signed]; omega
 · rw [h2, if_pos rfl, show BitVec.ofInt 64 (-((1 : Nat) : Int)) = BitVec.allOnes 64 from by decide, BitVec.xor_allOnes, BitVec.toNat_not, BitVec.ofInt_natCast, BitVec.toNat_ofNat, Nat.mod_eq_of_lt (by omega)]
   simp [IntKind.wrap, IntKind.bits, IntKind.signed]; omega
/-- A reply of bytes: the error, the reply. -/
def replyG (l : List UInt8) : Int × ReplyV :=
 if l.length < 4 then (1, .zero) else if (rdPacked (l.drop 4)).1 ≠ 0 then ((rdPacked (l.drop 4)).1, .zero)
 else if 1 < (l.getD 3 0).toNat ∨ 4 + (rdPacked (l.drop 4)).2.2 < l.length then (2, .zero)
 else (0, ReplyV.mk (l.getD 0 0).toNat (l.getD 1 0).toNat (l.getD 2 0).toNat (ResV.mk (decide (((l.getD 3 0).toNat : Int) = 1)) (unfoldN (rdPacked (l.drop 4)).2.1)))

set_option maxHeartbeats 1000000 in
theorem unfold_c {w0 : World} {H : List SA} {x : Nat} (hx : x < 18446744073709551616) :
 CT Try.prog w0 (H) 156 [.int .u64 (x : Int)] (α := Unit) (fun _ => .int .i64 (unfoldN x)) (fun _ => H) := by
 refine CT_intro Try.func156 rfl Try.ntmps156 rfl ?_
 refine T_seq ?_
 refine T_region ?_
 refine TL_q (Qt_assign (.int .i64 _) rfl) rfl ?_
 refine TL_nil ?_
 refine X_then ?_
 refine T_seq ?_
 refine T_region ?_
 refine TL_q (Qt_move (.int .u64 _) rfl) rfl ?_
 refine TL_q (Qt_shrN 1 rfl rfl (by decide)) rfl ?_
 rw [show (2 : Nat) ^ 1 = 2 from rfl]
 refine TL_q (Qt_conv_i64 rfl rfl Try.underlying2 (by omega) (by omega)) rfl ?_
 refine TL_q (Qt_move (.int .u64 _) rfl) rfl ?_
 refine TL_q (Qt_andN (b := 1) rfl rfl rfl (by show _ < 2 ^ 64; omega) (by decide)) rfl ?_
 rw [Nat.and_one_is_mod]
 refine TL_q (Qt_conv_i64 rfl rfl Try.underlying2 (by omega) (by omega)) rfl ?_
 refine TL_q (Qt_val (Qt_neg rfl) (congrArg (Value.int .i64) (neg_small x))) rfl ?_
 refine TL_q (Qt_val (Qt_xor rfl rfl) (congrArg (Value.int .i64) (unfold_bits hx))) rfl ?_
 refine TL_q (Qt_assign (.int .i64 _) rfl) rfl ?_
 refine TL_nil ?_
 refine X_then ?_
 refine T_ret ?_
 exact X_ret () [.int .i64 (unfoldN x)] Try.results156 ⟨rfl, trivial⟩ rfl (Subs.st inferInstance)
set_option maxHeartbeats 1000000 in
theorem folded_c {w0 : World} {H : List SA} {p k : Nat} {b : BS} [rb : RdB w0 H (.slice b.a b.l.length b.c) b.l] (hk : k ≤ b.l.length) (hl : b.l.length ≤ 4294967296) :
 CT Try.prog w0 (blk p (.cells (ReaderV.mk b (k : Int)).cells 243 (0, 0)) :: H) 110 [.pointer (some ⟨p, 0, none⟩)] (α := Unit) (fun _ => .tuple #[.int .i64 (if (rdPacked (b.l.drop k)).1 = 0 then unfoldN (rdPacked (b.l.drop k)).2.1 else 0), .int .i64 (rdPacked (b.l.drop k)).1]) (fun _ => blk p (.cells (ReaderV.mk b ((k + (rdPacked (b.l.drop k)).2.2 : Nat) : Int)).cells 243 (0, 0)) :: H) := by
 refine CT_intro Try.func110 rfl Try.ntmps110 rfl ?_
 refine T_seq ?_
 refine T_region ?_
 refine TL_q (Qt_assign (.int .i64 _) rfl) rfl ?_
 refine TL_q (Qt_assign (.int .i64 _) rfl) rfl ?_
 refine TL_nil ?_
 refine X_then ?_
 refine T_seq ?_
 refine T_region ?_
 refine TL_q (Qt_move (.pointer _) rfl) rfl ?_
 refine TL_e rfl (Ef_call (packed_c hk hl) rfl (fun x8 => ?_))
 refine TL_q (Qt_move (.tuple _) rfl) rfl ?_
 refine TL_q (Qt_extract rfl) rfl ?_
 refine TL_q (Qt_extract rfl) rfl ?_
 refine TL_q (Qt_assign (.int .u64 _) rfl) rfl ?_
 refine TL_q (Qt_assign (.int .i64 _) rfl) rfl ?_
 refine TL_nil ?_
 refine X_then ?_
 refine T_seq ?_
 refine T_seq ?_
 refine T_region ?_
 refine TL_q (Qt_move (.int .i64 _) rfl) rfl ?_
 refine TL_q (Qt_neq rfl rfl) rfl ?_
 refine TL_nil ?_
 refine X_then ?_
 refine T_cond rfl (fun h12 => ?_) (fun h12 => ?_)
 ·
  have p12 := h12
  try simp only [decide_eq_true_eq, decide_eq_false_iff_not, Bool.not_eq_true', Bool.not_eq_false', Option.isNone_iff_eq_none, ne_eq, Decidable.not_not, Int.not_lt, Int.not_le] at p12
  refine T_seq ?_
  refine T_region ?_
  refine TL_q (Qt_move (.int .i64 _) rfl) rfl ?_
  refine TL_q (Qt_assign (.int .i64 _) rfl) rfl ?_
  refine TL_q (Qt_assign (.int .i64 _) rfl) rfl ?_
  refine TL_nil ?_
  refine X_then ?_
  refine T_ret ?_
  refine X_then_ret ?_
  have e : (rdPacked (b.l.drop k)).1 ≠ 0 := p12
  rw [if_neg e]
  exact X_ret () [_, _] Try.results110 ⟨rfl, rfl, trivial⟩ rfl (Subs.st inferInstance)
 ·
  have p12 := h12
  try simp only [decide_eq_true_eq, decide_eq_false_iff_not, Bool.not_eq_true', Bool.not_eq_false', Option.isNone_iff_eq_none, ne_eq, Decidable.not_not, Int.not_lt, Int.not_le] at p12
  refine T_skip ?_
  refine X_then ?_
  refine T_seq ?_
  refine T_region ?_
  refine TL_q (Qt_move (.int .u64 _) rfl) rfl ?_
  refine TL_e rfl (Ef_call (unfold_c (rdPacked_bound _).2.2) rfl (fun x15 => ?_))
  refine TL_q (Qt_assign (.int .i64 _) rfl) rfl ?_
  refine TL_q (Qt_assign (.int .i64 _) rfl) rfl ?_
  refine TL_nil ?_
  refine X_then ?_
  refine T_ret ?_
  have e : (rdPacked (b.l.drop k)).1 = 0 := by omega
  rw [if_pos e, e]
  exact X_ret () [_, _] Try.results110 ⟨rfl, rfl, trivial⟩ rfl (Subs.st inferInstance)
set_option maxHeartbeats 1000000 in
theorem getReply_c {w0 : World} {H : List SA} {a : Option Addr} {l : List UInt8} {c : Nat} [hr : RdB w0 H (.slice a l.length c) l] (hl : l.length ≤ 4294967296) :
 CT Try.prog w0 (H) 66 [.slice a l.length c] (α := Unit) (fun _ => .tuple #[.agg (replyG l).2.cells, .int .i64 (replyG l).1]) (fun _ => H) := by
 refine CT_intro Try.func66 rfl Try.ntmps66 rfl ?_
 refine T_seq ?_
 refine T_region ?_
 refine TL_e rfl (Ef_allocN (fun b2 => ?_))
 refine TL_q (Qt_assign (.int .i64 _) rfl) rfl ?_
 refine TL_nil ?_
 refine X_then ?_
 refine T_seq ?_
 refine T_region ?_
 refine TL_q (Qt_move (.slice _ _ _) rfl) rfl ?_
 refine TL_e rfl (Ef_call (rnew_c hl) rfl (fun x14 => ?_))
 refine TL_pure (fun h14 => ?_)
 refine TL_q (Qt_assign (.pointer _) rfl) rfl ?_
 refine TL_nil ?_
 refine X_then ?_
 refine T_seq ?_
 refine T_region ?_
 refine TL_e rfl (Ef_allocN (fun b5 => ?_))
 refine TL_nil ?_
 refine X_then ?_
 refine T_seq ?_
 refine T_region ?_
 refine TL_e rfl (Ef_alloc1 (fun b6 => ?_))
 refine TL_n (Ef_store1 (.int .i64 _) rfl rfl (?_))
 refine TL_nil ?_
 refine X_then ?_
 refine T_seq ?_
 refine T_seq ?_
 refine T_region ?_
 refine TL_q (Qt_fieldAddr 0 rfl rfl) rfl ?_
 refine TL_q (Qt_fieldAddr 1 rfl rfl) rfl ?_
 refine TL_q (Qt_fieldAddr 2 rfl rfl) rfl ?_
 refine TL_q (Qt_build_arr #[(.pointer _), (.pointer _), (.pointer _), (.pointer _)] Try.underlying191 rfl rfl rfl) rfl ?_
 refine TL_q (Qt_move (.int .i64 _) rfl) rfl ?_
 refine TL_nil ?_
 refine X_then ?_
 refine T_block ?_
 refine T_unroll (TU_round ?_)
 refine T_seq ?_
 refine T_region ?_
 refine TL_q (Qt_lss rfl rfl) rfl ?_
 refine TL_nil ?_
 refine X_then ?_
 refine T_seq ?_
 refine T_cond_true rfl (by first | rfl | decide) ?_
 refine T_skip ?_
 refine X_then ?_
 refine T_seq ?_
 refine T_block ?_
 refine T_seq ?_
 refine T_region ?_
 refine TL_q (Qt_index (.pointer _) rfl rfl Try.underlying191 (by omega) (by omega) (rfl)) rfl ?_
 refine TL_q (Qt_assign (.pointer _) rfl) rfl ?_
 refine TL_nil ?_
 refine X_then ?_
 refine T_seq ?_
 refine T_region ?_
 refine TL_q (Qt_move (.pointer _) rfl) rfl ?_
 refine TL_frontB x14.1 ?_
 refine TL_e rfl (Ef_call (fixed1_c (b := x14.2) (k := 0) (by omega) (by rw [h14]; omega)) rfl (fun x24 => ?_))
 refine TL_pure (fun h24 => ?_)
 have hb0 := x24.1.toNat_lt
 refine TL_q (Qt_move (.tuple _) rfl) rfl ?_
 refine TL_q (Qt_extract rfl) rfl ?_
 refine TL_q (Qt_extract rfl) rfl ?_
 refine TL_q (Qt_assign (.int .u64 _) rfl) rfl ?_
 refine TL_q (Qt_assign (.int .i64 _) rfl) rfl ?_
 refine TL_nil ?_
 refine X_then ?_
 refine T_seq ?_
 refine T_seq ?_
 refine T_region ?_
 refine TL_q (Qt_move (.int .i64 _) rfl) rfl ?_
 refine TL_q (Qt_neq rfl rfl) rfl ?_
 refine TL_nil ?_
 refine X_then ?_
 refine T_cond rfl (fun h28 => ?_) (fun h28 => ?_)
 ·
  have p28 := h28
  try simp only [decide_eq_true_eq, decide_eq_false_iff_not, Bool.not_eq_true', Bool.not_eq_false', Option.isNone_iff_eq_none, ne_eq, Decidable.not_not, Int.not_lt, Int.not_le] at p28
  have hs0 : x14.2.l.length ≤ 0 ∧ x24.2.2 = 1 := by
   rcases h24 with ⟨-, -, -, h4⟩ | ⟨h1, -, -, h4⟩
   · omega
   · exact ⟨h1, h4⟩
  refine T_seq ?_
  refine T_region ?_
  refine TL_q (Qt_build [] rfl (by kernel_rfl)) rfl ?_
  refine TL_q (Qt_move (.int .i64 _) rfl) rfl ?_
  refine TL_n (Ef_storeN rfl rfl (?_))
  refine TL_q (Qt_assign (.int .i64 _) rfl) rfl ?_
  refine TL_nil ?_
  refine X_then ?_
  refine T_ret ?_
  refine X_then_ret ?_
  refine X_block_ret ?_
  refine X_then_ret ?_
  refine X_again_ret ?_
  refine X_block_ret ?_
  refine X_then_ret ?_
  have e : replyG l = (1, .zero) := if_pos (by rw [← h14]; omega)
  rw [e]
  exact X_ret () [_, _] Try.results66 ⟨⟨_, rfl, res_cellN rfl⟩, rfl, trivial⟩ (by rw [hs0.2]; rfl) (Subs.st inferInstance)
 ·
  have p28 := h28
  try simp only [decide_eq_true_eq, decide_eq_false_iff_not, Bool.not_eq_true', Bool.not_eq_false', Option.isNone_iff_eq_none, ne_eq, Decidable.not_not, Int.not_lt, Int.not_le] at p28
  obtain ⟨hk0, hv0, ha0⟩ : 0 < x14.2.l.length ∧ x24.1 = x14.2.l.getD 0 0 ∧ x24.2.1 = 0 + 1 := by
   rcases h24 with ⟨h1, h2, h3, -⟩ | ⟨-, -, -, h4⟩
   · exact ⟨h1, h2, h3⟩
   · omega
  rw [ha0]
  refine T_skip ?_
  refine X_then ?_
  refine T_region ?_
  refine TL_q (Qt_move (.pointer _) rfl) rfl ?_
  refine TL_q (Qt_move (.int .u64 _) rfl) rfl ?_
  refine TL_q (Qt_conv_i64 rfl rfl Try.underlying3 (by omega) (by omega)) rfl ?_
  refine TL_q (Qt_nilCheck rfl) rfl ?_
  refine TL_n (Ef_store1 (.int .i64 _) rfl rfl (?_))
  refine TL_nil ?_
  refine X_block ?_
  refine X_then ?_
  refine T_region ?_
  first
   | refine TL_q (Qt_add rfl rfl (by omega) (by omega)) rfl ?_
   | refine TL_q (Qt_addw rfl rfl) rfl ?_
  refine TL_q (Qt_move (.int .i64 _) rfl) rfl ?_
  refine TL_nil ?_
  refine X_again (TU_round ?_)
  refine T_seq ?_
  refine T_region ?_
  refine TL_q (Qt_lss rfl rfl) rfl ?_
  refine TL_nil ?_
  refine X_then ?_
  refine T_seq ?_
  refine T_cond_true rfl (by first | rfl | decide) ?_
  refine T_skip ?_
  refine X_then ?_
  refine T_seq ?_
  refine T_block ?_
  refine T_seq ?_
  refine T_region ?_
  refine TL_q (Qt_index (.pointer _) rfl rfl Try.underlying191 (by omega) (by omega) (rfl)) rfl ?_
  refine TL_q (Qt_assign (.pointer _) rfl) rfl ?_
  refine TL_nil ?_
  refine X_then ?_
  refine T_seq ?_
  refine T_region ?_
  refine TL_q (Qt_move (.pointer _) rfl) rfl ?_
  refine TL_frontB x14.1 ?_
  refine TL_e rfl (Ef_call (fixed1_c (b := x14.2) (k := 0 + 1) (by omega) (by rw [h14]; omega)) rfl (fun x24 => ?_))
  refine TL_pure (fun h24 => ?_)
  have hb1 := x24.1.toNat_lt
  refine TL_q (Qt_move (.tuple _) rfl) rfl ?_
  refine TL_q (Qt_extract rfl) rfl ?_
  refine TL_q (Qt_extract rfl) rfl ?_
  refine TL_q (Qt_assign (.int .u64 _) rfl) rfl ?_
  refine TL_q (Qt_assign (.int .i64 _) rfl) rfl ?_
  refine TL_nil ?_
  refine X_then ?_
  refine T_seq ?_
  refine T_seq ?_
  refine T_region ?_
  refine TL_q (Qt_move (.int .i64 _) rfl) rfl ?_
  refine TL_q (Qt_neq rfl rfl) rfl ?_
  refine TL_nil ?_
  refine X_then ?_
  refine T_cond rfl (fun h28 => ?_) (fun h28 => ?_)
  ·
   have p28 := h28
   try simp only [decide_eq_true_eq, decide_eq_false_iff_not, Bool.not_eq_true', Bool.not_eq_false', Option.isNone_iff_eq_none, ne_eq, Decidable.not_not, Int.not_lt, Int.not_le] at p28
   have hs1 : x14.2.l.length ≤ 1 ∧ x24.2.2 = 1 := by
    rcases h24 with ⟨-, -, -, h4⟩ | ⟨h1, -, -, h4⟩
    · omega
    · exact ⟨h1, h4⟩
   refine T_seq ?_
   refine T_region ?_
   refine TL_q (Qt_build [] rfl (by kernel_rfl)) rfl ?_
   refine TL_q (Qt_move (.int .i64 _) rfl) rfl ?_
   refine TL_n (Ef_storeN rfl rfl (?_))
   refine TL_q (Qt_assign (.int .i64 _) rfl) rfl ?_
   refine TL_nil ?_
   refine X_then ?_
   refine T_ret ?_
   refine X_then_ret ?_
   refine X_block_ret ?_
   refine X_then_ret ?_
   refine X_again_ret ?_
   refine X_block_ret ?_
   refine X_then_ret ?_
   have e : replyG l = (1, .zero) := if_pos (by rw [← h14]; omega)
   rw [e]
   exact X_ret () [_, _] Try.results66 ⟨⟨_, rfl, res_cellN rfl⟩, rfl, trivial⟩ (by rw [hs1.2]; rfl) (Subs.st inferInstance)
  ·
   have p28 := h28
   try simp only [decide_eq_true_eq, decide_eq_false_iff_not, Bool.not_eq_true', Bool.not_eq_false', Option.isNone_iff_eq_none, ne_eq, Decidable.not_not, Int.not_lt, Int.not_le] at p28
   obtain ⟨hk1, hv1, ha1⟩ : 1 < x14.2.l.length ∧ x24.1 = x14.2.l.getD 1 0 ∧ x24.2.1 = 1 + 1 := by
    rcases h24 with ⟨h1, h2, h3, -⟩ | ⟨-, -, -, h4⟩
    · exact ⟨h1, h2, h3⟩
    · omega
   rw [ha1]
   refine T_skip ?_
   refine X_then ?_
   refine T_region ?_
   refine TL_q (Qt_move (.pointer _) rfl) rfl ?_
   refine TL_q (Qt_move (.int .u64 _) rfl) rfl ?_
   refine TL_q (Qt_conv_i64 rfl rfl Try.underlying3 (by omega) (by omega)) rfl ?_
   refine TL_q (Qt_nilCheck rfl) rfl ?_
   refine TL_n (Ef_store1 (.int .i64 _) rfl rfl (?_))
   refine TL_nil ?_
   refine X_block ?_
   refine X_then ?_
   refine T_region ?_
   first
    | refine TL_q (Qt_add rfl rfl (by omega) (by omega)) rfl ?_
    | refine TL_q (Qt_addw rfl rfl) rfl ?_
   refine TL_q (Qt_move (.int .i64 _) rfl) rfl ?_
   refine TL_nil ?_
   refine X_again (TU_round ?_)
   refine T_seq ?_
   refine T_region ?_
   refine TL_q (Qt_lss rfl rfl) rfl ?_
   refine TL_nil ?_
   refine X_then ?_
   refine T_seq ?_
   refine T_cond_true rfl (by first | rfl | decide) ?_
   refine T_skip ?_
   refine X_then ?_
   refine T_seq ?_
   refine T_block ?_
   refine T_seq ?_
   refine T_region ?_
   refine TL_q (Qt_index (.pointer _) rfl rfl Try.underlying191 (by omega) (by omega) (rfl)) rfl ?_
   refine TL_q (Qt_assign (.pointer _) rfl) rfl ?_
   refine TL_nil ?_
   refine X_then ?_
   refine T_seq ?_
   refine T_region ?_
   refine TL_q (Qt_move (.pointer _) rfl) rfl ?_
   refine TL_frontB x14.1 ?_
   refine TL_e rfl (Ef_call (fixed1_c (b := x14.2) (k := 1 + 1) (by omega) (by rw [h14]; omega)) rfl (fun x24 => ?_))
   refine TL_pure (fun h24 => ?_)
   have hb2 := x24.1.toNat_lt
   refine TL_q (Qt_move (.tuple _) rfl) rfl ?_
   refine TL_q (Qt_extract rfl) rfl ?_
   refine TL_q (Qt_extract rfl) rfl ?_
   refine TL_q (Qt_assign (.int .u64 _) rfl) rfl ?_
   refine TL_q (Qt_assign (.int .i64 _) rfl) rfl ?_
   refine TL_nil ?_
   refine X_then ?_
   refine T_seq ?_
   refine T_seq ?_
   refine T_region ?_
   refine TL_q (Qt_move (.int .i64 _) rfl) rfl ?_
   refine TL_q (Qt_neq rfl rfl) rfl ?_
   refine TL_nil ?_
   refine X_then ?_
   refine T_cond rfl (fun h28 => ?_) (fun h28 => ?_)
   ·
    have p28 := h28
    try simp only [decide_eq_true_eq, decide_eq_false_iff_not, Bool.not_eq_true', Bool.not_eq_false', Option.isNone_iff_eq_none, ne_eq, Decidable.not_not, Int.not_lt, Int.not_le] at p28
    have hs2 : x14.2.l.length ≤ 2 ∧ x24.2.2 = 1 := by
     rcases h24 with ⟨-, -, -, h4⟩ | ⟨h1, -, -, h4⟩
     · omega
     · exact ⟨h1, h4⟩
    refine T_seq ?_
    refine T_region ?_
    refine TL_q (Qt_build [] rfl (by kernel_rfl)) rfl ?_
    refine TL_q (Qt_move (.int .i64 _) rfl) rfl ?_
    refine TL_n (Ef_storeN rfl rfl (?_))
    refine TL_q (Qt_assign (.int .i64 _) rfl) rfl ?_
    refine TL_nil ?_
    refine X_then ?_
    refine T_ret ?_
    refine X_then_ret ?_
    refine X_block_ret ?_
    refine X_then_ret ?_
    refine X_again_ret ?_
    refine X_block_ret ?_
    refine X_then_ret ?_
    have e : replyG l = (1, .zero) := if_pos (by rw [← h14]; omega)
    rw [e]
    exact X_ret () [_, _] Try.results66 ⟨⟨_, rfl, res_cellN rfl⟩, rfl, trivial⟩ (by rw [hs2.2]; rfl) (Subs.st inferInstance)
   ·
    have p28 := h28
    try simp only [decide_eq_true_eq, decide_eq_false_iff_not, Bool.not_eq_true', Bool.not_eq_false', Option.isNone_iff_eq_none, ne_eq, Decidable.not_not, Int.not_lt, Int.not_le] at p28
    obtain ⟨hk2, hv2, ha2⟩ : 2 < x14.2.l.length ∧ x24.1 = x14.2.l.getD 2 0 ∧ x24.2.1 = 2 + 1 := by
     rcases h24 with ⟨h1, h2, h3, -⟩ | ⟨-, -, -, h4⟩
     · exact ⟨h1, h2, h3⟩
     · omega
    rw [ha2]
    refine T_skip ?_
    refine X_then ?_
    refine T_region ?_
    refine TL_q (Qt_move (.pointer _) rfl) rfl ?_
    refine TL_q (Qt_move (.int .u64 _) rfl) rfl ?_
    refine TL_q (Qt_conv_i64 rfl rfl Try.underlying3 (by omega) (by omega)) rfl ?_
    refine TL_q (Qt_nilCheck rfl) rfl ?_
    refine TL_n (Ef_store1 (.int .i64 _) rfl rfl (?_))
    refine TL_nil ?_
    refine X_block ?_
    refine X_then ?_
    refine T_region ?_
    first
     | refine TL_q (Qt_add rfl rfl (by omega) (by omega)) rfl ?_
     | refine TL_q (Qt_addw rfl rfl) rfl ?_
    refine TL_q (Qt_move (.int .i64 _) rfl) rfl ?_
    refine TL_nil ?_
    refine X_again (TU_round ?_)
    refine T_seq ?_
    refine T_region ?_
    refine TL_q (Qt_lss rfl rfl) rfl ?_
    refine TL_nil ?_
    refine X_then ?_
    refine T_seq ?_
    refine T_cond_true rfl (by first | rfl | decide) ?_
    refine T_skip ?_
    refine X_then ?_
    refine T_seq ?_
    refine T_block ?_
    refine T_seq ?_
    refine T_region ?_
    refine TL_q (Qt_index (.pointer _) rfl rfl Try.underlying191 (by omega) (by omega) (rfl)) rfl ?_
    refine TL_q (Qt_assign (.pointer _) rfl) rfl ?_
    refine TL_nil ?_
    refine X_then ?_
    refine T_seq ?_
    refine T_region ?_
    refine TL_q (Qt_move (.pointer _) rfl) rfl ?_
    refine TL_frontB x14.1 ?_
    refine TL_e rfl (Ef_call (fixed1_c (b := x14.2) (k := 2 + 1) (by omega) (by rw [h14]; omega)) rfl (fun x24 => ?_))
    refine TL_pure (fun h24 => ?_)
    have hb3 := x24.1.toNat_lt
    refine TL_q (Qt_move (.tuple _) rfl) rfl ?_
    refine TL_q (Qt_extract rfl) rfl ?_
    refine TL_q (Qt_extract rfl) rfl ?_
    refine TL_q (Qt_assign (.int .u64 _) rfl) rfl ?_
    refine TL_q (Qt_assign (.int .i64 _) rfl) rfl ?_
    refine TL_nil ?_
    refine X_then ?_
    refine T_seq ?_
    refine T_seq ?_
    refine T_region ?_
    refine TL_q (Qt_move (.int .i64 _) rfl) rfl ?_
    refine TL_q (Qt_neq rfl rfl) rfl ?_
    refine TL_nil ?_
    refine X_then ?_
    refine T_cond rfl (fun h28 => ?_) (fun h28 => ?_)
    ·
     have p28 := h28
     try simp only [decide_eq_true_eq, decide_eq_false_iff_not, Bool.not_eq_true', Bool.not_eq_false', Option.isNone_iff_eq_none, ne_eq, Decidable.not_not, Int.not_lt, Int.not_le] at p28
     have hs3 : x14.2.l.length ≤ 3 ∧ x24.2.2 = 1 := by
      rcases h24 with ⟨-, -, -, h4⟩ | ⟨h1, -, -, h4⟩
      · omega
      · exact ⟨h1, h4⟩
     refine T_seq ?_
     refine T_region ?_
     refine TL_q (Qt_build [] rfl (by kernel_rfl)) rfl ?_
     refine TL_q (Qt_move (.int .i64 _) rfl) rfl ?_
     refine TL_n (Ef_storeN rfl rfl (?_))
     refine TL_q (Qt_assign (.int .i64 _) rfl) rfl ?_
     refine TL_nil ?_
     refine X_then ?_
     refine T_ret ?_
     refine X_then_ret ?_
     refine X_block_ret ?_
     refine X_then_ret ?_
     refine X_again_ret ?_
     refine X_block_ret ?_
     refine X_then_ret ?_
     have e : replyG l = (1, .zero) := if_pos (by rw [← h14]; omega)
     rw [e]
     exact X_ret () [_, _] Try.results66 ⟨⟨_, rfl, res_cellN rfl⟩, rfl, trivial⟩ (by rw [hs3.2]; rfl) (Subs.st inferInstance)
    ·
     have p28 := h28
     try simp only [decide_eq_true_eq, decide_eq_false_iff_not, Bool.not_eq_true', Bool.not_eq_false', Option.isNone_iff_eq_none, ne_eq, Decidable.not_not, Int.not_lt, Int.not_le] at p28
     obtain ⟨hk3, hv3, ha3⟩ : 3 < x14.2.l.length ∧ x24.1 = x14.2.l.getD 3 0 ∧ x24.2.1 = 3 + 1 := by
      rcases h24 with ⟨h1, h2, h3, -⟩ | ⟨-, -, -, h4⟩
      · exact ⟨h1, h2, h3⟩
      · omega
     rw [ha3]
     refine T_skip ?_
     refine X_then ?_
     refine T_region ?_
     refine TL_q (Qt_move (.pointer _) rfl) rfl ?_
     refine TL_q (Qt_move (.int .u64 _) rfl) rfl ?_
     refine TL_q (Qt_conv_i64 rfl rfl Try.underlying3 (by omega) (by omega)) rfl ?_
     refine TL_q (Qt_nilCheck rfl) rfl ?_
     refine TL_n (Ef_store1 (.int .i64 _) rfl rfl (?_))
     refine TL_nil ?_
     refine X_block ?_
     refine X_then ?_
     refine T_region ?_
     first
      | refine TL_q (Qt_add rfl rfl (by omega) (by omega)) rfl ?_
      | refine TL_q (Qt_addw rfl rfl) rfl ?_
     refine TL_q (Qt_move (.int .i64 _) rfl) rfl ?_
     refine TL_nil ?_
     refine X_again (TU_round ?_)
     refine T_seq ?_
     refine T_region ?_
     refine TL_q (Qt_lss rfl rfl) rfl ?_
     refine TL_nil ?_
     refine X_then ?_
     refine T_seq ?_
     refine T_cond_false rfl (by first | rfl | decide) ?_
     refine T_exit ?_
     refine X_then_exit ?_
     refine X_again_exit ?_
     refine X_block_exit ?_
     refine X_then ?_
     refine T_seq ?_
     refine T_region ?_
     refine TL_q (Qt_move (.pointer _) rfl) rfl ?_
     refine TL_frontB x14.1 ?_
     refine TL_e rfl (Ef_call (folded_c (b := x14.2) (k := 3 + 1) (by omega) (by rw [h14]; omega)) rfl (fun x38 => ?_))
     refine TL_q (Qt_move (.tuple _) rfl) rfl ?_
     refine TL_q (Qt_extract rfl) rfl ?_
     refine TL_q (Qt_extract rfl) rfl ?_
     refine TL_q (Qt_assign (.int .i64 _) rfl) rfl ?_
     refine TL_q (Qt_assign (.int .i64 _) rfl) rfl ?_
     refine TL_nil ?_
     refine X_then ?_
     refine T_seq ?_
     refine T_seq ?_
     refine T_region ?_
     refine TL_q (Qt_move (.int .i64 _) rfl) rfl ?_
     refine TL_q (Qt_neq rfl rfl) rfl ?_
     refine TL_nil ?_
     refine X_then ?_
     refine T_cond rfl (fun h42 => ?_) (fun h42 => ?_)
     ·
      have p42 := h42
      try simp only [decide_eq_true_eq, decide_eq_false_iff_not, Bool.not_eq_true', Bool.not_eq_false', Option.isNone_iff_eq_none, ne_eq, Decidable.not_not, Int.not_lt, Int.not_le] at p42
      refine T_seq ?_
      refine T_region ?_
      refine TL_q (Qt_build [] rfl (by kernel_rfl)) rfl ?_
      refine TL_q (Qt_move (.int .i64 _) rfl) rfl ?_
      refine TL_n (Ef_storeN rfl rfl (?_))
      refine TL_q (Qt_assign (.int .i64 _) rfl) rfl ?_
      refine TL_nil ?_
      refine X_then ?_
      refine T_ret ?_
      refine X_then_ret ?_
      have e : replyG l = ((rdPacked (x14.2.l.drop (3 + 1))).1, .zero) := by rw [← h14]; unfold replyG; rw [if_neg (by omega), if_pos p42]
      rw [e]
      exact X_ret () [_, _] Try.results66 ⟨⟨_, rfl, res_cellN rfl⟩, rfl, trivial⟩ rfl (Subs.st inferInstance)
     ·
      have p42 := h42
      try simp only [decide_eq_true_eq, decide_eq_false_iff_not, Bool.not_eq_true', Bool.not_eq_false', Option.isNone_iff_eq_none, ne_eq, Decidable.not_not, Int.not_lt, Int.not_le] at p42
      refine T_skip ?_
      refine X_then ?_
      refine T_seq ?_
      refine T_seq ?_
      refine T_region ?_
      refine TL_q (Qt_load1 rfl) rfl ?_
      refine TL_q (Qt_gtr rfl rfl) rfl ?_
      refine TL_q (Qt_move (.bool _) rfl) rfl ?_
      refine TL_split 47 rfl (fun h47 => ?_) (fun h47 => ?_)
      ·
       have p47 := h47
       try simp only [decide_eq_true_eq, decide_eq_false_iff_not, Bool.not_eq_true', Bool.not_eq_false', Option.isNone_iff_eq_none, ne_eq, Decidable.not_not, Int.not_lt, Int.not_le] at p47
       refine TL_pass rfl rfl h47 rfl ?_
       refine TL_frontB x14.1 ?_
       refine TL_pass rfl rfl h47 rfl ?_
       refine TL_pass rfl rfl h47 rfl ?_
       refine TL_q (Qt_pick_t (.bool _) rfl h47 rfl) rfl ?_
       refine TL_nil ?_
       refine X_then ?_
       refine T_cond_true rfl rfl ?_
       refine T_seq ?_
       refine T_region ?_
       refine TL_q (Qt_build [] rfl (by kernel_rfl)) rfl ?_
       refine TL_n (Ef_storeN rfl rfl (?_))
       refine TL_q (Qt_assign (.int .i64 _) rfl) rfl ?_
       refine TL_nil ?_
       refine X_then ?_
       refine T_ret ?_
       refine X_then_ret ?_
       have e : replyG l = (2, .zero) := by
        rw [← h14]; unfold replyG; rw [if_neg (by omega), if_neg (by simpa using p42), if_pos (by rw [← hv3]; first | omega | (simp only [show (3 : Nat) + 1 = 4 from rfl] at p51; split at p51 <;> omega))]
       rw [e]
       exact X_ret () [_, _] Try.results66 ⟨⟨_, rfl, res_cellN rfl⟩, rfl, trivial⟩ rfl (Subs.st inferInstance)
      ·
       have p47 := h47
       try simp only [decide_eq_true_eq, decide_eq_false_iff_not, Bool.not_eq_true', Bool.not_eq_false', Option.isNone_iff_eq_none, ne_eq, Decidable.not_not, Int.not_lt, Int.not_le] at p47
       refine TL_take rfl rfl h47 ?_
       refine TL_q (Qt_move (.pointer _) rfl) rfl ?_
       refine TL_frontB x14.1 ?_
       refine TL_take rfl rfl h47 ?_
       refine TL_e rfl (Ef_call (done_c (b := x14.2) (k := 3 + 1 + (rdPacked (x14.2.l.drop (3 + 1))).2.2) (by have := (rdPacked_bound (x14.2.l.drop (3 + 1))).2.1; rw [List.length_drop] at this; omega) (by rw [h14]; omega)) rfl (fun x49 => ?_))
       refine TL_take rfl rfl h47 ?_
       refine TL_q (Qt_neq rfl rfl) rfl ?_
       refine TL_q (Qt_pick_f (.bool _) rfl h47 rfl) rfl ?_
       refine TL_nil ?_
       refine X_then ?_
       refine T_cond rfl (fun h51 => ?_) (fun h51 => ?_)
       ·
        have p51 := h51
        try simp only [decide_eq_true_eq, decide_eq_false_iff_not, Bool.not_eq_true', Bool.not_eq_false', Option.isNone_iff_eq_none, ne_eq, Decidable.not_not, Int.not_lt, Int.not_le] at p51
        refine T_seq ?_
        refine T_region ?_
        refine TL_q (Qt_build [] rfl (by kernel_rfl)) rfl ?_
        refine TL_n (Ef_storeN rfl rfl (?_))
        refine TL_q (Qt_assign (.int .i64 _) rfl) rfl ?_
        refine TL_nil ?_
        refine X_then ?_
        refine T_ret ?_
        refine X_then_ret ?_
        have e : replyG l = (2, .zero) := by
         rw [← h14]; unfold replyG; rw [if_neg (by omega), if_neg (by simpa using p42), if_pos (by rw [← hv3]; first | omega | (simp only [show (3 : Nat) + 1 = 4 from rfl] at p51; split at p51 <;> omega))]
        rw [e]
        exact X_ret () [_, _] Try.results66 ⟨⟨_, rfl, res_cellN rfl⟩, rfl, trivial⟩ rfl (Subs.st inferInstance)
       ·
        have p51 := h51
        try simp only [decide_eq_true_eq, decide_eq_false_iff_not, Bool.not_eq_true', Bool.not_eq_false', Option.isNone_iff_eq_none, ne_eq, Decidable.not_not, Int.not_lt, Int.not_le] at p51
        refine T_skip ?_
        refine X_then ?_
        refine T_seq ?_
        refine T_region ?_
        refine TL_q (Qt_load1 rfl) rfl ?_
        refine TL_q (Qt_eql rfl rfl) rfl ?_
        refine TL_q (Qt_move (.int .i64 _) rfl) rfl ?_
        refine TL_q (Qt_build [(0, (.bool _)), (1, (.int .i64 _))] rfl (by kernel_rfl)) rfl ?_
        refine TL_q (Qt_fieldAddr 3 rfl rfl) rfl ?_
        refine TL_n (Ef_storeN rfl rfl (?_))
        refine TL_nil ?_
        refine X_then ?_
        refine T_seq ?_
        refine T_region ?_
        refine TL_q (Qt_loadN rfl rfl) rfl ?_
        refine TL_n (Ef_storeN rfl rfl (?_))
        refine TL_q (Qt_assign (.int .i64 _) rfl) rfl ?_
        refine TL_nil ?_
        refine X_then ?_
        refine T_ret ?_
        have e : replyG l = (0, ReplyV.mk (x14.2.l.getD 0 0).toNat (x14.2.l.getD 1 0).toNat (x14.2.l.getD 2 0).toNat (ResV.mk (decide (((x14.2.l.getD 3 0).toNat : Int) = 1)) (unfoldN (rdPacked (x14.2.l.drop 4)).2.1))) := by
         rw [← h14]; unfold replyG; rw [if_neg (by omega), if_neg (by simpa using p42), if_neg (by rw [← hv3]; simp only [show (3 : Nat) + 1 = 4 from rfl] at p51; split at p51 <;> omega)]
        rw [e, ← hv0, ← hv1, ← hv2, ← hv3, if_pos p42]
        exact X_ret () [_, _] Try.results66 ⟨⟨_, rfl, res_cellN rfl⟩, rfl, trivial⟩ rfl (Subs.st inferInstance)
end Go.Proofs.Ytpdpapcmfnhgpaa
