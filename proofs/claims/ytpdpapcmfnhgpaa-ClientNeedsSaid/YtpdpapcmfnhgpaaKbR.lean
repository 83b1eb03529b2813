/- Worlds: walks of Put and Digest, of the reference too. -/
import Derived.Test.YtpdpapcmfnhgpaaKaR
import Derived.Test.YtpdpapcmfnhgpaaShaR
import Derived.Test.YtpdpapcmfnhgpaaRshR
namespace Go.Proofs.Ytpdpapcmfnhgpaa
open Go.RowKit Go.Sx
set_option maxRecDepth 100000
set_option linter.unusedSimpArgs false
set_option linter.unusedVariables false
instance three : TyZ Try.prog 171 (.agg #[.slice none 0 0, .slice none 0 0, .slice none 0 0]) := ⟨by kernel_rfl⟩
theorem byte_ex (x : Int) : ∃ b : UInt8, fixed (IntKind.u64.wrap x).toNat 1 = [b] ∧ IntKind.u8.wrap x = (b.toNat : Int) := by
 refine ⟨u8Of (IntKind.u8.wrap x), fixed_u8 x, ?_⟩
 have : 0 ≤ IntKind.u8.wrap x ∧ IntKind.u8.wrap x < 256 := by simp [IntKind.wrap, IntKind.bits, IntKind.signed]; omega
 simp only [u8Of]
 rw [UInt8.toNat_ofNat']
 omega
def okI (b : Bool) : Int := if b = true then 1 else 0
def replyB (r : ReplyV) : List UInt8 := fixed (IntKind.u64.wrap r.client).toNat 1 ++ fixed (IntKind.u64.wrap r.seq).toNat 1 ++ fixed (IntKind.u64.wrap r.slot).toNat 1 ++ fixed (IntKind.u64.wrap (okI r.res.oK)).toNat 1 ++ packed (foldN r.res.n)
theorem replyB_len {r : ReplyV} (h : -9223372036854775808 ≤ r.res.n ∧ r.res.n ≤ 9223372036854775807) : (replyB r).length ≤ 14 := by
 have := packed_length_le _ (foldN_lt h)
 simp only [replyB, List.length_append, fixed_length]; omega
set_option maxHeartbeats 1000000 in
theorem rPutReply_c {w0 : World} {H : List SA} {r : ReplyV} (hn : -9223372036854775808 ≤ r.res.n ∧ r.res.n ≤ 9223372036854775807) :
 CT Try.prog w0 (H) 72 [.agg r.cells] (α := AC) (fun y => .slice y.a (replyB r).length y.c) (fun y => row (.slice y.a (replyB r).length y.c) 5 1 (bytesV (replyB r)) :: H) := by
 refine CT_intro Try.func72 rfl Try.ntmps72 rfl ?_
 refine T_seq ?_
 refine T_region ?_
 refine TL_e rfl (Ef_boxN rfl (fun b1 => ?_))
 refine TL_q (Qt_assign (.slice _ _ _) rfl) rfl ?_
 refine TL_nil ?_
 refine X_then ?_
 refine T_seq ?_
 refine T_region ?_
 refine TL_q (Qt_assign (.int .u8 _) rfl) rfl ?_
 refine TL_nil ?_
 refine X_then ?_
 refine T_seq ?_
 refine T_seq ?_
 refine T_region ?_
 refine TL_q (Qt_fieldAddr 3 rfl rfl) rfl ?_
 refine TL_q (Qt_fieldAddr 3 rfl rfl) rfl ?_
 refine TL_q (Qt_load1 rfl) rfl ?_
 refine TL_nil ?_
 refine X_then ?_
 refine T_cond rfl (fun h7 => ?_) (fun h7 => ?_)
 ·
  have p7 := h7
  try simp only [decide_eq_true_eq, decide_eq_false_iff_not, Bool.not_eq_true', Bool.not_eq_false', Option.isNone_iff_eq_none, ne_eq, Decidable.not_not, Int.not_lt, Int.not_le] at p7
  have hok : r.res.oK = true := h7
  refine T_region ?_
  refine TL_q (Qt_assign (.int .u8 _) rfl) rfl ?_
  refine TL_nil ?_
  refine X_then ?_
  refine T_seq ?_
  refine T_region ?_
  refine TL_q (Qt_assign (.slice _ _ _) rfl) rfl ?_
  refine TL_nil ?_
  refine X_then ?_
  refine T_seq ?_
  refine T_region ?_
  refine TL_q (Qt_move (.slice _ _ _) rfl) rfl ?_
  refine TL_q (Qt_fieldAddr 0 rfl rfl) rfl ?_
  refine TL_q (Qt_load1 rfl) rfl ?_
  refine TL_q (Qt_conv rfl rfl Try.underlying5) rfl ?_
  obtain ⟨d0, hb0, hw0⟩ := byte_ex r.client
  rw [hw0]
  refine TL_q (Qt_fieldAddr 1 rfl rfl) rfl ?_
  refine TL_q (Qt_load1 rfl) rfl ?_
  refine TL_q (Qt_conv rfl rfl Try.underlying5) rfl ?_
  obtain ⟨d1, hb1, hw1⟩ := byte_ex r.seq
  rw [hw1]
  refine TL_q (Qt_fieldAddr 2 rfl rfl) rfl ?_
  refine TL_q (Qt_load1 rfl) rfl ?_
  refine TL_q (Qt_conv rfl rfl Try.underlying5) rfl ?_
  obtain ⟨d2, hb2, hw2⟩ := byte_ex r.slot
  rw [hw2]
  refine TL_q (Qt_move (.int .u8 _) rfl) rfl ?_
  refine TL_e rfl (Ef_sliceN (m := ([d0, d1, d2, 1] : List UInt8).length) [.int .u8 (d0.toNat : Int), .int .u8 (d1.toNat : Int), .int .u8 (d2.toNat : Int), .int .u8 1] (bytesV [d0, d1, d2, 1]) rfl rfl rfl rfl (by simp [Value.cells]) rfl rfl (fun a19 c19 => ?_))
  refine TL_conv (fun w hw => hw.addNilB 5) ?_
  refine TL_e rfl (Ef_appendB (sv := .slice none ([] : List UInt8).length 0) (xv := .slice _ _ _) (l := []) rfl rfl (by simp) rfl (fun a20 c20 => ?_))
  rw [List.nil_append]
  refine TL_q (Qt_assign (.slice _ _ _) rfl) rfl ?_
  refine TL_nil ?_
  refine X_then ?_
  refine T_seq ?_
  refine T_region ?_
  refine TL_q (Qt_move (.slice _ _ _) rfl) rfl ?_
  refine TL_q (Qt_fieldAddr 3 rfl rfl) rfl ?_
  refine TL_q (Qt_fieldAddr 4 rfl rfl) rfl ?_
  refine TL_q (Qt_load1 rfl) rfl ?_
  refine TL_e rfl (Ef_call (rFold_c hn) rfl (fun x25 => ?_))
  refine TL_e rfl (Ef_call (rPacked_c (x := (foldN r.res.n : Int)) (by omega) (by have := foldN_lt hn; omega)) rfl (fun x26 => ?_))
  rw [Int.toNat_natCast]
  refine TL_e rfl (Ef_appendB (sv := .slice _ _ _) (xv := .slice _ _ _) rfl rfl (by have := packed_length_le _ (foldN_lt hn); simp; omega) rfl (fun a27 c27 => ?_))
  refine TL_q (Qt_assign (.slice _ _ _) rfl) rfl ?_
  refine TL_nil ?_
  refine X_then ?_
  refine T_seq ?_
  refine T_region ?_
  refine TL_q (Qt_move (.slice _ _ _) rfl) rfl ?_
  refine TL_q (Qt_assign (.slice _ _ _) rfl) rfl ?_
  refine TL_nil ?_
  refine X_then ?_
  refine T_ret ?_
  have e : replyB r = [d0, d1, d2, 1] ++ packed (foldN r.res.n) := by unfold replyB okI; rw [if_pos hok, hb0, hb1, hb2]; rfl
  simp only [e]
  exact X_ret ⟨a27, c27⟩ [_] Try.results72 ⟨rfl, trivial⟩ rfl (Subs.st inferInstance)
 ·
  have p7 := h7
  try simp only [decide_eq_true_eq, decide_eq_false_iff_not, Bool.not_eq_true', Bool.not_eq_false', Option.isNone_iff_eq_none, ne_eq, Decidable.not_not, Int.not_lt, Int.not_le] at p7
  have hok : r.res.oK = false := h7
  refine T_skip ?_
  refine X_then ?_
  refine T_seq ?_
  refine T_region ?_
  refine TL_q (Qt_assign (.slice _ _ _) rfl) rfl ?_
  refine TL_nil ?_
  refine X_then ?_
  refine T_seq ?_
  refine T_region ?_
  refine TL_q (Qt_move (.slice _ _ _) rfl) rfl ?_
  refine TL_q (Qt_fieldAddr 0 rfl rfl) rfl ?_
  refine TL_q (Qt_load1 rfl) rfl ?_
  refine TL_q (Qt_conv rfl rfl Try.underlying5) rfl ?_
  obtain ⟨d0, hb0, hw0⟩ := byte_ex r.client
  rw [hw0]
  refine TL_q (Qt_fieldAddr 1 rfl rfl) rfl ?_
  refine TL_q (Qt_load1 rfl) rfl ?_
  refine TL_q (Qt_conv rfl rfl Try.underlying5) rfl ?_
  obtain ⟨d1, hb1, hw1⟩ := byte_ex r.seq
  rw [hw1]
  refine TL_q (Qt_fieldAddr 2 rfl rfl) rfl ?_
  refine TL_q (Qt_load1 rfl) rfl ?_
  refine TL_q (Qt_conv rfl rfl Try.underlying5) rfl ?_
  obtain ⟨d2, hb2, hw2⟩ := byte_ex r.slot
  rw [hw2]
  refine TL_q (Qt_move (.int .u8 _) rfl) rfl ?_
  refine TL_e rfl (Ef_sliceN (m := ([d0, d1, d2, 0] : List UInt8).length) [.int .u8 (d0.toNat : Int), .int .u8 (d1.toNat : Int), .int .u8 (d2.toNat : Int), .int .u8 0] (bytesV [d0, d1, d2, 0]) rfl rfl rfl rfl (by simp [Value.cells]) rfl rfl (fun a19 c19 => ?_))
  refine TL_conv (fun w hw => hw.addNilB 5) ?_
  refine TL_e rfl (Ef_appendB (sv := .slice none ([] : List UInt8).length 0) (xv := .slice _ _ _) (l := []) rfl rfl (by simp) rfl (fun a20 c20 => ?_))
  rw [List.nil_append]
  refine TL_q (Qt_assign (.slice _ _ _) rfl) rfl ?_
  refine TL_nil ?_
  refine X_then ?_
  refine T_seq ?_
  refine T_region ?_
  refine TL_q (Qt_move (.slice _ _ _) rfl) rfl ?_
  refine TL_q (Qt_fieldAddr 3 rfl rfl) rfl ?_
  refine TL_q (Qt_fieldAddr 4 rfl rfl) rfl ?_
  refine TL_q (Qt_load1 rfl) rfl ?_
  refine TL_e rfl (Ef_call (rFold_c hn) rfl (fun x25 => ?_))
  refine TL_e rfl (Ef_call (rPacked_c (x := (foldN r.res.n : Int)) (by omega) (by have := foldN_lt hn; omega)) rfl (fun x26 => ?_))
  rw [Int.toNat_natCast]
  refine TL_e rfl (Ef_appendB (sv := .slice _ _ _) (xv := .slice _ _ _) rfl rfl (by have := packed_length_le _ (foldN_lt hn); simp; omega) rfl (fun a27 c27 => ?_))
  refine TL_q (Qt_assign (.slice _ _ _) rfl) rfl ?_
  refine TL_nil ?_
  refine X_then ?_
  refine T_seq ?_
  refine T_region ?_
  refine TL_q (Qt_move (.slice _ _ _) rfl) rfl ?_
  refine TL_q (Qt_assign (.slice _ _ _) rfl) rfl ?_
  refine TL_nil ?_
  refine X_then ?_
  refine T_ret ?_
  have e : replyB r = [d0, d1, d2, 0] ++ packed (foldN r.res.n) := by unfold replyB okI; rw [if_neg (by simp [hok]), hb0, hb1, hb2]; rfl
  simp only [e]
  exact X_ret ⟨a27, c27⟩ [_] Try.results72 ⟨rfl, trivial⟩ rfl (Subs.st inferInstance)
attribute [local irreducible] sha
end Go.Proofs.Ytpdpapcmfnhgpaa
