/- Walks: the references on requests and their texts. -/
import Derived.Test.YtnijomppbgdmnaaGreatSgP
import Derived.Test.YtnijomppbgdmnaaGreatXsRP
namespace Go.Proofs.YtnijomppbgdmnaaGreat
open Go.RowKit Go.Sx
set_option maxRecDepth 100000
set_option linter.unusedSimpArgs false
set_option linter.unusedVariables false
set_option maxHeartbeats 1000000 in
theorem rFold_c {w0 : World} {H : List SA} {x : Int} (hx : -9223372036854775808 ≤ x ∧ x ≤ 9223372036854775807) :
 CT Tryz.prog w0 (H) 170 [.int .i64 x] (α := Unit) (fun _ => .int .u64 (foldN x : Int)) (fun _ => H) := by
 refine CT_intro Tryz.func170 rfl Tryz.ntmps170 rfl ?_
 refine T2 (zq (za (.int .u64 _) rfl) rfl (TX (zS (T2 ?_))))
 refine Qmi rfl rfl (zq (Qt_lss rfl rfl) rfl (TX (zC rfl (fun h4 => ?_) (fun h4 => ?_))))
 ·
  have p4 := h4
  try simp only [dp] at p4
  refine T2 (Qmi rfl rfl (zq (Qt_addw rfl rfl) rfl (zq (Qt_neg rfl) rfl (zq (Qt_conv rfl rfl Tryz.underlying121) rfl (zq (Qt_mulw rfl rfl) rfl ?_)))))
  refine zq (Qt_addw rfl rfl) rfl (zq (za (.int .u64 _) rfl) rfl (TX (zQ (zr ?_))))
  exact zX () [.int .u64 (foldN x : Int)] Tryz.results170 ⟨congrArg (Value.int .u64) (fold_neg hx.1 (by omega)), trivial⟩ rfl SB
 have p4 := h4
 try simp only [dp] at p4
 refine S4 (Qmi rfl rfl (zq (Qt_conv rfl rfl Tryz.underlying121) rfl (zq (Qt_mulw rfl rfl) rfl (zq (za (.int .u64 _) rfl) rfl (TX (zQ ?_))))))
 exact zX () [.int .u64 (foldN x : Int)] Tryz.results170 ⟨congrArg (Value.int .u64) (fold_pos hx.2 (by omega)), trivial⟩ rfl SB
theorem u8_four (a b c d : Int) : (([.int .u8 (IntKind.u8.wrap a), .int .u8 (IntKind.u8.wrap b), .int .u8 (IntKind.u8.wrap c), .int .u8 (IntKind.u8.wrap d)] : List Value).flatMap fun v => v.cells.toList) = bytesV [u8Of (IntKind.u8.wrap a), u8Of (IntKind.u8.wrap b), u8Of (IntKind.u8.wrap c), u8Of (IntKind.u8.wrap d)] := by
 show [Value.int .u8 (IntKind.u8.wrap a), Value.int .u8 (IntKind.u8.wrap b), Value.int .u8 (IntKind.u8.wrap c), Value.int .u8 (IntKind.u8.wrap d)] = [byteV (u8Of (IntKind.u8.wrap a)), byteV (u8Of (IntKind.u8.wrap b)), byteV (u8Of (IntKind.u8.wrap c)), byteV (u8Of (IntKind.u8.wrap d))]
 rw [byteV_u8Of (wrap_u8_range a).1 (wrap_u8_range a).2, byteV_u8Of (wrap_u8_range b).1 (wrap_u8_range b).2, byteV_u8Of (wrap_u8_range c).1 (wrap_u8_range c).2, byteV_u8Of (wrap_u8_range d).1 (wrap_u8_range d).2]
theorem put_one (l : List UInt8) {x : Int} (h0 : 0 ≤ x) (h1 : x < 256) : putFixed l (IntKind.u64.wrap x) 1 = l ++ [u8Of (IntKind.u8.wrap x)] := by
 unfold putFixed
 rw [if_pos (show wideB 1 = true from rfl), wrap_u64 h0 (by omega)]
 obtain ⟨n, rfl⟩ := Int.eq_ofNat_of_zero_le h0
 refine congrArg (l ++ ·) ?_
 have e : IntKind.u8.wrap (n : Int) = (n : Int) := by simp [IntKind.wrap, IntKind.bits, IntKind.signed]; omega
 rw [e]
 simp [fixed, u8Of]
 rw [Nat.mod_eq_of_lt (by omega)]
theorem rightQ_range {c kind key a b : Int} (h : rightQ c kind key a b = true) : (0 ≤ kind ∧ kind < 256) ∧ 0 ≤ key ∧ key < 256 := by
 unfold rightQ at h
 split at h
 · have := of_decide_eq_true h; omega
 · have := of_decide_eq_true h; omega
def headQ (r : ReqV) : List UInt8 := [u8Of (IntKind.u8.wrap r.client), u8Of (IntKind.u8.wrap r.seq), u8Of (IntKind.u8.wrap r.op.kind), u8Of (IntKind.u8.wrap r.op.key)]
theorem textQ_head {r : ReqV} (h : formedQ r.abs = true) : textQ r.abs = headQ r ++ packed (foldN r.op.a) ++ packed (foldN r.op.b) := by
 unfold textQ
 rw [if_neg (by rw [h]; decide)]
 unfold formedQ at h
 obtain ⟨⟨h1, h2⟩, ⟨h3, h4⟩, h5, -⟩ := of_decide_eq_true h
 obtain ⟨⟨h6, h7⟩, h8, h9⟩ := rightQ_range h5
 rw [put_one [] h1 (by omega), put_one _ (show 0 ≤ r.abs.seq by omega) (by omega), put_one _ h6 h7, put_one _ h8 h9]
 rfl
theorem byte_at (l : List UInt8) (i : Nat) (h : i < l.length) : (bytesV l)[i]? = some (.int .u8 ((l.getD i 0).toNat : Int)) := by
 rw [List.getD_eq_getElem?_getD, List.getElem?_eq_getElem h]
 exact bytes_get _ _ h
attribute [local irreducible] sha putFixed formedQ
set_option maxHeartbeats 1000000 in
theorem rUnfold_c {w0 : World} {H : List SA} {x : Nat} (hx : x < 18446744073709551616) :
 CT Tryz.prog w0 (H) 134 [.int .u64 (x : Int)] (α := Unit) (fun _ => .int .i64 (unfoldN x)) (fun _ => H) := by
 refine CT_intro Tryz.func134 rfl Tryz.ntmps134 rfl ?_
 refine T2 (Qai rfl rfl (TX (zS (T2 ?_))))
 refine zq (zm (.int .u64 _) rfl) rfl (zq (Qt_val (Qt_rem rfl rfl (by decide)) (congrArg (Value.int .u64) (rem_nat x 2))) rfl (zq (Qt_eql rfl rfl) rfl (TX (zC rfl (fun h5 => ?_) (fun h5 => ?_)))))
 ·
  have p5 := h5
  try simp only [dp] at p5
  refine T2 (zq (zm (.int .u64 _) rfl) rfl (zq (Qt_val (Qt_quo rfl rfl (by decide)) (congrArg (Value.int .u64) (quo_nat x 2 (by decide) hx))) rfl (zq (Qt_conv_i64 rfl rfl Tryz.underlying2 (by omega) (by omega)) rfl (zq (Qt_val (Qt_neg rfl) (congrArg (Value.int .i64) (show IntKind.i64.wrap (0 - ((x / 2 : Nat) : Int)) = -((x / 2 : Nat) : Int) from by rw [wrap_i64 (by omega) (by omega)]; omega))) rfl (zq (Qt_sub rfl rfl (by omega) (by omega)) rfl ?_)))))
  refine Qai rfl rfl (TX (zQ (zr ?_)))
  have e : unfoldN x = -((x / 2 : Nat) : Int) - 1 := if_pos (by omega)
  exact zX () [_] Tryz.results134 ⟨rfl, trivial⟩ (by rw [e]; rfl) SB
 have p5 := h5
 try simp only [dp] at p5
 refine S4 (zq (zm (.int .u64 _) rfl) rfl (zq (Qt_val (Qt_quo rfl rfl (by decide)) (congrArg (Value.int .u64) (quo_nat x 2 (by decide) hx))) rfl (zq (Qt_conv_i64 rfl rfl Tryz.underlying2 (by omega) (by omega)) rfl (Qai rfl rfl (TX (zQ ?_))))))
 have e : unfoldN x = ((x / 2 : Nat) : Int) := if_neg (by omega)
 exact zX () [_] Tryz.results134 ⟨rfl, trivial⟩ (by rw [e]; rfl) SB
set_option maxHeartbeats 1000000 in
theorem rTextQ_c {w0 : World} {H : List SA} {r : ReqV} (hf : formedQ r.abs = true) (ha : Sig64 r.op.a) (hb : Sig64 r.op.b) :
 CT Tryz.prog w0 (H) 161 [.agg r.cells] (α := AC) (fun y => .slice y.a (textQ r.abs).length y.c) (fun y => row (.slice y.a (textQ r.abs).length y.c) 5 1 (bytesV (textQ r.abs)) :: H) := by
 refine CT_intro Tryz.func161 rfl Tryz.ntmps161 rfl ?_
 refine T2 ?_
 refine ze rfl (Ef_boxN rfl (fun b1 => ?_))
 refine Qas rfl rfl (T4 (Qas rfl rfl (T4 (Qms rfl rfl (zq (zf 0 rfl rfl) rfl ?_)))))
 refine zq (zl rfl) rfl (zq (Qt_conv rfl rfl Tryz.underlying5) rfl (zq (zf 1 rfl rfl) rfl (zq (zl rfl) rfl (zq (Qt_conv rfl rfl Tryz.underlying5) rfl (zq (zf 2 rfl rfl) rfl ?_)))))
 refine zq (zf 2 rfl rfl) rfl (zq (zl rfl) rfl (zq (Qt_conv rfl rfl Tryz.underlying5) rfl (zq (zf 2 rfl rfl) rfl (zq (zf 3 rfl rfl) rfl (zq (zl rfl) rfl ?_)))))
 refine zq (Qt_conv rfl rfl Tryz.underlying5) rfl ?_
 refine ze rfl (Ef_sliceN (m := ([u8Of (IntKind.u8.wrap r.client), u8Of (IntKind.u8.wrap r.seq), u8Of (IntKind.u8.wrap r.op.kind), u8Of (IntKind.u8.wrap r.op.key)] : List UInt8).length) [.int .u8 (IntKind.u8.wrap r.client), .int .u8 (IntKind.u8.wrap r.seq), .int .u8 (IntKind.u8.wrap r.op.kind), .int .u8 (IntKind.u8.wrap r.op.key)] (bytesV [u8Of (IntKind.u8.wrap r.client), u8Of (IntKind.u8.wrap r.seq), u8Of (IntKind.u8.wrap r.op.kind), u8Of (IntKind.u8.wrap r.op.key)]) rfl rfl rfl (u8_four r.client r.seq r.op.kind r.op.key) (by simp [Value.cells]) rfl rfl (fun a19 c19 => ?_))
 refine TL_conv (fun w hw => hw.addNilB 5) ?_
 refine ze rfl (Ef_appendB (sv := .slice _ _ _) (xv := .slice _ _ _) (l := []) (l' := [u8Of (IntKind.u8.wrap r.client), u8Of (IntKind.u8.wrap r.seq), u8Of (IntKind.u8.wrap r.op.kind), u8Of (IntKind.u8.wrap r.op.key)]) rfl rfl (by simp) rfl (fun a20 c20 => ?_))
 rw [List.nil_append, show [u8Of (IntKind.u8.wrap r.client), u8Of (IntKind.u8.wrap r.seq), u8Of (IntKind.u8.wrap r.op.kind), u8Of (IntKind.u8.wrap r.op.key)] = headQ r from rfl]
 refine Qas rfl rfl (T4 (Qms rfl rfl (zq (zf 2 rfl rfl) rfl (zq (zf 4 rfl rfl) rfl (zq (zl rfl) rfl ?_)))))
 refine ze rfl (zc (rFold_c (x := r.op.a) ha) rfl (fun x25 => ?_))
 refine ze rfl (zc (rPacked_c (x := (foldN r.op.a : Int)) (by omega) (by have := foldN_lt ha; omega)) rfl (fun x26 => ?_))
 rw [Int.toNat_natCast]
 refine ze rfl (Ef_appendB (sv := .slice _ _ _) (xv := .slice _ _ _) (l := headQ r) rfl rfl (by have := packed_length_le (foldN r.op.a) (foldN_lt ha); have : (headQ r).length = 4 := rfl; omega) rfl (fun a27 c27 => ?_))
 refine Qas rfl rfl (T4 (Qms rfl rfl (zq (zf 2 rfl rfl) rfl (zq (zf 5 rfl rfl) rfl (zq (zl rfl) rfl ?_)))))
 refine ze rfl (zc (rFold_c (x := r.op.b) hb) rfl (fun x32 => ?_))
 refine ze rfl (zc (rPacked_c (x := (foldN r.op.b : Int)) (by omega) (by have := foldN_lt hb; omega)) rfl (fun x33 => ?_))
 rw [Int.toNat_natCast]
 refine ze rfl (Ef_appendB (sv := .slice _ _ _) (xv := .slice _ _ _) (l := headQ r ++ packed (foldN r.op.a)) rfl rfl (by have := packed_length_le (foldN r.op.a) (foldN_lt ha); have := packed_length_le (foldN r.op.b) (foldN_lt hb); have : (headQ r).length = 4 := rfl; rw [List.length_append]; omega) rfl (fun a34 c34 => ?_))
 refine Qas rfl rfl (T4 (Qms rfl rfl (Qas rfl rfl (TX (zQ ?_)))))
 rw [textQ_head hf]
 exact zX ⟨a34, c34⟩ [_] Tryz.results161 ⟨rfl, trivial⟩ rfl SB
set_option maxHeartbeats 1000000 in
theorem rtextG_c {w0 : World} {H : List SA} {a : Option Addr} {l : List UInt8} {c : Nat} [hr : RdB w0 H (.slice a l.length c) l] (hl : l.length ≤ 4294967296) :
 CT Tryz.prog w0 (H) 181 [.slice a l.length c] (α := ReqV) (fun y => .agg (QGotV.mk y (textG l).1).cells) (fun y => pu (((textG l).1 = 0 → y.abs = (textG l).2 ∧ y.sig = ⟨none, 0, []⟩) ∧ ((textG l).1 ≠ 0 → y = ReqV.zero)) :: H) := by
 refine CT_intro Tryz.func181 rfl Tryz.ntmps181 rfl ?_
 refine T2 ?_
 refine ze rfl (Ef_allocN (fun b2 => ?_))
 refine TX (zS (T2 ?_))
 refine Qms rfl rfl (zq (zL rfl Tryz.underlying33) rfl (zq (Qt_lss rfl rfl) rfl (TX (zC rfl (fun h8 => ?_) (fun h8 => ?_)))))
 ·
  have p8 := h8
  try simp only [dp] at p8
  refine T2 (zq (Qt_build [(1, (.int .i64 _))] rfl (by kernel_rfl)) rfl ?_)
  refine zN (zs rfl rfl (?_))
  refine TX (zQ (zr ?_))
  obtain ⟨d, e⟩ : ∃ d, textG l = (1, d) := ⟨_, by unfold textG; exact if_pos (by omega)⟩
  rw [e]
  exact zX ReqV.zero [_] Tryz.results181 ⟨⟨_, rfl, res_cellN rfl⟩, trivial⟩ rfl (fun w hw => (SB w hw : St w0 H w).addPure ⟨fun h => absurd h (show ¬ ((1 : Int) = 0) by decide), fun _ => rfl⟩)
 have p8 := h8
 try simp only [dp] at p8
 have hl4 : 4 ≤ l.length := by omega
 have hb0 := byte_at l 0 (by omega)
 have hb1 := byte_at l 1 (by omega)
 have hb2 := byte_at l 2 (by omega)
 have hb3 := byte_at l 3 (by omega)
 have hn0 := (l.getD 0 0).toNat_lt
 have hn1 := (l.getD 1 0).toNat_lt
 have hn2 := (l.getD 2 0).toNat_lt
 have hn3 := (l.getD 3 0).toNat_lt
 refine zk (zx (zS ?_))
 refine T_draw H [(0, true), (1, true), (2, true), (3, true), (4, true), (5, true), (6, true), (7, true), (8, true), (9, false), (10, false)] (by kernel_rfl) (by kernel_rfl) rfl (by kernel_rfl) SB (fun hns0 => ?_)
 refine zd hns0 rfl (zm (.slice _ _ _) rfl) rfl (zd hns0 rfl (Qt_indexR rfl rfl (by omega) (by simp; omega)) rfl (zd hns0 rfl (Qt_loadR (.int .u8 ((l.getD 0 0).toNat : Int)) rfl (hb0)) rfl (zd hns0 rfl (Qt_conv_i64 rfl rfl Tryz.underlying3 (by omega) (by omega)) rfl (zd hns0 rfl (zm (.slice _ _ _) rfl) rfl (zd hns0 rfl (Qt_indexR rfl rfl (by omega) (by simp; omega)) rfl ?_)))))
 refine zd hns0 rfl (Qt_loadR (.int .u8 ((l.getD 1 0).toNat : Int)) rfl (hb1)) rfl (zd hns0 rfl (Qt_conv_i64 rfl rfl Tryz.underlying3 (by omega) (by omega)) rfl (zd hns0 rfl (Qt_build [(0, (.int .i64 _)), (1, (.int .i64 _))] rfl (by kernel_rfl)) rfl ?_))
 refine DL_e rfl rfl (Ef_allocN (fun b3 => ⟨SB, ?_⟩))
 refine DL_n rfl (zs rfl rfl (⟨SB, ?_⟩))
 refine DL_nil (zx (T2 ?_))
 refine Qms rfl rfl (zq (Qt_indexR rfl rfl (by omega) (by simp; omega)) rfl (zq (Qt_loadR (.int .u8 ((l.getD 2 0).toNat : Int)) rfl (hb2)) rfl (zq (Qt_conv_i64 rfl rfl Tryz.underlying3 (by omega) (by omega)) rfl (zq (zf 2 rfl rfl) rfl (zq (zf 2 rfl rfl) rfl ?_)))))
 refine zN (Ef_store1 (.int .i64 _) rfl rfl (?_))
 refine T4 (Qms rfl rfl (zq (Qt_indexR rfl rfl (by omega) (by simp; omega)) rfl (zq (Qt_loadR (.int .u8 ((l.getD 3 0).toNat : Int)) rfl (hb3)) rfl (zq (Qt_conv_i64 rfl rfl Tryz.underlying3 (by omega) (by omega)) rfl (zq (zf 2 rfl rfl) rfl ?_)))))
 refine zq (zf 3 rfl rfl) rfl ?_
 refine zN (Ef_store1 (.int .i64 _) rfl rfl (?_))
 refine T4 (Qms rfl rfl ?_)
 refine ze rfl (zc (rReadPacked_c (k := 4) (by omega) hl) rfl (fun x32 => ?_))
 have hpb1 := (rdPacked_bound (l.drop 4)).2.1
 rw [List.length_drop] at hpb1
 refine ze rfl (Ef_allocN (fun b4 => ?_))
 refine zN (zs rfl rfl (?_))
 refine TX (zS (T2 ?_))
 refine zq (zf 3 rfl rfl) rfl (zq (zl rfl) rfl (zq (Qt_neq rfl rfl) rfl (TX (zC rfl (fun h35 => ?_) (fun h35 => ?_)))))
 ·
  have p35 := h35
  try simp only [dp] at p35
  refine T2 (zq (zf 3 rfl rfl) rfl (zq (zl rfl) rfl (zq (Qt_build [(1, (.int .i64 _))] rfl (by kernel_rfl)) rfl ?_)))
  refine zN (zs rfl rfl (?_))
  refine TX (zQ (zr ?_))
  obtain ⟨d, e⟩ : ∃ d, textG l = ((rdPacked (l.drop 4)).1, d) := ⟨_, by unfold textG; rw [if_neg (by omega), if_pos p35]⟩
  rw [e]
  exact zX ReqV.zero [_] Tryz.results181 ⟨⟨_, rfl, res_cellN rfl⟩, trivial⟩ rfl (fun w hw => (SB w hw : St w0 H w).addPure ⟨fun h => absurd h (p35), fun _ => rfl⟩)
 have p35 := h35
 try simp only [dp] at p35
 refine S4 (Qms rfl rfl (zq (zf 2 rfl rfl) rfl (zq (zl rfl) rfl (zq (Qt_add rfl rfl (by omega) (by omega)) rfl ?_))))
 rw [show (4 : Int) + (((rdPacked (l.drop 4)).2.2 : Nat) : Int) = (((4 + (rdPacked (l.drop 4)).2.2) : Nat) : Int) from by omega]
 refine ze rfl (zc (rReadPacked_c (k := (4 + (rdPacked (l.drop 4)).2.2)) (by omega) hl) rfl (fun x43 => ?_))
 have hpb2 := (rdPacked_bound (l.drop (4 + (rdPacked (l.drop 4)).2.2))).2.1
 rw [List.length_drop] at hpb2
 refine ze rfl (Ef_allocN (fun b5 => ?_))
 refine zN (zs rfl rfl (?_))
 refine TX (zS (T2 ?_))
 refine zq (zf 3 rfl rfl) rfl (zq (zl rfl) rfl (zq (Qt_neq rfl rfl) rfl (TX (zC rfl (fun h46 => ?_) (fun h46 => ?_)))))
 ·
  have p46 := h46
  try simp only [dp] at p46
  refine T2 (zq (zf 3 rfl rfl) rfl (zq (zl rfl) rfl (zq (Qt_build [(1, (.int .i64 _))] rfl (by kernel_rfl)) rfl ?_)))
  refine zN (zs rfl rfl (?_))
  refine TX (zQ (zr ?_))
  obtain ⟨d, e⟩ : ∃ d, textG l = ((rdPacked (l.drop (4 + (rdPacked (l.drop 4)).2.2))).1, d) := ⟨_, by unfold textG; rw [if_neg (by omega), if_neg (by simpa using p35), if_pos p46]⟩
  rw [e]
  exact zX ReqV.zero [_] Tryz.results181 ⟨⟨_, rfl, res_cellN rfl⟩, trivial⟩ rfl (fun w hw => (SB w hw : St w0 H w).addPure ⟨fun h => absurd h (p46), fun _ => rfl⟩)
 have p46 := h46
 try simp only [dp] at p46
 refine zk (zx (zS (T2 ?_)))
 refine zq (zf 2 rfl rfl) rfl (zq (zl rfl) rfl (zq (Qt_add rfl rfl (by omega) (by omega)) rfl ?_))
 rw [show (4 : Int) + (((rdPacked (l.drop 4)).2.2 : Nat) : Int) = (((4 + (rdPacked (l.drop 4)).2.2) : Nat) : Int) from by omega]
 refine zq (zf 2 rfl rfl) rfl (zq (zl rfl) rfl (zq (Qt_add rfl rfl (by omega) (by omega)) rfl (Qms rfl rfl (zq (zL rfl Tryz.underlying33) rfl (zq (Qt_lss rfl rfl) rfl ?_)))))
 refine TX (zC rfl (fun h58 => ?_) (fun h58 => ?_))
 ·
  have p58 := h58
  try simp only [dp] at p58
  refine T2 (zq (Qt_build [(1, (.int .i64 _))] rfl (by kernel_rfl)) rfl ?_)
  refine zN (zs rfl rfl (?_))
  refine TX (zQ (zr ?_))
  obtain ⟨d, e⟩ : ∃ d, textG l = (2, d) := ⟨_, by unfold textG; rw [if_neg (by omega), if_neg (by simpa using p35), if_neg (by simpa using p46), if_pos (by omega)]⟩
  rw [e]
  exact zX ReqV.zero [_] Tryz.results181 ⟨⟨_, rfl, res_cellN rfl⟩, trivial⟩ rfl (fun w hw => (SB w hw : St w0 H w).addPure ⟨fun h => absurd h (show ¬ ((2 : Int) = 0) by decide), fun _ => rfl⟩)
 have p58 := h58
 try simp only [dp] at p58
 refine S4 (zq (zf 0 rfl rfl) rfl (zq (zl rfl) rfl ?_))
 refine ze rfl (zc (rUnfold_c (x := (rdPacked (l.drop 4)).2.1) (rdPacked_bound _).2.2) rfl (fun x62 => ?_))
 refine zq (zf 2 rfl rfl) rfl (zq (zf 4 rfl rfl) rfl ?_)
 refine zN (Ef_store1 (.int .i64 _) rfl rfl (?_))
 refine T4 (zq (zf 0 rfl rfl) rfl (zq (zl rfl) rfl ?_))
 refine ze rfl (zc (rUnfold_c (x := (rdPacked (l.drop (4 + (rdPacked (l.drop 4)).2.2))).2.1) (rdPacked_bound _).2.2) rfl (fun x67 => ?_))
 refine zq (zf 2 rfl rfl) rfl (zq (zf 5 rfl rfl) rfl ?_)
 refine zN (Ef_store1 (.int .i64 _) rfl rfl (?_))
 refine T4 (zq (zn rfl rfl) rfl (zq (Qt_build [(0, (.agg _))] rfl (by kernel_rfl)) rfl ?_))
 refine zN (zs rfl rfl (?_))
 refine TX (zQ ?_)
 have e : textG l = (0, (ReqV.mk ((l.getD 0 0).toNat : Int) ((l.getD 1 0).toNat : Int) ⟨((l.getD 2 0).toNat : Int), ((l.getD 3 0).toNat : Int), unfoldN (rdPacked (l.drop 4)).2.1, unfoldN (rdPacked (l.drop (4 + (rdPacked (l.drop 4)).2.2))).2.1⟩ ⟨none, 0, []⟩).abs) := by
  unfold textG; rw [if_neg (by omega), if_neg (by simpa using p35), if_neg (by simpa using p46), if_neg (by omega)]; rfl
 rw [e]
 exact zX (ReqV.mk ((l.getD 0 0).toNat : Int) ((l.getD 1 0).toNat : Int) ⟨((l.getD 2 0).toNat : Int), ((l.getD 3 0).toNat : Int), unfoldN (rdPacked (l.drop 4)).2.1, unfoldN (rdPacked (l.drop (4 + (rdPacked (l.drop 4)).2.2))).2.1⟩ ⟨none, 0, []⟩) [_] Tryz.results181 ⟨⟨_, rfl, res_cellN rfl⟩, trivial⟩ rfl (fun w hw => (SB w hw : St w0 H w).addPure ⟨fun _ => ⟨rfl, rfl⟩, fun h => absurd rfl h⟩)
set_option maxHeartbeats 1000000 in
theorem rGetQ_c {w0 : World} {H : List SA} {a : Option Addr} {l : List UInt8} {c : Nat} [hr : RdB w0 H (.slice a l.length c) l] (hl : l.length ≤ 4294967296) :
 CT Tryz.prog w0 (H) 157 [.slice a l.length c] (α := ReqV) (fun y => .agg (QGotV.mk y (getG l).1).cells) (fun y => pu (y.abs = (getG l).2) :: row (.slice y.sig.a (y.sig.l).length y.sig.c) 5 1 (bytesV (y.sig.l)) :: H) := by
 refine CT_intro Tryz.func157 rfl Tryz.ntmps157 rfl ?_
 refine T2 ?_
 refine ze rfl (Ef_allocN (fun b2 => ?_))
 refine T4 (Qms rfl rfl ?_)
 refine ze rfl (zc (rReadText_c (k := 0) (m := 100) (by omega) hl (by decide) (by decide)) rfl (fun x7 => ?_))
 rw [List.drop_zero]
 obtain ⟨hb1, hb2⟩ := rdText_bound l 100
 refine ze rfl (Ef_allocN (fun b3 => ?_))
 refine zN (zs rfl rfl (?_))
 refine TX (zS (T2 ?_))
 refine zq (zf 3 rfl rfl) rfl (zq (zl rfl) rfl (zq (Qt_neq rfl rfl) rfl (TX (zC rfl (fun h10 => ?_) (fun h10 => ?_)))))
 ·
  have p10 := h10
  try simp only [dp] at p10
  refine T2 (zq (zf 3 rfl rfl) rfl (zq (zl rfl) rfl (zq (Qt_build [(1, (.int .i64 _))] rfl (by kernel_rfl)) rfl ?_)))
  refine zN (zs rfl rfl (?_))
  refine TX (zQ (zr ?_))
  have e : getG l = ((rdText l 100).1, .zero) := by
   unfold getG; rw [if_pos p10]
  rw [e]
  exact zX ReqV.zero [_] Tryz.results157 ⟨⟨_, rfl, res_cellN rfl⟩, trivial⟩ rfl (fun w hw => ((SB w hw : St w0 H w).addNilB 5).addPure rfl)
 have p10 := h10
 try simp only [dp] at p10
 refine S4 (zq (zf 1 rfl rfl) rfl (zq (zl rfl) rfl ?_))
 refine ze rfl (zc (rtextG_c (a := x7.a) (l := (rdText l 100).2.1) (c := x7.c) (by omega)) rfl (fun x16 => ?_))
 refine TL_pure (fun h16 => ?_)
 obtain ⟨h16, h16z⟩ := h16
 refine ze rfl (Ef_allocN (fun b4 => ?_))
 refine zN (zs rfl rfl (?_))
 refine TX (zS (T2 ?_))
 refine zq (zf 7 rfl rfl) rfl (zq (zl rfl) rfl (zq (Qt_neq rfl rfl) rfl (TX (zC rfl (fun h19 => ?_) (fun h19 => ?_)))))
 ·
  have p19 := h19
  try simp only [dp] at p19
  have hz := h16z p19
  subst hz
  refine T2 (zq (zn rfl rfl) rfl ?_)
  refine zN (zs rfl rfl (?_))
  refine TX (zQ (zr ?_))
  have e : getG l = ((textG (rdText l 100).2.1).1, .zero) := by
   unfold getG; rw [if_neg (by simpa using p10), if_pos p19]
  rw [e]
  exact zX ReqV.zero [_] Tryz.results157 ⟨⟨_, rfl, res_cellN rfl⟩, trivial⟩ rfl (fun w hw => ((SB w hw : St w0 H w).addNilB 5).addPure rfl)
 have p19 := h19
 try simp only [dp] at p19
 obtain ⟨h16, h16s⟩ := h16 (by simpa using p19)
 refine S4 (Qms rfl rfl (zq (zf 2 rfl rfl) rfl (zq (zl rfl) rfl ?_)))
 refine ze rfl (zc (rReadText_c (k := (rdText l 100).2.2) (m := 1000) (by omega) hl (by decide) (by decide)) rfl (fun x24 => ?_))
 obtain ⟨hb3, hb4⟩ := rdText_bound (l.drop (rdText l 100).2.2) 1000
 rw [List.length_drop] at hb3 hb4
 refine ze rfl (Ef_allocN (fun b5 => ?_))
 refine zN (zs rfl rfl (?_))
 refine TX (zS (T2 ?_))
 refine zq (zf 3 rfl rfl) rfl (zq (zl rfl) rfl (zq (Qt_neq rfl rfl) rfl (TX (zC rfl (fun h27 => ?_) (fun h27 => ?_)))))
 ·
  have p27 := h27
  try simp only [dp] at p27
  refine T2 (zq (zf 3 rfl rfl) rfl (zq (zl rfl) rfl (zq (Qt_build [(1, (.int .i64 _))] rfl (by kernel_rfl)) rfl ?_)))
  refine zN (zs rfl rfl (?_))
  refine TX (zQ (zr ?_))
  have e : getG l = ((rdText (l.drop (rdText l 100).2.2) 1000).1, .zero) := by
   unfold getG; rw [if_neg (by simpa using p10), if_neg (by simpa using p19), if_pos p27]
  rw [e]
  exact zX ReqV.zero [_] Tryz.results157 ⟨⟨_, rfl, res_cellN rfl⟩, trivial⟩ rfl (fun w hw => ((SB w hw : St w0 H w).addNilB 5).addPure rfl)
 have p27 := h27
 try simp only [dp] at p27
 refine zk (zx (zS (T2 ?_)))
 refine zq (zf 2 rfl rfl) rfl (zq (zl rfl) rfl (zq (zf 2 rfl rfl) rfl (zq (zl rfl) rfl (zq (Qt_add rfl rfl (by omega) (by omega)) rfl (Qms rfl rfl ?_)))))
 refine zq (zL rfl Tryz.underlying33) rfl (zq (Qt_lss rfl rfl) rfl (TX (zC rfl (fun h38 => ?_) (fun h38 => ?_))))
 ·
  have p38 := h38
  try simp only [dp] at p38
  refine T2 (zq (Qt_build [(1, (.int .i64 _))] rfl (by kernel_rfl)) rfl ?_)
  refine zN (zs rfl rfl (?_))
  refine TX (zQ (zr ?_))
  have e : getG l = (2, .zero) := by
   unfold getG; rw [if_neg (by simpa using p10), if_neg (by simpa using p19), if_neg (by simpa using p27), if_pos (by omega)]
  rw [e]
  exact zX ReqV.zero [_] Tryz.results157 ⟨⟨_, rfl, res_cellN rfl⟩, trivial⟩ rfl (fun w hw => ((SB w hw : St w0 H w).addNilB 5).addPure rfl)
 have p38 := h38
 try simp only [dp] at p38
 refine S4 (zq (zf 1 rfl rfl) rfl (zq (zl rfl) rfl (zq (zf 0 rfl rfl) rfl (zq (zf 6 rfl rfl) rfl ?_))))
 refine zN (Ef_store1 (.slice _ _ _) rfl rfl (?_))
 refine TX (zS (T2 ?_))
 refine zq (zf 0 rfl rfl) rfl (zq (zn rfl rfl) rfl ?_)
 refine ze rfl (zc (rFormed_c (r := (ReqV.mk x16.client x16.seq x16.op ⟨x24.a, x24.c, (rdText (l.drop (rdText l 100).2.2) 1000).2.1⟩))) rfl (fun x46 => ?_))
 refine zq (Qt_not rfl) rfl (TX (zC rfl (fun h47 => ?_) (fun h47 => ?_)))
 ·
  have p47 := h47
  try simp only [dp] at p47
  refine T2 (zq (Qt_build [(1, (.int .i64 _))] rfl (by kernel_rfl)) rfl ?_)
  refine zN (zs rfl rfl (?_))
  refine TX (zQ (zr ?_))
  have e : getG l = (15, .zero) := by
   unfold getG; rw [if_neg (by simpa using p10), if_neg (by simpa using p19), if_neg (by simpa using p27), if_neg (by omega), if_pos (by rw [← h16]; have h : (!(formedQ (ReqV.mk x16.client x16.seq x16.op ⟨x24.a, x24.c, (rdText (l.drop (rdText l 100).2.2) 1000).2.1⟩).abs)) = true := h47; exact (Bool.not_eq_true' _).mp h)]
  rw [e]
  exact zX ReqV.zero [_] Tryz.results157 ⟨⟨_, rfl, res_cellN rfl⟩, trivial⟩ rfl (fun w hw => ((SB w hw : St w0 H w).addNilB 5).addPure rfl)
 have p47 := h47
 try simp only [dp] at p47
 refine S4 (zq (zn rfl rfl) rfl ?_)
 refine zN (zs rfl rfl (?_))
 refine TX (zQ ?_)
 have e : getG l = (0, { (textG (rdText l 100).2.1).2 with sig := (rdText (l.drop (rdText l 100).2.2) 1000).2.1 }) := by
  unfold getG; rw [if_neg (by simpa using p10), if_neg (by simpa using p19), if_neg (by simpa using p27), if_neg (by omega), if_neg (by rw [← h16]; intro hh; have h : (!(formedQ (ReqV.mk x16.client x16.seq x16.op ⟨x24.a, x24.c, (rdText (l.drop (rdText l 100).2.2) 1000).2.1⟩).abs)) = false := h47; rw [show formedQ (ReqV.mk x16.client x16.seq x16.op ⟨x24.a, x24.c, (rdText (l.drop (rdText l 100).2.2) 1000).2.1⟩).abs = false from hh] at h; cases h)]
 rw [e]
 exact zX (ReqV.mk x16.client x16.seq x16.op ⟨x24.a, x24.c, (rdText (l.drop (rdText l 100).2.2) 1000).2.1⟩) [_] Tryz.results157 ⟨⟨_, rfl, res_cellN rfl⟩, trivial⟩ (by rw [show (textG (rdText l 100).2.1).1 = 0 by simpa using p19]; rfl) (fun w hw => (SB w hw : St w0 (row (.slice x24.a ((rdText (l.drop (rdText l 100).2.2) 1000).2.1).length x24.c) 5 1 (bytesV ((rdText (l.drop (rdText l 100).2.2) 1000).2.1)) :: H) w).addPure (by rw [← h16]; rfl))
end Go.Proofs.YtnijomppbgdmnaaGreat
